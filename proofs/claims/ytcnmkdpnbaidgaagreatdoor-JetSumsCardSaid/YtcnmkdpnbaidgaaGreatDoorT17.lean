/- Part of the proof that whatever the two series: JetSums answers true -/
import Derived.Test.YtcnmkdpnbaidgaaGreatDoorT16
set_option linter.all false
noncomputable section
section
namespace Go.Sx.Tz
open Go Go.Ev Go.Ev.Tz Go.Sx Go.Proofs
set_option maxHeartbeats 4000000
attribute [local irreducible] CallG LoopG
theorem mul6' {a b c d : Nat} (ha : a < B) (hb : b < B) (hc : c < B) (hd : d < B) :
    IntKind.u64.wrap (IntKind.u64.wrap (IntKind.u64.wrap (d : Int) + IntKind.u64.wrap (IntKind.u64.wrap (a : Int) * (b : Int))) + (c : Int)) = ((c + (a * b + d) : Nat) : Int) := by
  have h : c + (a * b + d) < 18446744073709551616 := mul_bound ha hb hc hd
  rw [wdig ha, wdig hd, ← Int.natCast_mul]
  generalize a * b = m at h
  rw [wu6, wu6, wu6]
  omega
theorem Mul124 (x y : List Nat) (hx : Dg x) (hy : Dg y) (lx : x.length < 20000) (ly : y.length < 20000) : P 124 [] [.p (encN x), .p (encN y)] (fun _ r => r = nv (vl x * vl y)) := by
  have hB : B = 4294967296 := rfl
  have hyl := vl_lt hy
  refine PC.of_pure good ok124 rfl ?_
  conv => whnf
  refine ⟨by omega, by simp; omega, ?_⟩
  conv => whnf
  refine ⟨x.length + y.length, x.length + y.length, (by simp), (by simp), Nat.le_refl _, by show _ * 4 ≤ _; omega, ?_⟩
  conv => whnf
  rw [rep_dig]
  refine ⟨0, LoopG.intro (fun (⟨i, o⟩ : Nat × List Nat) => ⟨[(0, .p (encN x)), (1, .p (encN y)), (5, .os 0), (6, iv i)], [.arr 112 (o.map digR)]⟩) (fun (⟨i, o⟩ : Nat × List Nat) => i ≤ x.length ∧ o.length = x.length + y.length ∧ Dg o ∧ vl o = vl (x.take i) * vl y) (fun ⟨i, _⟩ => x.length - i) ((0, List.replicate (x.length + y.length) 0)) (by exact ⟨by omega, by simp, fun d hd => by rw [List.eq_of_mem_replicate hd]; exact B_pos, by rw [vl_zeros]; simp [vl]⟩) ?_ ?_⟩
  · refine ⟨[some 0], by decide, rfl, ?_, ?_⟩
    · repeat' (first | exact trivial | exact ⟨_, rfl, rfl⟩ | exact ⟨_, rfl, Or.inl rfl⟩ | exact ⟨_, rfl, Or.inr ⟨rfl, rfl⟩⟩ | exact ⟨_, rfl, _, rfl⟩ | exact ⟨_, rfl⟩ | refine And.intro ?_ ?_ | (refine ⟨_, rfl, congrArg (fun z => some (SV.p (PV.int _ z))) ?_⟩; simp) | (refine ⟨_, rfl, congrArg (fun z => some (Blk.arr _ z)) ?_⟩; rfl) | (refine ⟨_, rfl, congrArg (fun z => some (SV.p (PV.sl _ z))) ?_⟩; rfl) | (refine ⟨_, rfl, Or.inl (congrArg (fun z => some (SV.p (PV.sl _ z))) ?_)⟩; rfl) | (refine ⟨_, rfl, Or.inr ⟨rfl, ?_⟩⟩; rfl))
    · repeat' (first | exact trivial | exact ⟨_, rfl, rfl⟩ | exact ⟨_, rfl, Or.inl rfl⟩ | exact ⟨_, rfl, Or.inr ⟨rfl, rfl⟩⟩ | exact ⟨_, rfl, _, rfl⟩ | exact ⟨_, rfl⟩ | refine And.intro ?_ ?_ | (refine ⟨_, rfl, congrArg (fun z => some (SV.p (PV.int _ z))) ?_⟩; simp) | (refine ⟨_, rfl, congrArg (fun z => some (Blk.arr _ z)) ?_⟩; rfl) | (refine ⟨_, rfl, congrArg (fun z => some (SV.p (PV.sl _ z))) ?_⟩; rfl) | (refine ⟨_, rfl, Or.inl (congrArg (fun z => some (SV.p (PV.sl _ z))) ?_)⟩; rfl) | (refine ⟨_, rfl, Or.inr ⟨rfl, ?_⟩⟩; rfl))
  rintro ⟨i, o⟩ ⟨hi, ho, hd, hv⟩
  conv => whnf
  refine ⟨fun h => ?_, fun h => ?_⟩
  · have hil : i < x.length := by simpa using h
    have hxi := hx.get hil
    obtain ⟨a, hxa⟩ : ∃ a, x[i] = a := ⟨_, rfl⟩
    rw [hxa] at hxi
    have h0 : ∀ p, i + y.length ≤ p → p < o.length → o[p]? = some 0 := fun p hp hpl => by
      have h1 : vl o < B ^ p := by
        rw [hv]
        have h2 := vl_lt (hx.take i)
        rw [List.length_take, Nat.min_eq_left (by omega)] at h2
        refine Nat.lt_of_lt_of_le (Nat.mul_lt_mul'' h2 hyl) ?_
        rw [← Nat.pow_add]
        exact Nat.pow_le_pow_right B_pos hp
      rw [List.getElem?_eq_getElem hpl, vl_zero_at h1 hpl]
    conv => whnf
    refine ⟨0, LoopG.intro (fun (⟨k, q, c⟩ : Nat × List Nat × Nat) => ⟨[(0, .p (encN x)), (1, .p (encN y)), (5, .os 0), (6, iv i), (7, u6 c), (8, iv k)], [.arr 112 (q.map digR)]⟩) (fun (⟨k, q, c⟩ : Nat × List Nat × Nat) => k ≤ y.length + 1 ∧ (k = y.length + 1 → c = 0) ∧ q.length = x.length + y.length ∧ Dg q ∧ c < B ∧ (∀ p : Nat, i + k ≤ p → q[p]? = o[p]?) ∧ vl q + B ^ (i + k) * c = vl o + B ^ i * (a * vl (y.take k))) (fun ⟨k, _, _⟩ => y.length + 1 - k) ((0, o, 0)) (by exact ⟨by omega, fun _ => rfl, ho, hd, B_pos, fun _ _ => rfl, by simp [vl]⟩) ?_ ?_⟩
    · refine ⟨[some 0], by decide, rfl, ?_, ?_⟩
      · repeat' (first | exact trivial | exact ⟨_, rfl, rfl⟩ | exact ⟨_, rfl, Or.inl rfl⟩ | exact ⟨_, rfl, Or.inr ⟨rfl, rfl⟩⟩ | exact ⟨_, rfl, _, rfl⟩ | exact ⟨_, rfl⟩ | refine And.intro ?_ ?_)
      · repeat' (first | exact trivial | exact ⟨_, rfl, rfl⟩ | exact ⟨_, rfl, Or.inl rfl⟩ | exact ⟨_, rfl, Or.inr ⟨rfl, rfl⟩⟩ | exact ⟨_, rfl, _, rfl⟩ | exact ⟨_, rfl⟩ | refine And.intro ?_ ?_)
    rintro ⟨k, q, c⟩ ⟨hk, hk1, hq, hdq, hc, hsame, hval⟩
    have step : k < y.length + 1 → ∃ hqp : i + k < q.length, q[i + k] < B := fun hk => ⟨by omega, hdq.get _⟩
    have fin : k = y.length ∨ k = y.length + 1 → c = 0 → vl q = vl (x.take (i + 1)) * vl y := fun h1 h2 => by
      have e0 : y.take k = y := List.take_of_length_le (by omega)
      rw [h2, Nat.mul_zero, Nat.add_zero, hv, e0] at hval
      rw [hval, vl_take_succ hil, hxa, Nat.add_mul, Nat.mul_assoc]
    conv => whnf
    refine ⟨fun h2 => ?_, fun h2 => ?_⟩
    rotate_left
    have hky : y.length ≤ k := by simpa using h2
    conv => whnf
    refine ⟨fun h3 => ?_, fun h3 => ?_⟩
    rotate_left
    · conv => whnf
      refine ⟨by omega, by omega, ?_⟩
      conv => whnf
      refine ⟨(i + 1, q), ⟨by omega, hq, hdq, fin (by omega) (by omega)⟩, by show _ - _ < _ - _; omega, ?_⟩
      refine ⟨[some 0], by decide, rfl, ?_, ?_⟩
      · repeat' (first | exact trivial | exact ⟨_, rfl, rfl⟩ | exact ⟨_, rfl, Or.inl rfl⟩ | exact ⟨_, rfl, Or.inr ⟨rfl, rfl⟩⟩ | exact ⟨_, rfl, _, rfl⟩ | exact ⟨_, rfl⟩ | refine And.intro ?_ ?_)
      · repeat' (first | exact trivial | exact ⟨_, rfl, rfl⟩ | exact ⟨_, rfl, Or.inl rfl⟩ | exact ⟨_, rfl, Or.inr ⟨rfl, rfl⟩⟩ | exact ⟨_, rfl, _, rfl⟩ | exact ⟨_, rfl⟩ | refine And.intro ?_ ?_)
    all_goals
      have hkl : k < y.length + 1 := by
        first
        | (have h2' : k < y.length := by simpa using h2
           omega)
        | (by_cases e : k = y.length + 1
           · have := hk1 e; omega
           · omega)
      obtain ⟨hqp, hdp⟩ := step hkl
      have hyk := dAt_B hy k
      conv => whnf
      refine ⟨by omega, by omega, ?_⟩
      conv => whnf
      refine ⟨i + k, (by omega), (by simp; omega), ?_⟩
      conv => whnf
      refine ⟨rfl, _, get_map hqp, ?_⟩
      conv => whnf
      refine ⟨i, digR a, rfl, (by rw [get_map hil, hxa]), ?_⟩
      conv => whnf
      refine CallG.pure (digit189 y hy k) rfl ?_
      conv => whnf
      refine ⟨rfl, ?_⟩
      rintro _ _ rfl
      refine ⟨rfl, ?_⟩
      conv => whnf
      refine ⟨by omega, by omega, ?_⟩
      conv => whnf
      refine ⟨i + k, (by omega), (by simp; omega), ?_⟩
      conv => whnf
      refine ⟨rfl, _, get_map hqp, rfl, Nat.le_refl _, ?_⟩
      conv => whnf
      refine ⟨32, rfl, ?_⟩
      conv => whnf
      refine ⟨by omega, by omega, ?_⟩
      conv => whnf
      have hs := mul_bound hxi hyk hc hdp
      have hset := vl_set (o := q) (j := i + k) (d := (c + (a * dAt y k + q[i + k])) % B) hqp
      refine ⟨(k + 1, q.set (i + k) ((c + (a * dAt y k + q[i + k])) % B), (c + (a * dAt y k + q[i + k])) / B), ⟨by omega, fun e => ?_, by simpa using hq, hdq.set (Nat.mod_lt _ B_pos) _, by rw [Nat.div_lt_iff_lt_mul B_pos]; exact hs, fun p hp => ?_, ?_⟩, by show _ - _ < _ - _; omega, ?_⟩
      · have h4 := hsame (i + k) (Nat.le_refl _)
        rw [h0 (i + k) (by omega) (by omega), List.getElem?_eq_getElem hqp] at h4
        rw [Option.some.inj h4, dAt_ge (by omega), Nat.mul_zero]
        exact Nat.div_eq_of_lt (by omega)
      · rw [List.getElem?_set, if_neg (by omega)]; exact hsame p (by omega)
      · have := mul_step rfl hset hval
        rw [show i + (k + 1) = i + k + 1 by omega, Nat.pow_succ, this, vl_take_dAt, Nat.pow_add, Nat.mul_add, Nat.mul_add]
        have e1 : B ^ i * B ^ k * (a * dAt y k) = B ^ i * (a * (B ^ k * dAt y k)) := by
          rw [Nat.mul_assoc, Nat.mul_left_comm (B ^ k)]
        omega
      · refine ⟨[some 0], by decide, rfl, ?_, ?_⟩
        · repeat' (first | exact trivial | exact ⟨_, rfl, rfl⟩ | exact ⟨_, rfl, Or.inl rfl⟩ | exact ⟨_, rfl, Or.inr ⟨rfl, rfl⟩⟩ | exact ⟨_, rfl, _, rfl⟩ | exact ⟨_, rfl⟩ | refine And.intro ?_ ?_ | (refine ⟨_, rfl, congrArg (fun z => some (SV.p (PV.int _ z))) ?_⟩; (first | (rw [mul6' hxi hyk hc hdp, hi6]) | omega)) | (refine ⟨_, rfl, congrArg (fun z => some (Blk.arr _ z)) ?_⟩; exact set_dig (by rw [mul6' hxi hyk hc hdp, lo3])) | (refine ⟨_, rfl, congrArg (fun z => some (SV.p (PV.sl _ z))) ?_⟩; exact set_dig (by rw [mul6' hxi hyk hc hdp, lo3])) | (refine ⟨_, rfl, Or.inl (congrArg (fun z => some (SV.p (PV.sl _ z))) ?_)⟩; exact set_dig (by rw [mul6' hxi hyk hc hdp, lo3])) | (refine ⟨_, rfl, Or.inr ⟨rfl, ?_⟩⟩; exact set_dig (by rw [mul6' hxi hyk hc hdp, lo3])))
        · repeat' (first | exact trivial | exact ⟨_, rfl, rfl⟩ | exact ⟨_, rfl, Or.inl rfl⟩ | exact ⟨_, rfl, Or.inr ⟨rfl, rfl⟩⟩ | exact ⟨_, rfl, _, rfl⟩ | exact ⟨_, rfl⟩ | refine And.intro ?_ ?_ | (refine ⟨_, rfl, congrArg (fun z => some (SV.p (PV.int _ z))) ?_⟩; (first | (rw [mul6' hxi hyk hc hdp, hi6]) | omega)) | (refine ⟨_, rfl, congrArg (fun z => some (Blk.arr _ z)) ?_⟩; exact set_dig (by rw [mul6' hxi hyk hc hdp, lo3])) | (refine ⟨_, rfl, congrArg (fun z => some (SV.p (PV.sl _ z))) ?_⟩; exact set_dig (by rw [mul6' hxi hyk hc hdp, lo3])) | (refine ⟨_, rfl, Or.inl (congrArg (fun z => some (SV.p (PV.sl _ z))) ?_)⟩; exact set_dig (by rw [mul6' hxi hyk hc hdp, lo3])) | (refine ⟨_, rfl, Or.inr ⟨rfl, ?_⟩⟩; exact set_dig (by rw [mul6' hxi hyk hc hdp, lo3])))
  · conv => whnf
    obtain rfl : i = x.length := by simp at h; omega
    refine CallG.pure (short143 o hd (by omega)) rfl ?_
    conv => whnf
    refine ⟨rfl, ?_⟩
    rintro _ _ rfl
    refine ⟨rfl, ?_⟩
    conv => whnf
    exact ⟨rfl, by rw [hv, List.take_of_length_le (Nat.le_refl _)]; rfl⟩
end Go.Sx.Tz
end
section
namespace Go.Sx.Tz
open Go Go.Ev Go.Ev.Tz Go.Sx Go.Proofs
set_option maxHeartbeats 4000000
attribute [local irreducible] CallG LoopG
theorem Add188 (a b : Nat) (la : (dg a).length < 20000) (lb : (dg b).length < 20000) : P 188 [] [nv a, nv b] (fun _ r => r = nv (a + b)) := by
  have hB : B = 4294967296 := rfl
  obtain ⟨n, hn⟩ : ∃ n, n = max (dg a).length (dg b).length + 1 := ⟨_, rfl⟩
  refine PC.of_pure good ok188 rfl ?_
  conv => whnf
  rw [mx_eq, List.length_map, List.length_map]
  refine ⟨by omega, by omega, ?_⟩
  conv => whnf
  refine ⟨n, n, (by omega), (by omega), Nat.le_refl _, by show _ * 4 ≤ _; omega, ?_⟩
  conv => whnf
  rw [rep_dig]
  refine ⟨0, LoopG.intro (fun (⟨i, o, c⟩ : Nat × List Nat × Nat) => ⟨[(0, nv a), (1, nv b), (5, .os 0), (6, u6 c), (7, iv i)], [.arr 112 ((o ++ List.replicate (n - i) 0).map digR)]⟩) (fun ⟨i, o, c⟩ => i ≤ n ∧ o.length = i ∧ Dg o ∧ c < 2 ∧ vl o + B ^ i * c = vl ((dg a).take i) + vl ((dg b).take i)) (fun ⟨i, _, _⟩ => n - i) ((0, [], 0)) (⟨by omega, rfl, .nil, by omega, rfl⟩) ?_ ?_⟩
  · refine ⟨[some 0], by decide, rfl, ?_, ?_⟩
    · repeat' (first | exact trivial | exact ⟨_, rfl, rfl⟩ | exact ⟨_, rfl, Or.inl rfl⟩ | exact ⟨_, rfl, Or.inr ⟨rfl, rfl⟩⟩ | exact ⟨_, rfl, _, rfl⟩ | exact ⟨_, rfl⟩ | refine And.intro ?_ ?_)
    · repeat' (first | exact trivial | exact ⟨_, rfl, rfl⟩ | exact ⟨_, rfl, Or.inl rfl⟩ | exact ⟨_, rfl, Or.inr ⟨rfl, rfl⟩⟩ | exact ⟨_, rfl, _, rfl⟩ | exact ⟨_, rfl⟩ | refine And.intro ?_ ?_)
  rintro ⟨i, o, c⟩ ⟨hi, ho, hd, hc, hv⟩
  conv => whnf
  refine ⟨fun h => ?_, fun h => ?_⟩
  · have hil : i < n := by simp at h; omega
    have bx := dAt_B (dg_Dg a) i
    have by_ := dAt_B (dg_Dg b) i
    conv => whnf
    refine CallG.pure (digit189 (dg a) (dg_Dg a) i) rfl ?_
    conv => whnf
    refine ⟨rfl, ?_⟩
    rintro _ _ rfl
    refine ⟨rfl, ?_⟩
    conv => whnf
    refine CallG.pure (digit189 (dg b) (dg_Dg b) i) rfl ?_
    conv => whnf
    refine ⟨rfl, ?_⟩
    rintro _ _ rfl
    refine ⟨rfl, ?_⟩
    conv => whnf
    refine ⟨i, (by omega), (by simp; omega), ?_⟩
    conv => whnf
    refine ⟨rfl, _, get_map (by simp; omega), rfl, Nat.le_refl _, ?_⟩
    conv => whnf
    refine ⟨32, rfl, ?_⟩
    conv => whnf
    refine ⟨by omega, by omega, ?_⟩
    conv => whnf
    have e6 : IntKind.u64.wrap (IntKind.u64.wrap ((dAt (dg a) i : Int) + (dAt (dg b) i : Int)) + (c : Int)) = ((c + (dAt (dg a) i + dAt (dg b) i) : Nat) : Int) := by
      rw [wu6, wu6]; omega
    refine ⟨(i + 1, o ++ [(c + (dAt (dg a) i + dAt (dg b) i)) % B], (c + (dAt (dg a) i + dAt (dg b) i)) / B), ⟨by omega, by simp [ho], hd.app (.cons (Nat.mod_lt _ B_pos) .nil), by rw [Nat.div_lt_iff_lt_mul B_pos]; omega, ?_⟩, by show _ - _ < _ - _; omega, ?_⟩
    · rw [vl_snoc, ho, vl_take_dAt, vl_take_dAt, Nat.pow_succ]
      exact add_step hv _ _
    · have e : ∀ z : Int, z = (((c + (dAt (dg a) i + dAt (dg b) i)) % B : Nat) : Int) → (((o ++ List.replicate (n - i) 0).map digR).set i [PV.int .u32 z]) = ((o ++ [(c + (dAt (dg a) i + dAt (dg b) i)) % B]) ++ List.replicate (n - (i + 1)) 0).map digR := fun z hz => by rw [set_dig hz, set_rep3 ho (show n - i = (n - (i + 1)) + 1 by omega)]
      refine ⟨[some 0], by decide, rfl, ?_, ?_⟩
      · repeat' (first | exact trivial | exact ⟨_, rfl, rfl⟩ | exact ⟨_, rfl, Or.inl rfl⟩ | exact ⟨_, rfl, Or.inr ⟨rfl, rfl⟩⟩ | exact ⟨_, rfl, _, rfl⟩ | exact ⟨_, rfl⟩ | refine And.intro ?_ ?_ | (refine ⟨_, rfl, congrArg (fun z => some (SV.p (PV.int _ z))) ?_⟩; rw [e6, hi6]) | (refine ⟨_, rfl, congrArg (fun z => some (Blk.arr _ z)) ?_⟩; exact e _ (by rw [e6, lo3])) | (refine ⟨_, rfl, congrArg (fun z => some (SV.p (PV.sl _ z))) ?_⟩; exact e _ (by rw [e6, lo3])) | (refine ⟨_, rfl, Or.inl (congrArg (fun z => some (SV.p (PV.sl _ z))) ?_)⟩; exact e _ (by rw [e6, lo3])) | (refine ⟨_, rfl, Or.inr ⟨rfl, ?_⟩⟩; exact e _ (by rw [e6, lo3])))
      · repeat' (first | exact trivial | exact ⟨_, rfl, rfl⟩ | exact ⟨_, rfl, Or.inl rfl⟩ | exact ⟨_, rfl, Or.inr ⟨rfl, rfl⟩⟩ | exact ⟨_, rfl, _, rfl⟩ | exact ⟨_, rfl⟩ | refine And.intro ?_ ?_ | (refine ⟨_, rfl, congrArg (fun z => some (SV.p (PV.int _ z))) ?_⟩; rw [e6, hi6]) | (refine ⟨_, rfl, congrArg (fun z => some (Blk.arr _ z)) ?_⟩; exact e _ (by rw [e6, lo3])) | (refine ⟨_, rfl, congrArg (fun z => some (SV.p (PV.sl _ z))) ?_⟩; exact e _ (by rw [e6, lo3])) | (refine ⟨_, rfl, Or.inl (congrArg (fun z => some (SV.p (PV.sl _ z))) ?_)⟩; exact e _ (by rw [e6, lo3])) | (refine ⟨_, rfl, Or.inr ⟨rfl, ?_⟩⟩; exact e _ (by rw [e6, lo3])))
  · conv => whnf
    obtain rfl : i = n := by simp at h; omega
    have h1 : vl o + B ^ i * c = a + b := by rw [hv, List.take_of_length_le (by omega), List.take_of_length_le (by omega), vl_dg, vl_dg]
    have h0 : c = 0 := by
      have ha : a < B ^ (i - 1) := dg_len.1 (by omega)
      have hb : b < B ^ (i - 1) := dg_len.1 (by omega)
      have hp : B ^ (i - 1) * 2 ≤ B ^ i := by
        have e : B ^ i = B ^ (i - 1) * B := by rw [← Nat.pow_succ, Nat.succ_eq_add_one, Nat.sub_add_cancel (by omega)]
        rw [e]; exact Nat.mul_le_mul_left _ (by decide)
      cases Nat.eq_zero_or_pos c with
      | inl h => exact h
      | inr h =>
        have : B ^ i * 1 ≤ B ^ i * c := Nat.mul_le_mul_left _ h
        omega
    rw [h0] at h1
    rw [Nat.sub_self, List.replicate_zero, List.append_nil]
    refine CallG.pure (short143 o hd (by omega)) rfl ?_
    conv => whnf
    refine ⟨rfl, ?_⟩
    rintro _ _ rfl
    refine ⟨rfl, ?_⟩
    conv => whnf
    exact ⟨rfl, by rw [show vl o = a + b by omega]; rfl⟩
theorem vl_digit {l : List Nat} (hd : Dg l) {j : Nat} (h : j < l.length) : vl l / B ^ j = vl (l.drop j) ∧ vl l / B ^ j % B = l[j] := by
  have h1 := vl_take_drop l j (by omega)
  have h2 := vl_drop h
  have h3 := vl_lt (hd.take j)
  rw [List.length_take, Nat.min_eq_left (by omega)] at h3
  have h4 : vl l / B ^ j = vl (l.drop j) := by
    rw [h1, Nat.add_mul_div_left _ _ (Nat.pow_pos B_pos), Nat.div_eq_of_lt h3, Nat.zero_add]
  exact ⟨h4, by rw [h4, h2, Nat.add_mul_mod_self_left, Nat.mod_eq_of_lt (hd.get h)]⟩
theorem dAt_dg (n j : Nat) (h : j < (dg n).length) : (dg n)[j] = n / B ^ j % B := by
  have := (vl_digit (dg_Dg n) h).2
  rw [vl_dg] at this
  exact this.symm
theorem td32 (i : Nat) : Int.tdiv (i : Int) 32 = ((i / 32 : Nat) : Int) := rfl
theorem tm32 (i : Nat) : Int.tmod (i : Int) 32 = ((i % 32 : Nat) : Int) := rfl
theorem bitOf (n i : Nat) : n / B ^ (i / 32) % B / 2 ^ (i % 32) % 2 = n / 2 ^ i % 2 := by
  have hr : i % 32 < 32 := Nat.mod_lt _ (by decide)
  have e : B = 2 ^ (i % 32) * 2 ^ (32 - i % 32) := by rw [← Nat.pow_add, show i % 32 + (32 - i % 32) = 32 by omega]; rfl
  have e2 : 2 ∣ 2 ^ (32 - i % 32) := ⟨2 ^ (32 - i % 32 - 1), by rw [← Nat.pow_succ']; congr 1; omega⟩
  have e3 : B ^ (i / 32) * 2 ^ (i % 32) = 2 ^ i := by rw [B_pow, ← Nat.pow_add, Nat.div_add_mod]
  rw [show n / B ^ (i / 32) % B = n / B ^ (i / 32) % (2 ^ (i % 32) * 2 ^ (32 - i % 32)) by rw [← e], Nat.mod_mul_right_div_self, Nat.mod_mod_of_dvd _ e2, Nat.div_div_eq_div_mul, e3]
theorem bit_len {n i : Nat} (h : i < bl n) : i / 32 < (dg n).length := by
  have h0 : n ≠ 0 := fun e => by subst e; simp [bl] at h
  obtain ⟨h1, h2, h3⟩ := bl_dg h0
  have h4 : bl (dAt (dg n) ((dg n).length - 1)) ≤ 32 := bl_le.2 h2
  omega
theorem bl_len (n : Nat) : bl n ≤ 32 * (dg n).length := by
  rw [bl_le, ← B_pow]; exact dg_len.1 (Nat.le_refl _)
theorem bit252 (n i : Nat) (ln : (dg n).length < 50000) (h : i < bl n) : P 252 [] [nv n, iv i] (fun _ r => r = u3 (n / 2 ^ i % 2)) := by
  have hl := bit_len h
  have hd := (dg_Dg n).get hl
  have hbn := bl_len n
  refine PC.of_pure good ok252 rfl ?_
  conv => whnf
  rw [td32]
  refine ⟨by decide, by omega, by omega, ?_⟩
  conv => whnf
  refine ⟨i / 32, _, rfl, get_map hl, ?_⟩
  conv => whnf
  refine ⟨by decide, ?_⟩
  conv => whnf
  refine ⟨i % 32, rfl, ?_⟩
  conv => whnf
  refine ⟨by decide, ?_⟩
  conv => whnf
  exact ⟨rfl, by
    rw [sh3 _ _ (by omega), tm2, dAt_dg n _ hl, bitOf]; rfl⟩
theorem or1 {o : List Nat} {i t : Nat} (hd : Dg o) (hv : vl o = 2 ^ (i + 1) * t) (hl : i / 32 < o.length) : ∃ c, o[i / 32] = 2 ^ (i % 32 + 1) * c ∧ 2 ^ (i % 32 + 1) * c + 2 ^ (i % 32) < 2 ^ 32 := by
  obtain ⟨h1, h2⟩ := vl_digit hd hl
  have hr : i % 32 < 32 := Nat.mod_lt _ (by decide)
  have e3 : B ^ (i / 32) * 2 ^ (i % 32 + 1) = 2 ^ (i + 1) := by rw [B_pow, ← Nat.pow_add, ← Nat.add_assoc, Nat.div_add_mod]
  have e4 : B = 2 ^ (i % 32 + 1) * 2 ^ (31 - i % 32) := by rw [← Nat.pow_add, show i % 32 + 1 + (31 - i % 32) = 32 by omega]; rfl
  rw [hv, ← e3, Nat.mul_assoc, Nat.mul_div_cancel_left _ (Nat.pow_pos B_pos)] at h2
  refine ⟨t % 2 ^ (31 - i % 32), ?_, ?_⟩
  · rw [← h2]; conv => lhs; rw [e4]
    rw [Nat.mul_mod_mul_left]
  · have h5 : t % 2 ^ (31 - i % 32) + 1 ≤ 2 ^ (31 - i % 32) := Nat.mod_lt _ (Nat.pow_pos (by decide))
    have h6 := Nat.mul_le_mul_left (2 ^ (i % 32 + 1)) h5
    rw [← e4, Nat.mul_add, Nat.mul_one] at h6
    have h7 : 2 ^ (i % 32 + 1) = 2 ^ (i % 32) * 2 := Nat.pow_succ ..
    have h8 : 0 < 2 ^ (i % 32) := Nat.pow_pos (by decide)
    have hB : B = 2 ^ 32 := rfl
    omega
theorem div_step {A b r q : Nat} (hb : 0 < b) (hr : r = A % b) (hq : q = A / b) (z : Nat) (hz : z < 2) :
    (b ≤ 2 * r + z → (2 * A + z) % b = 2 * r + z - b ∧ (2 * A + z) / b = 2 * q + 1) ∧ (2 * r + z < b → (2 * A + z) % b = 2 * r + z ∧ (2 * A + z) / b = 2 * q) := by
  have h1 := Nat.div_add_mod A b
  have h2 := Nat.mod_lt A hb
  rw [← hr, ← hq] at h1
  rw [← hr] at h2
  have h3 : 2 * A + z = b * (2 * q) + (2 * r + z) := by rw [← h1, Nat.mul_add, Nat.mul_left_comm]; omega
  refine ⟨fun h => ?_, fun h => ?_⟩
  · have h4 : 2 * A + z = b * (2 * q + 1) + (2 * r + z - b) := by rw [Nat.mul_add, Nat.mul_one]; omega
    have h5 : 2 * r + z - b < b := by omega
    rw [h4, Nat.mul_add_mod, Nat.mod_eq_of_lt h5, Nat.mul_add_div hb, Nat.div_eq_of_lt h5]
    exact ⟨rfl, rfl⟩
  · rw [h3, Nat.mul_add_mod, Nat.mod_eq_of_lt h, Nat.mul_add_div hb, Nat.div_eq_of_lt h]
    exact ⟨rfl, rfl⟩
theorem shl1 (r : Nat) (h : r < 32) : IntKind.u32.wrap ((1 : Int) * 2 ^ min r IntKind.u32.bits) = ((2 ^ r : Nat) : Int) := by
  have := sl3 1 r (by omega) (by rw [Nat.one_mul]; exact Nat.pow_lt_pow_right (by decide) h)
  rw [Nat.mul_one] at this
  exact this
theorem Div191 (a b : Nat) (la : (dg a).length < 20000) (lb : (dg b).length < 20000) (hb : 0 < b) : P 191 [] [nv a, nv b] (fun _ r => r = .tu [nv (a / b), nv (a % b)]) := by
  have hB : B = 4294967296 := rfl
  have hbl : bl a ≤ 32 * (dg a).length := by
    rw [bl_le, ← B_pow]; exact dg_len.1 (Nat.le_refl _)
  refine PC.of_pure good ok191 rfl ?_
  conv => whnf
  refine ⟨(dg a).length, (dg a).length, (by simp), (by simp), Nat.le_refl _, by show _ * 4 ≤ _; omega, ?_⟩
  conv => whnf
  rw [rep_dig]
  refine CallG.pure (Bits82 a (by omega)) rfl ?_
  conv => whnf
  refine ⟨rfl, ?_⟩
  rintro _ _ rfl
  refine ⟨rfl, ?_⟩
  conv => whnf
  refine ⟨by omega, by omega, ?_⟩
  conv => whnf
  refine ⟨0, LoopG.intro (fun (⟨j, o⟩ : Nat × List Nat) => ⟨[(0, nv a), (1, nv b), (6, .os 0), (7, nv (a / 2 ^ j % b)), (8, iv ((j : Int) - 1))], [.arr 112 (o.map digR)]⟩) (fun (⟨j, o⟩ : Nat × List Nat) => j ≤ bl a ∧ o.length = (dg a).length ∧ Dg o ∧ vl o = 2 ^ j * (a / 2 ^ j / b)) (fun ⟨j, _⟩ => j) ((bl a, List.replicate (dg a).length 0)) (by exact ⟨Nat.le_refl _, by simp, fun d hd => by rw [List.eq_of_mem_replicate hd]; exact B_pos, by rw [vl_zeros, Nat.div_eq_of_lt (bl_le.1 (Nat.le_refl _))]; simp⟩) ?_ ?_⟩
  · refine ⟨[some 0], by decide, rfl, ?_, ?_⟩
    · repeat' (first | exact trivial | exact ⟨_, rfl, rfl⟩ | exact ⟨_, rfl, Or.inl rfl⟩ | exact ⟨_, rfl, Or.inr ⟨rfl, rfl⟩⟩ | exact ⟨_, rfl, _, rfl⟩ | exact ⟨_, rfl⟩ | refine And.intro ?_ ?_ | (refine ⟨_, rfl, congrArg (fun z => some (SV.p (PV.int _ z))) ?_⟩; simp) | (refine ⟨_, rfl, congrArg (fun z => some (Blk.arr _ z)) ?_⟩; (show (dg _).map digR = []; rw [Nat.div_eq_of_lt (bl_le.1 (Nat.le_refl _)), Nat.zero_mod, dg_zero]; rfl)) | (refine ⟨_, rfl, congrArg (fun z => some (SV.p (PV.sl _ z))) ?_⟩; (show (dg _).map digR = []; rw [Nat.div_eq_of_lt (bl_le.1 (Nat.le_refl _)), Nat.zero_mod, dg_zero]; rfl)) | (refine ⟨_, rfl, Or.inl (congrArg (fun z => some (SV.p (PV.sl _ z))) ?_)⟩; (show (dg _).map digR = []; rw [Nat.div_eq_of_lt (bl_le.1 (Nat.le_refl _)), Nat.zero_mod, dg_zero]; rfl)) | (refine ⟨_, rfl, Or.inr ⟨rfl, ?_⟩⟩; (show (dg _).map digR = []; rw [Nat.div_eq_of_lt (bl_le.1 (Nat.le_refl _)), Nat.zero_mod, dg_zero]; rfl)))
    · repeat' (first | exact trivial | exact ⟨_, rfl, rfl⟩ | exact ⟨_, rfl, Or.inl rfl⟩ | exact ⟨_, rfl, Or.inr ⟨rfl, rfl⟩⟩ | exact ⟨_, rfl, _, rfl⟩ | exact ⟨_, rfl⟩ | refine And.intro ?_ ?_ | (refine ⟨_, rfl, congrArg (fun z => some (SV.p (PV.int _ z))) ?_⟩; simp) | (refine ⟨_, rfl, congrArg (fun z => some (Blk.arr _ z)) ?_⟩; (show (dg _).map digR = []; rw [Nat.div_eq_of_lt (bl_le.1 (Nat.le_refl _)), Nat.zero_mod, dg_zero]; rfl)) | (refine ⟨_, rfl, congrArg (fun z => some (SV.p (PV.sl _ z))) ?_⟩; (show (dg _).map digR = []; rw [Nat.div_eq_of_lt (bl_le.1 (Nat.le_refl _)), Nat.zero_mod, dg_zero]; rfl)) | (refine ⟨_, rfl, Or.inl (congrArg (fun z => some (SV.p (PV.sl _ z))) ?_)⟩; (show (dg _).map digR = []; rw [Nat.div_eq_of_lt (bl_le.1 (Nat.le_refl _)), Nat.zero_mod, dg_zero]; rfl)) | (refine ⟨_, rfl, Or.inr ⟨rfl, ?_⟩⟩; (show (dg _).map digR = []; rw [Nat.div_eq_of_lt (bl_le.1 (Nat.le_refl _)), Nat.zero_mod, dg_zero]; rfl)))
  rintro ⟨j, o⟩ ⟨hj, ho, hd, hv⟩
  conv => whnf
  refine ⟨fun h => ?_, fun h => ?_⟩
  · obtain ⟨i, rfl⟩ : ∃ i, j = i + 1 := ⟨j - 1, by omega⟩
    have hil : i / 32 < o.length := by rw [ho]; exact bit_len (by omega)
    rw [show (((i + 1 : Nat) : Int) - 1) = (i : Int) by omega]
    conv => whnf
    refine CallG.pure (bit252 a i (by omega) (by omega)) rfl ?_
    conv => whnf
    refine ⟨rfl, ?_⟩
    rintro _ _ rfl
    refine ⟨rfl, ?_⟩
    conv => whnf
    have hz : a / 2 ^ i % 2 < 2 := Nat.mod_lt _ (by decide)
    have hA : a / 2 ^ i = 2 * (a / 2 ^ (i + 1)) + a / 2 ^ i % 2 := by
      rw [Nat.pow_succ, ← Nat.div_div_eq_div_mul]; omega
    have hr := Nat.mod_lt (a / 2 ^ (i + 1)) hb
    have hrl : (dg (a / 2 ^ (i + 1) % b)).length < 20000 := Nat.lt_of_le_of_lt (len_le (Nat.le_of_lt hr)) lb
    obtain ⟨s1, s2⟩ := div_step (A := a / 2 ^ (i + 1)) hb rfl rfl (a / 2 ^ i % 2) hz
    rw [← hA] at s1 s2
    have hr2 : (dg (2 * (a / 2 ^ (i + 1) % b) + a / 2 ^ i % 2)).length < 50000 := by
      have : 2 * (a / 2 ^ (i + 1) % b) + a / 2 ^ i % 2 < B ^ ((dg b).length + 1) := by
        have h1 : b < B ^ (dg b).length := dg_len.1 (Nat.le_refl _)
        have h2 : B ^ (dg b).length * 2 ≤ B ^ ((dg b).length + 1) := by rw [Nat.pow_succ]; exact Nat.mul_le_mul_left _ (by decide)
        omega
      exact Nat.lt_of_le_of_lt (dg_len.2 this) (by omega)
    refine CallG.pure (twice142 (a / 2 ^ (i + 1) % b) (a / 2 ^ i % 2) (by omega) hz) rfl ?_
    conv => whnf
    refine ⟨rfl, ?_⟩
    rintro _ _ rfl
    refine ⟨rfl, ?_⟩
    conv => whnf
    refine CallG.pure (Compare140 (2 * (a / 2 ^ (i + 1) % b) + a / 2 ^ i % 2) b hr2 (by omega)) rfl ?_
    conv => whnf
    refine ⟨rfl, ?_⟩
    rintro _ _ rfl
    refine ⟨rfl, ?_⟩
    conv => whnf
    obtain ⟨w, hw⟩ : ∃ w, w = 2 * (a / 2 ^ (i + 1) % b) + a / 2 ^ i % 2 := ⟨_, rfl⟩
    rw [← hw] at s1 s2 hr2 ⊢
    refine ⟨fun h2 => ?_, fun h2 => ?_⟩
    · have hge : b ≤ w := by
        unfold cmpN at h2
        split at h2
        · omega
        · omega
      obtain ⟨s3, s4⟩ := s1 hge
      obtain ⟨c, c1, c2⟩ := or1 hd hv hil
      have hr32 : i % 32 < 32 := Nat.mod_lt _ (by decide)
      conv => whnf
      refine CallG.pure (Sub141 w b (by omega) hge) rfl ?_
      conv => whnf
      refine ⟨rfl, ?_⟩
      rintro _ _ rfl
      refine ⟨rfl, ?_⟩
      conv => whnf
      rw [← s3, td32]
      refine ⟨by decide, by omega, by omega, ?_⟩
      conv => whnf
      rw [td32]
      refine ⟨by decide, by omega, by omega, ?_⟩
      conv => whnf
      refine ⟨i / 32, rfl, (by simpa using hil), ?_⟩
      conv => whnf
      refine ⟨rfl, _, get_map hil, ?_⟩
      conv => whnf
      rw [tm32]
      refine ⟨by decide, ?_⟩
      conv => whnf
      refine ⟨i % 32, rfl, ?_⟩
      conv => whnf
      refine ⟨i / 32, rfl, (by simpa using hil), ?_⟩
      conv => whnf
      refine ⟨rfl, _, get_map hil, rfl, Nat.le_refl _, ?_⟩
      conv => whnf
      refine ⟨by omega, by omega, ?_⟩
      conv => whnf
      have hset := vl_set (o := o) (j := i / 32) (d := o[i / 32] + 2 ^ (i % 32)) hil
      have e3 : B ^ (i / 32) * 2 ^ (i % 32) = 2 ^ i := by rw [B_pow, ← Nat.pow_add, Nat.div_add_mod]
      have hlt : o[i / 32] + 2 ^ (i % 32) < B := by rw [c1]; exact c2
      refine ⟨(i, o.set (i / 32) (o[i / 32] + 2 ^ (i % 32))), ⟨by omega, by simpa using ho, hd.set hlt _, ?_⟩, by show i < i + 1; omega, ?_⟩
      · rw [s4, Nat.mul_add, Nat.mul_one, Nat.mul_left_comm, ← Nat.mul_assoc 2, ← Nat.pow_succ']
        rw [Nat.mul_add, e3] at hset
        rw [Nat.succ_eq_add_one, ← hv]; omega
      · refine ⟨[some 0], by decide, rfl, ?_, ?_⟩
        · repeat' (first | exact trivial | exact ⟨_, rfl, rfl⟩ | exact ⟨_, rfl, Or.inl rfl⟩ | exact ⟨_, rfl, Or.inr ⟨rfl, rfl⟩⟩ | exact ⟨_, rfl, _, rfl⟩ | exact ⟨_, rfl⟩ | refine And.intro ?_ ?_ | (refine ⟨_, rfl, congrArg (fun z => some (Blk.arr _ z)) ?_⟩; (first | exact set_dig (by rw [c1]; exact or3 (i % 32 + 1) c (2 ^ (i % 32)) rfl (shl1 _ hr32) (by have := Nat.pow_pos (n := i % 32) (show 0 < 2 by decide); omega) (Nat.pow_lt_pow_right (by decide) (by omega)) (Nat.pow_lt_pow_right (by decide) hr32)))) | (refine ⟨_, rfl, congrArg (fun z => some (SV.p (PV.sl _ z))) ?_⟩; (first | exact set_dig (by rw [c1]; exact or3 (i % 32 + 1) c (2 ^ (i % 32)) rfl (shl1 _ hr32) (by have := Nat.pow_pos (n := i % 32) (show 0 < 2 by decide); omega) (Nat.pow_lt_pow_right (by decide) (by omega)) (Nat.pow_lt_pow_right (by decide) hr32)))) | (refine ⟨_, rfl, Or.inl (congrArg (fun z => some (SV.p (PV.sl _ z))) ?_)⟩; (first | exact set_dig (by rw [c1]; exact or3 (i % 32 + 1) c (2 ^ (i % 32)) rfl (shl1 _ hr32) (by have := Nat.pow_pos (n := i % 32) (show 0 < 2 by decide); omega) (Nat.pow_lt_pow_right (by decide) (by omega)) (Nat.pow_lt_pow_right (by decide) hr32)))) | (refine ⟨_, rfl, Or.inr ⟨rfl, ?_⟩⟩; (first | exact set_dig (by rw [c1]; exact or3 (i % 32 + 1) c (2 ^ (i % 32)) rfl (shl1 _ hr32) (by have := Nat.pow_pos (n := i % 32) (show 0 < 2 by decide); omega) (Nat.pow_lt_pow_right (by decide) (by omega)) (Nat.pow_lt_pow_right (by decide) hr32)))))
        · repeat' (first | exact trivial | exact ⟨_, rfl, rfl⟩ | exact ⟨_, rfl, Or.inl rfl⟩ | exact ⟨_, rfl, Or.inr ⟨rfl, rfl⟩⟩ | exact ⟨_, rfl, _, rfl⟩ | exact ⟨_, rfl⟩ | refine And.intro ?_ ?_ | (refine ⟨_, rfl, congrArg (fun z => some (Blk.arr _ z)) ?_⟩; (first | exact set_dig (by rw [c1]; exact or3 (i % 32 + 1) c (2 ^ (i % 32)) rfl (shl1 _ hr32) (by have := Nat.pow_pos (n := i % 32) (show 0 < 2 by decide); omega) (Nat.pow_lt_pow_right (by decide) (by omega)) (Nat.pow_lt_pow_right (by decide) hr32)))) | (refine ⟨_, rfl, congrArg (fun z => some (SV.p (PV.sl _ z))) ?_⟩; (first | exact set_dig (by rw [c1]; exact or3 (i % 32 + 1) c (2 ^ (i % 32)) rfl (shl1 _ hr32) (by have := Nat.pow_pos (n := i % 32) (show 0 < 2 by decide); omega) (Nat.pow_lt_pow_right (by decide) (by omega)) (Nat.pow_lt_pow_right (by decide) hr32)))) | (refine ⟨_, rfl, Or.inl (congrArg (fun z => some (SV.p (PV.sl _ z))) ?_)⟩; (first | exact set_dig (by rw [c1]; exact or3 (i % 32 + 1) c (2 ^ (i % 32)) rfl (shl1 _ hr32) (by have := Nat.pow_pos (n := i % 32) (show 0 < 2 by decide); omega) (Nat.pow_lt_pow_right (by decide) (by omega)) (Nat.pow_lt_pow_right (by decide) hr32)))) | (refine ⟨_, rfl, Or.inr ⟨rfl, ?_⟩⟩; (first | exact set_dig (by rw [c1]; exact or3 (i % 32 + 1) c (2 ^ (i % 32)) rfl (shl1 _ hr32) (by have := Nat.pow_pos (n := i % 32) (show 0 < 2 by decide); omega) (Nat.pow_lt_pow_right (by decide) (by omega)) (Nat.pow_lt_pow_right (by decide) hr32)))))
    · have hlt : w < b := by
        unfold cmpN at h2
        split at h2
        · assumption
        · split at h2 <;> omega
      obtain ⟨s3, s4⟩ := s2 hlt
      conv => whnf
      rw [← s3]
      refine ⟨by omega, by omega, ?_⟩
      conv => whnf
      refine ⟨(i, o), ⟨by omega, ho, hd, ?_⟩, by show i < i + 1; omega, ?_⟩
      · rw [s4, Nat.mul_left_comm, ← Nat.mul_assoc 2, ← Nat.pow_succ', hv]
      · refine ⟨[some 0], by decide, rfl, ?_, ?_⟩
        · repeat' (first | exact trivial | exact ⟨_, rfl, rfl⟩ | exact ⟨_, rfl, Or.inl rfl⟩ | exact ⟨_, rfl, Or.inr ⟨rfl, rfl⟩⟩ | exact ⟨_, rfl, _, rfl⟩ | exact ⟨_, rfl⟩ | refine And.intro ?_ ?_)
        · repeat' (first | exact trivial | exact ⟨_, rfl, rfl⟩ | exact ⟨_, rfl, Or.inl rfl⟩ | exact ⟨_, rfl, Or.inr ⟨rfl, rfl⟩⟩ | exact ⟨_, rfl, _, rfl⟩ | exact ⟨_, rfl⟩ | refine And.intro ?_ ?_)
  · conv => whnf
    obtain rfl : j = 0 := by omega
    refine CallG.pure (short143 o hd (by omega)) rfl ?_
    conv => whnf
    refine ⟨rfl, ?_⟩
    rintro _ _ rfl
    refine ⟨rfl, ?_⟩
    conv => whnf
    exact ⟨rfl, by rw [hv]; simp only [Nat.pow_zero, Nat.div_one, Nat.one_mul]; rfl⟩
end Go.Sx.Tz
end
section
namespace Go.Sx.Tz
open Go Go.Ev Go.Ev.Tz Go.Sx Go.Proofs
set_option maxHeartbeats 4000000
attribute [local irreducible] CallG LoopG
theorem pow_split {n : Nat} (h : n ≤ 32) : 2 ^ n * 2 ^ (32 - n) = B := by rw [← Nat.pow_add, show n + (32 - n) = 32 by omega]; rfl
theorem left307 (x : List Nat) (n : Nat) (hx : Dg x) (lx : x.length < 20000) (hn : n < 32) :
    P 307 [] [.p (encN x), iv n] (fun M r => ∃ l : List Nat, (M = [.arr 112 (l.map digR)] ∧ r = .os 0) ∧ l.length = x.length + 1 ∧ Dg l ∧ vl l = vl x * 2 ^ n) := by
  have hB : B = 4294967296 := rfl
  have hsp := pow_split (show n ≤ 32 by omega)
  have hp := Nat.pow_pos (n := n) (show 0 < 2 by decide)
  have hp31 : 2 ^ n ≤ 2 ^ 31 := Nat.pow_le_pow_right (by decide) (by omega)
  refine PC.of_wp good ok307 rfl ?_
  conv => whnf
  refine ⟨by omega, by simp; omega, ?_⟩
  conv => whnf
  refine ⟨x.length + 1, x.length + 1, (by simp), (by simp), Nat.le_refl _, by show _ * 4 ≤ _; omega, ?_⟩
  conv => whnf
  rw [rep_dig]
  refine ⟨0, LoopG.intro (fun (⟨i, o⟩ : Nat × List Nat) => ⟨[(1, iv n), (5, .os 0), (13, .p (encN x)), (14, iv x.length), (15, iv i)], [.arr 112 (o.map digR)]⟩) (fun (⟨i, o⟩ : Nat × List Nat) => i ≤ x.length ∧ o.length = x.length + 1 ∧ Dg o ∧ (∀ p, i < p → p < o.length → o[p]? = some 0) ∧ dAt o i < 2 ^ n ∧ vl o = vl (x.take i) * 2 ^ n) (fun ⟨i, _⟩ => x.length - i) ((0, List.replicate (x.length + 1) 0)) (by exact ⟨by omega, by simp, fun d hd => by rw [List.eq_of_mem_replicate hd]; exact B_pos, fun p _ h2 => by simp at h2; simp [h2], by simp [dAt]; exact hp, by rw [vl_zeros]; simp [vl]⟩) ?_ ?_⟩
  · refine ⟨[some 0], by decide, rfl, ?_, ?_⟩
    · repeat' (first | exact trivial | exact ⟨_, rfl, rfl⟩ | exact ⟨_, rfl, Or.inl rfl⟩ | exact ⟨_, rfl, Or.inr ⟨rfl, rfl⟩⟩ | exact ⟨_, rfl, _, rfl⟩ | exact ⟨_, rfl⟩ | refine And.intro ?_ ?_ | (refine ⟨_, rfl, congrArg (fun z => some (SV.p (PV.int _ z))) ?_⟩; simp) | (refine ⟨_, rfl, congrArg (fun z => some (Blk.arr _ z)) ?_⟩; rfl) | (refine ⟨_, rfl, congrArg (fun z => some (SV.p (PV.sl _ z))) ?_⟩; rfl) | (refine ⟨_, rfl, Or.inl (congrArg (fun z => some (SV.p (PV.sl _ z))) ?_)⟩; rfl) | (refine ⟨_, rfl, Or.inr ⟨rfl, ?_⟩⟩; rfl))
    · repeat' (first | exact trivial | exact ⟨_, rfl, rfl⟩ | exact ⟨_, rfl, Or.inl rfl⟩ | exact ⟨_, rfl, Or.inr ⟨rfl, rfl⟩⟩ | exact ⟨_, rfl, _, rfl⟩ | exact ⟨_, rfl⟩ | refine And.intro ?_ ?_ | (refine ⟨_, rfl, congrArg (fun z => some (SV.p (PV.int _ z))) ?_⟩; simp) | (refine ⟨_, rfl, congrArg (fun z => some (Blk.arr _ z)) ?_⟩; rfl) | (refine ⟨_, rfl, congrArg (fun z => some (SV.p (PV.sl _ z))) ?_⟩; rfl) | (refine ⟨_, rfl, Or.inl (congrArg (fun z => some (SV.p (PV.sl _ z))) ?_)⟩; rfl) | (refine ⟨_, rfl, Or.inr ⟨rfl, ?_⟩⟩; rfl))
  rintro ⟨i, o⟩ ⟨hi, ho, hd, hz, hc, hv⟩
  conv => whnf
  refine ⟨fun h => ?_, fun h => ?_⟩
  · have hil : i < x.length := by omega
    have hxi := hx.get hil
    obtain ⟨a, hxa⟩ : ∃ a, x[i] = a := ⟨_, rfl⟩
    rw [hxa] at hxi
    have hio : i < o.length := by omega
    have hi1 : i + 1 < o.length := by omega
    rw [dAt_lt hio] at hc
    obtain ⟨b, hob⟩ : ∃ b, o[i] = b := ⟨_, rfl⟩
    rw [hob] at hc
    have hw : a * 2 ^ n < 2 ^ 64 := by
      have := Nat.mul_le_mul (show a ≤ B - 1 by omega) hp31
      rw [hB] at this; omega
    have hlo : a * 2 ^ n % B = 2 ^ n * (a % 2 ^ (32 - n)) := by rw [Nat.mul_comm a, ← hsp, Nat.mul_mod_mul_left]
    have hlo2 : 2 ^ n * (a % 2 ^ (32 - n)) < 2 ^ 32 := by rw [← hlo]; exact Nat.mod_lt _ B_pos
    have hhi : a * 2 ^ n / B < 2 ^ n := by
      rw [Nat.div_lt_iff_lt_mul B_pos, Nat.mul_comm]
      exact Nat.mul_lt_mul_of_pos_left hxi hp
    have hsum : b + 2 ^ n * (a % 2 ^ (32 - n)) < B := by
      have h5 : a % 2 ^ (32 - n) + 1 ≤ 2 ^ (32 - n) := Nat.mod_lt _ (Nat.pow_pos (by decide))
      have h6 := Nat.mul_le_mul_left (2 ^ n) h5
      rw [hsp, Nat.mul_add, Nat.mul_one] at h6
      omega
    have ew : IntKind.u64.wrap (IntKind.u64.wrap (a : Int) * 2 ^ min n IntKind.u64.bits) = ((a * 2 ^ n : Nat) : Int) := by
      rw [wdig hxi, sl6 a n (by omega) hw]
    conv => whnf
    refine ⟨i, digR a, rfl, (by rw [get_map hil, hxa]), ?_⟩
    conv => whnf
    refine ⟨n, rfl, ?_⟩
    conv => whnf
    rw [ew]
    refine ⟨i, rfl, (by simpa using hio), ?_⟩
    conv => whnf
    refine ⟨rfl, digR b, (by rw [get_map hio, hob]), ?_⟩
    conv => whnf
    rw [or3' n (a % 2 ^ (32 - n)) b rfl (by rw [lo3, hlo]) hlo2 hc (by omega)]
    refine ⟨i, rfl, (by simpa using hio), ?_⟩
    conv => whnf
    refine ⟨rfl, _, get_map hio, rfl, Nat.le_refl _, ?_⟩
    conv => whnf
    rw [putC_dig, set_dig rfl]
    refine ⟨by omega, by omega, ?_⟩
    conv => whnf
    refine ⟨32, rfl, ?_⟩
    conv => whnf
    rw [hi6]
    refine ⟨i + 1, (by omega), (by simpa using hi1), ?_⟩
    conv => whnf
    refine ⟨rfl, _, get_map (by simpa using hi1), rfl, Nat.le_refl _, ?_⟩
    conv => whnf
    refine ⟨by omega, by omega, ?_⟩
    conv => whnf
    have h1 : o[i + 1] = 0 := by
      have := hz (i + 1) (by omega) hi1
      rw [List.getElem?_eq_getElem hi1] at this
      exact Option.some.inj this
    obtain ⟨o1, ho1⟩ : ∃ o1, o1 = o.set i (2 ^ n * (a % 2 ^ (32 - n)) + b) := ⟨_, rfl⟩
    have hl1 : o1.length = o.length := by rw [ho1]; simp
    have hs1 := vl_set (o := o) (j := i) (d := 2 ^ n * (a % 2 ^ (32 - n)) + b) hio
    rw [← ho1, hob, Nat.mul_add] at hs1
    have hs2 := vl_set (o := o1) (j := i + 1) (d := a * 2 ^ n / B) (by omega)
    have h2 : o1[i + 1]'(by omega) = 0 := by
      simp only [ho1, List.getElem_set_ne (show i ≠ i + 1 by omega), h1]
    rw [h2, Nat.mul_zero, Nat.add_zero] at hs2
    refine ⟨(i + 1, o1.set (i + 1) (a * 2 ^ n / B)), ⟨by omega, by simp [hl1]; omega, ?_, fun p hp1 hp2 => ?_, ?_, ?_⟩, by show _ - _ < _ - _; omega, ?_⟩
    · exact ((ho1 ▸ hd.set (by rw [Nat.add_comm]; exact hsum) i : Dg o1)).set (Nat.lt_of_lt_of_le hhi (by rw [hB]; omega)) _
    · rw [List.getElem?_set, if_neg (by omega), ho1, List.getElem?_set, if_neg (by omega)]
      exact hz p (by omega) (by simpa [hl1] using hp2)
    · rw [dAt_lt (by simp [hl1]; omega), List.getElem_set_self]; exact hhi
    · rw [hs2, vl_take_succ hil, hxa, Nat.add_mul, ← hv, Nat.mul_assoc, Nat.pow_succ]
      have h3 := Nat.mod_add_div (a * 2 ^ n) B
      rw [hlo] at h3
      have h4 := congrArg (fun z => B ^ i * z) h3
      simp only [Nat.mul_add] at h4
      rw [← Nat.mul_assoc (B ^ i) B] at h4
      omega
    · subst ho1
      refine ⟨[some 0], by decide, rfl, ?_, ?_⟩
      · repeat' (first | exact trivial | exact ⟨_, rfl, rfl⟩ | exact ⟨_, rfl, Or.inl rfl⟩ | exact ⟨_, rfl, Or.inr ⟨rfl, rfl⟩⟩ | exact ⟨_, rfl, _, rfl⟩ | exact ⟨_, rfl⟩ | refine And.intro ?_ ?_ | (refine ⟨_, rfl, congrArg (fun z => some (Blk.arr _ z)) ?_⟩; (exact set_dig (by rw [lo3, Nat.mod_eq_of_lt (Nat.lt_of_lt_of_le hhi (by rw [hB]; omega))]))) | (refine ⟨_, rfl, congrArg (fun z => some (SV.p (PV.sl _ z))) ?_⟩; (exact set_dig (by rw [lo3, Nat.mod_eq_of_lt (Nat.lt_of_lt_of_le hhi (by rw [hB]; omega))]))) | (refine ⟨_, rfl, Or.inl (congrArg (fun z => some (SV.p (PV.sl _ z))) ?_)⟩; (exact set_dig (by rw [lo3, Nat.mod_eq_of_lt (Nat.lt_of_lt_of_le hhi (by rw [hB]; omega))]))) | (refine ⟨_, rfl, Or.inr ⟨rfl, ?_⟩⟩; (exact set_dig (by rw [lo3, Nat.mod_eq_of_lt (Nat.lt_of_lt_of_le hhi (by rw [hB]; omega))]))))
      · repeat' (first | exact trivial | exact ⟨_, rfl, rfl⟩ | exact ⟨_, rfl, Or.inl rfl⟩ | exact ⟨_, rfl, Or.inr ⟨rfl, rfl⟩⟩ | exact ⟨_, rfl, _, rfl⟩ | exact ⟨_, rfl⟩ | refine And.intro ?_ ?_ | (refine ⟨_, rfl, congrArg (fun z => some (Blk.arr _ z)) ?_⟩; (exact set_dig (by rw [lo3, Nat.mod_eq_of_lt (Nat.lt_of_lt_of_le hhi (by rw [hB]; omega))]))) | (refine ⟨_, rfl, congrArg (fun z => some (SV.p (PV.sl _ z))) ?_⟩; (exact set_dig (by rw [lo3, Nat.mod_eq_of_lt (Nat.lt_of_lt_of_le hhi (by rw [hB]; omega))]))) | (refine ⟨_, rfl, Or.inl (congrArg (fun z => some (SV.p (PV.sl _ z))) ?_)⟩; (exact set_dig (by rw [lo3, Nat.mod_eq_of_lt (Nat.lt_of_lt_of_le hhi (by rw [hB]; omega))]))) | (refine ⟨_, rfl, Or.inr ⟨rfl, ?_⟩⟩; (exact set_dig (by rw [lo3, Nat.mod_eq_of_lt (Nat.lt_of_lt_of_le hhi (by rw [hB]; omega))]))))
  · conv => whnf
    obtain rfl : i = x.length := by omega
    refine ⟨_, _, ?_, o, ⟨rfl, rfl⟩, ho, hd, by rw [hv, List.take_of_length_le (Nat.le_refl _)]⟩
    refine ⟨[some 0], by decide, rfl, ?_, ?_⟩
    · repeat' (first | exact trivial | exact ⟨_, rfl, rfl⟩ | exact ⟨_, rfl, Or.inl rfl⟩ | exact ⟨_, rfl, Or.inr ⟨rfl, rfl⟩⟩ | exact ⟨_, rfl, _, rfl⟩ | exact ⟨_, rfl⟩ | refine And.intro ?_ ?_)
    · repeat' (first | exact trivial | exact ⟨_, rfl, rfl⟩ | exact ⟨_, rfl, Or.inl rfl⟩ | exact ⟨_, rfl, Or.inr ⟨rfl, rfl⟩⟩ | exact ⟨_, rfl, _, rfl⟩ | exact ⟨_, rfl⟩ | refine And.intro ?_ ?_)
end Go.Sx.Tz
end
section
namespace Go.Sx.Tz
open Go Go.Ev Go.Ev.Tz Go.Sx Go.Proofs
set_option maxHeartbeats 4000000
attribute [local irreducible] CallG LoopG
theorem or0 {C : Int} (a : Nat) (hC : C = (a : Int)) (ha : a < B) : IntKind.u32.wrap ((BitVec.ofInt IntKind.u32.bits ((0 : Nat) : Int) ||| BitVec.ofInt IntKind.u32.bits C).toNat : Int) = (a : Int) := by
  have := or3' (A := ((0 : Nat) : Int)) (C := C) 0 a 0 rfl (by rw [hC]; simp) (by rw [Nat.pow_zero, Nat.one_mul]; exact ha) (by decide) (by decide)
  rw [this]; simp
theorem right310 (x : List Nat) (n : Nat) (hx : Dg x) (lx : x.length < 20000) (hn : n < 32) : P 310 [] [.p (encN x), iv n] (fun _ r => r = nv (vl x / 2 ^ n)) := by
  have hB : B = 4294967296 := rfl
  have hsp := pow_split (show n ≤ 32 by omega)
  have hp := Nat.pow_pos (n := n) (show 0 < 2 by decide)
  have hp2 := Nat.pow_pos (n := 32 - n) (show 0 < 2 by decide)
  refine PC.of_pure good ok310 rfl ?_
  conv => whnf
  refine ⟨x.length, x.length, (by simp), (by simp), Nat.le_refl _, by show _ * 4 ≤ _; omega, ?_⟩
  conv => whnf
  rw [rep_dig]
  refine ⟨0, LoopG.intro (fun (⟨i, o⟩ : Nat × List Nat) => ⟨[(1, iv n), (5, .os 0), (11, .p (encN x)), (12, iv x.length), (13, iv i)], [.arr 112 (o.map digR)]⟩) (fun (⟨i, o⟩ : Nat × List Nat) => i ≤ x.length ∧ o.length = x.length ∧ Dg o ∧ (∀ p, i ≤ p → p < o.length → o[p]? = some 0) ∧ (0 < i → dAt o (i - 1) < 2 ^ (32 - n)) ∧ vl o = vl (x.take i) / 2 ^ n) (fun ⟨i, _⟩ => x.length - i) ((0, List.replicate x.length 0)) (by exact ⟨by omega, by simp, fun d hd => by rw [List.eq_of_mem_replicate hd]; exact B_pos, fun p _ h2 => by simp at h2; simp [h2], fun h => absurd h (by decide), by rw [vl_zeros]; simp [vl]⟩) ?_ ?_⟩
  · refine ⟨[some 0], by decide, rfl, ?_, ?_⟩
    · repeat' (first | exact trivial | exact ⟨_, rfl, rfl⟩ | exact ⟨_, rfl, Or.inl rfl⟩ | exact ⟨_, rfl, Or.inr ⟨rfl, rfl⟩⟩ | exact ⟨_, rfl, _, rfl⟩ | exact ⟨_, rfl⟩ | refine And.intro ?_ ?_ | (refine ⟨_, rfl, congrArg (fun z => some (SV.p (PV.int _ z))) ?_⟩; simp) | (refine ⟨_, rfl, congrArg (fun z => some (Blk.arr _ z)) ?_⟩; rfl) | (refine ⟨_, rfl, congrArg (fun z => some (SV.p (PV.sl _ z))) ?_⟩; rfl) | (refine ⟨_, rfl, Or.inl (congrArg (fun z => some (SV.p (PV.sl _ z))) ?_)⟩; rfl) | (refine ⟨_, rfl, Or.inr ⟨rfl, ?_⟩⟩; rfl))
    · repeat' (first | exact trivial | exact ⟨_, rfl, rfl⟩ | exact ⟨_, rfl, Or.inl rfl⟩ | exact ⟨_, rfl, Or.inr ⟨rfl, rfl⟩⟩ | exact ⟨_, rfl, _, rfl⟩ | exact ⟨_, rfl⟩ | refine And.intro ?_ ?_ | (refine ⟨_, rfl, congrArg (fun z => some (SV.p (PV.int _ z))) ?_⟩; simp) | (refine ⟨_, rfl, congrArg (fun z => some (Blk.arr _ z)) ?_⟩; rfl) | (refine ⟨_, rfl, congrArg (fun z => some (SV.p (PV.sl _ z))) ?_⟩; rfl) | (refine ⟨_, rfl, Or.inl (congrArg (fun z => some (SV.p (PV.sl _ z))) ?_)⟩; rfl) | (refine ⟨_, rfl, Or.inr ⟨rfl, ?_⟩⟩; rfl))
  rintro ⟨i, o⟩ ⟨hi, ho, hd, hz, hc, hv⟩
  conv => whnf
  refine ⟨fun h => ?_, fun h => ?_⟩
  · have hil : i < x.length := by omega
    have hxi := hx.get hil
    obtain ⟨a, hxa⟩ : ∃ a, x[i] = a := ⟨_, rfl⟩
    rw [hxa] at hxi
    have hio : i < o.length := by omega
    have h0 : o[i] = 0 := by
      have := hz i (Nat.le_refl _) hio
      rw [List.getElem?_eq_getElem hio] at this
      exact Option.some.inj this
    have hq : a / 2 ^ n < 2 ^ (32 - n) := by rw [Nat.div_lt_iff_lt_mul hp, Nat.mul_comm, hsp]; exact hxi
    have hq2 : 2 ^ (32 - n) ≤ B := by rw [← hsp]; exact Nat.le_mul_of_pos_left _ hp
    have hs1 := vl_set (o := o) (j := i) (d := a / 2 ^ n) hio
    rw [h0, Nat.mul_zero, Nat.add_zero] at hs1
    conv => whnf
    refine ⟨i, digR a, rfl, (by rw [get_map hil, hxa]), ?_⟩
    conv => whnf
    refine ⟨i, rfl, (by simpa using hio), ?_⟩
    conv => whnf
    refine ⟨rfl, digR 0, (by rw [get_map hio, h0]), ?_⟩
    conv => whnf
    refine ⟨n, rfl, ?_⟩
    conv => whnf
    rw [sh3 a n (by omega), or0 (a / 2 ^ n) rfl (by omega)]
    refine ⟨i, rfl, (by simpa using hio), ?_⟩
    conv => whnf
    refine ⟨rfl, _, get_map hio, rfl, Nat.le_refl _, ?_⟩
    conv => whnf
    rw [putC_dig, set_dig rfl]
    refine ⟨fun hi0 => ?_, fun hi0 => ?_⟩
    · conv => whnf
      obtain ⟨j, rfl⟩ : ∃ j, i = j + 1 := ⟨i - 1, by omega⟩
      have hjo : j < o.length := by omega
      have hcj := hc (by omega)
      rw [show j + 1 - 1 = j by omega, dAt_lt hjo] at hcj
      obtain ⟨b, hob⟩ : ∃ b, o[j] = b := ⟨_, rfl⟩
      rw [hob] at hcj
      have hj1 : j < (o.set (j + 1) (a / 2 ^ n)).length := by simpa using hjo
      have hb1 : (o.set (j + 1) (a / 2 ^ n))[j] = b := by rw [List.getElem_set_ne (by omega), hob]
      have hlo : 2 ^ (32 - n) * (a % 2 ^ n) < B := by
        rw [← hsp, Nat.mul_comm (2 ^ n)]; exact Nat.mul_lt_mul_of_pos_left (Nat.mod_lt _ hp) hp2
      have hsum : 2 ^ (32 - n) * (a % 2 ^ n) + b < B := by
        have h5 : a % 2 ^ n + 1 ≤ 2 ^ n := Nat.mod_lt _ hp
        have h6 := Nat.mul_le_mul_left (2 ^ (32 - n)) h5
        rw [Nat.mul_comm (2 ^ (32 - n)) (2 ^ n), hsp, Nat.mul_add, Nat.mul_one] at h6
        omega
      refine ⟨by omega, by omega, ?_⟩
      conv => whnf
      refine ⟨j, (by omega), (by simpa using hjo), ?_⟩
      conv => whnf
      refine ⟨rfl, digR b, (by rw [get_map hj1, hb1]), ?_⟩
      conv => whnf
      have e38 : IntKind.u32.wrap (Int.fdiv (IntKind.u64.wrap (IntKind.u64.wrap (a : Int) * 2 ^ min 32 IntKind.u64.bits)) (2 ^ min n IntKind.u64.bits)) = ((2 ^ (32 - n) * (a % 2 ^ n) : Nat) : Int) := by
        rw [wdig hxi, sl6 a 32 (by decide) (by omega), sh6 _ n (by omega), lo3]
        have h1 : a * 2 ^ 32 / 2 ^ n = 2 ^ (32 - n) * a := by
          rw [show (2 : Nat) ^ 32 = 2 ^ n * 2 ^ (32 - n) from hsp.symm, Nat.mul_left_comm, Nat.mul_div_cancel_left _ hp, Nat.mul_comm]
        rw [h1, ← hsp, Nat.mul_comm (2 ^ n), Nat.mul_mod_mul_left]
      refine ⟨32, rfl, ?_⟩
      conv => whnf
      refine ⟨n, rfl, ?_⟩
      conv => whnf
      have hbB : b < 2 ^ 32 := by clear e38; omega
      rw [e38, or3' (32 - n) (a % 2 ^ n) b rfl rfl hlo hcj hbB]
      clear e38
      refine ⟨j, (by omega), (by simpa using hjo), ?_⟩
      conv => whnf
      refine ⟨rfl, _, get_map hj1, rfl, Nat.le_refl _, ?_⟩
      conv => whnf
      refine ⟨by omega, by omega, ?_⟩
      conv => whnf
      have hs2 := vl_set (o := o.set (j + 1) (a / 2 ^ n)) (j := j) (d := 2 ^ (32 - n) * (a % 2 ^ n) + b) hj1
      rw [hb1, Nat.mul_add, hs1] at hs2
      refine ⟨(j + 1 + 1, (o.set (j + 1) (a / 2 ^ n)).set j (2 ^ (32 - n) * (a % 2 ^ n) + b)), ⟨by omega, by simpa using ho, (hd.set (by omega) _).set hsum _, fun p h1 h2 => ?_, fun _ => ?_, ?_⟩, by show _ - _ < _ - _; omega, ?_⟩
      · rw [List.getElem?_set, if_neg (by omega), List.getElem?_set, if_neg (by omega)]
        exact hz p (by omega) (by simpa using h2)
      · rw [show j + 1 + 1 - 1 = j + 1 by omega, dAt_lt (by simpa using hio), List.getElem_set_ne (by omega), List.getElem_set_self]; exact hq
      · rw [vl_take_succ hil, hxa]
        have e1 : B ^ (j + 1) * a = 2 ^ n * (B ^ j * (2 ^ (32 - n) * a)) := by
          have eB : B * a = 2 ^ n * (2 ^ (32 - n) * a) := by rw [← Nat.mul_assoc, hsp]
          rw [Nat.pow_succ, Nat.mul_assoc, eB, Nat.mul_left_comm]
        rw [e1, Nat.add_mul_div_left _ _ hp, ← hv]
        have e2 : B ^ (j + 1) * (a / 2 ^ n) = B ^ j * (2 ^ (32 - n) * (2 ^ n * (a / 2 ^ n))) := by
          have eB : B * (a / 2 ^ n) = 2 ^ (32 - n) * (2 ^ n * (a / 2 ^ n)) := by rw [← Nat.mul_assoc, Nat.mul_comm (2 ^ (32 - n)), hsp]
          rw [Nat.pow_succ, Nat.mul_assoc, eB]
        have e3 : B ^ j * (2 ^ (32 - n) * a) = B ^ j * (2 ^ (32 - n) * (2 ^ n * (a / 2 ^ n))) + B ^ j * (2 ^ (32 - n) * (a % 2 ^ n)) := by
          rw [← Nat.mul_add, ← Nat.mul_add, Nat.div_add_mod]
        omega
      · refine ⟨[some 0], by decide, rfl, ?_, ?_⟩
        · repeat' (first | exact trivial | exact ⟨_, rfl, rfl⟩ | exact ⟨_, rfl, Or.inl rfl⟩ | exact ⟨_, rfl, Or.inr ⟨rfl, rfl⟩⟩ | exact ⟨_, rfl, _, rfl⟩ | exact ⟨_, rfl⟩ | refine And.intro ?_ ?_ | (refine ⟨_, rfl, congrArg (fun z => some (Blk.arr _ z)) ?_⟩; exact set_dig rfl) | (refine ⟨_, rfl, congrArg (fun z => some (SV.p (PV.sl _ z))) ?_⟩; exact set_dig rfl) | (refine ⟨_, rfl, Or.inl (congrArg (fun z => some (SV.p (PV.sl _ z))) ?_)⟩; exact set_dig rfl) | (refine ⟨_, rfl, Or.inr ⟨rfl, ?_⟩⟩; exact set_dig rfl))
        · repeat' (first | exact trivial | exact ⟨_, rfl, rfl⟩ | exact ⟨_, rfl, Or.inl rfl⟩ | exact ⟨_, rfl, Or.inr ⟨rfl, rfl⟩⟩ | exact ⟨_, rfl, _, rfl⟩ | exact ⟨_, rfl⟩ | refine And.intro ?_ ?_ | (refine ⟨_, rfl, congrArg (fun z => some (Blk.arr _ z)) ?_⟩; exact set_dig rfl) | (refine ⟨_, rfl, congrArg (fun z => some (SV.p (PV.sl _ z))) ?_⟩; exact set_dig rfl) | (refine ⟨_, rfl, Or.inl (congrArg (fun z => some (SV.p (PV.sl _ z))) ?_)⟩; exact set_dig rfl) | (refine ⟨_, rfl, Or.inr ⟨rfl, ?_⟩⟩; exact set_dig rfl))
    · conv => whnf
      refine ⟨by omega, by omega, ?_⟩
      conv => whnf
      obtain rfl : i = 0 := by omega
      refine ⟨(0 + 1, o.set 0 (a / 2 ^ n)), ⟨by omega, by simpa using ho, hd.set (by omega) _, fun p h1 h2 => ?_, fun _ => ?_, ?_⟩, by show _ - _ < _ - _; omega, ?_⟩
      · rw [List.getElem?_set, if_neg (by omega)]
        exact hz p (by omega) (by simpa using h2)
      · rw [dAt_lt (by simpa using hio)]; simpa using hq
      · rw [hs1, hv, vl_take_succ hil, hxa]; simp [vl]
      · refine ⟨[some 0], by decide, rfl, ?_, ?_⟩
        · repeat' (first | exact trivial | exact ⟨_, rfl, rfl⟩ | exact ⟨_, rfl, Or.inl rfl⟩ | exact ⟨_, rfl, Or.inr ⟨rfl, rfl⟩⟩ | exact ⟨_, rfl, _, rfl⟩ | exact ⟨_, rfl⟩ | refine And.intro ?_ ?_)
        · repeat' (first | exact trivial | exact ⟨_, rfl, rfl⟩ | exact ⟨_, rfl, Or.inl rfl⟩ | exact ⟨_, rfl, Or.inr ⟨rfl, rfl⟩⟩ | exact ⟨_, rfl, _, rfl⟩ | exact ⟨_, rfl⟩ | refine And.intro ?_ ?_)
  · conv => whnf
    obtain rfl : i = x.length := by omega
    refine CallG.pure (trim256 o hd (by omega)) rfl ?_
    conv => whnf
    refine ⟨rfl, ?_⟩
    rintro _ _ rfl
    refine ⟨rfl, ?_⟩
    conv => whnf
    exact ⟨rfl, by rw [hv, List.take_of_length_le (Nat.le_refl _)]; rfl⟩
end Go.Sx.Tz
end
section
namespace Go.Sx.Tz
open Go Go.Ev Go.Ev.Tz Go.Sx Go.Proofs
set_option maxHeartbeats 4000000
attribute [local irreducible] CallG LoopG
def win (u : List Nat) (off n : Nat) : List Nat := (u.drop off).take n
theorem win_len {u : List Nat} {off n : Nat} (h : off + n ≤ u.length) : (win u off n).length = n := by unfold win; simp; omega
theorem win_Dg {u : List Nat} (h : Dg u) (off n : Nat) : Dg (win u off n) := (h.drop off).take n
theorem win_succ {u : List Nat} {off i : Nat} (h : off + i < u.length) : win u off (i + 1) = win u off i ++ [u[off + i]] := by
  unfold win
  rw [← List.take_append_getElem (show i < (u.drop off).length by simp; omega), List.getElem_drop]
theorem win_set {u : List Nat} {off i d : Nat} : win (u.set (off + i) d) off i = win u off i := by
  unfold win
  refine List.ext_getElem? fun k => ?_
  rw [List.getElem?_take, List.getElem?_take]
  split
  · rw [List.getElem?_drop, List.getElem?_drop, List.getElem?_set, if_neg (by omega)]
  · rfl
theorem win_next {u : List Nat} {off i d : Nat} (h : off + i < u.length) : vl (win (u.set (off + i) d) off (i + 1)) = vl (win u off i) + B ^ i * d := by
  rw [win_succ (by simpa using h), win_set, vl_snoc, win_len (by omega), List.getElem_set_self]
theorem win_old {u : List Nat} {off i : Nat} (h : off + i < u.length) : vl (win u off (i + 1)) = vl (win u off i) + B ^ i * u[off + i] := by
  rw [win_succ h, vl_snoc, win_len (by omega)]
theorem and6 (m : Nat) (h : m < 2 ^ 64) : IntKind.u64.wrap ((BitVec.ofInt IntKind.u64.bits (m : Int) &&& BitVec.ofInt IntKind.u64.bits 4294967295).toNat : Int) = ((m % B : Nat) : Int) := by
  have e : (BitVec.ofInt IntKind.u64.bits (m : Int) &&& BitVec.ofInt IntKind.u64.bits 4294967295).toNat = m % 2 ^ 32 := by
    show (BitVec.ofInt 64 (m : Int) &&& BitVec.ofInt 64 ((4294967295 : Nat) : Int)).toNat = _
    rw [BitVec.toNat_and, BitVec.ofInt_natCast, BitVec.ofInt_natCast, BitVec.toNat_ofNat, BitVec.toNat_ofNat, Nat.mod_eq_of_lt h]
    exact Nat.and_two_pow_sub_one_eq_mod m 32
  rw [e, wu6n]
  have : m % 2 ^ 32 < 2 ^ 32 := Nat.mod_lt _ (by decide)
  rw [Nat.mod_eq_of_lt (by omega)]; rfl
theorem take_step {s q v w p t carry less new u less' : Nat} {r : Nat} (ht : t = carry + q * v) (hn : new + t % B + less = u + B * less') (h : s + q * r = w + p * (carry + less)) :
    (s + p * new) + q * (r + p * v) = (w + p * u) + p * B * (t / B + less') := by
  have h1 := Nat.mod_add_div t B
  have h2 : p * (carry + less) + (p * new + p * (q * v)) = p * u + p * B * (t / B + less') := by
    rw [Nat.mul_assoc, ← Nat.mul_add, ← Nat.mul_add, ← Nat.mul_add, Nat.mul_add B]
    congr 1; omega
  rw [Nat.mul_add q, Nat.mul_left_comm q p v]; omega
theorem take308 (u v : List Nat) (off n q : Nat) (hu : Dg u) (hv : Dg v) (hl : off + n ≤ u.length) (lu : u.length < 50000) (hvn : v.length < n) (hq : q < B) :
    P 308 [.arr 112 (u.map digR)] [.ss 112 0 off n, .p (encN v), u6 q] (fun M r => ∃ (u' : List Nat) (c : Nat), (M = [.arr 112 (u'.map digR)] ∧ r = bv (decide (c = 0))) ∧ u'.length = u.length ∧ Dg u' ∧ c < 2 ∧ (∀ p, p < off ∨ off + n ≤ p → u'[p]? = u[p]?) ∧
      vl (win u' off n) + q * vl v = vl (win u off n) + B ^ n * c) := by
  have hB : B = 4294967296 := rfl
  refine PC.of_wp good ok308 rfl ?_
  conv => whnf
  refine ⟨0, LoopG.intro (fun (⟨i, o, cr, ls⟩ : Nat × List Nat × Nat × Nat) => ⟨[(0, .ss 112 0 off n), (1, .p (encN v)), (2, u6 q), (7, u6 cr), (8, u6 ls), (12, iv n), (13, iv i)], [.arr 112 (o.map digR)]⟩) (fun (⟨i, o, cr, ls⟩ : Nat × List Nat × Nat × Nat) => i ≤ n ∧ o.length = u.length ∧ Dg o ∧ cr < B ∧ ls < 2 ∧ (v.length < i → cr = 0) ∧ (∀ p : Nat, p < off ∨ off + i ≤ p → o[p]? = u[p]?) ∧ vl (win o off i) + q * vl (v.take i) = vl (win u off i) + B ^ i * (cr + ls)) (fun ⟨i, _, _, _⟩ => n - i) ((0, u, 0, 0)) (by exact ⟨by omega, rfl, hu, B_pos, by omega, fun h => by omega, fun _ _ => rfl, by simp [win, vl]⟩) ?_ ?_⟩
  · refine ⟨[some 0], by decide, rfl, ?_, ?_⟩
    · repeat' (first | exact trivial | exact ⟨_, rfl, rfl⟩ | exact ⟨_, rfl, Or.inl rfl⟩ | exact ⟨_, rfl, Or.inr ⟨rfl, rfl⟩⟩ | exact ⟨_, rfl, _, rfl⟩ | exact ⟨_, rfl⟩ | refine And.intro ?_ ?_)
    · repeat' (first | exact trivial | exact ⟨_, rfl, rfl⟩ | exact ⟨_, rfl, Or.inl rfl⟩ | exact ⟨_, rfl, Or.inr ⟨rfl, rfl⟩⟩ | exact ⟨_, rfl, _, rfl⟩ | exact ⟨_, rfl⟩ | refine And.intro ?_ ?_)
  rintro ⟨i, o, cr, ls⟩ ⟨hi, ho, hd, hcr, hls, hz, hsame, hval⟩
  conv => whnf
  refine ⟨fun h => ?_, fun h => ?_⟩
  · have hin : i < n := by omega
    have hio : off + i < o.length := by omega
    have hiu : off + i < u.length := by omega
    have hvi := dAt_B hv i
    have hui := hd.get hio
    have hou : o[off + i] = u[off + i] := by
      have := hsame (off + i) (.inr (Nat.le_refl _))
      rw [List.getElem?_eq_getElem hio, List.getElem?_eq_getElem hiu] at this
      exact Option.some.inj this
    obtain ⟨d, hdd⟩ : ∃ d, o[off + i] = d := ⟨_, rfl⟩
    rw [hdd] at hui hou
    have hm : q * dAt v i ≤ (B - 1) * (B - 1) := Nat.mul_le_mul (by omega) (by omega)
    obtain ⟨t, ht⟩ : ∃ t, t = cr + q * dAt v i := ⟨_, rfl⟩
    have htB : t < B * B := by rw [ht]; unfold B at *; omega
    have et : IntKind.u64.wrap ((cr : Int) + IntKind.u64.wrap ((q : Int) * (dAt v i : Int))) = (t : Int) := by
      rw [← Int.natCast_mul]
      generalize q * dAt v i = m at hm ht
      rw [wu6, wu6]
      unfold B at *
      omega
    obtain ⟨e, h5, h6, h7, h8, h9⟩ : ∃ e l : Nat, e < B ∧ l < 2 ∧ e + t % B + ls = d + B * l ∧ (e : Int) = IntKind.u32.wrap (IntKind.u64.wrap (IntKind.u64.wrap (IntKind.u64.wrap (d : Int) - ((t % B : Nat) : Int)) - (ls : Int))) ∧
        (l : Int) = Int.fdiv (IntKind.u64.wrap (IntKind.u64.wrap (IntKind.u64.wrap (d : Int) - ((t % B : Nat) : Int)) - (ls : Int))) (2 ^ min 63 IntKind.u64.bits) := by
      have hm2 : t % B < B := Nat.mod_lt _ B_pos
      generalize t % B = m at hm2
      rw [wdig hui, fd, mn6 63 (by decide), wu6, wu6, wu3]
      clear et hm htB hval ht
      rw [hB] at hui hm2 ⊢
      refine ⟨(((d : Int) - m - ls) % 4294967296).toNat, if (d : Int) - m - ls < 0 then 1 else 0, by omega, by split <;> omega, by split <;> omega, by omega, by split <;> omega⟩
    conv => whnf
    refine CallG.pure (at326 v hv i) rfl ?_
    conv => whnf
    refine ⟨rfl, ?_⟩
    rintro _ _ rfl
    refine ⟨rfl, ?_⟩
    conv => whnf
    rw [et]
    refine ⟨i, rfl, hin, ?_⟩
    conv => whnf
    refine ⟨rfl, digR d, (by rw [get_map hio, hdd]), ?_⟩
    conv => whnf
    rw [and6 t (by unfold B at htB; omega)]
    refine ⟨i, rfl, hin, ?_⟩
    conv => whnf
    refine ⟨rfl, _, get_map hio, rfl, Nat.le_refl _, ?_⟩
    conv => whnf
    refine ⟨63, rfl, ?_⟩
    conv => whnf
    refine ⟨32, rfl, ?_⟩
    conv => whnf
    refine ⟨by omega, by omega, ?_⟩
    conv => whnf
    clear et
    refine ⟨(i + 1, o.set (off + i) e, t / B, h5), ⟨by omega, by simpa using ho, hd.set h6 _, by rw [Nat.div_lt_iff_lt_mul B_pos]; exact htB, h7, fun hlt => ?_, fun p hp => ?_, ?_⟩, by show _ - _ < _ - _; omega, ?_⟩
    · rw [ht, dAt_ge (by omega), Nat.mul_zero, Nat.add_zero]
      exact Nat.div_eq_of_lt hcr
    · rw [List.getElem?_set, if_neg (by omega)]; exact hsame p (by omega)
    · rw [win_next hio, vl_take_dAt, win_old hiu, ← hou, Nat.pow_succ]
      exact take_step ht h8 hval
    · refine ⟨[some 0], by decide, rfl, ?_, ?_⟩
      · repeat' (first | exact trivial | exact ⟨_, rfl, rfl⟩ | exact ⟨_, rfl, Or.inl rfl⟩ | exact ⟨_, rfl, Or.inr ⟨rfl, rfl⟩⟩ | exact ⟨_, rfl, _, rfl⟩ | exact ⟨_, rfl⟩ | refine And.intro ?_ ?_ | (refine ⟨_, rfl, congrArg (fun z => some (SV.p (PV.int _ z))) ?_⟩; (first | exact h9.2 | rw [hi6])) | (refine ⟨_, rfl, congrArg (fun z => some (Blk.arr _ z)) ?_⟩; exact set_dig h9.1.symm) | (refine ⟨_, rfl, congrArg (fun z => some (SV.p (PV.sl _ z))) ?_⟩; exact set_dig h9.1.symm) | (refine ⟨_, rfl, Or.inl (congrArg (fun z => some (SV.p (PV.sl _ z))) ?_)⟩; exact set_dig h9.1.symm) | (refine ⟨_, rfl, Or.inr ⟨rfl, ?_⟩⟩; exact set_dig h9.1.symm))
      · repeat' (first | exact trivial | exact ⟨_, rfl, rfl⟩ | exact ⟨_, rfl, Or.inl rfl⟩ | exact ⟨_, rfl, Or.inr ⟨rfl, rfl⟩⟩ | exact ⟨_, rfl, _, rfl⟩ | exact ⟨_, rfl⟩ | refine And.intro ?_ ?_ | (refine ⟨_, rfl, congrArg (fun z => some (SV.p (PV.int _ z))) ?_⟩; (first | exact h9.2 | rw [hi6])) | (refine ⟨_, rfl, congrArg (fun z => some (Blk.arr _ z)) ?_⟩; exact set_dig h9.1.symm) | (refine ⟨_, rfl, congrArg (fun z => some (SV.p (PV.sl _ z))) ?_⟩; exact set_dig h9.1.symm) | (refine ⟨_, rfl, Or.inl (congrArg (fun z => some (SV.p (PV.sl _ z))) ?_)⟩; exact set_dig h9.1.symm) | (refine ⟨_, rfl, Or.inr ⟨rfl, ?_⟩⟩; exact set_dig h9.1.symm))
  · conv => whnf
    obtain rfl : i = n := by omega
    have h0 := hz hvn
    subst h0
    rw [Nat.zero_add, List.take_of_length_le (show v.length ≤ i by omega)] at hval
    refine ⟨fun h0 => ?_, fun h0 => ?_⟩
    · conv => whnf
      refine ⟨_, _, ?_, o, ls, ⟨rfl, rfl⟩, ho, hd, hls, hsame, hval⟩
      rw [decide_eq_true (show ls = 0 by omega)]
      refine ⟨[some 0], by decide, rfl, ?_, ?_⟩
      · repeat' (first | exact trivial | exact ⟨_, rfl, rfl⟩ | exact ⟨_, rfl, Or.inl rfl⟩ | exact ⟨_, rfl, Or.inr ⟨rfl, rfl⟩⟩ | exact ⟨_, rfl, _, rfl⟩ | exact ⟨_, rfl⟩ | refine And.intro ?_ ?_)
      · repeat' (first | exact trivial | exact ⟨_, rfl, rfl⟩ | exact ⟨_, rfl, Or.inl rfl⟩ | exact ⟨_, rfl, Or.inr ⟨rfl, rfl⟩⟩ | exact ⟨_, rfl, _, rfl⟩ | exact ⟨_, rfl⟩ | refine And.intro ?_ ?_)
    · conv => whnf
      refine ⟨_, _, ?_, o, ls, ⟨rfl, rfl⟩, ho, hd, hls, hsame, hval⟩
      rw [decide_eq_false (show ¬ ls = 0 by omega)]
      refine ⟨[some 0], by decide, rfl, ?_, ?_⟩
      · repeat' (first | exact trivial | exact ⟨_, rfl, rfl⟩ | exact ⟨_, rfl, Or.inl rfl⟩ | exact ⟨_, rfl, Or.inr ⟨rfl, rfl⟩⟩ | exact ⟨_, rfl, _, rfl⟩ | exact ⟨_, rfl⟩ | refine And.intro ?_ ?_)
      · repeat' (first | exact trivial | exact ⟨_, rfl, rfl⟩ | exact ⟨_, rfl, Or.inl rfl⟩ | exact ⟨_, rfl, Or.inr ⟨rfl, rfl⟩⟩ | exact ⟨_, rfl, _, rfl⟩ | exact ⟨_, rfl⟩ | refine And.intro ?_ ?_)
theorem give_step {s r v w p c new u : Nat} (hn : new = (c + (u + v)) % B) (h : s + p * c = w + r) : (s + p * new) + p * B * ((c + (u + v)) / B) = (w + p * u) + (r + p * v) := by
  have h1 := Nat.mod_add_div (c + (u + v)) B
  have h2 : p * new + p * B * ((c + (u + v)) / B) = p * c + (p * u + p * v) := by
    rw [hn, Nat.mul_assoc, ← Nat.mul_add, h1, Nat.mul_add, Nat.mul_add]
  omega
theorem give309 (u v : List Nat) (off n : Nat) (hu : Dg u) (hv : Dg v) (hl : off + n ≤ u.length) (lu : u.length < 50000) (hvn : v.length ≤ n) :
    P 309 [.arr 112 (u.map digR)] [.ss 112 0 off n, .p (encN v)] (fun M r => ∃ (u' : List Nat) (c : Nat), (M = [.arr 112 (u'.map digR)] ∧ r = .tu []) ∧ u'.length = u.length ∧ Dg u' ∧ (∀ p, p < off ∨ off + n ≤ p → u'[p]? = u[p]?) ∧
      vl (win u' off n) + B ^ n * c = vl (win u off n) + vl v) := by
  have hB : B = 4294967296 := rfl
  refine PC.of_wp good ok309 rfl ?_
  conv => whnf
  refine ⟨0, LoopG.intro (fun (⟨i, o, cr⟩ : Nat × List Nat × Nat) => ⟨[(0, .ss 112 0 off n), (1, .p (encN v)), (4, u6 cr), (7, iv n), (8, iv i)], [.arr 112 (o.map digR)]⟩) (fun (⟨i, o, cr⟩ : Nat × List Nat × Nat) => i ≤ n ∧ o.length = u.length ∧ Dg o ∧ cr < 2 ∧ (∀ p : Nat, p < off ∨ off + i ≤ p → o[p]? = u[p]?) ∧ vl (win o off i) + B ^ i * cr = vl (win u off i) + vl (v.take i)) (fun ⟨i, _, _⟩ => n - i) ((0, u, 0)) (by exact ⟨by omega, rfl, hu, by omega, fun _ _ => rfl, by simp [win, vl]⟩) ?_ ?_⟩
  · refine ⟨[some 0], by decide, rfl, ?_, ?_⟩
    · repeat' (first | exact trivial | exact ⟨_, rfl, rfl⟩ | exact ⟨_, rfl, Or.inl rfl⟩ | exact ⟨_, rfl, Or.inr ⟨rfl, rfl⟩⟩ | exact ⟨_, rfl, _, rfl⟩ | exact ⟨_, rfl⟩ | refine And.intro ?_ ?_)
    · repeat' (first | exact trivial | exact ⟨_, rfl, rfl⟩ | exact ⟨_, rfl, Or.inl rfl⟩ | exact ⟨_, rfl, Or.inr ⟨rfl, rfl⟩⟩ | exact ⟨_, rfl, _, rfl⟩ | exact ⟨_, rfl⟩ | refine And.intro ?_ ?_)
  rintro ⟨i, o, cr⟩ ⟨hi, ho, hd, hcr, hsame, hval⟩
  conv => whnf
  refine ⟨fun h => ?_, fun h => ?_⟩
  · have hin : i < n := by omega
    have hio : off + i < o.length := by omega
    have hiu : off + i < u.length := by omega
    have hvi := dAt_B hv i
    have hui := hd.get hio
    have hou : o[off + i] = u[off + i] := by
      have := hsame (off + i) (.inr (Nat.le_refl _))
      rw [List.getElem?_eq_getElem hio, List.getElem?_eq_getElem hiu] at this
      exact Option.some.inj this
    obtain ⟨d, hdd⟩ : ∃ d, o[off + i] = d := ⟨_, rfl⟩
    rw [hdd] at hui hou
    have et : IntKind.u64.wrap ((cr : Int) + IntKind.u64.wrap (IntKind.u64.wrap (d : Int) + (dAt v i : Int))) = ((cr + (d + dAt v i) : Nat) : Int) := by
      rw [wdig hui, wu6, wu6]; unfold B at *; omega
    conv => whnf
    refine ⟨i, rfl, hin, ?_⟩
    conv => whnf
    refine ⟨rfl, digR d, (by rw [get_map hio, hdd]), ?_⟩
    conv => whnf
    refine CallG.pure (at326 v hv i) rfl ?_
    conv => whnf
    refine ⟨rfl, ?_⟩
    rintro _ _ rfl
    refine ⟨rfl, ?_⟩
    conv => whnf
    rw [et]
    refine ⟨i, rfl, hin, ?_⟩
    conv => whnf
    refine ⟨rfl, _, get_map hio, rfl, Nat.le_refl _, ?_⟩
    conv => whnf
    refine ⟨32, rfl, ?_⟩
    conv => whnf
    refine ⟨by omega, by omega, ?_⟩
    conv => whnf
    clear et
    refine ⟨(i + 1, o.set (off + i) ((cr + (d + dAt v i)) % B), (cr + (d + dAt v i)) / B), ⟨by omega, by simpa using ho, hd.set (Nat.mod_lt _ B_pos) _, by rw [Nat.div_lt_iff_lt_mul B_pos]; unfold B at *; omega, fun p hp => ?_, ?_⟩, by show _ - _ < _ - _; omega, ?_⟩
    · rw [List.getElem?_set, if_neg (by omega)]; exact hsame p (by omega)
    · rw [win_next hio, vl_take_dAt, win_old hiu, ← hou, Nat.pow_succ]
      exact give_step rfl hval
    · refine ⟨[some 0], by decide, rfl, ?_, ?_⟩
      · repeat' (first | exact trivial | exact ⟨_, rfl, rfl⟩ | exact ⟨_, rfl, Or.inl rfl⟩ | exact ⟨_, rfl, Or.inr ⟨rfl, rfl⟩⟩ | exact ⟨_, rfl, _, rfl⟩ | exact ⟨_, rfl⟩ | refine And.intro ?_ ?_ | (refine ⟨_, rfl, congrArg (fun z => some (SV.p (PV.int _ z))) ?_⟩; rw [hi6]) | (refine ⟨_, rfl, congrArg (fun z => some (Blk.arr _ z)) ?_⟩; exact set_dig (by rw [lo3])) | (refine ⟨_, rfl, congrArg (fun z => some (SV.p (PV.sl _ z))) ?_⟩; exact set_dig (by rw [lo3])) | (refine ⟨_, rfl, Or.inl (congrArg (fun z => some (SV.p (PV.sl _ z))) ?_)⟩; exact set_dig (by rw [lo3])) | (refine ⟨_, rfl, Or.inr ⟨rfl, ?_⟩⟩; exact set_dig (by rw [lo3])))
      · repeat' (first | exact trivial | exact ⟨_, rfl, rfl⟩ | exact ⟨_, rfl, Or.inl rfl⟩ | exact ⟨_, rfl, Or.inr ⟨rfl, rfl⟩⟩ | exact ⟨_, rfl, _, rfl⟩ | exact ⟨_, rfl⟩ | refine And.intro ?_ ?_ | (refine ⟨_, rfl, congrArg (fun z => some (SV.p (PV.int _ z))) ?_⟩; rw [hi6]) | (refine ⟨_, rfl, congrArg (fun z => some (Blk.arr _ z)) ?_⟩; exact set_dig (by rw [lo3])) | (refine ⟨_, rfl, congrArg (fun z => some (SV.p (PV.sl _ z))) ?_⟩; exact set_dig (by rw [lo3])) | (refine ⟨_, rfl, Or.inl (congrArg (fun z => some (SV.p (PV.sl _ z))) ?_)⟩; exact set_dig (by rw [lo3])) | (refine ⟨_, rfl, Or.inr ⟨rfl, ?_⟩⟩; exact set_dig (by rw [lo3])))
  · conv => whnf
    obtain rfl : i = n := by omega
    rw [List.take_of_length_le (show v.length ≤ i by omega)] at hval
    refine ⟨_, _, ?_, o, cr, ⟨rfl, rfl⟩, ho, hd, hsame, hval⟩
    refine ⟨[some 0], by decide, rfl, ?_, ?_⟩
    · repeat' (first | exact trivial | exact ⟨_, rfl, rfl⟩ | exact ⟨_, rfl, Or.inl rfl⟩ | exact ⟨_, rfl, Or.inr ⟨rfl, rfl⟩⟩ | exact ⟨_, rfl, _, rfl⟩ | exact ⟨_, rfl⟩ | refine And.intro ?_ ?_)
    · repeat' (first | exact trivial | exact ⟨_, rfl, rfl⟩ | exact ⟨_, rfl, Or.inl rfl⟩ | exact ⟨_, rfl, Or.inr ⟨rfl, rfl⟩⟩ | exact ⟨_, rfl, _, rfl⟩ | exact ⟨_, rfl⟩ | refine And.intro ?_ ?_)
end Go.Sx.Tz
end
section
namespace Go.Sx.Tz
structure Top (W V two u3 v1 v2 M : Nat) : Prop where
  hW : (two * B + u3) * M ≤ W
  hW2 : W < (two * B + u3 + 1) * M
  hV : (v1 * B + v2) * M ≤ V
  hV2 : V < (v1 * B + v2 + 1) * M
  u3 : u3 < B
  v1 : 0 < v1
  v2 : v2 < B
  M : 0 < M
  lt : W < V * B
variable {W V two u3 v1 v2 M : Nat}
theorem Top.pos (h : Top W V two u3 v1 v2 M) : 0 < V := by
  have h1 : B * 1 ≤ v1 * B := by rw [Nat.mul_comm v1]; exact Nat.mul_le_mul_left _ h.v1
  have h2 : 1 * 1 ≤ (v1 * B + v2) * M := Nat.mul_le_mul (by have := B_pos; omega) h.M
  have := h.hV; omega
theorem Top.test (h : Top W V two u3 v1 v2 M) {q : Nat} (hq : q * V ≤ W) : q * (v1 * B + v2) ≤ two * B + u3 := by
  have h1 : q * (v1 * B + v2) * M ≤ q * V := by rw [Nat.mul_assoc]; exact Nat.mul_le_mul_left _ h.hV
  have h2 : q * (v1 * B + v2) * M < (two * B + u3 + 1) * M := Nat.lt_of_le_of_lt (Nat.le_trans h1 hq) h.hW2
  exact Nat.le_of_lt_succ (Nat.lt_of_mul_lt_mul_right h2)
theorem Top.first (h : Top W V two u3 v1 v2 M) {q : Nat} (hq : q * V ≤ W) : q ≤ two / v1 := by
  rw [Nat.le_div_iff_mul_le h.v1]
  have h1 := h.test hq
  rw [Nat.mul_add, ← Nat.mul_assoc] at h1
  have h2 : q * v1 * B < (two + 1) * B := by
    rw [Nat.add_mul, Nat.one_mul]; have := h.u3; omega
  exact Nat.le_of_lt_succ (Nat.lt_of_mul_lt_mul_right h2)
theorem Top.two_lt (h : Top W V two u3 v1 v2 M) : two < (v1 + 1) * B := by
  have h1 : (two * B + u3) * M < (v1 * B + v2 + 1) * M * B := Nat.lt_of_le_of_lt h.hW (Nat.lt_of_lt_of_le h.lt (Nat.mul_le_mul_right _ (Nat.le_of_lt h.hV2)))
  rw [Nat.mul_right_comm] at h1
  have h2 := Nat.lt_of_mul_lt_mul_right h1
  have h3 : (v1 * B + v2 + 1) * B ≤ (v1 + 1) * B * B := Nat.mul_le_mul_right _ (by rw [Nat.add_mul, Nat.one_mul]; have := h.v2; omega)
  have h4 : two * B < (v1 + 1) * B * B := by omega
  exact Nat.lt_of_mul_lt_mul_right h4
theorem Top.less (h : Top W V two u3 v1 v2 M) {q r : Nat} (hq : two = q * v1 + r) (ht : B ≤ q ∨ r * B + u3 < q * v2) : W / V < q := by
  have hv := h.pos
  rcases ht with ht | ht
  · exact Nat.lt_of_lt_of_le ((Nat.div_lt_iff_lt_mul hv).2 (by rw [Nat.mul_comm]; exact h.lt)) ht
  · rw [Nat.lt_iff_add_one_le]
    refine Nat.le_of_not_lt fun hlt => ?_
    have h1 := h.test ((Nat.le_div_iff_mul_le hv).1 (Nat.le_of_lt_succ hlt))
    rw [Nat.mul_add, ← Nat.mul_assoc, hq, Nat.add_mul] at h1
    omega
theorem Top.last (h : Top W V two u3 v1 v2 M) {q r : Nat} (hq : two = q * v1 + r) (ht : (q < B ∧ q * v2 ≤ r * B + u3) ∨ B ≤ r) : q < B ∧ q ≤ W / V + 1 := by
  have hv := h.pos
  have hB := B_pos
  have hlt : q < B := by
    rcases ht with ht | ht
    · exact ht.1
    · have h1 := h.two_lt
      rw [Nat.add_mul, Nat.one_mul, hq] at h1
      have h2 : q * v1 < B * v1 := by rw [Nat.mul_comm B]; omega
      exact Nat.lt_of_mul_lt_mul_right h2
  refine ⟨hlt, ?_⟩
  have h3 : q * (v1 * B + v2) ≤ two * B + u3 := by
    rw [Nat.mul_add, ← Nat.mul_assoc, hq, Nat.add_mul]
    rcases ht with ht | ht
    · omega
    · have h4 : q * v2 ≤ B * B := Nat.mul_le_mul (Nat.le_of_lt hlt) (Nat.le_of_lt h.v2)
      have h5 : B * B ≤ r * B := Nat.mul_le_mul_right _ ht
      omega
  cases q with
  | zero => exact Nat.zero_le _
  | succ p =>
    refine Nat.succ_le_succ ((Nat.le_div_iff_mul_le hv).2 ?_)
    have h6 : p * V ≤ p * ((v1 * B + v2) * M) + p * M := by
      rw [← Nat.mul_add, ← Nat.succ_mul]
      exact Nat.mul_le_mul_left _ (Nat.le_of_lt h.hV2)
    have h7 : p * M ≤ (v1 * B + v2) * M := Nat.mul_le_mul_right _ (by
      have : 1 * B ≤ v1 * B := Nat.mul_le_mul_right _ h.v1
      omega)
    have h8 : (p + 1) * (v1 * B + v2) * M ≤ (two * B + u3) * M := Nat.mul_le_mul_right _ h3
    rw [Nat.mul_assoc, Nat.succ_mul] at h8
    have := h.hW
    omega
theorem take_last {q W1 Bn c : Nat} (hv : 0 < V) (h1 : W / V ≤ q) (h2 : q ≤ W / V + 1) (h3 : W1 + q * V = W + Bn * c) (h4 : W1 < Bn) (hc : c < 2) :
    (c = 0 → q = W / V ∧ W1 = W % V) ∧ (c ≠ 0 → q = W / V + 1 ∧ W1 + V = W % V + Bn) := by
  have hd := Nat.div_add_mod W V
  have hm := Nat.mod_lt W hv
  rw [Nat.mul_comm] at hd
  refine ⟨fun h => ?_, fun h => ?_⟩
  · subst h
    have h5 : q ≤ W / V := (Nat.le_div_iff_mul_le hv).2 (by omega)
    obtain rfl : q = W / V := by omega
    exact ⟨rfl, by omega⟩
  · obtain rfl : c = 1 := by omega
    rw [Nat.mul_one] at h3
    have h5 : q ≠ W / V := fun e => by subst e; omega
    obtain rfl : q = W / V + 1 := by omega
    refine ⟨rfl, ?_⟩
    rw [Nat.add_mul, Nat.one_mul] at h3
    omega
theorem give_last {W1 W2 Bn c r : Nat} (h1 : W1 + V = r + Bn) (h2 : W2 + Bn * c = W1 + V) (h3 : W2 < Bn) (h4 : r < Bn) : W2 = r := by
  rw [h1] at h2
  match c with
  | 0 => omega
  | 1 => omega
  | c + 2 =>
    have : Bn * 2 ≤ Bn * (c + 2) := Nat.mul_le_mul_left _ (by omega)
    omega
theorem outer_step {X U U' V Q P W lo : Nat} (hv : 0 < V) (h : X = U + V * Q) (hU : U = lo + P * W) (hU' : U' = lo + P * (W % V)) (hlo : lo < P) : X = U' + V * (Q + P * (W / V)) ∧ U' < V * P := by
  have hd := Nat.div_add_mod W V
  have hm := Nat.mod_lt W hv
  refine ⟨?_, ?_⟩
  · have e : P * W = P * (W % V) + V * (P * (W / V)) := by
      rw [Nat.mul_left_comm V, ← Nat.mul_add]; congr 1; omega
    rw [h, hU, hU', e, Nat.mul_add]; omega
  · have h1 : P * (W % V) + P * 1 ≤ P * V := by rw [← Nat.mul_add]; exact Nat.mul_le_mul_left _ hm
    rw [hU', Nat.mul_comm V]; omega
end Go.Sx.Tz
end
section
namespace Go.Sx.Tz
open Go Go.Ev Go.Ev.Tz Go.Sx Go.Proofs
set_option maxHeartbeats 8000000
attribute [local irreducible] CallG LoopG
theorem vl_win (u : List Nat) (i n : Nat) (h : i + n ≤ u.length) : vl u = vl (u.take i) + B ^ i * (vl (win u i n) + B ^ n * vl (u.drop (i + n))) := by
  have h1 := vl_take_drop u i (by omega)
  have h2 := vl_take_drop (u.drop i) n (by simp; omega)
  rw [List.drop_drop] at h2
  rw [h1, h2]; rfl
theorem top_of {u v : List Nat} (hu : Dg u) (hv : Dg v) {i m : Nat} (hl : i + m + 3 ≤ u.length) (hm : v.length = m + 2) (h1 : 0 < v[m + 1]) (hlt : vl (win u i (m + 3)) < vl v * B) :
    Top (vl (win u i (m + 3))) (vl v) (u[i + m + 2] * B + u[i + m + 1]) u[i + m] v[m + 1] v[m] (B ^ m) := by
  have w1 := win_old (u := u) (off := i) (i := m + 2) (by omega)
  have w2 := win_old (u := u) (off := i) (i := m + 1) (by omega)
  have w3 := win_old (u := u) (off := i) (i := m) (by omega)
  have wl := vl_lt (win_Dg hu i m)
  rw [win_len (by omega)] at wl
  have eW : vl (win u i (m + 3)) = vl (win u i m) + ((u[i + m + 2] * B + u[i + m + 1]) * B + u[i + m]) * B ^ m := by
    have e1 : u[i + m + 1] * B * B ^ m = B ^ (m + 1) * u[i + m + 1] := by rw [Nat.pow_succ]; ac_rfl
    have e2 : u[i + m + 2] * B * B * B ^ m = B ^ (m + 2) * u[i + m + 2] := by rw [Nat.pow_succ, Nat.pow_succ]; ac_rfl
    simp only [← Nat.add_assoc] at w1 w2
    rw [show m + 3 = m + 2 + 1 from rfl, w1, w2, w3, Nat.add_mul, Nat.add_mul, Nat.add_mul, e1, e2, Nat.mul_comm u[i + m]]
    omega
  have v2 := vl_take_succ (l := v) (i := m + 1) (by omega)
  have v3 := vl_take_succ (l := v) (i := m) (by omega)
  have vlo := vl_lt (hv.take m)
  rw [List.length_take, Nat.min_eq_left (by omega)] at vlo
  rw [List.take_of_length_le (show v.length ≤ m + 1 + 1 by omega)] at v2
  have eV : vl v = vl (v.take m) + (v[m + 1] * B + v[m]) * B ^ m := by
    have e1 : v[m + 1] * B * B ^ m = B ^ (m + 1) * v[m + 1] := by rw [Nat.pow_succ]; ac_rfl
    rw [v2, v3, Nat.add_mul, e1, Nat.mul_comm v[m]]
    omega
  refine ⟨by rw [eW]; exact Nat.le_add_left _ _, ?_, by rw [eV]; exact Nat.le_add_left _ _, ?_, hu.get (by omega), h1, hv.get (by omega), Nat.pow_pos B_pos, hlt⟩
  · rw [eW, Nat.add_mul (_ + _) 1, Nat.one_mul]; omega
  · rw [eV, Nat.add_mul (_ + _) 1, Nat.one_mul]; omega
theorem norm_len {b : Nat} (h2 : 2 ≤ (dg b).length) : ∃ n : Nat, n < 32 ∧ (32 - (bl (dAt (dg b) ((dg b).length - 1)) : Int)) = (n : Int) ∧ (dg (b * 2 ^ n)).length = (dg b).length := by
  have hb0 : b ≠ 0 := fun e => by subst e; rw [dg_zero] at h2; simp at h2
  obtain ⟨h3, h4, h5⟩ := bl_dg hb0
  have h6 : bl (dAt (dg b) ((dg b).length - 1)) ≤ 32 := bl_le.2 h4
  have hd0 : dAt (dg b) ((dg b).length - 1) ≠ 0 := Nz_iff.1 (dg_Nz b) h5
  have h7 : 0 < bl (dAt (dg b) ((dg b).length - 1)) := by
    unfold bl; rw [if_neg hd0]; omega
  generalize bl (dAt (dg b) ((dg b).length - 1)) = e at *
  refine ⟨32 - e, by omega, by omega, ?_⟩
  have hlo : 2 ^ (bl b - 1) ≤ b := bl_ge.1 (by omega)
  have hhi : b < 2 ^ bl b := bl_le.1 (Nat.le_refl _)
  have h8 : b * 2 ^ (32 - e) < B ^ (dg b).length := by
    rw [B_pow, show 32 * (dg b).length = bl b + (32 - e) by omega, Nat.pow_add]
    exact Nat.mul_lt_mul_of_pos_right hhi (Nat.pow_pos (by decide))
  have h9 : ¬ b * 2 ^ (32 - e) < B ^ ((dg b).length - 1) := by
    rw [B_pow]
    have h10 : 2 ^ (bl b - 1) * 2 ^ (32 - e) ≤ b * 2 ^ (32 - e) := Nat.mul_le_mul_right _ hlo
    rw [← Nat.pow_add] at h10
    have h11 : 2 ^ (32 * ((dg b).length - 1)) ≤ 2 ^ (bl b - 1 + (32 - e)) := Nat.pow_le_pow_right (by decide) (by omega)
    omega
  have h12 := dg_len.2 h8
  have h13 : ¬ (dg (b * 2 ^ (32 - e))).length ≤ (dg b).length - 1 := fun q => h9 (dg_len.1 q)
  omega
theorem same_take {u u1 : List Nat} {i k : Nat} (hl : u1.length = u.length) (h : ∀ p, p < i ∨ i + k ≤ p → u1[p]? = u[p]?) : u1.take i = u.take i ∧ u1.drop (i + k) = u.drop (i + k) := by
  refine ⟨List.ext_getElem? fun p => ?_, List.ext_getElem? fun p => ?_⟩
  · rw [List.getElem?_take, List.getElem?_take]
    split
    · exact h p (.inl ‹_›)
    · rfl
  · rw [List.getElem?_drop, List.getElem?_drop]; exact h _ (.inr (by omega))
theorem digit_done {u u1 o : List Nat} {i k X V qt lo W : Nat} (hV : 0 < V) (hlo : lo = vl (u.take i)) (hl : u1.length = u.length) (hik : i + k ≤ u.length) (hs : ∀ p, p < i ∨ i + k ≤ p → u1[p]? = u[p]?) (hu : Dg u) (hd0 : vl (u.drop (i + k)) = 0)
    (hW : W = vl (win u i k)) (hW1 : vl (win u1 i k) = W % V) (hq : qt = W / V) (hX : X = vl u + V * vl o) (hio : i < o.length) (ho : o[i] = 0) :
    X = vl u1 + V * vl (o.set i qt) ∧ vl u1 < V * B ^ i := by
  obtain ⟨e1, e2⟩ := same_take hl hs
  have w0 := vl_win u i k hik
  have w1 := vl_win u1 i k (by omega)
  rw [hd0, Nat.mul_zero, Nat.add_zero, ← hlo, ← hW] at w0
  rw [e1, e2, hd0, Nat.mul_zero, Nat.add_zero, ← hlo, hW1] at w1
  have hlt : lo < B ^ i := by
    have := vl_lt (hu.take i)
    rw [List.length_take, Nat.min_eq_left (by omega)] at this
    omega
  have hset := vl_set (o := o) (j := i) (d := qt) hio
  rw [ho, Nat.mul_zero, Nat.add_zero] at hset
  rw [hset, hq]
  exact outer_step hV hX w0 w1 hlt
theorem div255 (a b : Nat) (la : (dg a).length < 10000) (lb : (dg b).length < 10000) (hb : 0 < b) : P 255 [] [nv a, nv b] (fun _ r => r = .tu [nv (a / b), nv (a % b)]) := by
  by_cases hs : (dg b).length = 1
  · exact div255s a b (by omega) hs
  by_cases hab : a < b
  · refine PC.of_pure good ok255 rfl ?_
    conv => whnf
    refine CallG.pure (compare288 a b (by omega) (by omega)) rfl ?_
    conv => whnf
    refine ⟨rfl, ?_⟩
    rintro _ _ rfl
    refine ⟨rfl, ?_⟩
    conv => whnf
    rw [show cmpN a b = -1 by unfold cmpN; rw [if_pos hab]]
    refine ⟨fun _ => ?_, fun h => absurd (by decide) h⟩
    conv => whnf
    refine CallG.pure (Clone103 (dg a) (by omega)) rfl ?_
    conv => whnf
    refine ⟨rfl, ?_⟩
    rintro _ _ rfl
    refine ⟨rfl, ?_⟩
    conv => whnf
    exact ⟨rfl, by rw [Nat.div_eq_of_lt hab, Nat.mod_eq_of_lt hab]; show _ = SV.tu [.p (encN (dg 0)), _]; rw [dg_zero]; rfl⟩
  have hB : B = 4294967296 := rfl
  have hbl0 : (dg b).length ≠ 0 := fun e => by have := dg_len_pos.1 e; omega
  have hlen2 : 2 ≤ (dg b).length := by omega
  have hlab := len_le (show b ≤ a by omega)
  obtain ⟨n, hn32, hn, hVl⟩ := norm_len hlen2
  obtain ⟨m, hm⟩ : ∃ m, (dg b).length = m + 2 := ⟨(dg b).length - 2, by omega⟩
  rw [hm] at hVl
  obtain ⟨V, hVd⟩ : ∃ V, V = b * 2 ^ n := ⟨_, rfl⟩
  rw [← hVd] at hVl
  have hV0 : 0 < V := by rw [hVd]; exact Nat.mul_pos hb (Nat.pow_pos (by decide))
  have hvtop : 0 < (dg V)[m + 1] := by
    have := Nz_iff.1 (dg_Nz V) (by omega)
    rw [hVl, show m + 2 - 1 = m + 1 by omega, dAt_lt (by omega)] at this
    omega
  refine PC.of_pure good ok255 rfl ?_
  conv => whnf
  refine CallG.pure (compare288 a b (by omega) (by omega)) rfl ?_
  conv => whnf
  refine ⟨rfl, ?_⟩
  rintro _ _ rfl
  refine ⟨rfl, ?_⟩
  conv => whnf
  have hcmp : ¬ cmpN a b < 0 := by
    unfold cmpN; rw [if_neg hab]; split <;> omega
  refine ⟨fun h => absurd h hcmp, fun _ => ?_⟩
  conv => whnf
  refine ⟨fun h => absurd h (by rw [List.length_map]; omega), fun _ => ?_⟩
  conv => whnf
  refine ⟨by omega, by simp; omega, ?_⟩
  conv => whnf
  refine ⟨(dg b).length - 1, digR (dAt (dg b) ((dg b).length - 1)), (by simp; omega), (by rw [dAt_lt (by omega)]; exact get_map (by omega)), ?_⟩
  conv => whnf
  refine CallG.pure (LeadingZeros306 (dAt (dg b) ((dg b).length - 1)) (dAt_B (dg_Dg b) _)) rfl ?_
  conv => whnf
  refine ⟨rfl, ?_⟩
  rintro _ _ rfl
  refine ⟨rfl, ?_⟩
  conv => whnf
  rw [hn]
  refine lendS [true] [] _ _ _ (left307 (dg a) n (dg_Dg a) (by omega) hn32) ?_
  conv => whnf
  refine ⟨?_, ?_, rfl, ?_⟩
  · repeat' (first | exact trivial | exact rfl | refine And.intro ?_ ?_)
  · repeat' (first | exact trivial | exact rfl | refine And.intro ?_ ?_)
  rintro _ _ ⟨u0, ⟨rfl, rfl⟩, hul, hud, huv⟩
  conv => whnf
  refine lendS [true] [] _ _ _ (left307 (dg b) n (dg_Dg b) (by omega) hn32) ?_
  conv => whnf
  refine ⟨?_, ?_, rfl, ?_⟩
  · repeat' (first | exact trivial | exact rfl | refine And.intro ?_ ?_)
  · repeat' (first | exact trivial | exact rfl | refine And.intro ?_ ?_)
  rintro _ _ ⟨v0, ⟨rfl, rfl⟩, hvl, hvd, hvv⟩
  conv => whnf
  rw [vl_dg] at huv hvv
  refine CallG.pure (trim256 v0 hvd (by omega)) rfl ?_
  conv => whnf
  refine ⟨rfl, ?_⟩
  rintro _ _ rfl
  refine ⟨rfl, ?_⟩
  conv => whnf
  rw [hvv, ← hVd]
  obtain ⟨N, hN⟩ : ∃ N, N + (m + 2) = (dg a).length + 1 := ⟨(dg a).length + 1 - (m + 2), by omega⟩
  refine ⟨by simp only [List.length_map]; omega, by simp only [List.length_map]; omega, ?_⟩
  conv => whnf
  refine ⟨N, N, (by simp only [List.length_map]; omega), (by simp only [List.length_map]; omega), Nat.le_refl _, by show _ * 4 ≤ _; omega, ?_⟩
  conv => whnf
  rw [rep_dig]
  refine ⟨by simp only [List.length_map, List.length_replicate]; omega, by simp only [List.length_map, List.length_replicate]; omega, ?_⟩
  conv => whnf
  have hX0 : a * 2 ^ n < V * B ^ N := by
    rw [hVd, Nat.mul_right_comm]
    refine Nat.mul_lt_mul_of_pos_right ?_ (Nat.pow_pos (by decide))
    have h1 : B ^ (m + 1) ≤ b := Nat.le_of_not_lt fun q => by have := dg_len.2 q; omega
    have h2 : a < B ^ (dg a).length := dg_len.1 (Nat.le_refl _)
    have h3 : B ^ (m + 1) * B ^ N ≤ b * B ^ N := Nat.mul_le_mul_right _ h1
    rw [← Nat.pow_add, show m + 1 + N = (dg a).length by omega] at h3
    omega
  refine ⟨0, LoopG.intro (fun (⟨j, u, o⟩ : Nat × List Nat × List Nat) => ⟨[(8, iv n), (9, .os 0), (10, nv V), (11, iv (m + 2 : Nat)), (12, .os 1), (13, iv ((j : Int) - 1))], [.arr 112 (u.map digR), .arr 112 (o.map digR)]⟩) (fun (⟨j, u, o⟩ : Nat × List Nat × List Nat) => j ≤ N ∧ u.length = (dg a).length + 1 ∧ Dg u ∧ o.length = N ∧ Dg o ∧ (∀ p : Nat, p < j → p < o.length → o[p]? = some 0) ∧ a * 2 ^ n = vl u + V * vl o ∧ vl u < V * B ^ j) (fun ⟨j, _, _⟩ => j) ((N, u0, List.replicate N 0)) (by exact ⟨Nat.le_refl _, hul, hud, by simp, fun d hd => by rw [List.eq_of_mem_replicate hd]; exact B_pos, fun p hp _ => by simp [hp], by rw [huv, vl_zeros]; rfl, by rw [huv]; exact hX0⟩) ?_ ?_⟩
  · refine ⟨[some 0, some 2], by decide, rfl, ?_, ?_⟩
    · repeat' (first | exact trivial | exact ⟨_, rfl, rfl⟩ | exact ⟨_, rfl, Or.inl rfl⟩ | exact ⟨_, rfl, Or.inr ⟨rfl, rfl⟩⟩ | exact ⟨_, rfl, _, rfl⟩ | exact ⟨_, rfl⟩ | refine And.intro ?_ ?_ | (refine ⟨_, rfl, congrArg (fun z => some (SV.p (PV.int _ z))) ?_⟩; (simp only [List.length_map, List.length_replicate] <;> omega)) | (refine ⟨_, rfl, congrArg (fun z => some (Blk.arr _ z)) ?_⟩; rfl) | (refine ⟨_, rfl, congrArg (fun z => some (SV.p (PV.sl _ z))) ?_⟩; rfl) | (refine ⟨_, rfl, Or.inl (congrArg (fun z => some (SV.p (PV.sl _ z))) ?_)⟩; rfl) | (refine ⟨_, rfl, Or.inr ⟨rfl, ?_⟩⟩; rfl))
    · repeat' (first | exact trivial | exact ⟨_, rfl, rfl⟩ | exact ⟨_, rfl, Or.inl rfl⟩ | exact ⟨_, rfl, Or.inr ⟨rfl, rfl⟩⟩ | exact ⟨_, rfl, _, rfl⟩ | exact ⟨_, rfl⟩ | refine And.intro ?_ ?_ | (refine ⟨_, rfl, congrArg (fun z => some (SV.p (PV.int _ z))) ?_⟩; (simp only [List.length_map, List.length_replicate] <;> omega)) | (refine ⟨_, rfl, congrArg (fun z => some (Blk.arr _ z)) ?_⟩; rfl) | (refine ⟨_, rfl, congrArg (fun z => some (SV.p (PV.sl _ z))) ?_⟩; rfl) | (refine ⟨_, rfl, Or.inl (congrArg (fun z => some (SV.p (PV.sl _ z))) ?_)⟩; rfl) | (refine ⟨_, rfl, Or.inr ⟨rfl, ?_⟩⟩; rfl))
  clear huv hud hul
  rintro ⟨j, u, o⟩ ⟨hj, hul, hud, hol, hod, hoz, hX, hlt⟩
  conv => whnf
  refine ⟨fun h => ?_, fun h => ?_⟩
  · obtain ⟨i, rfl⟩ : ∃ i, j = i + 1 := ⟨j - 1, by omega⟩
    rw [show (((i + 1 : Nat) : Int) - 1) = (i : Int) by omega]
    have hn3 : i + m + 3 - i = m + 3 := by omega
    have hil : i + m + 3 ≤ u.length := by omega
    have hio : i < o.length := by omega
    have ho0 : o[i] = 0 := by
      have := hoz i (by omega) hio
      rw [List.getElem?_eq_getElem hio] at this
      exact Option.some.inj this
    have hwin := vl_win u i (m + 3) (by omega)
    have hVB : V < B ^ (m + 2) := dg_len.1 (by omega)
    have hd0 : vl (u.drop (i + (m + 3))) = 0 := by
      cases Nat.eq_zero_or_pos (vl (u.drop (i + (m + 3)))) with
      | inl h => exact h
      | inr hp =>
        have h1 : B ^ (m + 3) * 1 ≤ B ^ (m + 3) * vl (u.drop (i + (m + 3))) := Nat.mul_le_mul_left _ hp
        have h2 : B ^ i * B ^ (m + 3) ≤ vl u := by
          rw [hwin]
          have h3 : B ^ i * B ^ (m + 3) ≤ B ^ i * (vl (win u i (m + 3)) + B ^ (m + 3) * vl (u.drop (i + (m + 3)))) := Nat.mul_le_mul_left _ (by omega)
          omega
        have h4 : V * B ^ (i + 1) ≤ B ^ (m + 2) * B ^ (i + 1) := Nat.mul_le_mul_right _ (Nat.le_of_lt hVB)
        rw [← Nat.pow_add] at h2 h4
        rw [show m + 2 + (i + 1) = i + (m + 3) by omega] at h4
        omega
    have hWV : vl (win u i (m + 3)) < vl (dg V) * B := by
      rw [hd0, Nat.mul_zero, Nat.add_zero] at hwin
      rw [vl_dg]
      have h1 : B ^ i * vl (win u i (m + 3)) < B ^ i * (V * B) := by
        have e : B ^ i * (V * B) = V * B ^ (i + 1) := by rw [Nat.pow_succ]; ac_rfl
        rw [e]; omega
      exact Nat.lt_of_mul_lt_mul_left h1
    have T := top_of hud (dg_Dg V) hil hVl hvtop hWV
    rw [vl_dg] at T
    have b1 := hud.get (show i + m + 1 < u.length by omega)
    have b2 := hud.get (show i + m + 2 < u.length by omega)
    have b0 := hud.get (show i + m < u.length by omega)
    have hv1B := (dg_Dg V).get (show m + 1 < (dg V).length by omega)
    have hv2B := (dg_Dg V).get (show m < (dg V).length by omega)
    obtain ⟨x0, hx0⟩ : ∃ x, u[i + m] = x := ⟨_, rfl⟩
    obtain ⟨x1, hx1⟩ : ∃ x, u[i + m + 1] = x := ⟨_, rfl⟩
    obtain ⟨x2, hx2⟩ : ∃ x, u[i + m + 2] = x := ⟨_, rfl⟩
    obtain ⟨v1, hv1⟩ : ∃ x, (dg V)[m + 1] = x := ⟨_, rfl⟩
    obtain ⟨v2, hv2⟩ : ∃ x, (dg V)[m] = x := ⟨_, rfl⟩
    rw [hx0, hx1, hx2, hv1, hv2] at T
    rw [hx0] at b0
    rw [hx1] at b1
    rw [hx2] at b2
    rw [hv1] at hv1B
    rw [hv2] at hv2B
    obtain ⟨two, htwo⟩ : ∃ two, two = x2 * B + x1 := ⟨_, rfl⟩
    rw [← htwo] at T
    have hv1p := T.v1
    have htB : two < B * B := by rw [htwo]; unfold B at *; omega
    conv => whnf
    refine ⟨by omega, by omega, ?_⟩
    conv => whnf
    refine ⟨i + m + 2, (by omega), (by rw [List.length_map]; omega), ?_⟩
    conv => whnf
    refine ⟨rfl, digR x2, (by rw [get_map (by omega), hx2]), ?_⟩
    conv => whnf
    refine ⟨32, rfl, ?_⟩
    conv => whnf
    refine ⟨by omega, by omega, ?_⟩
    conv => whnf
    refine ⟨by omega, by omega, ?_⟩
    conv => whnf
    refine ⟨i + m + 1, (by omega), (by rw [List.length_map]; omega), ?_⟩
    conv => whnf
    refine ⟨rfl, digR x1, (by rw [get_map (by omega), hx1]), ?_⟩
    conv => whnf
    rw [or6 x2 x1 (by rw [wdig b2, sl6 x2 32 (by decide) (by omega)]; omega) (by rw [wdig b1]) (by omega) (by omega), show 2 ^ 32 * x2 + x1 = two by rw [htwo, Nat.mul_comm x2]; rfl]
    refine ⟨by omega, by omega, ?_⟩
    conv => whnf
    refine ⟨m + 1, digR v1, (by omega), (by rw [get_map (by omega), hv1]), ?_⟩
    conv => whnf
    rw [wdig hv1B, td]
    refine ⟨(by omega), ?_⟩
    conv => whnf
    refine ⟨by omega, by omega, ?_⟩
    conv => whnf
    refine ⟨m + 1, digR v1, (by omega), (by rw [get_map (by omega), hv1]), ?_⟩
    conv => whnf
    rw [wdig hv1B, tm]
    refine ⟨(by omega), ?_⟩
    conv => whnf
    have hq0 : two / v1 < 18446744073709551616 := Nat.lt_of_le_of_lt (Nat.div_le_self _ _) (by unfold B at htB; omega)
    have hr0 : two % v1 < B := Nat.lt_trans (Nat.mod_lt _ hv1p) hv1B
    have hge0 : vl (win u i (m + 3)) / V ≤ two / v1 := T.first (Nat.div_mul_le_self _ _)
    refine ⟨0, LoopG.intro (fun (⟨q, r⟩ : Nat × Nat) => ⟨[(8, iv n), (9, .os 0), (10, nv V), (11, iv (m + 2 : Nat)), (12, .os 1), (13, iv i), (15, u6 q), (16, u6 r)], [.arr 112 (u.map digR), .arr 112 (o.map digR)]⟩) (fun (⟨q, r⟩ : Nat × Nat) => two = q * v1 + r ∧ vl (win u i (m + 3)) / V ≤ q ∧ r < B ∧ q < 18446744073709551616) (fun (⟨q, _⟩ : Nat × Nat) => q) ((two / v1, two % v1)) (by exact ⟨by rw [Nat.mul_comm]; exact (Nat.div_add_mod _ _).symm, hge0, hr0, hq0⟩) ?_ ?_⟩
    · refine ⟨[some 0, some 1], by decide, rfl, ?_, ?_⟩
      · repeat' (first | exact trivial | exact ⟨_, rfl, rfl⟩ | exact ⟨_, rfl, Or.inl rfl⟩ | exact ⟨_, rfl, Or.inr ⟨rfl, rfl⟩⟩ | exact ⟨_, rfl, _, rfl⟩ | exact ⟨_, rfl⟩ | refine And.intro ?_ ?_ | (refine ⟨_, rfl, congrArg (fun z => some (SV.p (PV.int _ z))) ?_⟩; (rw [wu6n, Nat.mod_eq_of_lt hq0])))
      · repeat' (first | exact trivial | exact ⟨_, rfl, rfl⟩ | exact ⟨_, rfl, Or.inl rfl⟩ | exact ⟨_, rfl, Or.inr ⟨rfl, rfl⟩⟩ | exact ⟨_, rfl, _, rfl⟩ | exact ⟨_, rfl⟩ | refine And.intro ?_ ?_ | (refine ⟨_, rfl, congrArg (fun z => some (SV.p (PV.int _ z))) ?_⟩; (rw [wu6n, Nat.mod_eq_of_lt hq0])))
    rintro ⟨q, r⟩ ⟨hqr, hge, hrB, hq64⟩
    conv => whnf
    refine ⟨fun hqB0 => ?_, fun hqB0 => ?_⟩
    · have htest : B ≤ q ∨ r * B + x0 < q * v2 := .inl (by unfold B; omega)
      conv => whnf
      have hless : vl (win u i (m + 3)) / V < q := T.less hqr htest
      have hq1' : 1 ≤ q := Nat.lt_of_le_of_lt (Nat.zero_le _) hless
      rw [show IntKind.u64.wrap ((q : Int) - 1) = ((q - 1 : Nat) : Int) by rw [wu6]; omega]
      refine ⟨by omega, by omega, ?_⟩
      conv => whnf
      refine ⟨m + 1, digR v1, (by omega), (by rw [get_map (by omega), hv1]), ?_⟩
      conv => whnf
      rw [wdig hv1B, show IntKind.u64.wrap ((r : Int) + (v1 : Int)) = ((r + v1 : Nat) : Int) by rw [wu6]; omega]
      have hqr2 : two = (q - 1) * v1 + (r + v1) := by
        obtain ⟨k, rfl⟩ : ∃ k, q = k + 1 := ⟨q - 1, by omega⟩
        rw [hqr, Nat.add_sub_cancel, Nat.succ_mul]; omega
      refine ⟨fun hbr => ?_, fun hbr => ?_⟩
      · conv => whnf
        have hfin := T.last hqr2 (.inr (by omega))
        have hge : vl (win u i (m + 3)) / V ≤ q - 1 := by omega
        obtain ⟨qf, hqf⟩ : ∃ qf, qf = q - 1 := ⟨_, rfl⟩
        rw [← hqf] at hfin hge ⊢
        obtain ⟨hqB, hq1⟩ := hfin
        refine ⟨by omega, by omega, ?_⟩
        conv => whnf
        refine ⟨by omega, by omega, ?_⟩
        conv => whnf
        refine ⟨i, rfl, ?_⟩
        conv => whnf
        refine ⟨i + m + 3, (by omega), (by omega), (by rw [List.length_map]; omega), ?_⟩
        conv => whnf
        refine lendS [] [.blk 0] _ _ _ (take308 u (dg V) i (i + m + 3 - i) qf hud (dg_Dg V) (by omega) (by omega) (by omega) hqB) ?_
        conv => whnf
        refine ⟨?_, ?_, rfl, ?_⟩
        · repeat' (first | exact trivial | exact rfl | refine And.intro ?_ ?_)
        · repeat' (first | exact trivial | exact rfl | refine And.intro ?_ ?_)
        rintro _ _ ⟨u1, c, ⟨rfl, rfl⟩, hu1l, hu1d, hc2, hsame1, hval1⟩
        conv => whnf
        rw [hn3] at hval1 hsame1
        rw [show i + (m + 3) = i + m + 3 by omega] at hsame1
        rw [vl_dg] at hval1
        have hW1 := vl_lt (win_Dg hu1d i (m + 3))
        rw [win_len (by omega)] at hW1
        obtain ⟨t1, t2⟩ := take_last hV0 hge hq1 hval1 hW1 hc2
        by_cases hc0 : c = 0
        · obtain ⟨t3, t4⟩ := t1 hc0
          rw [decide_eq_true hc0]
          conv => whnf
          refine ⟨i, rfl, (by simpa using hio), ?_⟩
          conv => whnf
          refine ⟨rfl, _, get_map hio, rfl, Nat.le_refl _, ?_⟩
          conv => whnf
          refine ⟨by omega, by omega, ?_⟩
          conv => whnf
          obtain ⟨d1, d2⟩ := digit_done (k := m + 3) hV0 rfl hu1l (by omega) hsame1 hud hd0 rfl t4 t3 hX hio ho0
          refine ⟨(i, u1, o.set i qf), ⟨by omega, by omega, hu1d, by simpa using hol, hod.set hqB _, fun p hp hpl => ?_, d1, d2⟩, by show i < i + 1; omega, ?_⟩
          · rw [List.getElem?_set, if_neg (by omega)]
            exact hoz p (by omega) (by simpa using hpl)
          · refine ⟨[some 0, some 1], by decide, rfl, ?_, ?_⟩
            · repeat' (first | exact trivial | exact ⟨_, rfl, rfl⟩ | exact ⟨_, rfl, Or.inl rfl⟩ | exact ⟨_, rfl, Or.inr ⟨rfl, rfl⟩⟩ | exact ⟨_, rfl, _, rfl⟩ | exact ⟨_, rfl⟩ | refine And.intro ?_ ?_ | (refine ⟨_, rfl, congrArg (fun z => some (Blk.arr _ z)) ?_⟩; exact set_dig (by rw [lo3, Nat.mod_eq_of_lt hqB])) | (refine ⟨_, rfl, congrArg (fun z => some (SV.p (PV.sl _ z))) ?_⟩; exact set_dig (by rw [lo3, Nat.mod_eq_of_lt hqB])) | (refine ⟨_, rfl, Or.inl (congrArg (fun z => some (SV.p (PV.sl _ z))) ?_)⟩; exact set_dig (by rw [lo3, Nat.mod_eq_of_lt hqB])) | (refine ⟨_, rfl, Or.inr ⟨rfl, ?_⟩⟩; exact set_dig (by rw [lo3, Nat.mod_eq_of_lt hqB])))
            · repeat' (first | exact trivial | exact ⟨_, rfl, rfl⟩ | exact ⟨_, rfl, Or.inl rfl⟩ | exact ⟨_, rfl, Or.inr ⟨rfl, rfl⟩⟩ | exact ⟨_, rfl, _, rfl⟩ | exact ⟨_, rfl⟩ | refine And.intro ?_ ?_ | (refine ⟨_, rfl, congrArg (fun z => some (Blk.arr _ z)) ?_⟩; exact set_dig (by rw [lo3, Nat.mod_eq_of_lt hqB])) | (refine ⟨_, rfl, congrArg (fun z => some (SV.p (PV.sl _ z))) ?_⟩; exact set_dig (by rw [lo3, Nat.mod_eq_of_lt hqB])) | (refine ⟨_, rfl, Or.inl (congrArg (fun z => some (SV.p (PV.sl _ z))) ?_)⟩; exact set_dig (by rw [lo3, Nat.mod_eq_of_lt hqB])) | (refine ⟨_, rfl, Or.inr ⟨rfl, ?_⟩⟩; exact set_dig (by rw [lo3, Nat.mod_eq_of_lt hqB])))
        · obtain ⟨t3, t4⟩ := t2 hc0
          have hqf1 : 1 ≤ qf := by rw [t3]; exact Nat.le_add_left _ _
          rw [decide_eq_false hc0]
          conv => whnf
          have hqd : qf - 1 < B := by omega
          rw [show IntKind.u64.wrap ((qf : Int) - 1) = ((qf - 1 : Nat) : Int) by rw [wu6]; omega]
          refine ⟨by omega, by omega, ?_⟩
          conv => whnf
          refine ⟨by omega, by omega, ?_⟩
          conv => whnf
          refine ⟨i, rfl, ?_⟩
          conv => whnf
          refine ⟨i + m + 3, (by omega), (by omega), (by rw [List.length_map]; omega), ?_⟩
          conv => whnf
          refine lendS [] [.blk 0] _ _ _ (give309 u1 (dg V) i (i + m + 3 - i) hu1d (dg_Dg V) (by omega) (by omega) (by omega)) ?_
          conv => whnf
          refine ⟨?_, ?_, rfl, ?_⟩
          · repeat' (first | exact trivial | exact rfl | refine And.intro ?_ ?_)
          · repeat' (first | exact trivial | exact rfl | refine And.intro ?_ ?_)
          rintro _ _ ⟨u2, c', ⟨rfl, rfl⟩, hu2l, hu2d, hsame2, hval2⟩
          conv => whnf
          rw [hn3] at hval2 hsame2
          rw [show i + (m + 3) = i + m + 3 by omega] at hsame2
          rw [vl_dg] at hval2
          have hW2 := vl_lt (win_Dg hu2d i (m + 3))
          rw [win_len (by omega)] at hW2
          have hVB : V < B ^ (m + 3) := dg_len.1 (by omega)
          have t5 := give_last t4 hval2 hW2 (Nat.lt_trans (Nat.mod_lt _ hV0) hVB)
          refine ⟨i, rfl, (by simpa using hio), ?_⟩
          conv => whnf
          refine ⟨rfl, _, get_map hio, rfl, Nat.le_refl _, ?_⟩
          conv => whnf
          refine ⟨by omega, by omega, ?_⟩
          conv => whnf
          obtain ⟨d1, d2⟩ := digit_done (k := m + 3) (qt := qf - 1) hV0 rfl (by omega : u2.length = u.length) (by omega) (fun p hp => (hsame2 p hp).trans (hsame1 p hp)) hud hd0 rfl t5 (by omega) hX hio ho0
          refine ⟨(i, u2, o.set i (qf - 1)), ⟨by omega, by omega, hu2d, by simpa using hol, hod.set hqd _, fun p hp hpl => ?_, d1, d2⟩, by show i < i + 1; omega, ?_⟩
          · rw [List.getElem?_set, if_neg (by omega)]
            exact hoz p (by omega) (by simpa using hpl)
          · refine ⟨[some 0, some 1], by decide, rfl, ?_, ?_⟩
            · repeat' (first | exact trivial | exact ⟨_, rfl, rfl⟩ | exact ⟨_, rfl, Or.inl rfl⟩ | exact ⟨_, rfl, Or.inr ⟨rfl, rfl⟩⟩ | exact ⟨_, rfl, _, rfl⟩ | exact ⟨_, rfl⟩ | refine And.intro ?_ ?_ | (refine ⟨_, rfl, congrArg (fun z => some (Blk.arr _ z)) ?_⟩; exact set_dig (by rw [lo3, Nat.mod_eq_of_lt hqd])) | (refine ⟨_, rfl, congrArg (fun z => some (SV.p (PV.sl _ z))) ?_⟩; exact set_dig (by rw [lo3, Nat.mod_eq_of_lt hqd])) | (refine ⟨_, rfl, Or.inl (congrArg (fun z => some (SV.p (PV.sl _ z))) ?_)⟩; exact set_dig (by rw [lo3, Nat.mod_eq_of_lt hqd])) | (refine ⟨_, rfl, Or.inr ⟨rfl, ?_⟩⟩; exact set_dig (by rw [lo3, Nat.mod_eq_of_lt hqd])))
            · repeat' (first | exact trivial | exact ⟨_, rfl, rfl⟩ | exact ⟨_, rfl, Or.inl rfl⟩ | exact ⟨_, rfl, Or.inr ⟨rfl, rfl⟩⟩ | exact ⟨_, rfl, _, rfl⟩ | exact ⟨_, rfl⟩ | refine And.intro ?_ ?_ | (refine ⟨_, rfl, congrArg (fun z => some (Blk.arr _ z)) ?_⟩; exact set_dig (by rw [lo3, Nat.mod_eq_of_lt hqd])) | (refine ⟨_, rfl, congrArg (fun z => some (SV.p (PV.sl _ z))) ?_⟩; exact set_dig (by rw [lo3, Nat.mod_eq_of_lt hqd])) | (refine ⟨_, rfl, Or.inl (congrArg (fun z => some (SV.p (PV.sl _ z))) ?_)⟩; exact set_dig (by rw [lo3, Nat.mod_eq_of_lt hqd])) | (refine ⟨_, rfl, Or.inr ⟨rfl, ?_⟩⟩; exact set_dig (by rw [lo3, Nat.mod_eq_of_lt hqd])))
      · conv => whnf
        refine ⟨(q - 1, r + v1), ⟨hqr2, by omega, by omega, by omega⟩, by show q - 1 < q; omega, ?_⟩
        refine ⟨[some 0, some 1], by decide, rfl, ?_, ?_⟩
        · repeat' (first | exact trivial | exact ⟨_, rfl, rfl⟩ | exact ⟨_, rfl, Or.inl rfl⟩ | exact ⟨_, rfl, Or.inr ⟨rfl, rfl⟩⟩ | exact ⟨_, rfl, _, rfl⟩ | exact ⟨_, rfl⟩ | refine And.intro ?_ ?_)
        · repeat' (first | exact trivial | exact ⟨_, rfl, rfl⟩ | exact ⟨_, rfl, Or.inl rfl⟩ | exact ⟨_, rfl, Or.inr ⟨rfl, rfl⟩⟩ | exact ⟨_, rfl, _, rfl⟩ | exact ⟨_, rfl⟩ | refine And.intro ?_ ?_)
    · have hqB1 : q < B := by unfold B; omega
      conv => whnf
      refine ⟨by omega, by omega, ?_⟩
      conv => whnf
      refine ⟨m, digR v2, (by omega), (by rw [get_map (by omega), hv2]), ?_⟩
      conv => whnf
      refine ⟨32, rfl, ?_⟩
      conv => whnf
      refine ⟨by omega, by omega, ?_⟩
      conv => whnf
      refine ⟨by omega, by omega, ?_⟩
      conv => whnf
      refine ⟨i + m, (by omega), (by rw [List.length_map]; omega), ?_⟩
      conv => whnf
      refine ⟨rfl, digR x0, (by rw [get_map (by omega), hx0]), ?_⟩
      conv => whnf
      have hqv : q * v2 < 18446744073709551616 := by
        have := Nat.mul_le_mul (show q ≤ B - 1 by omega) (show v2 ≤ B - 1 by omega)
        unfold B at *; omega
      rw [or6 r x0 (by rw [sl6 r 32 (by decide) (by unfold B at *; omega)]; omega) (by rw [wdig b0]) (by unfold B at *; omega) (by unfold B at *; omega), wdig hv2B, ← Int.natCast_mul, wu6n, Nat.mod_eq_of_lt hqv, show 2 ^ 32 * r + x0 = r * B + x0 by rw [Nat.mul_comm r]; rfl]
      refine ⟨fun htst => ?_, fun htst => ?_⟩
      · have htest : B ≤ q ∨ r * B + x0 < q * v2 := .inr (by omega)
        conv => whnf
        have hless : vl (win u i (m + 3)) / V < q := T.less hqr htest
        have hq1' : 1 ≤ q := Nat.lt_of_le_of_lt (Nat.zero_le _) hless
        rw [show IntKind.u64.wrap ((q : Int) - 1) = ((q - 1 : Nat) : Int) by rw [wu6]; omega]
        refine ⟨by omega, by omega, ?_⟩
        conv => whnf
        refine ⟨m + 1, digR v1, (by omega), (by rw [get_map (by omega), hv1]), ?_⟩
        conv => whnf
        rw [wdig hv1B, show IntKind.u64.wrap ((r : Int) + (v1 : Int)) = ((r + v1 : Nat) : Int) by rw [wu6]; omega]
        have hqr2 : two = (q - 1) * v1 + (r + v1) := by
          obtain ⟨k, rfl⟩ : ∃ k, q = k + 1 := ⟨q - 1, by omega⟩
          rw [hqr, Nat.add_sub_cancel, Nat.succ_mul]; omega
        refine ⟨fun hbr => ?_, fun hbr => ?_⟩
        · conv => whnf
          have hfin := T.last hqr2 (.inr (by omega))
          have hge : vl (win u i (m + 3)) / V ≤ q - 1 := by omega
          obtain ⟨qf, hqf⟩ : ∃ qf, qf = q - 1 := ⟨_, rfl⟩
          rw [← hqf] at hfin hge ⊢
          obtain ⟨hqB, hq1⟩ := hfin
          refine ⟨by omega, by omega, ?_⟩
          conv => whnf
          refine ⟨by omega, by omega, ?_⟩
          conv => whnf
          refine ⟨i, rfl, ?_⟩
          conv => whnf
          refine ⟨i + m + 3, (by omega), (by omega), (by rw [List.length_map]; omega), ?_⟩
          conv => whnf
          refine lendS [] [.blk 0] _ _ _ (take308 u (dg V) i (i + m + 3 - i) qf hud (dg_Dg V) (by omega) (by omega) (by omega) hqB) ?_
          conv => whnf
          refine ⟨?_, ?_, rfl, ?_⟩
          · repeat' (first | exact trivial | exact rfl | refine And.intro ?_ ?_)
          · repeat' (first | exact trivial | exact rfl | refine And.intro ?_ ?_)
          rintro _ _ ⟨u1, c, ⟨rfl, rfl⟩, hu1l, hu1d, hc2, hsame1, hval1⟩
          conv => whnf
          rw [hn3] at hval1 hsame1
          rw [show i + (m + 3) = i + m + 3 by omega] at hsame1
          rw [vl_dg] at hval1
          have hW1 := vl_lt (win_Dg hu1d i (m + 3))
          rw [win_len (by omega)] at hW1
          obtain ⟨t1, t2⟩ := take_last hV0 hge hq1 hval1 hW1 hc2
          by_cases hc0 : c = 0
          · obtain ⟨t3, t4⟩ := t1 hc0
            rw [decide_eq_true hc0]
            conv => whnf
            refine ⟨i, rfl, (by simpa using hio), ?_⟩
            conv => whnf
            refine ⟨rfl, _, get_map hio, rfl, Nat.le_refl _, ?_⟩
            conv => whnf
            refine ⟨by omega, by omega, ?_⟩
            conv => whnf
            obtain ⟨d1, d2⟩ := digit_done (k := m + 3) hV0 rfl hu1l (by omega) hsame1 hud hd0 rfl t4 t3 hX hio ho0
            refine ⟨(i, u1, o.set i qf), ⟨by omega, by omega, hu1d, by simpa using hol, hod.set hqB _, fun p hp hpl => ?_, d1, d2⟩, by show i < i + 1; omega, ?_⟩
            · rw [List.getElem?_set, if_neg (by omega)]
              exact hoz p (by omega) (by simpa using hpl)
            · refine ⟨[some 0, some 1], by decide, rfl, ?_, ?_⟩
              · repeat' (first | exact trivial | exact ⟨_, rfl, rfl⟩ | exact ⟨_, rfl, Or.inl rfl⟩ | exact ⟨_, rfl, Or.inr ⟨rfl, rfl⟩⟩ | exact ⟨_, rfl, _, rfl⟩ | exact ⟨_, rfl⟩ | refine And.intro ?_ ?_ | (refine ⟨_, rfl, congrArg (fun z => some (Blk.arr _ z)) ?_⟩; exact set_dig (by rw [lo3, Nat.mod_eq_of_lt hqB])) | (refine ⟨_, rfl, congrArg (fun z => some (SV.p (PV.sl _ z))) ?_⟩; exact set_dig (by rw [lo3, Nat.mod_eq_of_lt hqB])) | (refine ⟨_, rfl, Or.inl (congrArg (fun z => some (SV.p (PV.sl _ z))) ?_)⟩; exact set_dig (by rw [lo3, Nat.mod_eq_of_lt hqB])) | (refine ⟨_, rfl, Or.inr ⟨rfl, ?_⟩⟩; exact set_dig (by rw [lo3, Nat.mod_eq_of_lt hqB])))
              · repeat' (first | exact trivial | exact ⟨_, rfl, rfl⟩ | exact ⟨_, rfl, Or.inl rfl⟩ | exact ⟨_, rfl, Or.inr ⟨rfl, rfl⟩⟩ | exact ⟨_, rfl, _, rfl⟩ | exact ⟨_, rfl⟩ | refine And.intro ?_ ?_ | (refine ⟨_, rfl, congrArg (fun z => some (Blk.arr _ z)) ?_⟩; exact set_dig (by rw [lo3, Nat.mod_eq_of_lt hqB])) | (refine ⟨_, rfl, congrArg (fun z => some (SV.p (PV.sl _ z))) ?_⟩; exact set_dig (by rw [lo3, Nat.mod_eq_of_lt hqB])) | (refine ⟨_, rfl, Or.inl (congrArg (fun z => some (SV.p (PV.sl _ z))) ?_)⟩; exact set_dig (by rw [lo3, Nat.mod_eq_of_lt hqB])) | (refine ⟨_, rfl, Or.inr ⟨rfl, ?_⟩⟩; exact set_dig (by rw [lo3, Nat.mod_eq_of_lt hqB])))
          · obtain ⟨t3, t4⟩ := t2 hc0
            have hqf1 : 1 ≤ qf := by rw [t3]; exact Nat.le_add_left _ _
            rw [decide_eq_false hc0]
            conv => whnf
            have hqd : qf - 1 < B := by omega
            rw [show IntKind.u64.wrap ((qf : Int) - 1) = ((qf - 1 : Nat) : Int) by rw [wu6]; omega]
            refine ⟨by omega, by omega, ?_⟩
            conv => whnf
            refine ⟨by omega, by omega, ?_⟩
            conv => whnf
            refine ⟨i, rfl, ?_⟩
            conv => whnf
            refine ⟨i + m + 3, (by omega), (by omega), (by rw [List.length_map]; omega), ?_⟩
            conv => whnf
            refine lendS [] [.blk 0] _ _ _ (give309 u1 (dg V) i (i + m + 3 - i) hu1d (dg_Dg V) (by omega) (by omega) (by omega)) ?_
            conv => whnf
            refine ⟨?_, ?_, rfl, ?_⟩
            · repeat' (first | exact trivial | exact rfl | refine And.intro ?_ ?_)
            · repeat' (first | exact trivial | exact rfl | refine And.intro ?_ ?_)
            rintro _ _ ⟨u2, c', ⟨rfl, rfl⟩, hu2l, hu2d, hsame2, hval2⟩
            conv => whnf
            rw [hn3] at hval2 hsame2
            rw [show i + (m + 3) = i + m + 3 by omega] at hsame2
            rw [vl_dg] at hval2
            have hW2 := vl_lt (win_Dg hu2d i (m + 3))
            rw [win_len (by omega)] at hW2
            have hVB : V < B ^ (m + 3) := dg_len.1 (by omega)
            have t5 := give_last t4 hval2 hW2 (Nat.lt_trans (Nat.mod_lt _ hV0) hVB)
            refine ⟨i, rfl, (by simpa using hio), ?_⟩
            conv => whnf
            refine ⟨rfl, _, get_map hio, rfl, Nat.le_refl _, ?_⟩
            conv => whnf
            refine ⟨by omega, by omega, ?_⟩
            conv => whnf
            obtain ⟨d1, d2⟩ := digit_done (k := m + 3) (qt := qf - 1) hV0 rfl (by omega : u2.length = u.length) (by omega) (fun p hp => (hsame2 p hp).trans (hsame1 p hp)) hud hd0 rfl t5 (by omega) hX hio ho0
            refine ⟨(i, u2, o.set i (qf - 1)), ⟨by omega, by omega, hu2d, by simpa using hol, hod.set hqd _, fun p hp hpl => ?_, d1, d2⟩, by show i < i + 1; omega, ?_⟩
            · rw [List.getElem?_set, if_neg (by omega)]
              exact hoz p (by omega) (by simpa using hpl)
            · refine ⟨[some 0, some 1], by decide, rfl, ?_, ?_⟩
              · repeat' (first | exact trivial | exact ⟨_, rfl, rfl⟩ | exact ⟨_, rfl, Or.inl rfl⟩ | exact ⟨_, rfl, Or.inr ⟨rfl, rfl⟩⟩ | exact ⟨_, rfl, _, rfl⟩ | exact ⟨_, rfl⟩ | refine And.intro ?_ ?_ | (refine ⟨_, rfl, congrArg (fun z => some (Blk.arr _ z)) ?_⟩; exact set_dig (by rw [lo3, Nat.mod_eq_of_lt hqd])) | (refine ⟨_, rfl, congrArg (fun z => some (SV.p (PV.sl _ z))) ?_⟩; exact set_dig (by rw [lo3, Nat.mod_eq_of_lt hqd])) | (refine ⟨_, rfl, Or.inl (congrArg (fun z => some (SV.p (PV.sl _ z))) ?_)⟩; exact set_dig (by rw [lo3, Nat.mod_eq_of_lt hqd])) | (refine ⟨_, rfl, Or.inr ⟨rfl, ?_⟩⟩; exact set_dig (by rw [lo3, Nat.mod_eq_of_lt hqd])))
              · repeat' (first | exact trivial | exact ⟨_, rfl, rfl⟩ | exact ⟨_, rfl, Or.inl rfl⟩ | exact ⟨_, rfl, Or.inr ⟨rfl, rfl⟩⟩ | exact ⟨_, rfl, _, rfl⟩ | exact ⟨_, rfl⟩ | refine And.intro ?_ ?_ | (refine ⟨_, rfl, congrArg (fun z => some (Blk.arr _ z)) ?_⟩; exact set_dig (by rw [lo3, Nat.mod_eq_of_lt hqd])) | (refine ⟨_, rfl, congrArg (fun z => some (SV.p (PV.sl _ z))) ?_⟩; exact set_dig (by rw [lo3, Nat.mod_eq_of_lt hqd])) | (refine ⟨_, rfl, Or.inl (congrArg (fun z => some (SV.p (PV.sl _ z))) ?_)⟩; exact set_dig (by rw [lo3, Nat.mod_eq_of_lt hqd])) | (refine ⟨_, rfl, Or.inr ⟨rfl, ?_⟩⟩; exact set_dig (by rw [lo3, Nat.mod_eq_of_lt hqd])))
        · conv => whnf
          refine ⟨(q - 1, r + v1), ⟨hqr2, by omega, by omega, by omega⟩, by show q - 1 < q; omega, ?_⟩
          refine ⟨[some 0, some 1], by decide, rfl, ?_, ?_⟩
          · repeat' (first | exact trivial | exact ⟨_, rfl, rfl⟩ | exact ⟨_, rfl, Or.inl rfl⟩ | exact ⟨_, rfl, Or.inr ⟨rfl, rfl⟩⟩ | exact ⟨_, rfl, _, rfl⟩ | exact ⟨_, rfl⟩ | refine And.intro ?_ ?_)
          · repeat' (first | exact trivial | exact ⟨_, rfl, rfl⟩ | exact ⟨_, rfl, Or.inl rfl⟩ | exact ⟨_, rfl, Or.inr ⟨rfl, rfl⟩⟩ | exact ⟨_, rfl, _, rfl⟩ | exact ⟨_, rfl⟩ | refine And.intro ?_ ?_)
      · conv => whnf
        have hfin := T.last hqr (.inl ⟨hqB1, by omega⟩)
        obtain ⟨qf, hqf⟩ : ∃ qf, qf = q := ⟨_, rfl⟩
        rw [← hqf] at hfin hge ⊢
        obtain ⟨hqB, hq1⟩ := hfin
        refine ⟨by omega, by omega, ?_⟩
        conv => whnf
        refine ⟨by omega, by omega, ?_⟩
        conv => whnf
        refine ⟨i, rfl, ?_⟩
        conv => whnf
        refine ⟨i + m + 3, (by omega), (by omega), (by rw [List.length_map]; omega), ?_⟩
        conv => whnf
        refine lendS [] [.blk 0] _ _ _ (take308 u (dg V) i (i + m + 3 - i) qf hud (dg_Dg V) (by omega) (by omega) (by omega) hqB) ?_
        conv => whnf
        refine ⟨?_, ?_, rfl, ?_⟩
        · repeat' (first | exact trivial | exact rfl | refine And.intro ?_ ?_)
        · repeat' (first | exact trivial | exact rfl | refine And.intro ?_ ?_)
        rintro _ _ ⟨u1, c, ⟨rfl, rfl⟩, hu1l, hu1d, hc2, hsame1, hval1⟩
        conv => whnf
        rw [hn3] at hval1 hsame1
        rw [show i + (m + 3) = i + m + 3 by omega] at hsame1
        rw [vl_dg] at hval1
        have hW1 := vl_lt (win_Dg hu1d i (m + 3))
        rw [win_len (by omega)] at hW1
        obtain ⟨t1, t2⟩ := take_last hV0 hge hq1 hval1 hW1 hc2
        by_cases hc0 : c = 0
        · obtain ⟨t3, t4⟩ := t1 hc0
          rw [decide_eq_true hc0]
          conv => whnf
          refine ⟨i, rfl, (by simpa using hio), ?_⟩
          conv => whnf
          refine ⟨rfl, _, get_map hio, rfl, Nat.le_refl _, ?_⟩
          conv => whnf
          refine ⟨by omega, by omega, ?_⟩
          conv => whnf
          obtain ⟨d1, d2⟩ := digit_done (k := m + 3) hV0 rfl hu1l (by omega) hsame1 hud hd0 rfl t4 t3 hX hio ho0
          refine ⟨(i, u1, o.set i qf), ⟨by omega, by omega, hu1d, by simpa using hol, hod.set hqB _, fun p hp hpl => ?_, d1, d2⟩, by show i < i + 1; omega, ?_⟩
          · rw [List.getElem?_set, if_neg (by omega)]
            exact hoz p (by omega) (by simpa using hpl)
          · refine ⟨[some 0, some 1], by decide, rfl, ?_, ?_⟩
            · repeat' (first | exact trivial | exact ⟨_, rfl, rfl⟩ | exact ⟨_, rfl, Or.inl rfl⟩ | exact ⟨_, rfl, Or.inr ⟨rfl, rfl⟩⟩ | exact ⟨_, rfl, _, rfl⟩ | exact ⟨_, rfl⟩ | refine And.intro ?_ ?_ | (refine ⟨_, rfl, congrArg (fun z => some (Blk.arr _ z)) ?_⟩; exact set_dig (by rw [lo3, Nat.mod_eq_of_lt hqB])) | (refine ⟨_, rfl, congrArg (fun z => some (SV.p (PV.sl _ z))) ?_⟩; exact set_dig (by rw [lo3, Nat.mod_eq_of_lt hqB])) | (refine ⟨_, rfl, Or.inl (congrArg (fun z => some (SV.p (PV.sl _ z))) ?_)⟩; exact set_dig (by rw [lo3, Nat.mod_eq_of_lt hqB])) | (refine ⟨_, rfl, Or.inr ⟨rfl, ?_⟩⟩; exact set_dig (by rw [lo3, Nat.mod_eq_of_lt hqB])))
            · repeat' (first | exact trivial | exact ⟨_, rfl, rfl⟩ | exact ⟨_, rfl, Or.inl rfl⟩ | exact ⟨_, rfl, Or.inr ⟨rfl, rfl⟩⟩ | exact ⟨_, rfl, _, rfl⟩ | exact ⟨_, rfl⟩ | refine And.intro ?_ ?_ | (refine ⟨_, rfl, congrArg (fun z => some (Blk.arr _ z)) ?_⟩; exact set_dig (by rw [lo3, Nat.mod_eq_of_lt hqB])) | (refine ⟨_, rfl, congrArg (fun z => some (SV.p (PV.sl _ z))) ?_⟩; exact set_dig (by rw [lo3, Nat.mod_eq_of_lt hqB])) | (refine ⟨_, rfl, Or.inl (congrArg (fun z => some (SV.p (PV.sl _ z))) ?_)⟩; exact set_dig (by rw [lo3, Nat.mod_eq_of_lt hqB])) | (refine ⟨_, rfl, Or.inr ⟨rfl, ?_⟩⟩; exact set_dig (by rw [lo3, Nat.mod_eq_of_lt hqB])))
        · obtain ⟨t3, t4⟩ := t2 hc0
          have hqf1 : 1 ≤ qf := by rw [t3]; exact Nat.le_add_left _ _
          rw [decide_eq_false hc0]
          conv => whnf
          have hqd : qf - 1 < B := by omega
          rw [show IntKind.u64.wrap ((qf : Int) - 1) = ((qf - 1 : Nat) : Int) by rw [wu6]; omega]
          refine ⟨by omega, by omega, ?_⟩
          conv => whnf
          refine ⟨by omega, by omega, ?_⟩
          conv => whnf
          refine ⟨i, rfl, ?_⟩
          conv => whnf
          refine ⟨i + m + 3, (by omega), (by omega), (by rw [List.length_map]; omega), ?_⟩
          conv => whnf
          refine lendS [] [.blk 0] _ _ _ (give309 u1 (dg V) i (i + m + 3 - i) hu1d (dg_Dg V) (by omega) (by omega) (by omega)) ?_
          conv => whnf
          refine ⟨?_, ?_, rfl, ?_⟩
          · repeat' (first | exact trivial | exact rfl | refine And.intro ?_ ?_)
          · repeat' (first | exact trivial | exact rfl | refine And.intro ?_ ?_)
          rintro _ _ ⟨u2, c', ⟨rfl, rfl⟩, hu2l, hu2d, hsame2, hval2⟩
          conv => whnf
          rw [hn3] at hval2 hsame2
          rw [show i + (m + 3) = i + m + 3 by omega] at hsame2
          rw [vl_dg] at hval2
          have hW2 := vl_lt (win_Dg hu2d i (m + 3))
          rw [win_len (by omega)] at hW2
          have hVB : V < B ^ (m + 3) := dg_len.1 (by omega)
          have t5 := give_last t4 hval2 hW2 (Nat.lt_trans (Nat.mod_lt _ hV0) hVB)
          refine ⟨i, rfl, (by simpa using hio), ?_⟩
          conv => whnf
          refine ⟨rfl, _, get_map hio, rfl, Nat.le_refl _, ?_⟩
          conv => whnf
          refine ⟨by omega, by omega, ?_⟩
          conv => whnf
          obtain ⟨d1, d2⟩ := digit_done (k := m + 3) (qt := qf - 1) hV0 rfl (by omega : u2.length = u.length) (by omega) (fun p hp => (hsame2 p hp).trans (hsame1 p hp)) hud hd0 rfl t5 (by omega) hX hio ho0
          refine ⟨(i, u2, o.set i (qf - 1)), ⟨by omega, by omega, hu2d, by simpa using hol, hod.set hqd _, fun p hp hpl => ?_, d1, d2⟩, by show i < i + 1; omega, ?_⟩
          · rw [List.getElem?_set, if_neg (by omega)]
            exact hoz p (by omega) (by simpa using hpl)
          · refine ⟨[some 0, some 1], by decide, rfl, ?_, ?_⟩
            · repeat' (first | exact trivial | exact ⟨_, rfl, rfl⟩ | exact ⟨_, rfl, Or.inl rfl⟩ | exact ⟨_, rfl, Or.inr ⟨rfl, rfl⟩⟩ | exact ⟨_, rfl, _, rfl⟩ | exact ⟨_, rfl⟩ | refine And.intro ?_ ?_ | (refine ⟨_, rfl, congrArg (fun z => some (Blk.arr _ z)) ?_⟩; exact set_dig (by rw [lo3, Nat.mod_eq_of_lt hqd])) | (refine ⟨_, rfl, congrArg (fun z => some (SV.p (PV.sl _ z))) ?_⟩; exact set_dig (by rw [lo3, Nat.mod_eq_of_lt hqd])) | (refine ⟨_, rfl, Or.inl (congrArg (fun z => some (SV.p (PV.sl _ z))) ?_)⟩; exact set_dig (by rw [lo3, Nat.mod_eq_of_lt hqd])) | (refine ⟨_, rfl, Or.inr ⟨rfl, ?_⟩⟩; exact set_dig (by rw [lo3, Nat.mod_eq_of_lt hqd])))
            · repeat' (first | exact trivial | exact ⟨_, rfl, rfl⟩ | exact ⟨_, rfl, Or.inl rfl⟩ | exact ⟨_, rfl, Or.inr ⟨rfl, rfl⟩⟩ | exact ⟨_, rfl, _, rfl⟩ | exact ⟨_, rfl⟩ | refine And.intro ?_ ?_ | (refine ⟨_, rfl, congrArg (fun z => some (Blk.arr _ z)) ?_⟩; exact set_dig (by rw [lo3, Nat.mod_eq_of_lt hqd])) | (refine ⟨_, rfl, congrArg (fun z => some (SV.p (PV.sl _ z))) ?_⟩; exact set_dig (by rw [lo3, Nat.mod_eq_of_lt hqd])) | (refine ⟨_, rfl, Or.inl (congrArg (fun z => some (SV.p (PV.sl _ z))) ?_)⟩; exact set_dig (by rw [lo3, Nat.mod_eq_of_lt hqd])) | (refine ⟨_, rfl, Or.inr ⟨rfl, ?_⟩⟩; exact set_dig (by rw [lo3, Nat.mod_eq_of_lt hqd])))
  · conv => whnf
    obtain rfl : j = 0 := by omega
    rw [Nat.pow_zero, Nat.mul_one] at hlt
    refine CallG.pure (trim256 o hod (by omega)) rfl ?_
    conv => whnf
    refine ⟨rfl, ?_⟩
    rintro _ _ rfl
    refine ⟨rfl, ?_⟩
    conv => whnf
    refine CallG.pure (trim256 u hud (by omega)) rfl ?_
    conv => whnf
    refine ⟨rfl, ?_⟩
    rintro _ _ rfl
    refine ⟨rfl, ?_⟩
    conv => whnf
    have hul2 : (dg (vl u)).length < 20000 := by
      have h1 : vl u < B ^ u.length := vl_lt hud
      have := dg_len.2 h1
      omega
    refine CallG.pure (right310 (dg (vl u)) n (dg_Dg _) hul2 hn32) rfl ?_
    conv => whnf
    refine ⟨rfl, ?_⟩
    rintro _ _ rfl
    refine ⟨rfl, ?_⟩
    conv => whnf
    have h1 : a * 2 ^ n / V = vl o := by rw [hX, Nat.add_mul_div_left _ _ hV0, Nat.div_eq_of_lt hlt, Nat.zero_add]
    have h2 : a * 2 ^ n % V = vl u := by rw [hX, Nat.add_mul_mod_self_left, Nat.mod_eq_of_lt hlt]
    have hp := Nat.pow_pos (n := n) (show 0 < 2 by decide)
    rw [hVd, Nat.mul_div_mul_right _ _ hp] at h1
    rw [hVd, Nat.mul_mod_mul_right] at h2
    exact ⟨rfl, by rw [vl_dg, ← h2, Nat.mul_div_cancel _ hp, ← h1]; rfl⟩
end Go.Sx.Tz
end
section
namespace Go.Sx.Tz
open Go Go.Ev Go.Ev.Tz Go.Sx Go.Proofs
set_option maxHeartbeats 4000000
attribute [local irreducible] CallG LoopG
theorem gcd198 (a b : Nat) (la : (dg a).length < 10000) (lb : (dg b).length < 10000) : P 198 [] [nv a, nv b] (fun _ r => r = nv (Nat.gcd a b)) := by
  refine PC.of_pure good ok198 rfl ?_
  conv => whnf
  refine ⟨0, LoopG.intro (fun (⟨x, y⟩ : Nat × Nat) => ⟨[(0, nv x), (1, nv y)], []⟩) (fun ⟨x, y⟩ => (dg x).length < 10000 ∧ (dg y).length < 10000 ∧ Nat.gcd x y = Nat.gcd a b) (fun ⟨x, y⟩ => y) ((a, b)) (⟨la, lb, rfl⟩) ?_ ?_⟩
  · refine ⟨[], by decide, rfl, ?_, ?_⟩
    · repeat' (first | exact trivial | exact ⟨_, rfl, rfl⟩ | exact ⟨_, rfl, Or.inl rfl⟩ | exact ⟨_, rfl, Or.inr ⟨rfl, rfl⟩⟩ | exact ⟨_, rfl, _, rfl⟩ | exact ⟨_, rfl⟩ | refine And.intro ?_ ?_)
    · repeat' (first | exact trivial | exact ⟨_, rfl, rfl⟩ | exact ⟨_, rfl, Or.inl rfl⟩ | exact ⟨_, rfl, Or.inr ⟨rfl, rfl⟩⟩ | exact ⟨_, rfl, _, rfl⟩ | exact ⟨_, rfl⟩ | refine And.intro ?_ ?_)
  rintro ⟨x, y⟩ ⟨h1, h2, h3⟩
  conv => whnf
  refine ⟨fun h => ?_, fun h => ?_⟩
  · have hy0 : 0 < y := pos_len.1 h
    conv => whnf
    refine CallG.pure (div255 x y h1 h2 hy0) rfl ?_
    conv => whnf
    refine ⟨rfl, ?_⟩
    rintro _ _ rfl
    refine ⟨rfl, ?_⟩
    conv => whnf
    refine ⟨(y, x % y), ⟨h2, ?_, ?_⟩, Nat.mod_lt _ hy0, ?_⟩
    · exact Nat.lt_of_le_of_lt (len_le (Nat.le_of_lt (Nat.mod_lt x hy0))) h2
    · rw [← h3, Nat.gcd_comm x y, Nat.gcd_rec y x, Nat.gcd_comm]
    · refine ⟨[], by decide, rfl, ?_, ?_⟩
      · repeat' (first | exact trivial | exact ⟨_, rfl, rfl⟩ | exact ⟨_, rfl, Or.inl rfl⟩ | exact ⟨_, rfl, Or.inr ⟨rfl, rfl⟩⟩ | exact ⟨_, rfl, _, rfl⟩ | exact ⟨_, rfl⟩ | refine And.intro ?_ ?_)
      · repeat' (first | exact trivial | exact ⟨_, rfl, rfl⟩ | exact ⟨_, rfl, Or.inl rfl⟩ | exact ⟨_, rfl, Or.inr ⟨rfl, rfl⟩⟩ | exact ⟨_, rfl, _, rfl⟩ | exact ⟨_, rfl⟩ | refine And.intro ?_ ?_)
  · conv => whnf
    refine CallG.pure (Clone103 (dg x) (by omega)) rfl ?_
    conv => whnf
    refine ⟨rfl, ?_⟩
    rintro _ _ rfl
    refine ⟨rfl, ?_⟩
    conv => whnf
    exact ⟨rfl, by
      have : y = 0 := dg_len_pos.1 (by simp at h; simp [h])
      subst this
      rw [← h3, Nat.gcd_zero_right]; rfl⟩
theorem Gcd134 (a b : Nat) (la : (dg a).length ≤ 512) (lb : (dg b).length ≤ 512) : P 134 [] [nv a, nv b] (fun _ r => r = .tu [nv (Nat.gcd a b), iv 0]) := by
  refine PC.of_pure good ok134 rfl ?_
  conv => whnf
  refine CallG.pure (form2 a b la lb) rfl ?_
  conv => whnf
  refine ⟨rfl, ?_⟩
  rintro _ _ rfl
  refine ⟨rfl, ?_⟩
  conv => whnf
  refine ⟨fun _ => ?_, fun h => absurd rfl h⟩
  conv => whnf
  refine CallG.pure (gcd198 a b (by omega) (by omega)) rfl ?_
  conv => whnf
  refine ⟨rfl, ?_⟩
  rintro _ _ rfl
  refine ⟨rfl, ?_⟩
  conv => whnf
  exact ⟨rfl, rfl⟩
theorem Div199 (a b : Nat) (la : (dg a).length ≤ 512) (lb : (dg b).length ≤ 512) (hb : 0 < b) : P 199 [] [nv a, nv b] (fun _ r => r = .tu [nv (a / b), nv (a % b), iv 0]) := by
  refine PC.of_pure good ok199 rfl ?_
  conv => whnf
  refine CallG.pure (form2 a b la lb) rfl ?_
  conv => whnf
  refine ⟨rfl, ?_⟩
  rintro _ _ rfl
  refine ⟨rfl, ?_⟩
  conv => whnf
  refine ⟨fun _ => ?_, fun h => absurd rfl h⟩
  conv => whnf
  refine ⟨fun h => ?_, fun h => ?_⟩
  · exact absurd (zero_len.1 h) (by omega)
  · conv => whnf
    refine CallG.pure (div255 a b (by omega) (by omega) hb) rfl ?_
    conv => whnf
    refine ⟨rfl, ?_⟩
    rintro _ _ rfl
    refine ⟨rfl, ?_⟩
    conv => whnf
    exact ⟨rfl, rfl⟩
theorem Mul138 (a b : Nat) (la : (dg a).length ≤ 512) (lb : (dg b).length ≤ 512) : P 138 [] [nv a, nv b] (fun _ r => r = .tu [nv (a * b), iv 0]) := by
  refine PC.of_pure good ok138 rfl ?_
  conv => whnf
  refine CallG.pure (form2 a b la lb) rfl ?_
  conv => whnf
  refine ⟨rfl, ?_⟩
  rintro _ _ rfl
  refine ⟨rfl, ?_⟩
  conv => whnf
  refine ⟨fun _ => ?_, fun h => absurd rfl h⟩
  conv => whnf
  refine CallG.pure (mul200 (dg a) (dg b) (dg_Dg a) (dg_Dg b) (by omega) (by omega)) rfl ?_
  conv => whnf
  refine ⟨rfl, ?_⟩
  rintro _ _ rfl
  refine ⟨rfl, ?_⟩
  conv => whnf
  exact ⟨rfl, by rw [vl_dg, vl_dg]; rfl⟩
theorem quotient136 (neg : Bool) (n d : Nat) (hn : (dg n).length ≤ 512) (hd : (dg d).length ≤ 512) : P 136 [] [.agp [.bool neg, encN (dg n)], nv d] (fun _ r => r = .agp (encR (quo neg n d))) := by
  refine PC.of_pure good ok136 rfl ?_
  conv => whnf
  refine ⟨fun h => ?_, fun h => ?_⟩
  · have := zero_len.1 h
    subst this
    conv => whnf
    refine CallG.pure (fault174 11) rfl ?_
    conv => whnf
    refine ⟨rfl, ?_⟩
    rintro _ _ rfl
    refine ⟨rfl, ?_⟩
    conv => whnf
    exact ⟨rfl, rfl⟩
  · have hq : ¬ d = 0 := fun e => h (zero_len.2 e)
    have hd0 : 0 < d := by omega
    have hg0 : 0 < Nat.gcd n d := Nat.gcd_pos_of_pos_right _ hd0
    have hgl : (dg (Nat.gcd n d)).length ≤ 512 := Nat.le_trans (len_le (Nat.gcd_le_right n hd0)) hd
    conv => whnf
    refine CallG.pure (Gcd134 n d hn hd) rfl ?_
    conv => whnf
    refine ⟨rfl, ?_⟩
    rintro _ _ rfl
    refine ⟨rfl, ?_⟩
    conv => whnf
    refine CallG.pure (natural137 (dg (Nat.gcd n d)) 0) rfl ?_
    conv => whnf
    refine ⟨rfl, ?_⟩
    rintro _ _ rfl
    refine ⟨rfl, ?_⟩
    conv => whnf
    refine CallG.pure (Div199 n (Nat.gcd n d) hn hgl hg0) rfl ?_
    conv => whnf
    refine ⟨rfl, ?_⟩
    rintro _ _ rfl
    refine ⟨rfl, ?_⟩
    conv => whnf
    refine CallG.pure (Div199 d (Nat.gcd n d) hd hgl hg0) rfl ?_
    conv => whnf
    refine ⟨rfl, ?_⟩
    rintro _ _ rfl
    refine ⟨rfl, ?_⟩
    conv => whnf
    have hl1 : (dg (n / Nat.gcd n d)).length ≤ 512 := Nat.le_trans (len_le (Nat.div_le_self _ _)) hn
    have hl2 : (dg (d / Nat.gcd n d)).length ≤ 512 := Nat.le_trans (len_le (Nat.div_le_self _ _)) hd
    refine CallG.pure (long133 (n / Nat.gcd n d) hl1) rfl ?_
    conv => whnf
    refine ⟨rfl, ?_⟩
    rintro _ _ rfl
    refine ⟨rfl, ?_⟩
    conv => whnf
    by_cases hb1 : 4096 < bl (n / Nat.gcd n d)
    · rw [decide_eq_true hb1]
      conv => whnf
      refine CallG.pure (fault174 4) rfl ?_
      conv => whnf
      refine ⟨rfl, ?_⟩
      rintro _ _ rfl
      refine ⟨rfl, ?_⟩
      conv => whnf
      exact ⟨rfl, by unfold quo; rw [if_neg hq, if_pos (.inl hb1)]; rfl⟩
    · rw [decide_eq_false hb1]
      conv => whnf
      refine CallG.pure (long133 (d / Nat.gcd n d) hl2) rfl ?_
      conv => whnf
      refine ⟨rfl, ?_⟩
      rintro _ _ rfl
      refine ⟨rfl, ?_⟩
      conv => whnf
      by_cases hb2 : 4096 < bl (d / Nat.gcd n d)
      · rw [decide_eq_true hb2]
        conv => whnf
        refine CallG.pure (fault174 4) rfl ?_
        conv => whnf
        refine ⟨rfl, ?_⟩
        rintro _ _ rfl
        refine ⟨rfl, ?_⟩
        conv => whnf
        exact ⟨rfl, by unfold quo; rw [if_neg hq, if_pos (.inr hb2)]; rfl⟩
      · rw [decide_eq_false hb2]
        have e : ∀ b, quo b n d = ⟨0, b && decide (0 < n / Nat.gcd n d), dg (n / Nat.gcd n d), dg (d / Nat.gcd n d)⟩ := fun b => by unfold quo; rw [if_neg hq, if_neg (by omega)]
        cases neg with
        | false =>
          conv => whnf
          exact ⟨rfl, by rw [e]; rfl⟩
        | true =>
          conv => whnf
          refine ⟨fun h3 => ?_, fun h3 => ?_⟩
          · conv => whnf
            exact ⟨rfl, by rw [e, decide_eq_true (pos_len.1 h3)]; rfl⟩
          · conv => whnf
            exact ⟨rfl, by rw [e, decide_eq_false (fun q => h3 (pos_len.2 q))]; rfl⟩
def encW (neg : Bool) (n : Nat) : List PV := [.bool neg, encN (dg n)]
theorem of175 (x : RatS) : P 175 [] [.agp (encR x)] (fun _ r => r = .agp [.bool x.neg, encN x.num]) := by
  refine PC.of_pure good ok175 rfl ?_
  conv => whnf
  exact ⟨rfl, rfl⟩
theorem times176 (neg : Bool) (n m : Nat) (ln : (dg n).length ≤ 512) (lm : (dg m).length ≤ 512) : P 176 [] [.agp (encW neg n), nv m] (fun _ r => r = .agp (encW neg (n * m))) := by
  refine PC.of_pure good ok176 rfl ?_
  conv => whnf
  refine CallG.pure (Mul138 n m ln lm) rfl ?_
  conv => whnf
  refine ⟨rfl, ?_⟩
  rintro _ _ rfl
  refine ⟨rfl, ?_⟩
  conv => whnf
  refine CallG.pure (natural137 (dg (n * m)) 0) rfl ?_
  conv => whnf
  refine ⟨rfl, ?_⟩
  rintro _ _ rfl
  refine ⟨rfl, ?_⟩
  conv => whnf
  exact ⟨rfl, rfl⟩
def sgnA (na : Bool) (a : Nat) (nb : Bool) (b : Nat) : Nat := if na = nb then a + b else if a < b then b - a else a - b
def sgnS (na : Bool) (a : Nat) (nb : Bool) (b : Nat) : Bool := if na = nb then na else if a < b then nb else na
theorem cmp_neg {a b : Nat} : cmpN a b < 0 ↔ a < b := by
  unfold cmpN
  split
  · simp [*]
  · split <;> simp <;> omega
theorem plus177 (na : Bool) (a : Nat) (nb : Bool) (b : Nat) (la : (dg a).length ≤ 512) (lb : (dg b).length ≤ 512) : P 177 [] [.agp (encW na a), .agp (encW nb b)] (fun _ r => r = .agp (encW (sgnS na a nb b) (sgnA na a nb b))) := by
  refine PC.of_pure good ok177 rfl ?_
  conv => whnf
  by_cases he : na = nb
  · subst he
    cases na
    all_goals
      conv => whnf
      refine CallG.pure (Add239 a b la lb) rfl ?_
      conv => whnf
      refine ⟨rfl, ?_⟩
      rintro _ _ rfl
      refine ⟨rfl, ?_⟩
      conv => whnf
      refine CallG.pure (natural137 (dg (a + b)) 0) rfl ?_
      conv => whnf
      refine ⟨rfl, ?_⟩
      rintro _ _ rfl
      refine ⟨rfl, ?_⟩
      conv => whnf
      exact ⟨rfl, rfl⟩
  · have hx : (na = true ∧ nb = false) ∨ (na = false ∧ nb = true) := by cases na <;> cases nb <;> simp at he ⊢
    rcases hx with ⟨rfl, rfl⟩ | ⟨rfl, rfl⟩
    all_goals
      conv => whnf
      refine CallG.pure (Compare240 a b la lb) rfl ?_
      conv => whnf
      refine ⟨rfl, ?_⟩
      rintro _ _ rfl
      refine ⟨rfl, ?_⟩
      conv => whnf
      refine ⟨fun h => ?_, fun h => ?_⟩
      · have hlt := cmp_neg.1 h
        conv => whnf
        refine CallG.pure (Sub241 b a lb la (Nat.le_of_lt hlt)) rfl ?_
        conv => whnf
        refine ⟨rfl, ?_⟩
        rintro _ _ rfl
        refine ⟨rfl, ?_⟩
        conv => whnf
        refine CallG.pure (natural137 (dg (b - a)) 0) rfl ?_
        conv => whnf
        refine ⟨rfl, ?_⟩
        rintro _ _ rfl
        refine ⟨rfl, ?_⟩
        conv => whnf
        exact ⟨rfl, by simp only [sgnS, sgnA, if_pos hlt]; rfl⟩
      · have hge : ¬ a < b := fun q => h (cmp_neg.2 q)
        conv => whnf
        refine CallG.pure (Sub241 a b la lb (by omega)) rfl ?_
        conv => whnf
        refine ⟨rfl, ?_⟩
        rintro _ _ rfl
        refine ⟨rfl, ?_⟩
        conv => whnf
        refine CallG.pure (natural137 (dg (a - b)) 0) rfl ?_
        conv => whnf
        refine ⟨rfl, ?_⟩
        rintro _ _ rfl
        refine ⟨rfl, ?_⟩
        conv => whnf
        exact ⟨rfl, by simp only [sgnS, sgnA, if_neg hge]; rfl⟩
end Go.Sx.Tz
end
section
namespace Go.Sx.Tz
open Go Go.Ev Go.Ev.Tz Go.Sx Go.Proofs
set_option maxHeartbeats 4000000
attribute [local irreducible] CallG LoopG
structure Q where
  neg : Bool
  n : Nat
  d : Nat
def Q.lo (q : Q) : Prop := 0 < q.d ∧ Nat.gcd q.n q.d = 1 ∧ (q.neg = true → 0 < q.n)
def Q.sm (q : Q) : Prop := bl q.n ≤ 4096 ∧ bl q.d ≤ 4096
def Q.st (q : Q) : RatS := ⟨0, q.neg, dg q.n, dg q.d⟩
theorem bl_128 {n : Nat} : bl n ≤ 4096 ↔ (dg n).length ≤ 128 := by
  rw [show (4096 : Nat) = 32 * 128 from rfl, bl_le, dg_len, B_pow]
def Chk (neg : Bool) (n d : List Nat) : Prop := formE n = 0 ∧ formE d = 0 ∧ bl (vl n) ≤ 4096 ∧ bl (vl d) ≤ 4096 ∧ 0 < vl d ∧ (neg = true → 0 < vl n) ∧ Nat.gcd (vl n) (vl d) = 1
theorem chk_iff {neg : Bool} {n d : List Nat} (hn : Dg n) (hd : Dg d) : Chk neg n d ↔ ∃ q : Q, q.lo ∧ q.sm ∧ (⟨0, neg, n, d⟩ : RatS) = q.st := by
  constructor
  · rintro ⟨h1, h2, h3, h4, h5, h6, h7⟩
    refine ⟨⟨neg, vl n, vl d⟩, ⟨h5, h7, h6⟩, ⟨h3, h4⟩, ?_⟩
    unfold Q.st
    rw [← (formE_ok hn h1).1, ← (formE_ok hd h2).1]
  · rintro ⟨⟨neg', a, b⟩, ⟨h1, h2, h3⟩, ⟨h4, h5⟩, h⟩
    unfold Q.st at h
    simp only [RatS.mk.injEq, true_and] at h
    obtain ⟨rfl, rfl, rfl⟩ := h
    simp only at h1 h2 h3 h4 h5
    unfold Chk
    rw [vl_dg, vl_dg]
    exact ⟨formE_dg (by have := bl_128.1 h4; omega), formE_dg (by have := bl_128.1 h5; omega), h4, h5, h1, h3, h2⟩
theorem isFault131 (e : Int) : P 131 [] [iv e] (fun _ r => ∃ b, r = bv b) := by
  refine PC.of_pure good ok131 rfl ?_
  conv => whnf
  refine ⟨fun h => ?_, fun h => ?_⟩
  · conv => whnf
    exact ⟨rfl, true, rfl⟩
  · conv => whnf
    refine ⟨fun h2 => ?_, fun h2 => ?_⟩
    all_goals
      conv => whnf
      exact ⟨rfl, _, rfl⟩
theorem IsRat76 (x : RatS) (hn : Dg x.num) (hd : Dg x.den) (ln : x.num.length < 10000) (ld : x.den.length < 10000) : P 76 [] [.agp (encR x)] (fun _ r => ∃ b, r = bv b ∧ (x.fault = 0 → (b = true ↔ ∃ q : Q, q.lo ∧ q.sm ∧ x = q.st))) := by
  obtain ⟨e, neg, n, d⟩ := x
  simp only at hn hd ln ld ⊢
  refine PC.of_pure good ok76 rfl ?_
  conv => whnf
  refine ⟨fun he => ?_, fun he => ?_⟩
  rotate_left
  · conv => whnf
    refine CallG.pure (isFault131 e) rfl ?_
    conv => whnf
    refine ⟨rfl, ?_⟩
    rintro _ _ ⟨b, rfl⟩
    refine ⟨rfl, ?_⟩
    conv => whnf
    cases b
    · conv => whnf
      exact ⟨rfl, false, rfl, fun q => absurd q he⟩
    · conv => whnf
      cases neg
      · conv => whnf
        refine ⟨by omega, by simp; omega, ?_⟩
        conv => whnf
        refine ⟨fun hz => ?_, fun hz => ?_⟩
        all_goals
          conv => whnf
          exact ⟨rfl, _, rfl, fun q => absurd q he⟩
      · conv => whnf
        exact ⟨rfl, false, rfl, fun q => absurd q he⟩
  · have he : e = 0 := he
    subst he
    rw [show (∃ q : Q, q.lo ∧ q.sm ∧ (⟨0, neg, n, d⟩ : RatS) = q.st) = Chk neg n d from propext (chk_iff hn hd).symm]
    conv => whnf
    refine CallG.pure (IsNat132 n hn (by omega)) rfl ?_
    conv => whnf
    refine ⟨rfl, ?_⟩
    rintro _ _ rfl
    refine ⟨rfl, ?_⟩
    conv => whnf
    by_cases f1 : formE n = 0
    rotate_left
    · rw [decide_eq_false f1]
      conv => whnf
      exact ⟨rfl, false, rfl, fun _ => ⟨fun q => (by cases q), fun q => absurd q.1 f1⟩⟩
    rw [decide_eq_true f1]
    conv => whnf
    refine CallG.pure (IsNat132 d hd (by omega)) rfl ?_
    conv => whnf
    refine ⟨rfl, ?_⟩
    rintro _ _ rfl
    refine ⟨rfl, ?_⟩
    conv => whnf
    by_cases f2 : formE d = 0
    rotate_left
    · rw [decide_eq_false f2]
      conv => whnf
      exact ⟨rfl, false, rfl, fun _ => ⟨fun q => (by cases q), fun q => absurd q.2.1 f2⟩⟩
    rw [decide_eq_true f2]
    obtain ⟨e1, l1⟩ := formE_ok hn f1
    obtain ⟨e2, l2⟩ := formE_ok hd f2
    obtain ⟨a, ha⟩ : ∃ a, vl n = a := ⟨_, rfl⟩
    obtain ⟨b, hb⟩ : ∃ b, vl d = b := ⟨_, rfl⟩
    rw [ha] at e1
    rw [hb] at e2
    subst e1 e2
    unfold Chk
    rw [ha, hb]
    conv => whnf
    refine CallG.pure (long133 a l1) rfl ?_
    conv => whnf
    refine ⟨rfl, ?_⟩
    rintro _ _ rfl
    refine ⟨rfl, ?_⟩
    conv => whnf
    by_cases b1 : 4096 < bl a
    · rw [decide_eq_true b1]
      conv => whnf
      exact ⟨rfl, false, rfl, fun _ => ⟨fun q => (by cases q), fun q => absurd q.2.2.1 (by omega)⟩⟩
    rw [decide_eq_false b1]
    conv => whnf
    refine CallG.pure (long133 b l2) rfl ?_
    conv => whnf
    refine ⟨rfl, ?_⟩
    rintro _ _ rfl
    refine ⟨rfl, ?_⟩
    conv => whnf
    by_cases b2 : 4096 < bl b
    · rw [decide_eq_true b2]
      conv => whnf
      exact ⟨rfl, false, rfl, fun _ => ⟨fun q => (by cases q), fun q => absurd q.2.2.2.1 (by omega)⟩⟩
    rw [decide_eq_false b2]
    conv => whnf
    refine ⟨fun z => ?_, fun z => ?_⟩
    · conv => whnf
      exact ⟨rfl, false, rfl, fun _ => ⟨fun q => (by cases q), fun q => absurd q.2.2.2.2.1 (by rw [zero_len.1 z]; decide)⟩⟩
    have hb0 : 0 < b := Nat.pos_of_ne_zero fun q => z (zero_len.2 q)
    have fin : (neg = true → 0 < a) → (formE (dg a) = 0 ∧ formE (dg b) = 0 ∧ bl a ≤ 4096 ∧ bl b ≤ 4096 ∧ 0 < b ∧ (neg = true → 0 < a) ∧ Nat.gcd a b = 1 ↔ Nat.gcd a b = 1) := fun q => ⟨fun p => p.2.2.2.2.2.2, fun p => ⟨f1, f2, by omega, by omega, hb0, q, p⟩⟩
    obtain ⟨g, hg⟩ : ∃ g, Nat.gcd a b = g := ⟨_, rfl⟩
    rw [hg] at fin ⊢
    have hG := Gcd134 a b l1 l2
    rw [hg] at hG
    have g1 : dg g = [1] ↔ g = 1 := ⟨fun q => by rw [← vl_dg g, q]; rfl, fun q => by rw [q, dg_1]⟩
    cases neg
    rotate_left
    · conv => whnf
      refine ⟨fun z2 => ?_, fun z2 => ?_⟩
      · conv => whnf
        exact ⟨rfl, false, rfl, fun _ => ⟨fun q => (by cases q), fun q => absurd (q.2.2.2.2.2.1 rfl) (by rw [zero_len.1 z2]; decide)⟩⟩
      have fin := fin fun _ => Nat.pos_of_ne_zero fun q => z2 (zero_len.2 q)
      conv => whnf
      refine CallG.pure (hG) rfl ?_
      conv => whnf
      refine ⟨rfl, ?_⟩
      rintro _ _ rfl
      refine ⟨rfl, ?_⟩
      conv => whnf
      refine ⟨fun z3 => ?_, fun z3 => ?_⟩
      · have lg : (dg g).length = 1 := by rw [List.length_map] at z3; omega
        obtain ⟨d0, hd0⟩ := List.length_eq_one_iff.1 lg
        conv => whnf
        refine ⟨0, digR d0, rfl, (by rw [hd0]; rfl), ?_⟩
        conv => whnf
        refine ⟨fun z4 => ?_, fun z4 => ?_⟩
        · conv => whnf
          exact ⟨rfl, true, rfl, fun _ => ⟨fun _ => fin.2 (g1.1 (by rw [hd0]; simp; omega)), fun _ => rfl⟩⟩
        · conv => whnf
          exact ⟨rfl, false, rfl, fun _ => ⟨fun q => (by cases q), fun q => absurd (g1.2 (fin.1 q)) (by rw [hd0]; simp; omega)⟩⟩
      · conv => whnf
        exact ⟨rfl, false, rfl, fun _ => ⟨fun q => (by cases q), fun q => absurd (by rw [g1.2 (fin.1 q)]; rfl) z3⟩⟩
    · have fin := fin (fun q => by cases q)
      conv => whnf
      refine CallG.pure (hG) rfl ?_
      conv => whnf
      refine ⟨rfl, ?_⟩
      rintro _ _ rfl
      refine ⟨rfl, ?_⟩
      conv => whnf
      refine ⟨fun z3 => ?_, fun z3 => ?_⟩
      · have lg : (dg g).length = 1 := by rw [List.length_map] at z3; omega
        obtain ⟨d0, hd0⟩ := List.length_eq_one_iff.1 lg
        conv => whnf
        refine ⟨0, digR d0, rfl, (by rw [hd0]; rfl), ?_⟩
        conv => whnf
        refine ⟨fun z4 => ?_, fun z4 => ?_⟩
        · conv => whnf
          exact ⟨rfl, true, rfl, fun _ => ⟨fun _ => fin.2 (g1.1 (by rw [hd0]; simp; omega)), fun _ => rfl⟩⟩
        · conv => whnf
          exact ⟨rfl, false, rfl, fun _ => ⟨fun q => (by cases q), fun q => absurd (g1.2 (fin.1 q)) (by rw [hd0]; simp; omega)⟩⟩
      · conv => whnf
        exact ⟨rfl, false, rfl, fun _ => ⟨fun q => (by cases q), fun q => absurd (by rw [g1.2 (fin.1 q)]; rfl) z3⟩⟩
end Go.Sx.Tz
end
section
namespace Go.Sx.Tz
open Go Go.Ev Go.Ev.Tz Go.Sx Go.Proofs
set_option maxHeartbeats 4000000
attribute [local irreducible] CallG LoopG
def flt : RatS := ⟨4, false, [], []⟩
def Fq : Option Q → RatS
  | none => flt
  | some q => q.st
def Fok (o : Option Q) : Prop := ∀ q, o = some q → q.lo ∧ q.sm
def lowQ (neg : Bool) (n d : Nat) : Q := ⟨neg && decide (0 < n), n / Nat.gcd n d, d / Nat.gcd n d⟩
def fq (q : Q) : Option Q := if 4096 < bl q.n ∨ 4096 < bl q.d then none else some q
theorem lowQ_lo {neg : Bool} {n d : Nat} (hd : 0 < d) : (lowQ neg n d).lo := by
  have hg0 : 0 < Nat.gcd n d := Nat.gcd_pos_of_pos_right _ hd
  refine ⟨Nat.div_pos (Nat.le_of_dvd hd (Nat.gcd_dvd_right n d)) hg0, Nat.gcd_div_gcd_div_gcd_of_pos_right hd, fun h => ?_⟩
  simp [lowQ] at h
  exact Nat.div_pos (Nat.le_of_dvd h.2 (Nat.gcd_dvd_left n d)) hg0
theorem quo_fq {neg : Bool} {n d : Nat} (hd : 0 < d) : quo neg n d = Fq (fq (lowQ neg n d)) := by
  rw [quo_low neg n d hd]
  by_cases h : 4096 < bl (n / Nat.gcd n d) ∨ 4096 < bl (d / Nat.gcd n d)
  · rw [if_pos h, show fq (lowQ neg n d) = none from if_pos h]; rfl
  · rw [if_neg h, show fq (lowQ neg n d) = some (lowQ neg n d) from if_neg h]; rfl
theorem fq_ok {q : Q} (h : q.lo) : Fok (fq q) := by
  intro z hz
  unfold fq at hz
  split at hz
  · cases hz
  · cases hz
    exact ⟨h, by unfold Q.sm; omega⟩
def addQ (a b : Q) : Q := lowQ (sgnS a.neg (a.n * b.d) b.neg (b.n * a.d)) (sgnA a.neg (a.n * b.d) b.neg (b.n * a.d)) (a.d * b.d)
def mulQ (a b : Q) : Q := lowQ (a.neg != b.neg) (a.n * b.n) (a.d * b.d)
theorem addQ_lo {a b : Q} (ha : a.lo) (hb : b.lo) : (addQ a b).lo := lowQ_lo (Nat.mul_pos ha.1 hb.1)
theorem mulQ_lo {a b : Q} (ha : a.lo) (hb : b.lo) : (mulQ a b).lo := lowQ_lo (Nat.mul_pos ha.1 hb.1)
theorem len_mul (a b : Nat) : (dg (a * b)).length ≤ (dg a).length + (dg b).length := by
  rw [dg_len, Nat.pow_add]
  cases Nat.eq_zero_or_pos a with
  | inl h => subst h; simp; exact Nat.mul_pos (Nat.pow_pos (by decide)) (Nat.pow_pos (by decide))
  | inr h => exact Nat.mul_lt_mul_of_lt_of_le (dg_len.1 (Nat.le_refl _)) (Nat.le_of_lt (dg_len.1 (Nat.le_refl _))) (Nat.pow_pos (by decide))
theorem len_mul' {a b k l : Nat} (h1 : (dg a).length ≤ k) (h2 : (dg b).length ≤ l) : (dg (a * b)).length ≤ k + l := Nat.le_trans (len_mul a b) (by omega)
theorem len_sgnA {na nb : Bool} {a b k : Nat} (h1 : (dg a).length ≤ k) (h2 : (dg b).length ≤ k) : (dg (sgnA na a nb b)).length ≤ k + 1 := by
  have : sgnA na a nb b ≤ a + b := by unfold sgnA; split <;> (try split) <;> omega
  refine Nat.le_trans (len_le this) ?_
  rw [dg_len] at h1 h2 ⊢
  rw [Nat.pow_succ, show B = 4294967296 from rfl] at *
  omega
theorem least173 (a b : Int) (ha : a = 0 ∨ a = 4) (hb : b = 0 ∨ b = 4) : P 173 [] [.p (.sl 24 [[.int .i64 a], [.int .i64 b]])] (fun _ r => r = iv (if a = 4 ∨ b = 4 then 4 else 0)) := by
  rcases ha with rfl | rfl <;> rcases hb with rfl | rfl
  all_goals
    refine PC.of_pure good ok173 rfl ?_
    conv => whnf
    refine ⟨3, ?_⟩
    conv => whnf
    repeat
      first
        | exact ⟨rfl, rfl⟩
        | refine ⟨fun _ => ?_, fun h => absurd (by decide) h⟩
        | refine ⟨fun h => absurd h (by decide), fun _ => ?_⟩
        | refine ⟨by decide, by decide, ?_⟩
        | refine ⟨0, _, rfl, rfl, ?_⟩
        | refine ⟨1, _, rfl, rfl, ?_⟩
      try (conv => whnf)
theorem sum113 (a b : Q) (ha : a.lo) (hb : b.lo) (sa : a.sm) (sb : b.sm) : P 113 [] [.agp (encR a.st), .agp (encR b.st)] (fun _ r => r = .agp (encR (Fq (fq (addQ a b))))) := by
  have h1 := bl_128.1 sa.1
  have h2 := bl_128.1 sa.2
  have h3 := bl_128.1 sb.1
  have h4 := bl_128.1 sb.2
  have l1 := len_mul' h1 h4
  have l2 := len_mul' h3 h2
  have l3 := len_mul' h2 h4
  have l4 := @len_sgnA a.neg b.neg _ _ _ l1 l2
  refine PC.of_pure good ok113 rfl ?_
  conv => whnf
  refine CallG.pure (of175 a.st) rfl ?_
  conv => whnf
  refine ⟨rfl, ?_⟩
  rintro _ _ rfl
  refine ⟨rfl, ?_⟩
  conv => whnf
  refine CallG.pure (times176 a.neg a.n b.d (by omega) (by omega)) rfl ?_
  conv => whnf
  refine ⟨rfl, ?_⟩
  rintro _ _ rfl
  refine ⟨rfl, ?_⟩
  conv => whnf
  refine CallG.pure (of175 b.st) rfl ?_
  conv => whnf
  refine ⟨rfl, ?_⟩
  rintro _ _ rfl
  refine ⟨rfl, ?_⟩
  conv => whnf
  refine CallG.pure (times176 b.neg b.n a.d (by omega) (by omega)) rfl ?_
  conv => whnf
  refine ⟨rfl, ?_⟩
  rintro _ _ rfl
  refine ⟨rfl, ?_⟩
  conv => whnf
  refine CallG.pure (plus177 a.neg (a.n * b.d) b.neg (b.n * a.d) (by omega) (by omega)) rfl ?_
  conv => whnf
  refine ⟨rfl, ?_⟩
  rintro _ _ rfl
  refine ⟨rfl, ?_⟩
  conv => whnf
  refine CallG.pure (Mul138 a.d b.d (by omega) (by omega)) rfl ?_
  conv => whnf
  refine ⟨rfl, ?_⟩
  rintro _ _ rfl
  refine ⟨rfl, ?_⟩
  conv => whnf
  refine CallG.pure (natural137 (dg (a.d * b.d)) 0) rfl ?_
  conv => whnf
  refine ⟨rfl, ?_⟩
  rintro _ _ rfl
  refine ⟨rfl, ?_⟩
  conv => whnf
  refine CallG.pure (quotient136 (sgnS a.neg (a.n * b.d) b.neg (b.n * a.d)) (sgnA a.neg (a.n * b.d) b.neg (b.n * a.d)) (a.d * b.d) (by omega) (by omega)) rfl ?_
  conv => whnf
  refine ⟨rfl, ?_⟩
  rintro _ _ rfl
  refine ⟨rfl, ?_⟩
  conv => whnf
  exact ⟨rfl, by rw [quo_fq (Nat.mul_pos ha.1 hb.1)]; rfl⟩
theorem prod135 (a b : Q) (ha : a.lo) (hb : b.lo) (sa : a.sm) (sb : b.sm) : P 135 [] [.agp (encR a.st), .agp (encR b.st)] (fun _ r => r = .agp (encR (Fq (fq (mulQ a b))))) := by
  have h1 := bl_128.1 sa.1
  have h2 := bl_128.1 sa.2
  have h3 := bl_128.1 sb.1
  have h4 := bl_128.1 sb.2
  have l1 := len_mul' h1 h3
  have l3 := len_mul' h2 h4
  have e : ∀ t, t = (a.neg != b.neg) → P 136 [] [.agp [.bool t, encN (dg (a.n * b.n))], nv (a.d * b.d)] (fun _ r => r = .agp (encR (Fq (fq (mulQ a b))))) := fun t ht => by
    subst ht
    have := quotient136 (a.neg != b.neg) (a.n * b.n) (a.d * b.d) (by omega) (by omega)
    rw [quo_fq (Nat.mul_pos ha.1 hb.1)] at this
    exact this
  obtain ⟨na, an, ad⟩ := a
  obtain ⟨nb, bn, bd⟩ := b
  simp only at h1 h2 h3 h4
  refine PC.of_pure good ok135 rfl ?_
  conv => whnf
  cases na <;> cases nb
  all_goals
    conv => whnf
    refine CallG.pure (Mul138 an bn (by omega) (by omega)) rfl ?_
    conv => whnf
    refine ⟨rfl, ?_⟩
    rintro _ _ rfl
    refine ⟨rfl, ?_⟩
    conv => whnf
    refine CallG.pure (natural137 (dg (an * bn)) 0) rfl ?_
    conv => whnf
    refine ⟨rfl, ?_⟩
    rintro _ _ rfl
    refine ⟨rfl, ?_⟩
    conv => whnf
    refine CallG.pure (Mul138 ad bd (by omega) (by omega)) rfl ?_
    conv => whnf
    refine ⟨rfl, ?_⟩
    rintro _ _ rfl
    refine ⟨rfl, ?_⟩
    conv => whnf
    refine CallG.pure (natural137 (dg (ad * bd)) 0) rfl ?_
    conv => whnf
    refine ⟨rfl, ?_⟩
    rintro _ _ rfl
    refine ⟨rfl, ?_⟩
    conv => whnf
    refine CallG.pure (e _ rfl) rfl ?_
    conv => whnf
    refine ⟨rfl, ?_⟩
    rintro _ _ rfl
    refine ⟨rfl, ?_⟩
    conv => whnf
    exact ⟨rfl, rfl⟩
theorem isFault4 : P 131 [] [iv 4] (fun _ r => r = bv true) := by
  refine PC.of_pure good ok131 rfl ?_
  conv => whnf
  refine ⟨fun _ => ?_, fun h => absurd rfl h⟩
  conv => whnf
  exact ⟨rfl, rfl⟩
theorem isRatF : P 76 [] [.agp (encR flt)] (fun _ r => r = bv true) := by
  refine PC.of_pure good ok76 rfl ?_
  conv => whnf
  refine ⟨fun h => absurd h (by decide), fun _ => ?_⟩
  conv => whnf
  refine CallG.pure (isFault4) rfl ?_
  conv => whnf
  refine ⟨rfl, ?_⟩
  rintro _ _ rfl
  refine ⟨rfl, ?_⟩
  conv => whnf
  refine ⟨by decide, by decide, ?_⟩
  conv => whnf
  refine ⟨fun _ => ?_, fun h => absurd rfl h⟩
  conv => whnf
  exact ⟨rfl, rfl⟩
def Clo (f : Nat) (op : Q → Q → Q) : Prop := (f = 113 ∧ op = addQ) ∨ (f = 135 ∧ op = mulQ)
def fop (op : Q → Q → Q) : Option Q → Option Q → Option Q
  | some a, some b => fq (op a b)
  | _, _ => none
theorem clo_lo {f : Nat} {op : Q → Q → Q} (hf : Clo f op) {a b : Q} (ha : a.lo) (hb : b.lo) : (op a b).lo := by
  rcases hf with ⟨_, rfl⟩ | ⟨_, rfl⟩
  · exact addQ_lo ha hb
  · exact mulQ_lo ha hb
theorem fop_ok {f : Nat} {op : Q → Q → Q} (hf : Clo f op) {a b : Option Q} (ha : Fok a) (hb : Fok b) : Fok (fop op a b) := by
  cases a with
  | none => intro q h; cases h
  | some a =>
    cases b with
    | none => intro q h; cases h
    | some b => exact fq_ok (clo_lo hf (ha a rfl).1 (hb b rfl).1)
theorem isRatQ (o : Option Q) (h : Fok o) : P 76 [] [.agp (encR (Fq o))] (fun _ r => r = bv true) := by
  cases o with
  | none => exact isRatF
  | some q =>
    obtain ⟨h1, h2⟩ := h q rfl
    have l1 := bl_128.1 h2.1
    have l2 := bl_128.1 h2.2
    refine PC.mono (IsRat76 q.st (dg_Dg _) (dg_Dg _) (by show (dg q.n).length < _; omega) (by show (dg q.d).length < _; omega)) ?_
    rintro _ _ ⟨b, rfl, hb⟩
    rw [(hb rfl).2 ⟨q, h1, h2, rfl⟩]
theorem clo (f : Nat) (op : Q → Q → Q) (hf : Clo f op) (a b : Q) (ha : a.lo ∧ a.sm) (hb : b.lo ∧ b.sm) : P f [] [.agp (encR a.st), .agp (encR b.st)] (fun _ r => r = .agp (encR (Fq (fq (op a b))))) := by
  rcases hf with ⟨rfl, rfl⟩ | ⟨rfl, rfl⟩
  · exact sum113 a b ha.1 hb.1 ha.2 hb.2
  · exact prod135 a b ha.1 hb.1 ha.2 hb.2
theorem made112 (f : Nat) (op : Q → Q → Q) (hf : Clo f op) (a b : Option Q) (ha : Fok a) (hb : Fok b) : P 112 [] [.agp (encR (Fq a)), .agp (encR (Fq b)), .fn f []] (fun _ r => r = .tu [.agp (encR (Fq (fop op a b))), iv 0]) := by
  refine PC.of_pure good ok112 rfl ?_
  conv => whnf
  refine CallG.pure (isRatQ a ha) rfl ?_
  conv => whnf
  refine ⟨rfl, ?_⟩
  rintro _ _ rfl
  refine ⟨rfl, ?_⟩
  conv => whnf
  refine CallG.pure (isRatQ b hb) rfl ?_
  conv => whnf
  refine ⟨rfl, ?_⟩
  rintro _ _ rfl
  refine ⟨rfl, ?_⟩
  conv => whnf
  refine CallG.pure (least173 (Fq a).fault (Fq b).fault (by cases a; exact .inr rfl; exact .inl rfl) (by cases b; exact .inr rfl; exact .inl rfl)) rfl ?_
  conv => whnf
  refine ⟨rfl, ?_⟩
  rintro _ _ rfl
  refine ⟨rfl, ?_⟩
  conv => whnf
  cases a with
  | none =>
    rw [if_pos (.inl rfl)]
    conv => whnf
    refine ⟨fun h => absurd h (by decide), fun _ => ?_⟩
    conv => whnf
    refine CallG.pure (fault174 4) rfl ?_
    conv => whnf
    refine ⟨rfl, ?_⟩
    rintro _ _ rfl
    refine ⟨rfl, ?_⟩
    conv => whnf
    exact ⟨rfl, rfl⟩
  | some a =>
    cases b with
    | none =>
      rw [if_pos (.inr rfl)]
      conv => whnf
      refine ⟨fun h => absurd h (by decide), fun _ => ?_⟩
      conv => whnf
      refine CallG.pure (fault174 4) rfl ?_
      conv => whnf
      refine ⟨rfl, ?_⟩
      rintro _ _ rfl
      refine ⟨rfl, ?_⟩
      conv => whnf
      exact ⟨rfl, rfl⟩
    | some b =>
      rw [if_neg (show ¬ ((Fq (some a)).fault = 4 ∨ (Fq (some b)).fault = 4) from fun h => by rcases h with h | h <;> exact absurd (show (0 : Int) = 4 from h) (by decide))]
      conv => whnf
      refine ⟨fun _ => ?_, fun h => absurd rfl h⟩
      conv => whnf
      refine CallG.pure (clo f op hf a b (ha a rfl) (hb b rfl)) rfl ?_
      conv => whnf
      refine ⟨rfl, ?_⟩
      rintro _ _ rfl
      refine ⟨rfl, ?_⟩
      conv => whnf
      exact ⟨rfl, rfl⟩
theorem Add60 (a b : Option Q) (ha : Fok a) (hb : Fok b) : P 60 [] [.agp (encR (Fq a)), .agp (encR (Fq b))] (fun _ r => r = .tu [.agp (encR (Fq (fop addQ a b))), iv 0]) := by
  refine PC.of_pure good ok60 rfl ?_
  conv => whnf
  refine CallG.pure (made112 113 addQ (.inl ⟨rfl, rfl⟩) a b ha hb) rfl ?_
  conv => whnf
  refine ⟨rfl, ?_⟩
  rintro _ _ rfl
  refine ⟨rfl, ?_⟩
  conv => whnf
  exact ⟨rfl, rfl⟩
theorem Mul78 (a b : Option Q) (ha : Fok a) (hb : Fok b) : P 78 [] [.agp (encR (Fq a)), .agp (encR (Fq b))] (fun _ r => r = .tu [.agp (encR (Fq (fop mulQ a b))), iv 0]) := by
  refine PC.of_pure good ok78 rfl ?_
  conv => whnf
  refine CallG.pure (made112 135 mulQ (.inr ⟨rfl, rfl⟩) a b ha hb) rfl ?_
  conv => whnf
  refine ⟨rfl, ?_⟩
  rintro _ _ rfl
  refine ⟨rfl, ?_⟩
  conv => whnf
  exact ⟨rfl, rfl⟩
theorem rat77 (x : RatS) (e : Int) : P 77 [] [.agp (encR x), iv e] (fun _ r => r = .agp (encR x)) := by
  refine PC.of_pure good ok77 rfl ?_
  conv => whnf
  exact ⟨rfl, rfl⟩
theorem whole71 (n : Int) (h1 : -9223372036854775808 ≤ n) (h2 : n < 9223372036854775808) : P 71 [] [iv n] (fun _ r => r = .agp (encR (wh n))) := by
  refine PC.of_pure good ok71 rfl ?_
  conv => whnf
  refine CallG.pure (Of129w n h1 h2) rfl ?_
  conv => whnf
  refine ⟨rfl, ?_⟩
  rintro _ _ rfl
  refine ⟨rfl, ?_⟩
  conv => whnf
  refine CallG.pure (rat77 (wh n) 0) rfl ?_
  conv => whnf
  refine ⟨rfl, ?_⟩
  rintro _ _ rfl
  refine ⟨rfl, ?_⟩
  conv => whnf
  exact ⟨rfl, rfl⟩
end Go.Sx.Tz
end
end

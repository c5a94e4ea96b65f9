/- Part of the proof that whatever the two series: JetSums answers true -/
import Derived.Test.YtcnmkdpnbaidgaaGreatDoorT17
import Derived.Test.YtcnmkdpnbaidgaaGreatDoorT16
set_option linter.all false
noncomputable section
section
namespace Go.Sx.Tz
open Go Go.Ev Go.Ev.Tz Go.Sx Go.Proofs
set_option maxHeartbeats 4000000
attribute [local irreducible] CallG LoopG
def Num (x : RatS) : Prop := Dg x.num ∧ Dg x.den ∧ x.num.length < 10000 ∧ x.den.length < 10000
def Okx (x : RatS) : Prop := ∃ q : Q, q.lo ∧ q.sm ∧ x = q.st
noncomputable def okx (x : RatS) : Bool := @decide (Okx x) (Classical.propDecidable _)
theorem okx_t {x : RatS} : okx x = true ↔ Okx x := @decide_eq_true_iff _ (Classical.propDecidable _)
theorem okx_f {x : RatS} : okx x = false ↔ ¬ Okx x := @decide_eq_false_iff_not _ (Classical.propDecidable _)
theorem bad111 (x : RatS) (h : Num x) : P 111 [] [.agp (encR x)] (fun _ r => r = bv (!okx x)) := by
  refine PC.of_pure good ok111 rfl ?_
  conv => whnf
  refine CallG.pure (IsRat76 x h.1 h.2.1 h.2.2.1 h.2.2.2) rfl ?_
  conv => whnf
  refine ⟨rfl, ?_⟩
  rintro _ _ ⟨b, rfl, hb⟩
  refine ⟨rfl, ?_⟩
  conv => whnf
  cases b with
  | false =>
    conv => whnf
    exact ⟨rfl, by
      have : ¬ Okx x := fun ⟨q, h1, h2, h3⟩ => by
        have := (hb (by rw [h3]; rfl)).2 ⟨q, h1, h2, h3⟩
        cases this
      rw [okx_f.2 this]; rfl⟩
  | true =>
    conv => whnf
    refine ⟨fun he => ?_, fun he => ?_⟩
    · conv => whnf
      exact ⟨rfl, by rw [okx_t.2 ((hb he).1 rfl)]; rfl⟩
    · conv => whnf
      exact ⟨rfl, by
        have : ¬ Okx x := fun ⟨q, h1, h2, h3⟩ => he (by rw [h3]; rfl)
        rw [okx_f.2 this]; rfl⟩
theorem Index172 (l : List RatS) (hd : l.length < 1000) (hl : ∀ x ∈ l, Num x) : P 172 [] [.p (encRs l), .fn 111 []] (fun _ r => ∃ n : Int, r = iv n ∧ (0 ≤ n ↔ l.all okx = false)) := by
  refine PC.of_pure good ok172 rfl (R := fun r => ∃ n : Int, r = iv n ∧ (0 ≤ n ↔ l.all okx = false)) ?_
  conv => whnf
  refine ⟨0, LoopG.intro (fun i : Nat => ⟨[(0, .p (encRs l)), (1, .fn 111 []), (7, iv l.length), (8, iv i)], []⟩) (fun i => i ≤ l.length ∧ ∀ k (hk : k < l.length), k < i → okx l[k] = true) (fun i => l.length - i) (0) (⟨by omega, by omega⟩) ?_ ?_⟩
  · rw [show iv l.length = iv (l.map encR).length by simp]
    refine ⟨[], by decide, rfl, ?_, ?_⟩
    · repeat' (first | exact trivial | exact ⟨_, rfl, rfl⟩ | exact ⟨_, rfl, Or.inl rfl⟩ | exact ⟨_, rfl, Or.inr ⟨rfl, rfl⟩⟩ | exact ⟨_, rfl, _, rfl⟩ | exact ⟨_, rfl⟩ | refine And.intro ?_ ?_)
    · repeat' (first | exact trivial | exact ⟨_, rfl, rfl⟩ | exact ⟨_, rfl, Or.inl rfl⟩ | exact ⟨_, rfl, Or.inr ⟨rfl, rfl⟩⟩ | exact ⟨_, rfl, _, rfl⟩ | exact ⟨_, rfl⟩ | refine And.intro ?_ ?_)
  intro i hi
  conv => whnf
  refine ⟨fun h => ?_, fun h => ?_⟩
  · conv => whnf
    have hil : i < l.length := by simpa using h
    refine ⟨i, _, rfl, get_map hil, ?_⟩
    conv => whnf
    refine CallG.pure (bad111 l[i] (hl _ (List.getElem_mem hil))) rfl ?_
    conv => whnf
    refine ⟨rfl, ?_⟩
    rintro _ _ rfl
    refine ⟨rfl, ?_⟩
    conv => whnf
    cases hb : okx l[i] with
    | false =>
      conv => whnf
      exact ⟨rfl, i, rfl, by simp; exact ⟨_, List.getElem_mem hil, hb⟩⟩
    | true =>
      conv => whnf
      refine ⟨by omega, by omega, ?_⟩
      conv => whnf
      refine ⟨i + 1, ⟨by omega, fun k hk hk' => ?_⟩, by omega, ?_⟩
      · by_cases e : k = i
        · subst e; exact hb
        · exact hi.2 k hk (by omega)
      · refine ⟨[], by decide, rfl, ?_, ?_⟩
        · repeat' (first | exact trivial | exact ⟨_, rfl, rfl⟩ | exact ⟨_, rfl, Or.inl rfl⟩ | exact ⟨_, rfl, Or.inr ⟨rfl, rfl⟩⟩ | exact ⟨_, rfl, _, rfl⟩ | exact ⟨_, rfl⟩ | refine And.intro ?_ ?_)
        · repeat' (first | exact trivial | exact ⟨_, rfl, rfl⟩ | exact ⟨_, rfl, Or.inl rfl⟩ | exact ⟨_, rfl, Or.inr ⟨rfl, rfl⟩⟩ | exact ⟨_, rfl, _, rfl⟩ | exact ⟨_, rfl⟩ | refine And.intro ?_ ?_)
  · conv => whnf
    have hall : l.all okx = true := by
      rw [List.all_eq_true]
      intro x hx
      obtain ⟨k, hk, rfl⟩ := List.mem_iff_getElem.1 hx
      exact hi.2 k hk (by simp at h; omega)
    exact ⟨rfl, -1, rfl, by simp [hall]⟩
theorem Contains110 (l : List RatS) (hd : l.length < 1000) (hl : ∀ x ∈ l, Num x) : P 110 [] [.p (encRs l), .fn 111 []] (fun _ r => r = bv (!l.all okx)) := by
  refine PC.of_pure good ok110 rfl ?_
  conv => whnf
  refine CallG.pure (Index172 l hd hl) rfl ?_
  conv => whnf
  refine ⟨rfl, ?_⟩
  rintro _ _ ⟨n, rfl, hn⟩
  refine ⟨rfl, ?_⟩
  conv => whnf
  refine ⟨fun h => ?_, fun h => ?_⟩
  · conv => whnf
    exact ⟨rfl, by rw [hn.1 (by omega)]; rfl⟩
  · conv => whnf
    exact ⟨rfl, by
      cases hq : l.all okx with
      | true => rfl
      | false => exact absurd (hn.2 hq) (by omega)⟩
noncomputable def serE (l : List RatS) : Int := if l.length < 1 ∨ 9 < l.length then 3 else if l.all okx = true then 0 else 5
noncomputable def twoE (a b : List RatS) : Int := if serE a ≠ 0 then serE a else if serE b ≠ 0 then serE b else if a.length ≠ b.length then 2 else 0
theorem serE_3 {l : List RatS} (h : l.length < 1 ∨ 9 < l.length) : serE l = 3 := if_pos h
theorem serE_5 {l : List RatS} (h : ¬ (l.length < 1 ∨ 9 < l.length)) (h2 : l.all okx = false) : serE l = 5 := by
  unfold serE; rw [if_neg h, h2]; rfl
theorem serE_0 {l : List RatS} (h : ¬ (l.length < 1 ∨ 9 < l.length)) (h2 : l.all okx = true) : serE l = 0 := by
  unfold serE; rw [if_neg h, h2]; rfl
theorem form58 (a b : List RatS) (ha : a.length < 1000) (hb : b.length < 1000) (na : ∀ x ∈ a, Num x) (nb : ∀ x ∈ b, Num x) : P 58 [] [.p (.sl 38 [[encRs a], [encRs b]])] (fun _ r => r = iv (twoE a b)) := by
  have two : ((List.length [[encRs a], [encRs b]] : Nat) : Int) = 2 := rfl
  refine PC.of_pure good ok58 rfl ?_
  conv => whnf
  refine ⟨3, ?_⟩
  conv => whnf
  refine ⟨fun _ => ?_, fun h => absurd (by rw [two]; decide) h⟩
  conv => whnf
  refine ⟨0, _, rfl, rfl, ?_⟩
  conv => whnf
  by_cases l1 : a.length < 1 ∨ 9 < a.length
  · refine ⟨fun h1 => ?_, fun h1 => ?_⟩
    · conv => whnf
      exact ⟨rfl, by unfold twoE; rw [serE_3 l1]; rfl⟩
    · conv => whnf
      refine ⟨fun h2 => ?_, fun h2 => ?_⟩
      · conv => whnf
        exact ⟨rfl, by unfold twoE; rw [serE_3 l1]; rfl⟩
      · rw [List.length_map] at h1 h2
        omega
  refine ⟨fun h => absurd h (by (rw [List.length_map] at h; omega)), fun _ => ?_⟩
  conv => whnf
  refine ⟨fun h => absurd h (by (rw [List.length_map] at h; omega)), fun _ => ?_⟩
  conv => whnf
  refine CallG.pure (Contains110 a ha na) rfl ?_
  conv => whnf
  refine ⟨rfl, ?_⟩
  rintro _ _ rfl
  refine ⟨rfl, ?_⟩
  conv => whnf
  cases o1 : a.all okx with
  | false =>
    conv => whnf
    exact ⟨rfl, by unfold twoE; rw [serE_5 l1 o1]; rfl⟩
  | true =>
  conv => whnf
  refine ⟨by decide, by decide, ?_⟩
  conv => whnf
  refine ⟨fun _ => ?_, fun h => absurd (by rw [two]; decide) h⟩
  conv => whnf
  refine ⟨1, _, rfl, rfl, ?_⟩
  conv => whnf
  have sa := serE_0 l1 o1
  by_cases l2 : b.length < 1 ∨ 9 < b.length
  · refine ⟨fun h1 => ?_, fun h1 => ?_⟩
    · conv => whnf
      exact ⟨rfl, by unfold twoE; rw [serE_3 l2, sa]; rfl⟩
    · conv => whnf
      refine ⟨fun h2 => ?_, fun h2 => ?_⟩
      · conv => whnf
        exact ⟨rfl, by unfold twoE; rw [serE_3 l2, sa]; rfl⟩
      · rw [List.length_map] at h1 h2
        omega
  refine ⟨fun h => absurd h (by (rw [List.length_map] at h; omega)), fun _ => ?_⟩
  conv => whnf
  refine ⟨fun h => absurd h (by (rw [List.length_map] at h; omega)), fun _ => ?_⟩
  conv => whnf
  refine CallG.pure (Contains110 b hb nb) rfl ?_
  conv => whnf
  refine ⟨rfl, ?_⟩
  rintro _ _ rfl
  refine ⟨rfl, ?_⟩
  conv => whnf
  cases o2 : b.all okx with
  | false =>
    conv => whnf
    exact ⟨rfl, by unfold twoE; rw [serE_5 l2 o2, sa]; rfl⟩
  | true =>
  have sb := serE_0 l2 o2
  conv => whnf
  refine ⟨by decide, by decide, ?_⟩
  conv => whnf
  refine ⟨fun h => absurd h (by rw [two]; decide), fun _ => ?_⟩
  conv => whnf
  refine ⟨fun _ => ?_, fun h => absurd two h⟩
  conv => whnf
  refine ⟨0, _, rfl, rfl, ?_⟩
  conv => whnf
  refine ⟨1, _, rfl, rfl, ?_⟩
  conv => whnf
  refine ⟨fun h => ?_, fun h => ?_⟩
  · conv => whnf
    exact ⟨rfl, by
      rw [List.length_map, List.length_map] at h
      unfold twoE
      rw [sa, sb, if_neg (by decide), if_neg (by decide), if_neg (by omega)]
      rfl⟩
  · conv => whnf
    exact ⟨rfl, by
      rw [List.length_map, List.length_map] at h
      unfold twoE
      rw [sa, sb, if_neg (by decide), if_neg (by decide), if_pos (by omega)]
      rfl⟩
end Go.Sx.Tz
end
section
namespace Go.Sx.Tz
open Go Go.Ev Go.Ev.Tz Go.Sx Go.Proofs
set_option maxHeartbeats 4000000
attribute [local irreducible] CallG LoopG
def fqs (l : List (Option Q)) : List RatS := l.map Fq
theorem fqs_get {l : List (Option Q)} {i : Nat} (h : i < l.length) : ((fqs l).map encR)[i]? = some (encR (Fq l[i])) := by simp [fqs, h]
theorem fqs_snoc {l : List (Option Q)} {i : Nat} (h : i < l.length) : ((fqs (l.take i)).map encR) ++ [encR (Fq l[i])] = (fqs (l.take (i + 1))).map encR := by
  unfold fqs
  rw [← List.take_append_getElem h, List.map_append, List.map_append]
  rfl
theorem zip59 (a b : List (Option Q)) (ha : ∀ x ∈ a, Fok x) (hb : ∀ x ∈ b, Fok x) (hl : a.length = b.length) (hs : a.length < 100000) : P 59 [] [.p (encRs (fqs a)), .p (encRs (fqs b)), .fn 60 []] (fun _ r => r = .p (encRs (fqs (List.zipWith (fop addQ) a b)))) := by
  obtain ⟨z, hz⟩ : ∃ z, List.zipWith (fop addQ) a b = z := ⟨_, rfl⟩
  have lz : z.length = a.length := by rw [← hz, List.length_zipWith]; omega
  rw [hz]
  refine PC.of_pure good ok59 rfl ?_
  conv => whnf
  refine ⟨0, LoopG.intro (fun i : Nat => ⟨[(0, .p (encRs (fqs a))), (1, .p (encRs (fqs b))), (2, .fn 60 []), (7, .os 0), (10, iv a.length), (11, iv i)], [.arr 51 ((fqs (z.take i)).map encR)]⟩) (fun i => i ≤ a.length) (fun i => a.length - i) (0) (Nat.zero_le _) ?_ ?_⟩
  · rw [show iv a.length = iv ((fqs a).map encR).length by simp [fqs]]
    refine ⟨[none], by decide, rfl, ?_, ?_⟩
    · repeat' (first | exact trivial | exact ⟨_, rfl, rfl⟩ | exact ⟨_, rfl, Or.inl rfl⟩ | exact ⟨_, rfl, Or.inr ⟨rfl, rfl⟩⟩ | exact ⟨_, rfl, _, rfl⟩ | exact ⟨_, rfl⟩ | refine And.intro ?_ ?_)
    · repeat' (first | exact trivial | exact ⟨_, rfl, rfl⟩ | exact ⟨_, rfl, Or.inl rfl⟩ | exact ⟨_, rfl, Or.inr ⟨rfl, rfl⟩⟩ | exact ⟨_, rfl, _, rfl⟩ | exact ⟨_, rfl⟩ | refine And.intro ?_ ?_)
  intro i hi
  conv => whnf
  refine ⟨fun h => ?_, fun h => ?_⟩
  · conv => whnf
    have hil : i < a.length := by omega
    have hil2 : i < b.length := by omega
    refine ⟨i, _, rfl, fqs_get hil, ?_⟩
    conv => whnf
    refine ⟨i, _, rfl, fqs_get hil2, ?_⟩
    conv => whnf
    refine CallG.pure (Add60 a[i] b[i] (ha _ (List.getElem_mem hil)) (hb _ (List.getElem_mem hil2))) rfl ?_
    conv => whnf
    refine ⟨rfl, ?_⟩
    rintro _ _ rfl
    refine ⟨rfl, ?_⟩
    conv => whnf
    refine CallG.pure (rat77 (Fq (fop addQ a[i] b[i])) 0) rfl ?_
    conv => whnf
    refine ⟨rfl, ?_⟩
    rintro _ _ rfl
    refine ⟨rfl, ?_⟩
    conv => whnf
    refine ⟨rfl, rfl, (by show _ * 64 ≤ _; simp [fqs]; omega), ?_⟩
    conv => whnf
    refine ⟨by omega, by omega, ?_⟩
    conv => whnf
    refine ⟨i + 1, by omega, by omega, ?_⟩
    rw [← fqs_snoc (l := z) (i := i) (by omega), show z[i] = fop addQ a[i] b[i] by simp [← hz]]
    refine ⟨[some 2], by decide, rfl, ?_, ?_⟩
    · repeat' (first | exact trivial | exact ⟨_, rfl, rfl⟩ | exact ⟨_, rfl, Or.inl rfl⟩ | exact ⟨_, rfl, Or.inr ⟨rfl, rfl⟩⟩ | exact ⟨_, rfl, _, rfl⟩ | exact ⟨_, rfl⟩ | refine And.intro ?_ ?_)
    · repeat' (first | exact trivial | exact ⟨_, rfl, rfl⟩ | exact ⟨_, rfl, Or.inl rfl⟩ | exact ⟨_, rfl, Or.inr ⟨rfl, rfl⟩⟩ | exact ⟨_, rfl, _, rfl⟩ | exact ⟨_, rfl⟩ | refine And.intro ?_ ?_)
  · conv => whnf
    exact ⟨rfl, by simp only [oneS, encRs]; rw [List.take_of_length_le (by omega)]⟩
def crs (a b : List (Option Q)) (k : Nat) : Nat → Option Q
  | 0 => some ⟨false, 0, 1⟩
  | i + 1 => fop addQ (crs a b k i) (fop mulQ (a.getD i none) (b.getD (k - i) none))
theorem crs_ok {a b : List (Option Q)} (ha : ∀ x ∈ a, Fok x) (hb : ∀ x ∈ b, Fok x) (k : Nat) : ∀ i, i ≤ k + 1 → k < a.length → k < b.length → Fok (crs a b k i)
  | 0, _, _, _ => by
    intro q hq
    cases hq
    exact ⟨⟨by decide, by decide, by simp⟩, by unfold Q.sm; decide⟩
  | i + 1, h, h1, h2 => by
    have : a.getD i none = a[i]'(by omega) := by rw [List.getD_eq_getElem?_getD, List.getElem?_eq_getElem (by omega)]; rfl
    have h3 : b.getD (k - i) none = b[k - i]'(by omega) := by rw [List.getD_eq_getElem?_getD, List.getElem?_eq_getElem (by omega)]; rfl
    unfold crs
    rw [this, h3]
    exact fop_ok (.inl ⟨rfl, rfl⟩) (crs_ok ha hb k i (by omega) h1 h2) (fop_ok (.inr ⟨rfl, rfl⟩) (ha _ (List.getElem_mem _)) (hb _ (List.getElem_mem _)))
theorem wh0 : wh 0 = Fq (some ⟨false, 0, 1⟩) := by
  unfold wh quo
  rw [if_neg (by decide), if_neg (by decide)]
  rfl
theorem cross114 (a b : List (Option Q)) (k : Nat) (ha : ∀ x ∈ a, Fok x) (hb : ∀ x ∈ b, Fok x) (h1 : k < a.length) (h2 : k < b.length) (hs : a.length < 100000) : P 114 [] [.p (encRs (fqs a)), .p (encRs (fqs b)), iv 0, iv k] (fun _ r => r = .agp (encR (Fq (crs a b k (k + 1))))) := by
  refine PC.of_pure good ok114 rfl ?_
  conv => whnf
  refine CallG.pure (whole71 0 (by decide) (by decide)) rfl ?_
  conv => whnf
  refine ⟨rfl, ?_⟩
  rintro _ _ rfl
  refine ⟨rfl, ?_⟩
  conv => whnf
  rw [wh0]
  refine ⟨0, LoopG.intro (fun i : Nat => ⟨[(0, .p (encRs (fqs a))), (1, .p (encRs (fqs b))), (3, iv k), (8, .loc 0 0), (9, .loc 1 0), (10, iv i)], [.box [iv 0, bv false, .nl 112, .nl 112], .box [iv (Fq (crs a b k i)).fault, bv (Fq (crs a b k i)).neg, .p (encN (Fq (crs a b k i)).num), .p (encN (Fq (crs a b k i)).den)]]⟩) (fun i => i ≤ k + 1) (fun i => k + 1 - i) (0) (Nat.zero_le _) ?_ ?_⟩
  · refine ⟨[some 0, some 1], by decide, rfl, ?_, ?_⟩
    · repeat' (first | exact trivial | exact ⟨_, rfl, rfl⟩ | exact ⟨_, rfl, Or.inl rfl⟩ | exact ⟨_, rfl, Or.inr ⟨rfl, rfl⟩⟩ | exact ⟨_, rfl, _, rfl⟩ | exact ⟨_, rfl⟩ | refine And.intro ?_ ?_)
    · repeat' (first | exact trivial | exact ⟨_, rfl, rfl⟩ | exact ⟨_, rfl, Or.inl rfl⟩ | exact ⟨_, rfl, Or.inr ⟨rfl, rfl⟩⟩ | exact ⟨_, rfl, _, rfl⟩ | exact ⟨_, rfl⟩ | refine And.intro ?_ ?_)
  intro i hi
  conv => whnf
  refine ⟨fun h => ?_, fun h => ?_⟩
  · conv => whnf
    have hil : i < a.length := by omega
    have hil2 : k - i < b.length := by omega
    refine ⟨i, _, rfl, fqs_get hil, ?_⟩
    conv => whnf
    refine ⟨by omega, by omega, ?_⟩
    conv => whnf
    refine ⟨k - i, _, (by omega), fqs_get hil2, ?_⟩
    conv => whnf
    refine CallG.pure (Mul78 a[i] b[k - i] (ha _ (List.getElem_mem hil)) (hb _ (List.getElem_mem hil2))) rfl ?_
    conv => whnf
    refine ⟨rfl, ?_⟩
    rintro _ _ rfl
    refine ⟨rfl, ?_⟩
    conv => whnf
    refine CallG.pure (rat77 (Fq (fop mulQ a[i] b[k - i])) 0) rfl ?_
    conv => whnf
    refine ⟨rfl, ?_⟩
    rintro _ _ rfl
    refine ⟨rfl, ?_⟩
    conv => whnf
    refine CallG.pure (Add60 (crs a b k i) (fop mulQ a[i] b[k - i]) (crs_ok ha hb k i hi h1 h2) (fop_ok (.inr ⟨rfl, rfl⟩) (ha _ (List.getElem_mem hil)) (hb _ (List.getElem_mem hil2)))) rfl ?_
    conv => whnf
    refine ⟨rfl, ?_⟩
    rintro _ _ rfl
    refine ⟨rfl, ?_⟩
    conv => whnf
    refine CallG.pure (rat77 (Fq (fop addQ (crs a b k i) (fop mulQ a[i] b[k - i]))) 0) rfl ?_
    conv => whnf
    refine ⟨rfl, ?_⟩
    rintro _ _ rfl
    refine ⟨rfl, ?_⟩
    conv => whnf
    have e : fop addQ (crs a b k i) (fop mulQ a[i] b[k - i]) = crs a b k (i + 1) := by
      rw [crs, List.getD_eq_getElem?_getD, List.getElem?_eq_getElem hil, List.getD_eq_getElem?_getD, List.getElem?_eq_getElem hil2]; rfl
    rw [e]
    refine ⟨by omega, by omega, ?_⟩
    conv => whnf
    refine ⟨i + 1, by omega, by omega, ?_⟩
    refine ⟨[some 0, some 1], by decide, rfl, ?_, ?_⟩
    · repeat' (first | exact trivial | exact ⟨_, rfl, rfl⟩ | exact ⟨_, rfl, Or.inl rfl⟩ | exact ⟨_, rfl, Or.inr ⟨rfl, rfl⟩⟩ | exact ⟨_, rfl, _, rfl⟩ | exact ⟨_, rfl⟩ | refine And.intro ?_ ?_)
    · repeat' (first | exact trivial | exact ⟨_, rfl, rfl⟩ | exact ⟨_, rfl, Or.inl rfl⟩ | exact ⟨_, rfl, Or.inr ⟨rfl, rfl⟩⟩ | exact ⟨_, rfl, _, rfl⟩ | exact ⟨_, rfl⟩ | refine And.intro ?_ ?_)
  · conv => whnf
    obtain rfl : i = k + 1 := by omega
    exact ⟨rfl, rfl⟩
theorem mul61 (a b : List (Option Q)) (ha : ∀ x ∈ a, Fok x) (hb : ∀ x ∈ b, Fok x) (hl : a.length = b.length) (hs : a.length < 100000) : P 61 [] [.p (encRs (fqs a)), .p (encRs (fqs b))] (fun _ r => r = .p (encRs (fqs ((List.range a.length).map fun k => crs a b k (k + 1))))) := by
  obtain ⟨z, hz⟩ : ∃ z, ((List.range a.length).map fun k => crs a b k (k + 1)) = z := ⟨_, rfl⟩
  have lz : z.length = a.length := by rw [← hz]; simp
  rw [hz]
  refine PC.of_pure good ok61 rfl ?_
  conv => whnf
  refine ⟨0, LoopG.intro (fun i : Nat => ⟨[(0, .p (encRs (fqs a))), (1, .p (encRs (fqs b))), (5, .os 0), (8, iv a.length), (9, iv i)], [.arr 51 ((fqs (z.take i)).map encR)]⟩) (fun i => i ≤ a.length) (fun i => a.length - i) (0) (Nat.zero_le _) ?_ ?_⟩
  · rw [show iv a.length = iv ((fqs a).map encR).length by simp [fqs]]
    refine ⟨[none], by decide, rfl, ?_, ?_⟩
    · repeat' (first | exact trivial | exact ⟨_, rfl, rfl⟩ | exact ⟨_, rfl, Or.inl rfl⟩ | exact ⟨_, rfl, Or.inr ⟨rfl, rfl⟩⟩ | exact ⟨_, rfl, _, rfl⟩ | exact ⟨_, rfl⟩ | refine And.intro ?_ ?_)
    · repeat' (first | exact trivial | exact ⟨_, rfl, rfl⟩ | exact ⟨_, rfl, Or.inl rfl⟩ | exact ⟨_, rfl, Or.inr ⟨rfl, rfl⟩⟩ | exact ⟨_, rfl, _, rfl⟩ | exact ⟨_, rfl⟩ | refine And.intro ?_ ?_)
  intro i hi
  conv => whnf
  refine ⟨fun h => ?_, fun h => ?_⟩
  · conv => whnf
    have hil : i < a.length := by omega
    refine CallG.pure (cross114 a b i ha hb hil (by omega) hs) rfl ?_
    conv => whnf
    refine ⟨rfl, ?_⟩
    rintro _ _ rfl
    refine ⟨rfl, ?_⟩
    conv => whnf
    refine ⟨rfl, rfl, (by show _ * 64 ≤ _; simp [fqs]; omega), ?_⟩
    conv => whnf
    refine ⟨by omega, by omega, ?_⟩
    conv => whnf
    refine ⟨i + 1, by omega, by omega, ?_⟩
    rw [← fqs_snoc (l := z) (i := i) (by omega), show z[i] = crs a b i (i + 1) by simp [← hz]]
    refine ⟨[some 2], by decide, rfl, ?_, ?_⟩
    · repeat' (first | exact trivial | exact ⟨_, rfl, rfl⟩ | exact ⟨_, rfl, Or.inl rfl⟩ | exact ⟨_, rfl, Or.inr ⟨rfl, rfl⟩⟩ | exact ⟨_, rfl, _, rfl⟩ | exact ⟨_, rfl⟩ | refine And.intro ?_ ?_)
    · repeat' (first | exact trivial | exact ⟨_, rfl, rfl⟩ | exact ⟨_, rfl, Or.inl rfl⟩ | exact ⟨_, rfl, Or.inr ⟨rfl, rfl⟩⟩ | exact ⟨_, rfl, _, rfl⟩ | exact ⟨_, rfl⟩ | refine And.intro ?_ ?_)
  · conv => whnf
    exact ⟨rfl, by simp only [oneS, encRs]; rw [List.take_of_length_le (by omega)]⟩
theorem okx_fqs {l : List RatS} (h : l.all okx = true) : ∃ z : List Q, l = z.map Q.st ∧ ∀ q ∈ z, q.lo ∧ q.sm := by
  induction l with
  | nil => exact ⟨[], rfl, by simp⟩
  | cons x r ih =>
    rw [List.all_cons, Bool.and_eq_true] at h
    obtain ⟨q, h1, h2, h3⟩ := okx_t.1 h.1
    obtain ⟨z, hz, hz2⟩ := ih h.2
    refine ⟨q :: z, by rw [h3, hz]; rfl, ?_⟩
    intro y hy
    rcases List.mem_cons.1 hy with rfl | hy
    · exact ⟨h1, h2⟩
    · exact hz2 y hy
theorem twoE_0 {a b : List RatS} (h : twoE a b = 0) : ∃ x y : List Q, a = x.map Q.st ∧ b = y.map Q.st ∧ (∀ q ∈ x, q.lo ∧ q.sm) ∧ (∀ q ∈ y, q.lo ∧ q.sm) ∧ x.length = y.length ∧ 1 ≤ x.length ∧ x.length ≤ 9 := by
  have s0 : ∀ l, serE l = 0 → ¬ (l.length < 1 ∨ 9 < l.length) ∧ l.all okx = true := fun l q => by
    unfold serE at q
    split at q
    · cases q
    · split at q
      · exact ⟨by assumption, by assumption⟩
      · cases q
  unfold twoE at h
  split at h
  · exact absurd h (by assumption)
  · split at h
    · exact absurd h (by assumption)
    · split at h
      · cases h
      · have ea : serE a = 0 := by rename_i h1 _ _; exact Decidable.not_not.1 h1
        have eb : serE b = 0 := by rename_i _ h1 _; exact Decidable.not_not.1 h1
        have el : a.length = b.length := by rename_i _ _ h1; exact Decidable.not_not.1 h1
        obtain ⟨l1, o1⟩ := s0 a ea
        obtain ⟨l2, o2⟩ := s0 b eb
        obtain ⟨x, rfl, hx⟩ := okx_fqs o1
        obtain ⟨y, rfl, hy⟩ := okx_fqs o2
        simp only [List.length_map] at *
        exact ⟨x, y, rfl, rfl, hx, hy, el, by omega, by omega⟩
def som (l : List Q) : List (Option Q) := l.map some
theorem som_fqs (l : List Q) : fqs (som l) = l.map Q.st := by simp [fqs, som, Fq]
theorem som_ok {l : List Q} (h : ∀ q ∈ l, q.lo ∧ q.sm) : ∀ o ∈ som l, Fok o := by
  intro o ho q hq
  subst hq
  simp [som] at ho
  exact h q ho
theorem Add17e (a b : List RatS) (ha : a.length < 1000) (hb : b.length < 1000) (na : ∀ x ∈ a, Num x) (nb : ∀ x ∈ b, Num x) (he : twoE a b ≠ 0) : P 17 [] [.p (encRs a), .p (encRs b)] (fun _ r => r = .tu [.p (encRs []), iv (twoE a b)]) := by
  refine PC.of_pure good ok17 rfl ?_
  conv => whnf
  refine CallG.pure (form58 a b ha hb na nb) rfl ?_
  conv => whnf
  refine ⟨rfl, ?_⟩
  rintro _ _ rfl
  refine ⟨rfl, ?_⟩
  conv => whnf
  refine ⟨fun h => absurd h he, fun _ => ?_⟩
  conv => whnf
  exact ⟨rfl, rfl⟩
theorem Add17 (a b : List Q) (ha : ∀ q ∈ a, q.lo ∧ q.sm) (hb : ∀ q ∈ b, q.lo ∧ q.sm) (na : ∀ x ∈ a.map Q.st, Num x) (nb : ∀ x ∈ b.map Q.st, Num x) (hl : a.length = b.length) (hs : a.length < 1000) (he : twoE (a.map Q.st) (b.map Q.st) = 0) : P 17 [] [.p (encRs (a.map Q.st)), .p (encRs (b.map Q.st))] (fun _ r => r = .tu [.p (encRs (fqs (List.zipWith (fop addQ) (som a) (som b)))), iv 0]) := by
  have hz := zip59 (som a) (som b) (som_ok ha) (som_ok hb) (by simp [som, hl]) (by simp [som]; omega)
  rw [som_fqs, som_fqs] at hz
  refine PC.of_pure good ok17 rfl ?_
  conv => whnf
  refine CallG.pure (form58 (a.map Q.st) (b.map Q.st) (by simp; omega) (by simp; omega) na nb) rfl ?_
  conv => whnf
  refine ⟨rfl, ?_⟩
  rintro _ _ rfl
  refine ⟨rfl, ?_⟩
  conv => whnf
  rw [he]
  conv => whnf
  refine ⟨fun _ => ?_, fun h => absurd rfl h⟩
  conv => whnf
  refine CallG.pure (hz) rfl ?_
  conv => whnf
  refine ⟨rfl, ?_⟩
  rintro _ _ rfl
  refine ⟨rfl, ?_⟩
  conv => whnf
  exact ⟨rfl, rfl⟩
theorem Mul18e (a b : List RatS) (ha : a.length < 1000) (hb : b.length < 1000) (na : ∀ x ∈ a, Num x) (nb : ∀ x ∈ b, Num x) (he : twoE a b ≠ 0) : P 18 [] [.p (encRs a), .p (encRs b)] (fun _ r => r = .tu [.p (encRs []), iv (twoE a b)]) := by
  refine PC.of_pure good ok18 rfl ?_
  conv => whnf
  refine CallG.pure (form58 a b ha hb na nb) rfl ?_
  conv => whnf
  refine ⟨rfl, ?_⟩
  rintro _ _ rfl
  refine ⟨rfl, ?_⟩
  conv => whnf
  refine ⟨fun h => absurd h he, fun _ => ?_⟩
  conv => whnf
  exact ⟨rfl, rfl⟩
theorem Mul18 (a b : List Q) (ha : ∀ q ∈ a, q.lo ∧ q.sm) (hb : ∀ q ∈ b, q.lo ∧ q.sm) (na : ∀ x ∈ a.map Q.st, Num x) (nb : ∀ x ∈ b.map Q.st, Num x) (hl : a.length = b.length) (hs : a.length < 1000) (he : twoE (a.map Q.st) (b.map Q.st) = 0) : P 18 [] [.p (encRs (a.map Q.st)), .p (encRs (b.map Q.st))] (fun _ r => r = .tu [.p (encRs (fqs ((List.range a.length).map fun k => crs (som a) (som b) k (k + 1)))), iv 0]) := by
  have hz := mul61 (som a) (som b) (som_ok ha) (som_ok hb) (by simp [som, hl]) (by simp [som]; omega)
  rw [som_fqs, som_fqs, show (som a).length = a.length by simp [som]] at hz
  refine PC.of_pure good ok18 rfl ?_
  conv => whnf
  refine CallG.pure (form58 (a.map Q.st) (b.map Q.st) (by simp; omega) (by simp; omega) na nb) rfl ?_
  conv => whnf
  refine ⟨rfl, ?_⟩
  rintro _ _ rfl
  refine ⟨rfl, ?_⟩
  conv => whnf
  rw [he]
  conv => whnf
  refine ⟨fun _ => ?_, fun h => absurd rfl h⟩
  conv => whnf
  refine CallG.pure (hz) rfl ?_
  conv => whnf
  refine ⟨rfl, ?_⟩
  rintro _ _ rfl
  refine ⟨rfl, ?_⟩
  conv => whnf
  exact ⟨rfl, rfl⟩
end Go.Sx.Tz
end
section
namespace Go.Sx.Tz
open Go Go.Ev Go.Ev.Tz Go.Sx Go.Proofs
def cutTy (t : Ty) : Ty := ⟨t.kind, t.dims.take 5⟩
theorem take_min {α : Type} (l : List α) (n : Nat) : l.take (min l.length n) = l.take n := by
  rw [List.take_eq_take_iff]; omega
theorem take_snoc {α β : Type} (f : α → β) {l : List α} {i : Nat} (h : i < l.length) : (l.take i).map f ++ [f l[i]] = (l.take (i + 1)).map f := by
  rw [← List.take_append_getElem h, List.map_append]; rfl
set_option maxHeartbeats 4000000
attribute [local irreducible] CallG LoopG
theorem CutType (t : Ty) : P 43 [] [.agp (encTy t)] (fun _ r => r = .agp (encTy (cutTy t))) := by
  refine PC.of_pure good ok43 rfl ?_
  conv => whnf
  refine ⟨min t.dims.length 5, (by simp; split <;> omega), ?_⟩
  conv => whnf
  refine ⟨Nat.zero_le _, (by simp; omega), ?_⟩
  conv => whnf
  refine ⟨rfl, rfl, (by show _ * 8 ≤ _; simp; omega), ?_⟩
  exact ⟨rfl, by simp [oneS, encTy, encDims, cutTy, ← List.map_take, take_min]⟩
theorem CutTypes (l : List Ty) : P 8 [] [.p (encTys l)] (fun _ r => r = .p (encTys ((l.take 66).map cutTy))) := by
  refine PC.of_pure good ok8 rfl ?_
  conv => whnf
  refine ⟨0, LoopG.intro (fun i : Nat => ⟨[(0, .p (encTys l)), (3, .os 0), (4, iv i)], [.arr 29 (((l.take i).map cutTy).map encTy)]⟩) (fun i => i ≤ l.length ∧ i ≤ 66) (fun i => 66 - i) (0) (⟨by omega, by omega⟩) ?_ ?_⟩
  · refine ⟨[none], by decide, rfl, ?_, ?_⟩
    · repeat' (first | exact trivial | exact ⟨_, rfl, rfl⟩ | exact ⟨_, rfl, Or.inl rfl⟩ | exact ⟨_, rfl, Or.inr ⟨rfl, rfl⟩⟩ | exact ⟨_, rfl, _, rfl⟩ | exact ⟨_, rfl⟩ | refine And.intro ?_ ?_)
    · repeat' (first | exact trivial | exact ⟨_, rfl, rfl⟩ | exact ⟨_, rfl, Or.inl rfl⟩ | exact ⟨_, rfl, Or.inr ⟨rfl, rfl⟩⟩ | exact ⟨_, rfl, _, rfl⟩ | exact ⟨_, rfl⟩ | refine And.intro ?_ ?_)
  intro i hi
  conv => whnf
  refine ⟨fun h => ?_, fun h => ?_⟩
  · conv => whnf
    refine ⟨fun h2 => ?_, fun h2 => ?_⟩
    · conv => whnf
      have hl : i < l.length := by simpa using h
      refine ⟨i, _, rfl, get_map hl, ?_⟩
      conv => whnf
      refine CallG.pure (CutType l[i]) rfl ?_
      conv => whnf
      refine ⟨rfl, ?_⟩
      rintro _ _ rfl
      refine ⟨rfl, ?_⟩
      conv => whnf
      refine ⟨rfl, rfl, (by show _ * 32 ≤ _; simp; omega), ?_⟩
      conv => whnf
      refine ⟨by omega, by omega, ?_⟩
      conv => whnf
      refine ⟨i + 1, ⟨by omega, by omega⟩, by omega, ?_⟩
      rw [show (l.take (i + 1)).map cutTy = (l.take i).map cutTy ++ [cutTy l[i]] from (take_snoc cutTy hl).symm, List.map_append]
      refine ⟨[some 2], by decide, rfl, ?_, ?_⟩
      · repeat' (first | exact trivial | exact ⟨_, rfl, rfl⟩ | exact ⟨_, rfl, Or.inl rfl⟩ | exact ⟨_, rfl, Or.inr ⟨rfl, rfl⟩⟩ | exact ⟨_, rfl, _, rfl⟩ | exact ⟨_, rfl⟩ | refine And.intro ?_ ?_)
      · repeat' (first | exact trivial | exact ⟨_, rfl, rfl⟩ | exact ⟨_, rfl, Or.inl rfl⟩ | exact ⟨_, rfl, Or.inr ⟨rfl, rfl⟩⟩ | exact ⟨_, rfl, _, rfl⟩ | exact ⟨_, rfl⟩ | refine And.intro ?_ ?_)
    · conv => whnf
      exact ⟨rfl, by simp at h h2; simp only [oneS, encTys]; rw [show i = 66 by omega]⟩
  · conv => whnf
    exact ⟨rfl, by simp at h; simp only [oneS, encTys]; rw [List.take_of_length_le (by omega), List.take_of_length_le (by omega)]⟩
end Go.Sx.Tz
end
section
namespace Go.Sx.Tz
open Go Go.Ev Go.Ev.Tz Go.Sx Go.Proofs
set_option maxHeartbeats 4000000
attribute [local irreducible] CallG LoopG
def dimOk (d : Int) : Bool := decide (1 ≤ d) && decide (d ≤ 8)
def tyOk (t : Ty) : Bool := t.dims.all dimOk && ((decide (t.kind = 3) && decide (t.dims.length = 1)) || ((decide (t.kind = 1) || decide (t.kind = 2)) && decide (t.dims.length ≤ 3)))
theorem all_not {l : List Int} {i : Nat} (hl : i < l.length) (h : dimOk l[i] = false) : l.all dimOk = false := by
  rw [List.all_eq_false]; exact ⟨l[i], List.getElem_mem hl, by simp [h]⟩
theorem all_of {l : List Int} (h : ∀ k (hk : k < l.length), dimOk l[k] = true) : l.all dimOk = true := by
  rw [List.all_eq_true]
  intro x hx
  obtain ⟨k, hk, rfl⟩ := List.getElem_of_mem hx
  exact h k hk
theorem dimOk_of {d : Int} (h1 : ¬ d < 1) (h2 : ¬ 8 < d) : dimOk d = true := by simp [dimOk]; omega
theorem dimOk_lo {d : Int} (h1 : d < 1) : dimOk d = false := by simp [dimOk]; omega
theorem dimOk_hi {d : Int} (h1 : 8 < d) : dimOk d = false := by simp [dimOk]; omega
theorem IsType9 (t : Ty) (hd : t.dims.length < 1000) : P 9 [] [.agp (encTy t)] (fun _ r => r = .p (.bool (tyOk t))) := by
  refine PC.of_pure good ok9 rfl ?_
  conv => whnf
  refine ⟨0, LoopG.intro (fun i : Nat => ⟨[(0, .agp (encTy t)), (1, .loc 0 0), (2, .p (.bool false)), (3, iv i)], [.box [iv t.kind, .p (encDims t.dims)]]⟩) (fun i => i ≤ t.dims.length ∧ ∀ k (hk : k < t.dims.length), k < i → dimOk t.dims[k] = true) (fun i => t.dims.length - i) (0) (⟨by omega, by omega⟩) ?_ ?_⟩
  · refine ⟨[some 0], by decide, rfl, ?_, ?_⟩
    · repeat' (first | exact trivial | exact ⟨_, rfl, rfl⟩ | exact ⟨_, rfl, Or.inl rfl⟩ | exact ⟨_, rfl, Or.inr ⟨rfl, rfl⟩⟩ | exact ⟨_, rfl, _, rfl⟩ | exact ⟨_, rfl⟩ | refine And.intro ?_ ?_)
    · repeat' (first | exact trivial | exact ⟨_, rfl, rfl⟩ | exact ⟨_, rfl, Or.inl rfl⟩ | exact ⟨_, rfl, Or.inr ⟨rfl, rfl⟩⟩ | exact ⟨_, rfl, _, rfl⟩ | exact ⟨_, rfl⟩ | refine And.intro ?_ ?_)
  intro i hi
  conv => whnf
  refine ⟨fun h => ?_, fun h => ?_⟩
  · conv => whnf
    have hl : i < t.dims.length := by simpa using h
    refine ⟨i, _, rfl, get_map hl, ?_⟩
    conv => whnf
    refine ⟨fun h1 => ?_, fun h1 => ?_⟩
    · conv => whnf
      exact ⟨rfl, by simp only [oneS, tyOk, all_not hl (dimOk_lo h1)]; rfl⟩
    · conv => whnf
      refine ⟨i, _, rfl, get_map hl, ?_⟩
      conv => whnf
      refine ⟨fun h2 => ?_, fun h2 => ?_⟩
      · conv => whnf
        exact ⟨rfl, by simp only [oneS, tyOk, all_not hl (dimOk_hi h2)]; rfl⟩
      · conv => whnf
        refine ⟨by omega, by omega, ?_⟩
        conv => whnf
        refine ⟨i + 1, ⟨by omega, fun k hk hk' => ?_⟩, by omega, ?_⟩
        · by_cases e : k = i
          · subst e; exact dimOk_of h1 h2
          · exact hi.2 k hk (by omega)
        · refine ⟨[some 0], by decide, rfl, ?_, ?_⟩
          · repeat' (first | exact trivial | exact ⟨_, rfl, rfl⟩ | exact ⟨_, rfl, Or.inl rfl⟩ | exact ⟨_, rfl, Or.inr ⟨rfl, rfl⟩⟩ | exact ⟨_, rfl, _, rfl⟩ | exact ⟨_, rfl⟩ | refine And.intro ?_ ?_)
          · repeat' (first | exact trivial | exact ⟨_, rfl, rfl⟩ | exact ⟨_, rfl, Or.inl rfl⟩ | exact ⟨_, rfl, Or.inr ⟨rfl, rfl⟩⟩ | exact ⟨_, rfl, _, rfl⟩ | exact ⟨_, rfl⟩ | refine And.intro ?_ ?_)
  · conv => whnf
    have hall : t.dims.all dimOk = true := all_of fun k hk => hi.2 k hk (by simp at h; omega)
    refine ⟨fun h3 => ?_, fun h3 => ?_⟩
    · conv => whnf
      refine ⟨fun h4 => ?_, fun h4 => ?_⟩
      · conv => whnf
        exact ⟨rfl, by simp at h4; simp [oneS, tyOk, hall, h3]; omega⟩
      · conv => whnf
        exact ⟨rfl, by simp at h4; simp [oneS, tyOk, hall, h3]; omega⟩
    · conv => whnf
      refine ⟨fun h4 => ?_, fun h4 => ?_⟩
      · conv => whnf
        refine ⟨fun h5 => ?_, fun h5 => ?_⟩
        · conv => whnf
          exact ⟨rfl, by simp at h5; simp [oneS, tyOk, hall, h4]; omega⟩
        · conv => whnf
          exact ⟨rfl, by simp at h5; simp [oneS, tyOk, hall, h4]; omega⟩
      · conv => whnf
        refine ⟨fun h5 => ?_, fun h5 => ?_⟩
        · conv => whnf
          refine ⟨fun h6 => ?_, fun h6 => ?_⟩
          · conv => whnf
            exact ⟨rfl, by simp at h6; simp [oneS, tyOk, hall, h5]; omega⟩
          · conv => whnf
            exact ⟨rfl, by simp at h6; simp [oneS, tyOk, hall, h5]; omega⟩
        · conv => whnf
          exact ⟨rfl, by simp [oneS, tyOk, hall, h3, h4, h5]⟩
def prodD (l : List Int) : Int := l.foldl (· * ·) 1
theorem prodD_snoc (l : List Int) (d : Int) : prodD (l ++ [d]) = prodD l * d := by simp [prodD]
theorem foldl_bound : ∀ {l : List Int}, (∀ d ∈ l, 1 ≤ d ∧ d ≤ 8) → ∀ a : Int, 1 ≤ a → 1 ≤ l.foldl (· * ·) a ∧ l.foldl (· * ·) a ≤ a * 8 ^ l.length
  | [], _, a, ha => by simp; exact ha
  | d :: l, h, a, ha => by
    obtain ⟨h3, h4⟩ := h d (by simp)
    have h5 : 1 ≤ a * d := by have := Int.mul_le_mul ha h3 (by omega) (by omega); omega
    obtain ⟨h1, h2⟩ := foldl_bound (l := l) (fun x hx => h x (by simp [hx])) (a * d) h5
    refine ⟨h1, Int.le_trans h2 ?_⟩
    rw [List.length_cons, Int.pow_succ, Int.mul_assoc, Int.mul_comm (8 ^ l.length) 8, ← Int.mul_assoc, ← Int.mul_assoc]
    exact Int.mul_le_mul_of_nonneg_right (Int.mul_le_mul_of_nonneg_left h4 (by omega)) (Int.le_of_lt (Int.pow_pos (by omega)))
theorem prodD_bound {l : List Int} (h : ∀ d ∈ l, 1 ≤ d ∧ d ≤ 8) : 1 ≤ prodD l ∧ prodD l ≤ 8 ^ l.length := by
  have := foldl_bound h 1 (by omega)
  simpa [prodD] using this
theorem prodD_take {l : List Int} {i : Nat} (h : i < l.length) : prodD (l.take (i + 1)) = prodD (l.take i) * l[i] := by
  rw [← List.take_append_getElem h, prodD_snoc]
theorem all_mem {l : List Int} (h : l.all dimOk = true) : ∀ d ∈ l, 1 ≤ d ∧ d ≤ 8 := fun d hd => by
  have := List.all_eq_true.1 h d hd
  simpa [dimOk] using this
theorem prodD_part {l : List Int} (h : l.all dimOk = true) (hd : l.length ≤ 5) (i : Nat) : 1 ≤ prodD (l.take i) ∧ prodD (l.take i) ≤ 32768 := by
  obtain ⟨a, b⟩ := prodD_bound (l := l.take i) fun d hd' => all_mem h d (List.mem_of_mem_take hd')
  refine ⟨a, Int.le_trans b ?_⟩
  have hlen : (l.take i).length ≤ 5 := by simp; omega
  have : (l.take i).length = 0 ∨ (l.take i).length = 1 ∨ (l.take i).length = 2 ∨ (l.take i).length = 3 ∨ (l.take i).length = 4 ∨ (l.take i).length = 5 := by omega
  rcases this with h | h | h | h | h | h <;> rw [h] <;> decide
theorem Size44 (t : Ty) (h0 : t.dims.all dimOk = true) (hd : t.dims.length ≤ 5) : P 44 [] [.agp (encTy t)] (fun _ r => r = iv (prodD t.dims)) := by
  refine PC.of_pure good ok44 rfl ?_
  conv => whnf
  refine ⟨0, LoopG.intro (fun i : Nat => ⟨[(0, .agp (encTy t)), (1, .loc 0 0), (3, iv (prodD (t.dims.take i))), (4, iv i)], [.box [iv t.kind, .p (encDims t.dims)]]⟩) (fun i => i ≤ t.dims.length) (fun i => t.dims.length - i) (0) (by omega) ?_ ?_⟩
  · refine ⟨[some 0], by decide, rfl, ?_, ?_⟩
    · repeat' (first | exact trivial | exact ⟨_, rfl, rfl⟩ | exact ⟨_, rfl, Or.inl rfl⟩ | exact ⟨_, rfl, Or.inr ⟨rfl, rfl⟩⟩ | exact ⟨_, rfl, _, rfl⟩ | exact ⟨_, rfl⟩ | refine And.intro ?_ ?_)
    · repeat' (first | exact trivial | exact ⟨_, rfl, rfl⟩ | exact ⟨_, rfl, Or.inl rfl⟩ | exact ⟨_, rfl, Or.inr ⟨rfl, rfl⟩⟩ | exact ⟨_, rfl, _, rfl⟩ | exact ⟨_, rfl⟩ | refine And.intro ?_ ?_)
  intro i hi
  conv => whnf
  refine ⟨fun h => ?_, fun h => ?_⟩
  · conv => whnf
    have hl : i < t.dims.length := by simpa using h
    refine ⟨i, _, rfl, get_map hl, ?_⟩
    conv => whnf
    have hb := prodD_part h0 hd (i + 1)
    rw [prodD_take hl] at hb
    refine ⟨by omega, by omega, ?_⟩
    conv => whnf
    refine ⟨by omega, by omega, ?_⟩
    conv => whnf
    refine ⟨i + 1, by omega, by omega, ?_⟩
    rw [prodD_take hl]
    refine ⟨[some 0], by decide, rfl, ?_, ?_⟩
    · repeat' (first | exact trivial | exact ⟨_, rfl, rfl⟩ | exact ⟨_, rfl, Or.inl rfl⟩ | exact ⟨_, rfl, Or.inr ⟨rfl, rfl⟩⟩ | exact ⟨_, rfl, _, rfl⟩ | exact ⟨_, rfl⟩ | refine And.intro ?_ ?_)
    · repeat' (first | exact trivial | exact ⟨_, rfl, rfl⟩ | exact ⟨_, rfl, Or.inl rfl⟩ | exact ⟨_, rfl, Or.inr ⟨rfl, rfl⟩⟩ | exact ⟨_, rfl, _, rfl⟩ | exact ⟨_, rfl⟩ | refine And.intro ?_ ?_)
  · conv => whnf
    exact ⟨rfl, by simp at h; rw [List.take_of_length_le (by omega)]; rfl⟩
theorem size105 (t : Ty) (h0 : t.dims.all dimOk = true) (hd : t.dims.length ≤ 5) : P 105 [] [.agp (encTy t)] (fun _ r => r = iv (prodD t.dims)) := by
  refine PC.of_pure good ok105 rfl ?_
  conv => whnf
  refine ⟨0, LoopG.intro (fun i : Nat => ⟨[(0, .agp (encTy t)), (1, .loc 0 0), (3, iv (prodD (t.dims.take i))), (7, .p (encDims t.dims)), (8, iv t.dims.length), (9, iv i)], [.box [iv t.kind, .p (encDims t.dims)]]⟩) (fun i => i ≤ t.dims.length) (fun i => t.dims.length - i) (0) (by omega) ?_ ?_⟩
  · rw [show iv t.dims.length = iv (t.dims.map dimR).length by simp]
    refine ⟨[some 0], by decide, rfl, ?_, ?_⟩
    · repeat' (first | exact trivial | exact ⟨_, rfl, rfl⟩ | exact ⟨_, rfl, Or.inl rfl⟩ | exact ⟨_, rfl, Or.inr ⟨rfl, rfl⟩⟩ | exact ⟨_, rfl, _, rfl⟩ | exact ⟨_, rfl⟩ | refine And.intro ?_ ?_)
    · repeat' (first | exact trivial | exact ⟨_, rfl, rfl⟩ | exact ⟨_, rfl, Or.inl rfl⟩ | exact ⟨_, rfl, Or.inr ⟨rfl, rfl⟩⟩ | exact ⟨_, rfl, _, rfl⟩ | exact ⟨_, rfl⟩ | refine And.intro ?_ ?_)
  intro i hi
  conv => whnf
  refine ⟨fun h => ?_, fun h => ?_⟩
  · conv => whnf
    have hl : i < t.dims.length := by simpa using h
    refine ⟨i, _, rfl, get_map hl, ?_⟩
    conv => whnf
    have hb := prodD_part h0 hd (i + 1)
    rw [prodD_take hl] at hb
    refine ⟨by omega, by omega, ?_⟩
    conv => whnf
    refine ⟨by omega, by omega, ?_⟩
    conv => whnf
    refine ⟨i + 1, by omega, by omega, ?_⟩
    rw [prodD_take hl]
    refine ⟨[some 0], by decide, rfl, ?_, ?_⟩
    · repeat' (first | exact trivial | exact ⟨_, rfl, rfl⟩ | exact ⟨_, rfl, Or.inl rfl⟩ | exact ⟨_, rfl, Or.inr ⟨rfl, rfl⟩⟩ | exact ⟨_, rfl, _, rfl⟩ | exact ⟨_, rfl⟩ | refine And.intro ?_ ?_)
    · repeat' (first | exact trivial | exact ⟨_, rfl, rfl⟩ | exact ⟨_, rfl, Or.inl rfl⟩ | exact ⟨_, rfl, Or.inr ⟨rfl, rfl⟩⟩ | exact ⟨_, rfl, _, rfl⟩ | exact ⟨_, rfl⟩ | refine And.intro ?_ ?_)
  · conv => whnf
    exact ⟨rfl, by simp at h; rw [List.take_of_length_le (by omega)]; rfl⟩
theorem bad168 (d : Int) : P 168 [] [iv d] (fun _ r => r = .p (.bool (!dimOk d))) := by
  refine PC.of_pure good ok168 rfl ?_
  conv => whnf
  refine ⟨fun h1 => ?_, fun h1 => ?_⟩
  · conv => whnf
    exact ⟨rfl, by simp [oneS, dimOk_lo h1]⟩
  · conv => whnf
    refine ⟨fun h2 => ?_, fun h2 => ?_⟩
    · conv => whnf
      exact ⟨rfl, by simp [oneS, dimOk_hi h2]⟩
    · conv => whnf
      exact ⟨rfl, by simp [oneS, dimOk_of h1 h2]⟩
theorem Index236 (l : List Int) (hd : l.length < 1000) : P 236 [] [.p (encDims l), .fn 168 []] (fun _ r => ∃ n : Int, r = iv n ∧ (0 ≤ n ↔ l.all dimOk = false)) := by
  refine PC.of_pure good ok236 rfl (R := fun r => ∃ n : Int, r = iv n ∧ (0 ≤ n ↔ l.all dimOk = false)) ?_
  conv => whnf
  refine ⟨0, LoopG.intro (fun i : Nat => ⟨[(0, .p (encDims l)), (1, .fn 168 []), (7, iv l.length), (8, iv i)], []⟩) (fun i => i ≤ l.length ∧ ∀ k (hk : k < l.length), k < i → dimOk l[k] = true) (fun i => l.length - i) (0) (⟨by omega, by omega⟩) ?_ ?_⟩
  · rw [show iv l.length = iv (l.map dimR).length by simp]
    refine ⟨[], by decide, rfl, ?_, ?_⟩
    · repeat' (first | exact trivial | exact ⟨_, rfl, rfl⟩ | exact ⟨_, rfl, Or.inl rfl⟩ | exact ⟨_, rfl, Or.inr ⟨rfl, rfl⟩⟩ | exact ⟨_, rfl, _, rfl⟩ | exact ⟨_, rfl⟩ | refine And.intro ?_ ?_)
    · repeat' (first | exact trivial | exact ⟨_, rfl, rfl⟩ | exact ⟨_, rfl, Or.inl rfl⟩ | exact ⟨_, rfl, Or.inr ⟨rfl, rfl⟩⟩ | exact ⟨_, rfl, _, rfl⟩ | exact ⟨_, rfl⟩ | refine And.intro ?_ ?_)
  intro i hi
  conv => whnf
  refine ⟨fun h => ?_, fun h => ?_⟩
  · conv => whnf
    have hl : i < l.length := by simpa using h
    refine ⟨i, _, rfl, get_map hl, ?_⟩
    conv => whnf
    refine CallG.pure (bad168 l[i]) rfl ?_
    conv => whnf
    refine ⟨rfl, ?_⟩
    rintro _ _ rfl
    refine ⟨rfl, ?_⟩
    conv => whnf
    cases hb : dimOk l[i] with
    | false =>
      conv => whnf
      exact ⟨rfl, i, rfl, by simp [all_not hl hb]⟩
    | true =>
      conv => whnf
      refine ⟨by omega, by omega, ?_⟩
      conv => whnf
      refine ⟨i + 1, ⟨by omega, fun k hk hk' => ?_⟩, by omega, ?_⟩
      · by_cases e : k = i
        · subst e; exact hb
        · exact hi.2 k hk (by omega)
      · refine ⟨[], by decide, rfl, ?_, ?_⟩
        · repeat' (first | exact trivial | exact ⟨_, rfl, rfl⟩ | exact ⟨_, rfl, Or.inl rfl⟩ | exact ⟨_, rfl, Or.inr ⟨rfl, rfl⟩⟩ | exact ⟨_, rfl, _, rfl⟩ | exact ⟨_, rfl⟩ | refine And.intro ?_ ?_)
        · repeat' (first | exact trivial | exact ⟨_, rfl, rfl⟩ | exact ⟨_, rfl, Or.inl rfl⟩ | exact ⟨_, rfl, Or.inr ⟨rfl, rfl⟩⟩ | exact ⟨_, rfl, _, rfl⟩ | exact ⟨_, rfl⟩ | refine And.intro ?_ ?_)
  · conv => whnf
    have hall : l.all dimOk = true := all_of fun k hk => hi.2 k hk (by simp at h; omega)
    exact ⟨rfl, -1, rfl, by simp [hall]⟩
theorem Contains167 (l : List Int) (hd : l.length < 1000) : P 167 [] [.p (encDims l), .fn 168 []] (fun _ r => r = .p (.bool (!l.all dimOk))) := by
  refine PC.of_pure good ok167 rfl ?_
  conv => whnf
  refine CallG.pure (Index236 l hd) rfl ?_
  conv => whnf
  refine ⟨rfl, ?_⟩
  rintro _ _ ⟨n, rfl, hn⟩
  refine ⟨rfl, ?_⟩
  conv => whnf
  refine ⟨fun h => ?_, fun h => ?_⟩
  · conv => whnf
    exact ⟨rfl, by rw [hn.1 (by omega)]; rfl⟩
  · conv => whnf
    exact ⟨rfl, by
      cases hq : l.all dimOk with
      | true => rfl
      | false => exact absurd (hn.2 hq) (by omega)⟩
theorem IsType104 (t : Ty) (hd : t.dims.length < 1000) : P 104 [] [.agp (encTy t)] (fun _ r => r = .p (.bool (tyOk t))) := by
  refine PC.of_pure good ok104 rfl ?_
  conv => whnf
  refine CallG.pure (Contains167 t.dims hd) rfl ?_
  conv => whnf
  refine ⟨rfl, ?_⟩
  rintro _ _ rfl
  refine ⟨rfl, ?_⟩
  conv => whnf
  cases hall : t.dims.all dimOk with
  | false =>
    conv => whnf
    refine ⟨fun h1 => ?_, fun h1 => ?_⟩
    · conv => whnf
      exact ⟨rfl, by simp [oneS, tyOk, hall]⟩
    · conv => whnf
      refine ⟨fun h2 => ?_, fun h2 => ?_⟩
      · conv => whnf
        exact ⟨rfl, by simp [oneS, tyOk, hall]⟩
      · conv => whnf
        refine ⟨fun h3 => ?_, fun h3 => ?_⟩
        · conv => whnf
          exact ⟨rfl, by simp [oneS, tyOk, hall]⟩
        · conv => whnf
          exact ⟨rfl, by simp [oneS, tyOk, hall]⟩
  | true =>
    conv => whnf
    refine ⟨fun h1 => ?_, fun h1 => ?_⟩
    · conv => whnf
      refine ⟨fun h4 => ?_, fun h4 => ?_⟩
      · conv => whnf
        exact ⟨rfl, by simp at h4; simp [oneS, tyOk, hall, h1]; omega⟩
      · conv => whnf
        exact ⟨rfl, by simp at h4; simp [oneS, tyOk, hall, h1]; omega⟩
    · conv => whnf
      refine ⟨fun h2 => ?_, fun h2 => ?_⟩
      · conv => whnf
        refine ⟨fun h4 => ?_, fun h4 => ?_⟩
        · conv => whnf
          exact ⟨rfl, by simp at h4; simp [oneS, tyOk, hall, h2]; omega⟩
        · conv => whnf
          exact ⟨rfl, by simp at h4; simp [oneS, tyOk, hall, h2]; omega⟩
      · conv => whnf
        refine ⟨fun h3 => ?_, fun h3 => ?_⟩
        · conv => whnf
          refine ⟨fun h4 => ?_, fun h4 => ?_⟩
          · conv => whnf
            exact ⟨rfl, by simp at h4; simp [oneS, tyOk, hall, h3]; omega⟩
          · conv => whnf
            exact ⟨rfl, by simp at h4; simp [oneS, tyOk, hall, h3]; omega⟩
        · conv => whnf
          exact ⟨rfl, by simp [oneS, tyOk, hall, h1, h2, h3]⟩
theorem tyOk_all {t : Ty} (h : tyOk t = true) : t.dims.all dimOk = true := by
  unfold tyOk at h
  rw [Bool.and_eq_true] at h
  exact h.1
def szErr (t : Ty) : Int := if tyOk t = true then (if t.kind = 3 then 12 else 0) else 5
theorem Size51 (t : Ty) (hd : t.dims.length ≤ 5) : P 51 [] [.agp (encTy t)] (fun _ r => r = .tu [iv (if szErr t = 0 then prodD t.dims else 0), iv (szErr t)]) := by
  refine PC.of_pure good ok51 rfl ?_
  conv => whnf
  refine CallG.pure (IsType104 t (by omega)) rfl ?_
  conv => whnf
  refine ⟨rfl, ?_⟩
  rintro _ _ rfl
  refine ⟨rfl, ?_⟩
  conv => whnf
  unfold szErr
  cases hq : tyOk t with
  | false =>
    conv => whnf
    exact ⟨rfl, by simp [oneS]⟩
  | true =>
    conv => whnf
    refine ⟨fun h => ?_, fun h => ?_⟩
    · conv => whnf
      exact ⟨rfl, by simp [oneS, h]⟩
    · conv => whnf
      refine CallG.pure (size105 t (tyOk_all hq) hd) rfl ?_
      conv => whnf
      refine ⟨rfl, ?_⟩
      rintro _ _ rfl
      refine ⟨rfl, ?_⟩
      conv => whnf
      exact ⟨rfl, by simp [oneS, h]⟩
def manyT (l : List Ty) : Int := l.foldl (fun n t => if t.kind = 1 then n + prodD t.dims else n) 0
theorem manyT_snoc (l : List Ty) (t : Ty) : manyT (l ++ [t]) = if t.kind = 1 then manyT l + prodD t.dims else manyT l := by simp [manyT]
theorem manyT_take {l : List Ty} {i : Nat} (h : i < l.length) : manyT (l.take (i + 1)) = if l[i].kind = 1 then manyT (l.take i) + prodD l[i].dims else manyT (l.take i) := by
  rw [← List.take_append_getElem h, manyT_snoc]
def TysOk (l : List Ty) : Prop := ∀ t ∈ l, t.dims.all dimOk = true ∧ t.dims.length ≤ 5
theorem manyT_bound {l : List Ty} (h : TysOk l) : 0 ≤ manyT l ∧ manyT l ≤ 32768 * l.length := by
  have key : ∀ {l : List Ty} (_ : TysOk l) (a : Int), a ≤ l.foldl (fun n t => if t.kind = 1 then n + prodD t.dims else n) a ∧ l.foldl (fun n t => if t.kind = 1 then n + prodD t.dims else n) a ≤ a + 32768 * l.length := by
    intro l
    induction l with
    | nil => intro _ a; simp
    | cons t l ih =>
      intro h a
      obtain ⟨h1, h2⟩ := h t (by simp)
      have hp := prodD_part h1 h2 t.dims.length
      rw [List.take_length] at hp
      obtain ⟨q1, q2⟩ := ih (fun x hx => h x (by simp [hx])) (if t.kind = 1 then a + prodD t.dims else a)
      simp only [List.foldl_cons, List.length_cons]
      constructor
      · refine Int.le_trans ?_ q1
        split <;> omega
      · refine Int.le_trans q2 ?_
        split <;> omega
  have := key h 0
  simpa [manyT] using this
theorem TysOk.take {l : List Ty} (h : TysOk l) (i : Nat) : TysOk (l.take i) := fun t ht => h t (List.mem_of_mem_take ht)
theorem Many10 (l : List Ty) (h0 : TysOk l) (hl66 : l.length ≤ 66) : P 10 [] [.p (encTys l)] (fun _ r => r = iv (manyT l)) := by
  refine PC.of_pure good ok10 rfl ?_
  conv => whnf
  refine ⟨0, LoopG.intro (fun i : Nat => ⟨[(0, .p (encTys l)), (3, iv (manyT (l.take i))), (4, iv i)], []⟩) (fun i => i ≤ l.length) (fun i => l.length - i) (0) (by omega) ?_ ?_⟩
  · refine ⟨[], by decide, rfl, ?_, ?_⟩
    · repeat' (first | exact trivial | exact ⟨_, rfl, rfl⟩ | exact ⟨_, rfl, Or.inl rfl⟩ | exact ⟨_, rfl, Or.inr ⟨rfl, rfl⟩⟩ | exact ⟨_, rfl, _, rfl⟩ | exact ⟨_, rfl⟩ | refine And.intro ?_ ?_)
    · repeat' (first | exact trivial | exact ⟨_, rfl, rfl⟩ | exact ⟨_, rfl, Or.inl rfl⟩ | exact ⟨_, rfl, Or.inr ⟨rfl, rfl⟩⟩ | exact ⟨_, rfl, _, rfl⟩ | exact ⟨_, rfl⟩ | refine And.intro ?_ ?_)
  intro i hi
  conv => whnf
  refine ⟨fun h => ?_, fun h => ?_⟩
  · conv => whnf
    have hl : i < l.length := by simpa using h
    have hb := manyT_bound (h0.take (i + 1))
    have hlt : ((l.take (i + 1)).length : Int) ≤ 66 := by simp; omega
    rw [manyT_take hl] at hb
    refine ⟨i, _, rfl, get_map hl, ?_⟩
    conv => whnf
    refine ⟨fun hk => ?_, fun hk => ?_⟩
    · rw [if_pos hk] at hb
      conv => whnf
      refine ⟨i, _, rfl, get_map hl, ?_⟩
      conv => whnf
      obtain ⟨a1, a2⟩ := h0 l[i] (List.getElem_mem hl)
      refine CallG.pure (Size44 l[i] a1 a2) rfl ?_
      conv => whnf
      refine ⟨rfl, ?_⟩
      rintro _ _ rfl
      refine ⟨rfl, ?_⟩
      conv => whnf
      refine ⟨by omega, by omega, ?_⟩
      conv => whnf
      refine ⟨by omega, by omega, ?_⟩
      conv => whnf
      refine ⟨i + 1, by omega, by omega, ?_⟩
      rw [manyT_take hl, if_pos hk]
      refine ⟨[], by decide, rfl, ?_, ?_⟩
      · repeat' (first | exact trivial | exact ⟨_, rfl, rfl⟩ | exact ⟨_, rfl, Or.inl rfl⟩ | exact ⟨_, rfl, Or.inr ⟨rfl, rfl⟩⟩ | exact ⟨_, rfl, _, rfl⟩ | exact ⟨_, rfl⟩ | refine And.intro ?_ ?_)
      · repeat' (first | exact trivial | exact ⟨_, rfl, rfl⟩ | exact ⟨_, rfl, Or.inl rfl⟩ | exact ⟨_, rfl, Or.inr ⟨rfl, rfl⟩⟩ | exact ⟨_, rfl, _, rfl⟩ | exact ⟨_, rfl⟩ | refine And.intro ?_ ?_)
    · conv => whnf
      refine ⟨by omega, by omega, ?_⟩
      conv => whnf
      refine ⟨i + 1, by omega, by omega, ?_⟩
      rw [manyT_take hl, if_neg hk]
      refine ⟨[], by decide, rfl, ?_, ?_⟩
      · repeat' (first | exact trivial | exact ⟨_, rfl, rfl⟩ | exact ⟨_, rfl, Or.inl rfl⟩ | exact ⟨_, rfl, Or.inr ⟨rfl, rfl⟩⟩ | exact ⟨_, rfl, _, rfl⟩ | exact ⟨_, rfl⟩ | refine And.intro ?_ ?_)
      · repeat' (first | exact trivial | exact ⟨_, rfl, rfl⟩ | exact ⟨_, rfl, Or.inl rfl⟩ | exact ⟨_, rfl, Or.inr ⟨rfl, rfl⟩⟩ | exact ⟨_, rfl, _, rfl⟩ | exact ⟨_, rfl⟩ | refine And.intro ?_ ?_)
  · conv => whnf
    exact ⟨rfl, by simp at h; rw [List.take_of_length_le (by omega)]; rfl⟩
end Go.Sx.Tz
end
section
namespace Go.Sx.Tz
open Go Go.Ev Go.Ev.Tz Go.Sx Go.Proofs
set_option maxHeartbeats 4000000
attribute [local irreducible] CallG LoopG
theorem digits79 (x : List Nat) (hl : x.length < 100000) : P 79 [] [.p (encN x), .p (encN x)] (fun _ r => r = bv true) := by
  refine PC.of_pure good ok79 rfl ?_
  conv => whnf
  refine ⟨fun _ => ?_, fun h => absurd rfl h⟩
  conv => whnf
  refine ⟨0, LoopG.intro (fun i : Nat => ⟨[(0, .p (encN x)), (1, .p (encN x)), (5, iv i)], []⟩) (fun i => i ≤ x.length) (fun i => x.length - i) (0) (by omega) ?_ ?_⟩
  · refine ⟨[], by decide, rfl, ?_, ?_⟩
    · repeat' (first | exact trivial | exact ⟨_, rfl, rfl⟩ | exact ⟨_, rfl, Or.inl rfl⟩ | exact ⟨_, rfl, Or.inr ⟨rfl, rfl⟩⟩ | exact ⟨_, rfl, _, rfl⟩ | exact ⟨_, rfl⟩ | refine And.intro ?_ ?_)
    · repeat' (first | exact trivial | exact ⟨_, rfl, rfl⟩ | exact ⟨_, rfl, Or.inl rfl⟩ | exact ⟨_, rfl, Or.inr ⟨rfl, rfl⟩⟩ | exact ⟨_, rfl, _, rfl⟩ | exact ⟨_, rfl⟩ | refine And.intro ?_ ?_)
  intro i hi
  conv => whnf
  refine ⟨fun h => ?_, fun h => ?_⟩
  · conv => whnf
    have hil : i < x.length := by simpa using h
    refine ⟨i, _, rfl, get_map hil, ?_⟩
    conv => whnf
    refine ⟨i, _, rfl, get_map hil, ?_⟩
    conv => whnf
    refine ⟨fun _ => ?_, fun h => absurd rfl h⟩
    conv => whnf
    refine ⟨by omega, by omega, ?_⟩
    conv => whnf
    refine ⟨i + 1, by omega, by omega, ?_⟩
    refine ⟨[], by decide, rfl, ?_, ?_⟩
    · repeat' (first | exact trivial | exact ⟨_, rfl, rfl⟩ | exact ⟨_, rfl, Or.inl rfl⟩ | exact ⟨_, rfl, Or.inr ⟨rfl, rfl⟩⟩ | exact ⟨_, rfl, _, rfl⟩ | exact ⟨_, rfl⟩ | refine And.intro ?_ ?_)
    · repeat' (first | exact trivial | exact ⟨_, rfl, rfl⟩ | exact ⟨_, rfl, Or.inl rfl⟩ | exact ⟨_, rfl, Or.inr ⟨rfl, rfl⟩⟩ | exact ⟨_, rfl, _, rfl⟩ | exact ⟨_, rfl⟩ | refine And.intro ?_ ?_)
  · conv => whnf
    exact ⟨rfl, rfl⟩
theorem Equal33 (x : RatS) (h1 : x.num.length < 100000) (h2 : x.den.length < 100000) : P 33 [] [.agp (encR x), .agp (encR x)] (fun _ r => r = bv true) := by
  obtain ⟨f, neg, n, d⟩ := x
  refine PC.of_pure good ok33 rfl ?_
  conv => whnf
  refine ⟨fun _ => ?_, fun h => absurd rfl h⟩
  conv => whnf
  cases neg
  all_goals
    conv => whnf
    refine CallG.pure (digits79 n h1) rfl ?_
    conv => whnf
    refine ⟨rfl, ?_⟩
    rintro _ _ rfl
    refine ⟨rfl, ?_⟩
    conv => whnf
    refine CallG.pure (digits79 d h2) rfl ?_
    conv => whnf
    refine ⟨rfl, ?_⟩
    rintro _ _ rfl
    refine ⟨rfl, ?_⟩
    conv => whnf
    exact ⟨rfl, rfl⟩
theorem Same108 (t : Ty) (hl : t.dims.length < 100000) : P 108 [] [.agp (encTy t), .agp (encTy t)] (fun _ r => r = bv true) := by
  refine PC.of_pure good ok108 rfl ?_
  conv => whnf
  refine ⟨fun _ => ?_, fun h => absurd rfl h⟩
  conv => whnf
  refine ⟨fun _ => ?_, fun h => absurd rfl h⟩
  conv => whnf
  refine ⟨0, LoopG.intro (fun i : Nat => ⟨[(0, .agp (encTy t)), (1, .agp (encTy t)), (2, .loc 0 0), (3, .loc 1 0), (5, iv i)], [.box [iv t.kind, .p (encDims t.dims)], .box [iv t.kind, .p (encDims t.dims)]]⟩) (fun i => i ≤ t.dims.length) (fun i => t.dims.length - i) (0) (by omega) ?_ ?_⟩
  · refine ⟨[some 0, some 1], by decide, rfl, ?_, ?_⟩
    · repeat' (first | exact trivial | exact ⟨_, rfl, rfl⟩ | exact ⟨_, rfl, Or.inl rfl⟩ | exact ⟨_, rfl, Or.inr ⟨rfl, rfl⟩⟩ | exact ⟨_, rfl, _, rfl⟩ | exact ⟨_, rfl⟩ | refine And.intro ?_ ?_)
    · repeat' (first | exact trivial | exact ⟨_, rfl, rfl⟩ | exact ⟨_, rfl, Or.inl rfl⟩ | exact ⟨_, rfl, Or.inr ⟨rfl, rfl⟩⟩ | exact ⟨_, rfl, _, rfl⟩ | exact ⟨_, rfl⟩ | refine And.intro ?_ ?_)
  intro i hi
  conv => whnf
  refine ⟨fun h => ?_, fun h => ?_⟩
  · conv => whnf
    have hil : i < t.dims.length := by simpa using h
    refine ⟨i, _, rfl, get_map hil, ?_⟩
    conv => whnf
    refine ⟨i, _, rfl, get_map hil, ?_⟩
    conv => whnf
    refine ⟨fun _ => ?_, fun h => absurd rfl h⟩
    conv => whnf
    refine ⟨by omega, by omega, ?_⟩
    conv => whnf
    refine ⟨i + 1, by omega, by omega, ?_⟩
    refine ⟨[some 0, some 1], by decide, rfl, ?_, ?_⟩
    · repeat' (first | exact trivial | exact ⟨_, rfl, rfl⟩ | exact ⟨_, rfl, Or.inl rfl⟩ | exact ⟨_, rfl, Or.inr ⟨rfl, rfl⟩⟩ | exact ⟨_, rfl, _, rfl⟩ | exact ⟨_, rfl⟩ | refine And.intro ?_ ?_)
    · repeat' (first | exact trivial | exact ⟨_, rfl, rfl⟩ | exact ⟨_, rfl, Or.inl rfl⟩ | exact ⟨_, rfl, Or.inr ⟨rfl, rfl⟩⟩ | exact ⟨_, rfl, _, rfl⟩ | exact ⟨_, rfl⟩ | refine And.intro ?_ ?_)
  · conv => whnf
    exact ⟨rfl, rfl⟩
def RatLen (x : RatS) : Prop := x.num.length < 100000 ∧ x.den.length < 100000
theorem Equal54 (v : ValS) (h1 : v.ty.dims.length < 100000) (h2 : v.nums.length < 100000) (h3 : v.bits.length < 100000) (h4 : ∀ x ∈ v.nums, RatLen x) : P 54 [] [.agp (encV v), .agp (encV v)] (fun _ r => r = bv true) := by
  refine PC.of_pure good ok54 rfl ?_
  conv => whnf
  refine CallG.pure (Same108 v.ty h1) rfl ?_
  conv => whnf
  refine ⟨rfl, ?_⟩
  rintro _ _ rfl
  refine ⟨rfl, ?_⟩
  conv => whnf
  refine ⟨fun _ => ?_, fun h => absurd rfl h⟩
  conv => whnf
  refine ⟨fun _ => ?_, fun h => absurd rfl h⟩
  conv => whnf
  refine ⟨0, LoopG.intro (fun i : Nat => ⟨[(2, .loc 0 0), (3, .loc 1 0), (5, iv i)], [.box [iv v.ty.kind, .p (encDims v.ty.dims), .p (encRs v.nums), .p (.sl 154 (v.bits.map encB))], .box [iv v.ty.kind, .p (encDims v.ty.dims), .p (encRs v.nums), .p (.sl 154 (v.bits.map encB))]]⟩) (fun i => i ≤ v.nums.length) (fun i => v.nums.length - i) (0) (by omega) ?_ ?_⟩
  · refine ⟨[some 0, some 1], by decide, rfl, ?_, ?_⟩
    · repeat' (first | exact trivial | exact ⟨_, rfl, rfl⟩ | exact ⟨_, rfl, Or.inl rfl⟩ | exact ⟨_, rfl, Or.inr ⟨rfl, rfl⟩⟩ | exact ⟨_, rfl, _, rfl⟩ | exact ⟨_, rfl⟩ | refine And.intro ?_ ?_)
    · repeat' (first | exact trivial | exact ⟨_, rfl, rfl⟩ | exact ⟨_, rfl, Or.inl rfl⟩ | exact ⟨_, rfl, Or.inr ⟨rfl, rfl⟩⟩ | exact ⟨_, rfl, _, rfl⟩ | exact ⟨_, rfl⟩ | refine And.intro ?_ ?_)
  intro i hi
  conv => whnf
  refine ⟨fun h => ?_, fun h => ?_⟩
  · conv => whnf
    have hil : i < v.nums.length := by simpa using h
    have hr := h4 v.nums[i] (List.getElem_mem hil)
    refine ⟨i, _, rfl, get_map hil, ?_⟩
    conv => whnf
    refine ⟨i, _, rfl, get_map hil, ?_⟩
    conv => whnf
    refine CallG.pure (Equal33 v.nums[i] hr.1 hr.2) rfl ?_
    conv => whnf
    refine ⟨rfl, ?_⟩
    rintro _ _ rfl
    refine ⟨rfl, ?_⟩
    conv => whnf
    refine ⟨by omega, by omega, ?_⟩
    conv => whnf
    refine ⟨i + 1, by omega, by omega, ?_⟩
    refine ⟨[some 0, some 1], by decide, rfl, ?_, ?_⟩
    · repeat' (first | exact trivial | exact ⟨_, rfl, rfl⟩ | exact ⟨_, rfl, Or.inl rfl⟩ | exact ⟨_, rfl, Or.inr ⟨rfl, rfl⟩⟩ | exact ⟨_, rfl, _, rfl⟩ | exact ⟨_, rfl⟩ | refine And.intro ?_ ?_)
    · repeat' (first | exact trivial | exact ⟨_, rfl, rfl⟩ | exact ⟨_, rfl, Or.inl rfl⟩ | exact ⟨_, rfl, Or.inr ⟨rfl, rfl⟩⟩ | exact ⟨_, rfl, _, rfl⟩ | exact ⟨_, rfl⟩ | refine And.intro ?_ ?_)
  · conv => whnf
    refine ⟨0, LoopG.intro (fun i : Nat => ⟨[(2, .loc 0 0), (3, .loc 1 0), (6, iv i)], [.box [iv v.ty.kind, .p (encDims v.ty.dims), .p (encRs v.nums), .p (.sl 154 (v.bits.map encB))], .box [iv v.ty.kind, .p (encDims v.ty.dims), .p (encRs v.nums), .p (.sl 154 (v.bits.map encB))]]⟩) (fun i => i ≤ v.bits.length) (fun i => v.bits.length - i) (0) (by omega) ?_ ?_⟩
    · refine ⟨[some 0, some 1], by decide, rfl, ?_, ?_⟩
      · repeat' (first | exact trivial | exact ⟨_, rfl, rfl⟩ | exact ⟨_, rfl, Or.inl rfl⟩ | exact ⟨_, rfl, Or.inr ⟨rfl, rfl⟩⟩ | exact ⟨_, rfl, _, rfl⟩ | exact ⟨_, rfl⟩ | refine And.intro ?_ ?_)
      · repeat' (first | exact trivial | exact ⟨_, rfl, rfl⟩ | exact ⟨_, rfl, Or.inl rfl⟩ | exact ⟨_, rfl, Or.inr ⟨rfl, rfl⟩⟩ | exact ⟨_, rfl, _, rfl⟩ | exact ⟨_, rfl⟩ | refine And.intro ?_ ?_)
    intro i hi
    conv => whnf
    refine ⟨fun h => ?_, fun h => ?_⟩
    · conv => whnf
      have hil : i < v.bits.length := by simpa using h
      refine ⟨i, _, rfl, get_map hil, ?_⟩
      conv => whnf
      refine ⟨i, _, rfl, get_map hil, ?_⟩
      conv => whnf
      refine ⟨fun _ => ?_, fun h => absurd rfl h⟩
      conv => whnf
      cases v.bits[i].on
      all_goals
        conv => whnf
        refine ⟨by omega, by omega, ?_⟩
        conv => whnf
        refine ⟨i + 1, by omega, by omega, ?_⟩
        refine ⟨[some 0, some 1], by decide, rfl, ?_, ?_⟩
        · repeat' (first | exact trivial | exact ⟨_, rfl, rfl⟩ | exact ⟨_, rfl, Or.inl rfl⟩ | exact ⟨_, rfl, Or.inr ⟨rfl, rfl⟩⟩ | exact ⟨_, rfl, _, rfl⟩ | exact ⟨_, rfl⟩ | refine And.intro ?_ ?_)
        · repeat' (first | exact trivial | exact ⟨_, rfl, rfl⟩ | exact ⟨_, rfl, Or.inl rfl⟩ | exact ⟨_, rfl, Or.inr ⟨rfl, rfl⟩⟩ | exact ⟨_, rfl, _, rfl⟩ | exact ⟨_, rfl⟩ | refine And.intro ?_ ?_)
    · conv => whnf
      exact ⟨rfl, rfl⟩
def ValLen (v : ValS) : Prop := v.ty.dims.length < 100000 ∧ v.nums.length < 100000 ∧ v.bits.length < 100000 ∧ ∀ x ∈ v.nums, RatLen x
theorem Equals13 (l : List ValS) (hl : l.length < 100000) (h : ∀ v ∈ l, ValLen v) : P 13 [] [.p (encVs l), .p (encVs l)] (fun _ r => r = bv true) := by
  refine PC.of_pure good ok13 rfl ?_
  conv => whnf
  refine ⟨fun _ => ?_, fun h => absurd rfl h⟩
  conv => whnf
  refine ⟨0, LoopG.intro (fun i : Nat => ⟨[(0, .p (encVs l)), (1, .p (encVs l)), (5, iv i)], []⟩) (fun i => i ≤ l.length) (fun i => l.length - i) (0) (by omega) ?_ ?_⟩
  · refine ⟨[], by decide, rfl, ?_, ?_⟩
    · repeat' (first | exact trivial | exact ⟨_, rfl, rfl⟩ | exact ⟨_, rfl, Or.inl rfl⟩ | exact ⟨_, rfl, Or.inr ⟨rfl, rfl⟩⟩ | exact ⟨_, rfl, _, rfl⟩ | exact ⟨_, rfl⟩ | refine And.intro ?_ ?_)
    · repeat' (first | exact trivial | exact ⟨_, rfl, rfl⟩ | exact ⟨_, rfl, Or.inl rfl⟩ | exact ⟨_, rfl, Or.inr ⟨rfl, rfl⟩⟩ | exact ⟨_, rfl, _, rfl⟩ | exact ⟨_, rfl⟩ | refine And.intro ?_ ?_)
  intro i hi
  conv => whnf
  refine ⟨fun h' => ?_, fun h' => ?_⟩
  · conv => whnf
    have hil : i < l.length := by simpa using h'
    obtain ⟨a1, a2, a3, a4⟩ := h l[i] (List.getElem_mem hil)
    refine ⟨i, _, rfl, get_map hil, ?_⟩
    conv => whnf
    refine ⟨i, _, rfl, get_map hil, ?_⟩
    conv => whnf
    refine CallG.pure (Equal54 l[i] a1 a2 a3 a4) rfl ?_
    conv => whnf
    refine ⟨rfl, ?_⟩
    rintro _ _ rfl
    refine ⟨rfl, ?_⟩
    conv => whnf
    refine ⟨by omega, by omega, ?_⟩
    conv => whnf
    refine ⟨i + 1, by omega, by omega, ?_⟩
    refine ⟨[], by decide, rfl, ?_, ?_⟩
    · repeat' (first | exact trivial | exact ⟨_, rfl, rfl⟩ | exact ⟨_, rfl, Or.inl rfl⟩ | exact ⟨_, rfl, Or.inr ⟨rfl, rfl⟩⟩ | exact ⟨_, rfl, _, rfl⟩ | exact ⟨_, rfl⟩ | refine And.intro ?_ ?_)
    · repeat' (first | exact trivial | exact ⟨_, rfl, rfl⟩ | exact ⟨_, rfl, Or.inl rfl⟩ | exact ⟨_, rfl, Or.inr ⟨rfl, rfl⟩⟩ | exact ⟨_, rfl, _, rfl⟩ | exact ⟨_, rfl⟩ | refine And.intro ?_ ?_)
  · conv => whnf
    exact ⟨rfl, rfl⟩
end Go.Sx.Tz
end
section
namespace Go.Sx.Tz
open Go Go.Ev Go.Ev.Tz Go.Sx Go.Proofs
set_option maxHeartbeats 4000000
attribute [local irreducible] CallG LoopG
theorem Exact125 (neg : Bool) (n d : Nat) (ln : (dg n).length < 5000) (ld : (dg d).length < 5000) (hd : 0 < d) : P 125 [] [bv neg, nv n, nv d] (fun _ r => r = .agp (encR (lowQ neg n d).st)) := by
  rw [show (lowQ neg n d).st = low neg n d from rfl]
  by_cases hg : n = 0 ∨ Nat.gcd n d = 1
  · exact Exact125c neg n d ln ld hd hg
  have hn : 0 < n := by omega
  have hg0 : 0 < Nat.gcd n d := Nat.gcd_pos_of_pos_right _ hd
  obtain ⟨g, hgg⟩ : ∃ g, Nat.gcd n d = g := ⟨_, rfl⟩
  have lg : (dg g).length < 5000 := by rw [← hgg]; exact Nat.lt_of_le_of_lt (len_le (Nat.gcd_le_right n hd)) ld
  have hG := Gcd81 n d ln ld
  have hg1 : 1 < g := by omega
  have hlow : low neg n d = ⟨0, neg, dg (n / g), dg (d / g)⟩ := by unfold low; rw [decide_eq_true hn, hgg]; simp
  rw [hgg] at hG
  have l1 := len_le (Nat.div_le_self n g)
  have l2 := len_le (Nat.div_le_self d g)
  refine PC.of_pure good ok125 rfl ?_
  conv => whnf
  refine ⟨fun h => ?_, fun h => ?_⟩
  · exact absurd (zero_len.1 h) (by omega)
  · conv => whnf
    refine CallG.pure (hG) rfl ?_
    conv => whnf
    refine ⟨rfl, ?_⟩
    rintro _ _ rfl
    refine ⟨rfl, ?_⟩
    conv => whnf
    refine ⟨fun h2 => ?_, fun h2 => ?_⟩
    · conv => whnf
      refine CallG.pure (Div191 n g (by omega) (by omega) (by omega)) rfl ?_
      conv => whnf
      refine ⟨rfl, ?_⟩
      rintro _ _ rfl
      refine ⟨rfl, ?_⟩
      conv => whnf
      refine CallG.pure (Div191 d g (by omega) (by omega) (by omega)) rfl ?_
      conv => whnf
      refine ⟨rfl, ?_⟩
      rintro _ _ rfl
      refine ⟨rfl, ?_⟩
      conv => whnf
      refine ⟨rfl, rfl, (by show _ * 4 ≤ _; simp; omega), ?_⟩
      conv => whnf
      refine ⟨rfl, rfl, (by show _ * 4 ≤ _; simp; omega), ?_⟩
      conv => whnf
      exact ⟨rfl, by rw [hlow]; rfl⟩
    · have lg1 : (dg g).length = 1 := by
        rw [List.length_map] at h2
        have : (dg g).length ≠ 0 := fun e => by have := dg_len_pos.1 e; omega
        omega
      obtain ⟨e, he⟩ := List.length_eq_one_iff.1 lg1
      have hev : g = e := by rw [← vl_dg g, he]; simp [vl]
      conv => whnf
      refine ⟨0, digR e, rfl, (by rw [he]; rfl), ?_⟩
      conv => whnf
      refine ⟨fun h3 => ?_, fun h3 => ?_⟩
      · conv => whnf
        refine CallG.pure (Div191 n g (by omega) (by omega) (by omega)) rfl ?_
        conv => whnf
        refine ⟨rfl, ?_⟩
        rintro _ _ rfl
        refine ⟨rfl, ?_⟩
        conv => whnf
        refine CallG.pure (Div191 d g (by omega) (by omega) (by omega)) rfl ?_
        conv => whnf
        refine ⟨rfl, ?_⟩
        rintro _ _ rfl
        refine ⟨rfl, ?_⟩
        conv => whnf
        refine ⟨rfl, rfl, (by show _ * 4 ≤ _; simp; omega), ?_⟩
        conv => whnf
        refine ⟨rfl, rfl, (by show _ * 4 ≤ _; simp; omega), ?_⟩
        conv => whnf
        exact ⟨rfl, by rw [hlow]; rfl⟩
      · omega
theorem signed123 (na : Bool) (a : Nat) (nb : Bool) (b : Nat) (la : (dg a).length < 20000) (lb : (dg b).length < 20000) : P 123 [] [bv na, nv a, bv nb, nv b] (fun _ r => r = .tu [bv (sgnS na a nb b), nv (sgnA na a nb b)]) := by
  refine PC.of_pure good ok123 rfl ?_
  conv => whnf
  by_cases he : na = nb
  · subst he
    cases na
    all_goals
      conv => whnf
      refine CallG.pure (Add188 a b la lb) rfl ?_
      conv => whnf
      refine ⟨rfl, ?_⟩
      rintro _ _ rfl
      refine ⟨rfl, ?_⟩
      conv => whnf
      exact ⟨rfl, rfl⟩
  · have hx : (na = true ∧ nb = false) ∨ (na = false ∧ nb = true) := by cases na <;> cases nb <;> simp at he ⊢
    rcases hx with ⟨rfl, rfl⟩ | ⟨rfl, rfl⟩
    all_goals
      conv => whnf
      refine CallG.pure (Compare140 a b (by omega) (by omega)) rfl ?_
      conv => whnf
      refine ⟨rfl, ?_⟩
      rintro _ _ rfl
      refine ⟨rfl, ?_⟩
      conv => whnf
      refine ⟨fun h => ?_, fun h => ?_⟩
      · have hge : ¬ a < b := fun q => by have := cmp_neg.2 q; omega
        conv => whnf
        refine CallG.pure (Sub141 a b (by omega) (by omega)) rfl ?_
        conv => whnf
        refine ⟨rfl, ?_⟩
        rintro _ _ rfl
        refine ⟨rfl, ?_⟩
        conv => whnf
        exact ⟨rfl, by simp only [sgnS, sgnA, if_neg hge]; rfl⟩
      · have hlt : a < b := cmp_neg.1 (by omega)
        conv => whnf
        refine CallG.pure (Sub141 b a (by omega) (by omega)) rfl ?_
        conv => whnf
        refine ⟨rfl, ?_⟩
        rintro _ _ rfl
        refine ⟨rfl, ?_⟩
        conv => whnf
        exact ⟨rfl, by simp only [sgnS, sgnA, if_pos hlt]; rfl⟩
theorem Mul124d (a b : Nat) (la : (dg a).length < 20000) (lb : (dg b).length < 20000) : P 124 [] [nv a, nv b] (fun _ r => r = nv (a * b)) := by
  have := Mul124 (dg a) (dg b) (dg_Dg a) (dg_Dg b) la lb
  rw [vl_dg, vl_dg] at this
  exact this
def Ln (q : Q) (n d : Nat) : Prop := (dg q.n).length ≤ n ∧ (dg q.d).length ≤ d
theorem Plus67 (a b : Q) (ha : a.lo) (hb : b.lo) (k l k' l' : Nat) (la : Ln a k l) (lb : Ln b k' l') (h1 : k + l' < 4990) (h2 : k' + l < 4990) (h3 : l + l' < 4990) : P 67 [] [.agp (encR a.st), .agp (encR b.st)] (fun _ r => r = .agp (encR (addQ a b).st)) := by
  obtain ⟨a1, a2⟩ := la
  obtain ⟨b1, b2⟩ := lb
  have l1 := len_mul' a1 b2
  have l2 := len_mul' b1 a2
  have l3 := len_mul' a2 b2
  have l4 := @len_sgnA a.neg b.neg (a.n * b.d) (b.n * a.d) 4990 (by omega) (by omega)
  refine PC.of_pure good ok67 rfl ?_
  conv => whnf
  refine CallG.pure (Mul124d a.n b.d (by omega) (by omega)) rfl ?_
  conv => whnf
  refine ⟨rfl, ?_⟩
  rintro _ _ rfl
  refine ⟨rfl, ?_⟩
  conv => whnf
  refine CallG.pure (Mul124d b.n a.d (by omega) (by omega)) rfl ?_
  conv => whnf
  refine ⟨rfl, ?_⟩
  rintro _ _ rfl
  refine ⟨rfl, ?_⟩
  conv => whnf
  refine CallG.pure (signed123 a.neg (a.n * b.d) b.neg (b.n * a.d) (by omega) (by omega)) rfl ?_
  conv => whnf
  refine ⟨rfl, ?_⟩
  rintro _ _ rfl
  refine ⟨rfl, ?_⟩
  conv => whnf
  refine CallG.pure (Mul124d a.d b.d (by omega) (by omega)) rfl ?_
  conv => whnf
  refine ⟨rfl, ?_⟩
  rintro _ _ rfl
  refine ⟨rfl, ?_⟩
  conv => whnf
  refine CallG.pure (Exact125 (sgnS a.neg (a.n * b.d) b.neg (b.n * a.d)) (sgnA a.neg (a.n * b.d) b.neg (b.n * a.d)) (a.d * b.d) (by omega) (by omega) (Nat.mul_pos ha.1 hb.1)) rfl ?_
  conv => whnf
  refine ⟨rfl, ?_⟩
  rintro _ _ rfl
  refine ⟨rfl, ?_⟩
  conv => whnf
  exact ⟨rfl, rfl⟩
theorem Times68 (a b : Q) (ha : a.lo) (hb : b.lo) (k l k' l' : Nat) (la : Ln a k l) (lb : Ln b k' l') (h1 : k + k' < 4990) (h3 : l + l' < 4990) : P 68 [] [.agp (encR a.st), .agp (encR b.st)] (fun _ r => r = .agp (encR (mulQ a b).st)) := by
  obtain ⟨a1, a2⟩ := la
  obtain ⟨b1, b2⟩ := lb
  have l1 := len_mul' a1 b1
  have l3 := len_mul' a2 b2
  have e : ∀ t, t = (a.neg != b.neg) → P 125 [] [bv t, nv (a.n * b.n), nv (a.d * b.d)] (fun _ r => r = .agp (encR (mulQ a b).st)) := fun t ht => by
    subst ht
    exact Exact125 (a.neg != b.neg) (a.n * b.n) (a.d * b.d) (by omega) (by omega) (Nat.mul_pos ha.1 hb.1)
  obtain ⟨na, an, ad⟩ := a
  obtain ⟨nb, bn, bd⟩ := b
  simp only at a1 a2 b1 b2
  refine PC.of_pure good ok68 rfl ?_
  conv => whnf
  cases na <;> cases nb
  all_goals
    conv => whnf
    refine CallG.pure (Mul124d an bn (by omega) (by omega)) rfl ?_
    conv => whnf
    refine ⟨rfl, ?_⟩
    rintro _ _ rfl
    refine ⟨rfl, ?_⟩
    conv => whnf
    refine CallG.pure (Mul124d ad bd (by omega) (by omega)) rfl ?_
    conv => whnf
    refine ⟨rfl, ?_⟩
    rintro _ _ rfl
    refine ⟨rfl, ?_⟩
    conv => whnf
    refine CallG.pure (e _ rfl) rfl ?_
    conv => whnf
    refine ⟨rfl, ?_⟩
    rintro _ _ rfl
    refine ⟨rfl, ?_⟩
    conv => whnf
    exact ⟨rfl, rfl⟩
end Go.Sx.Tz
end
section
namespace Go.Sx.Tz
open Go Go.Ev Go.Ev.Tz Go.Sx Go.Proofs
set_option maxHeartbeats 4000000
attribute [local irreducible] CallG LoopG
theorem good80 (x : List Nat) : P 80 [] [.p (encN x)] (fun _ r => r = bv (decide (x.length ≤ 128 ∧ formE x = 0))) := by
  refine PC.of_pure good ok80 rfl ?_
  conv => whnf
  refine ⟨fun h => ?_, fun h => ?_⟩
  · have h : x.length ≤ 128 := by rw [List.length_map] at h; omega
    conv => whnf
    refine ⟨fun h2 => ?_, fun h2 => ?_⟩
    · have h2 : x.length = 0 := by rw [List.length_map] at h2; omega
      conv => whnf
      exact ⟨rfl, by
        have : formE x = 0 := by unfold formE; rw [if_neg (by omega), if_neg (by omega)]
        rw [decide_eq_true ⟨h, this⟩]; rfl⟩
    · have h2 : 0 < x.length := by rw [List.length_map] at h2; omega
      obtain ⟨j, hj⟩ : ∃ j, x.length = j + 1 := ⟨x.length - 1, by omega⟩
      have hjl : j < x.length := by omega
      conv => whnf
      refine ⟨by omega, by simp; omega, ?_⟩
      conv => whnf
      refine ⟨j, _, (by simp; omega), get_map hjl, ?_⟩
      conv => whnf
      have hd : dAt x (x.length - 1) = x[j] := by rw [hj, Nat.add_sub_cancel, dAt_lt hjl]
      refine ⟨fun h3 => ?_, fun h3 => ?_⟩
      · conv => whnf
        exact ⟨rfl, by
          have : ¬ formE x = 0 := by unfold formE; rw [if_neg (by omega), if_pos ⟨h2, by rw [hd]; omega⟩]; decide
          rw [decide_eq_false (fun q => this q.2)]; rfl⟩
      · conv => whnf
        exact ⟨rfl, by
          have : formE x = 0 := by unfold formE; rw [if_neg (by omega), if_neg (by rw [hd]; omega)]
          rw [decide_eq_true ⟨h, this⟩]; rfl⟩
  · have h : ¬ x.length ≤ 128 := by rw [List.length_map] at h; omega
    conv => whnf
    exact ⟨rfl, by rw [decide_eq_false (fun q => h q.1)]; rfl⟩
theorem good_iff {x : List Nat} (hx : Dg x) : (x.length ≤ 128 ∧ formE x = 0) ↔ (formE x = 0 ∧ bl (vl x) ≤ 4096) := by
  constructor
  · rintro ⟨h1, h2⟩
    exact ⟨h2, bl_128.2 (by rw [← (formE_ok hx h2).1]; exact h1)⟩
  · rintro ⟨h1, h2⟩
    have := bl_128.1 h2
    rw [← (formE_ok hx h1).1] at this
    exact ⟨this, h1⟩
theorem IsRat35 (x : RatS) (hn : Dg x.num) (hd : Dg x.den) : P 35 [] [.agp (encR x)] (fun _ r => ∃ b, r = bv b ∧ (x.fault = 0 → (b = true ↔ ∃ q : Q, q.lo ∧ q.sm ∧ x = q.st))) := by
  obtain ⟨e, neg, n, d⟩ := x
  simp only at hn hd ⊢
  refine PC.of_pure good ok35 rfl ?_
  conv => whnf
  refine ⟨fun he => ?_, fun he => ?_⟩
  rotate_left
  · cases neg
    all_goals
      conv => whnf
      repeat' (first | exact ⟨rfl, _, rfl, fun q => absurd q he⟩ | (refine ⟨fun h => ?_, fun h => ?_⟩ <;> (conv => whnf)))
  · have he : e = 0 := he
    subst he
    rw [show (∃ q : Q, q.lo ∧ q.sm ∧ (⟨0, neg, n, d⟩ : RatS) = q.st) = Chk neg n d from propext (chk_iff hn hd).symm]
    conv => whnf
    refine CallG.pure (good80 n) rfl ?_
    conv => whnf
    refine ⟨rfl, ?_⟩
    rintro _ _ rfl
    refine ⟨rfl, ?_⟩
    conv => whnf
    by_cases f1 : n.length ≤ 128 ∧ formE n = 0
    rotate_left
    · rw [decide_eq_false f1]
      conv => whnf
      exact ⟨rfl, false, rfl, fun _ => ⟨fun q => (by cases q), fun q => absurd ((good_iff hn).2 ⟨q.1, q.2.2.1⟩) f1⟩⟩
    rw [decide_eq_true f1]
    conv => whnf
    refine CallG.pure (good80 d) rfl ?_
    conv => whnf
    refine ⟨rfl, ?_⟩
    rintro _ _ rfl
    refine ⟨rfl, ?_⟩
    conv => whnf
    by_cases f2 : d.length ≤ 128 ∧ formE d = 0
    rotate_left
    · rw [decide_eq_false f2]
      conv => whnf
      exact ⟨rfl, false, rfl, fun _ => ⟨fun q => (by cases q), fun q => absurd ((good_iff hd).2 ⟨q.2.1, q.2.2.2.1⟩) f2⟩⟩
    rw [decide_eq_true f2]
    have g1 := (good_iff hn).1 f1
    have g2 := (good_iff hd).1 f2
    obtain ⟨e1, l1⟩ := formE_ok hn f1.2
    obtain ⟨e2, l2⟩ := formE_ok hd f2.2
    obtain ⟨a, ha⟩ : ∃ a, vl n = a := ⟨_, rfl⟩
    obtain ⟨b, hb⟩ : ∃ b, vl d = b := ⟨_, rfl⟩
    rw [ha] at e1 g1
    rw [hb] at e2 g2
    subst e1 e2
    unfold Chk
    rw [ha, hb]
    conv => whnf
    refine ⟨fun z => ?_, fun z => ?_⟩
    · conv => whnf
      exact ⟨rfl, false, rfl, fun _ => ⟨fun q => (by cases q), fun q => absurd q.2.2.2.2.1 (by rw [zero_len.1 z]; decide)⟩⟩
    have hb0 : 0 < b := Nat.pos_of_ne_zero fun q => z (zero_len.2 q)
    have fin : (neg = true → 0 < a) → (formE (dg a) = 0 ∧ formE (dg b) = 0 ∧ bl a ≤ 4096 ∧ bl b ≤ 4096 ∧ 0 < b ∧ (neg = true → 0 < a) ∧ Nat.gcd a b = 1 ↔ Nat.gcd a b = 1) := fun q => ⟨fun p => p.2.2.2.2.2.2, fun p => ⟨g1.1, g2.1, g1.2, g2.2, hb0, q, p⟩⟩
    obtain ⟨g, hg⟩ : ∃ g, Nat.gcd a b = g := ⟨_, rfl⟩
    rw [hg] at fin ⊢
    have hG := Gcd81 a b (by omega) (by omega)
    rw [hg] at hG
    have g1 : dg g = [1] ↔ g = 1 := ⟨fun q => by rw [← vl_dg g, q]; rfl, fun q => by rw [q, dg_1]⟩
    cases neg
    rotate_left
    · conv => whnf
      refine ⟨fun z2 => ?_, fun z2 => ?_⟩
      · conv => whnf
        exact ⟨rfl, false, rfl, fun _ => ⟨fun q => (by cases q), fun q => absurd (q.2.2.2.2.2.1 rfl) (by rw [zero_len.1 z2]; decide)⟩⟩
      have fin := fin fun _ => Nat.pos_of_ne_zero fun q => z2 (zero_len.2 q)
      conv => whnf
      refine CallG.pure (hG) rfl ?_
      conv => whnf
      refine ⟨rfl, ?_⟩
      rintro _ _ rfl
      refine ⟨rfl, ?_⟩
      conv => whnf
      refine ⟨fun z3 => ?_, fun z3 => ?_⟩
      · have lg : (dg g).length = 1 := by rw [List.length_map] at z3; omega
        obtain ⟨d0, hd0⟩ := List.length_eq_one_iff.1 lg
        conv => whnf
        refine ⟨0, digR d0, rfl, (by rw [hd0]; rfl), ?_⟩
        conv => whnf
        refine ⟨fun z4 => ?_, fun z4 => ?_⟩
        · conv => whnf
          exact ⟨rfl, true, rfl, fun _ => ⟨fun _ => fin.2 (g1.1 (by rw [hd0]; simp; omega)), fun _ => rfl⟩⟩
        · conv => whnf
          exact ⟨rfl, false, rfl, fun _ => ⟨fun q => (by cases q), fun q => absurd (g1.2 (fin.1 q)) (by rw [hd0]; simp; omega)⟩⟩
      · conv => whnf
        exact ⟨rfl, false, rfl, fun _ => ⟨fun q => (by cases q), fun q => absurd (by rw [g1.2 (fin.1 q)]; rfl) z3⟩⟩
    · have fin := fin (fun q => by cases q)
      conv => whnf
      refine CallG.pure (hG) rfl ?_
      conv => whnf
      refine ⟨rfl, ?_⟩
      rintro _ _ rfl
      refine ⟨rfl, ?_⟩
      conv => whnf
      refine ⟨fun z3 => ?_, fun z3 => ?_⟩
      · have lg : (dg g).length = 1 := by rw [List.length_map] at z3; omega
        obtain ⟨d0, hd0⟩ := List.length_eq_one_iff.1 lg
        conv => whnf
        refine ⟨0, digR d0, rfl, (by rw [hd0]; rfl), ?_⟩
        conv => whnf
        refine ⟨fun z4 => ?_, fun z4 => ?_⟩
        · conv => whnf
          exact ⟨rfl, true, rfl, fun _ => ⟨fun _ => fin.2 (g1.1 (by rw [hd0]; simp; omega)), fun _ => rfl⟩⟩
        · conv => whnf
          exact ⟨rfl, false, rfl, fun _ => ⟨fun q => (by cases q), fun q => absurd (g1.2 (fin.1 q)) (by rw [hd0]; simp; omega)⟩⟩
      · conv => whnf
        exact ⟨rfl, false, rfl, fun _ => ⟨fun q => (by cases q), fun q => absurd (by rw [g1.2 (fin.1 q)]; rfl) z3⟩⟩
theorem Bits37 (x : RatS) (a b : Nat) (h1 : x.num = dg a) (h2 : x.den = dg b) (la : (dg a).length < 50000) (lb : (dg b).length < 50000) : P 37 [] [.agp (encR x)] (fun _ r => r = iv (max (bl a) (bl b) : Nat)) := by
  obtain ⟨e, neg, n, d⟩ := x
  simp only at h1 h2
  subst h1 h2
  refine PC.of_pure good ok37 rfl ?_
  conv => whnf
  refine CallG.pure (Bits82 a la) rfl ?_
  conv => whnf
  refine ⟨rfl, ?_⟩
  rintro _ _ rfl
  refine ⟨rfl, ?_⟩
  conv => whnf
  refine CallG.pure (Bits82 b lb) rfl ?_
  conv => whnf
  refine ⟨rfl, ?_⟩
  rintro _ _ rfl
  refine ⟨rfl, ?_⟩
  conv => whnf
  exact ⟨rfl, by simp only [oneS]; rw [mx_eq]⟩
theorem Equal33n (q : Q) : P 33 [] [.agp (encR q.st), .agp (encR flt)] (fun _ r => r = bv false) := by
  refine PC.of_pure good ok33 rfl ?_
  conv => whnf
  refine ⟨fun h => absurd (show (0 : Int) = 4 from h) (by decide), fun _ => ?_⟩
  conv => whnf
  exact ⟨rfl, rfl⟩
theorem Bound122q (q : Q) (ln : (dg q.n).length < 50000) (ld : (dg q.d).length < 50000) : P 122 [] [.agp (encR q.st)] (fun _ r => r = .agp (encR (Fq (fq q)))) := by
  have h := Bound122 0 q.neg q.n q.d ln ld
  have e : (if 4096 < bl q.n ∨ 4096 < bl q.d then (⟨4, false, [], []⟩ : RatS) else ⟨0, q.neg, dg q.n, dg q.d⟩) = Fq (fq q) := by
    unfold fq
    by_cases hc : 4096 < bl q.n ∨ 4096 < bl q.d
    · rw [if_pos hc, if_pos hc]; rfl
    · rw [if_neg hc, if_neg hc]; rfl
  rw [e] at h
  exact h
def sts (l : List Q) : List RatS := l.map Q.st
def bnd (l : List Q) : List (Option Q) := l.map fq
theorem Bound66 (l : List Q) (hs : l.length < 100000) (hl : ∀ q ∈ l, (dg q.n).length < 50000 ∧ (dg q.d).length < 50000) : P 66 [] [.p (encRs (sts l))] (fun _ r => r = .p (encRs (fqs (bnd l)))) := by
  have lz : (bnd l).length = l.length := by simp [bnd]
  refine PC.of_pure good ok66 rfl ?_
  conv => whnf
  refine ⟨0, LoopG.intro (fun i : Nat => ⟨[(0, .p (encRs (sts l))), (3, .os 0), (4, iv i)], [.arr 51 ((fqs ((bnd l).take i)).map encR)]⟩) (fun i => i ≤ l.length) (fun i => l.length - i) (0) (Nat.zero_le _) ?_ ?_⟩
  · refine ⟨[none], by decide, rfl, ?_, ?_⟩
    · repeat' (first | exact trivial | exact ⟨_, rfl, rfl⟩ | exact ⟨_, rfl, Or.inl rfl⟩ | exact ⟨_, rfl, Or.inr ⟨rfl, rfl⟩⟩ | exact ⟨_, rfl, _, rfl⟩ | exact ⟨_, rfl⟩ | refine And.intro ?_ ?_)
    · repeat' (first | exact trivial | exact ⟨_, rfl, rfl⟩ | exact ⟨_, rfl, Or.inl rfl⟩ | exact ⟨_, rfl, Or.inr ⟨rfl, rfl⟩⟩ | exact ⟨_, rfl, _, rfl⟩ | exact ⟨_, rfl⟩ | refine And.intro ?_ ?_)
  intro i hi
  conv => whnf
  refine ⟨fun h => ?_, fun h => ?_⟩
  · have hil : i < l.length := by simpa [sts] using h
    have hq := hl l[i] (List.getElem_mem hil)
    conv => whnf
    refine ⟨i, _, rfl, (show ((sts l).map encR)[i]? = some (encR l[i].st) by simp [sts, hil]), ?_⟩
    conv => whnf
    refine CallG.pure (Bound122q l[i] hq.1 hq.2) rfl ?_
    conv => whnf
    refine ⟨rfl, ?_⟩
    rintro _ _ rfl
    refine ⟨rfl, ?_⟩
    conv => whnf
    refine ⟨rfl, rfl, (by show _ * 64 ≤ _; simp [fqs]; omega), ?_⟩
    conv => whnf
    refine ⟨by omega, by omega, ?_⟩
    conv => whnf
    refine ⟨i + 1, by omega, by omega, ?_⟩
    rw [← fqs_snoc (l := bnd l) (i := i) (by omega), show (bnd l)[i] = fq l[i] by simp [bnd]]
    refine ⟨[some 2], by decide, rfl, ?_, ?_⟩
    · repeat' (first | exact trivial | exact ⟨_, rfl, rfl⟩ | exact ⟨_, rfl, Or.inl rfl⟩ | exact ⟨_, rfl, Or.inr ⟨rfl, rfl⟩⟩ | exact ⟨_, rfl, _, rfl⟩ | exact ⟨_, rfl⟩ | refine And.intro ?_ ?_)
    · repeat' (first | exact trivial | exact ⟨_, rfl, rfl⟩ | exact ⟨_, rfl, Or.inl rfl⟩ | exact ⟨_, rfl, Or.inr ⟨rfl, rfl⟩⟩ | exact ⟨_, rfl, _, rfl⟩ | exact ⟨_, rfl⟩ | refine And.intro ?_ ?_)
  · conv => whnf
    exact ⟨rfl, by simp only [oneS, encRs]; rw [List.take_of_length_le (by simp [sts] at h; omega)]⟩
theorem Fq_len {o : Option Q} (h : Fok o) : (Fq o).num.length < 100000 ∧ (Fq o).den.length < 100000 := by
  cases o with
  | none => exact ⟨by decide, by decide⟩
  | some q =>
    have := (h q rfl).2
    have h1 := bl_128.1 this.1
    have h2 := bl_128.1 this.2
    exact ⟨by show (dg q.n).length < _; omega, by show (dg q.d).length < _; omega⟩
def Cls (big : Bool) (x y : Option Q) : Prop := x = y ∨ (x = none ∧ big = true)
theorem Close65 (xs ys : List (Option Q)) (big : Bool) (hx : ∀ o ∈ xs, Fok o) (hl : xs.length = ys.length) (hs : xs.length < 100000) (hc : ∀ i (h : i < xs.length) (h' : i < ys.length), Cls big xs[i] ys[i]) : P 65 [] [.p (encRs (fqs xs)), .p (encRs (fqs ys)), bv big] (fun _ r => r = bv true) := by
  refine PC.of_pure good ok65 rfl ?_
  conv => whnf
  refine ⟨fun _ => ?_, fun h => absurd (by simp [fqs, hl]) h⟩
  conv => whnf
  refine ⟨0, LoopG.intro (fun i : Nat => ⟨[(0, .p (encRs (fqs xs))), (1, .p (encRs (fqs ys))), (2, bv big), (7, iv i)], []⟩) (fun i => i ≤ xs.length) (fun i => xs.length - i) (0) (Nat.zero_le _) ?_ ?_⟩
  · refine ⟨[], by decide, rfl, ?_, ?_⟩
    · repeat' (first | exact trivial | exact ⟨_, rfl, rfl⟩ | exact ⟨_, rfl, Or.inl rfl⟩ | exact ⟨_, rfl, Or.inr ⟨rfl, rfl⟩⟩ | exact ⟨_, rfl, _, rfl⟩ | exact ⟨_, rfl⟩ | refine And.intro ?_ ?_)
    · repeat' (first | exact trivial | exact ⟨_, rfl, rfl⟩ | exact ⟨_, rfl, Or.inl rfl⟩ | exact ⟨_, rfl, Or.inr ⟨rfl, rfl⟩⟩ | exact ⟨_, rfl, _, rfl⟩ | exact ⟨_, rfl⟩ | refine And.intro ?_ ?_)
  intro i hi
  conv => whnf
  refine ⟨fun h => ?_, fun h => ?_⟩
  · have hil : i < xs.length := by simpa [fqs] using h
    have hil2 : i < ys.length := by omega
    have hxo := hx xs[i] (List.getElem_mem hil)
    have hfl := Fq_len hxo
    cases big
    · have e : xs[i] = ys[i] := by
        rcases hc i hil hil2 with e | ⟨_, e⟩
        · exact e
        · cases e
      conv => whnf
      refine ⟨i, _, rfl, fqs_get hil, ?_⟩
      conv => whnf
      refine ⟨i, _, rfl, fqs_get hil2, ?_⟩
      conv => whnf
      rw [← e]
      refine CallG.pure (Equal33 (Fq xs[i]) hfl.1 hfl.2) rfl ?_
      conv => whnf
      refine ⟨rfl, ?_⟩
      rintro _ _ rfl
      refine ⟨rfl, ?_⟩
      conv => whnf
      refine ⟨by omega, by omega, ?_⟩
      conv => whnf
      refine ⟨i + 1, by omega, by omega, ?_⟩
      refine ⟨[], by decide, rfl, ?_, ?_⟩
      · repeat' (first | exact trivial | exact ⟨_, rfl, rfl⟩ | exact ⟨_, rfl, Or.inl rfl⟩ | exact ⟨_, rfl, Or.inr ⟨rfl, rfl⟩⟩ | exact ⟨_, rfl, _, rfl⟩ | exact ⟨_, rfl⟩ | refine And.intro ?_ ?_)
      · repeat' (first | exact trivial | exact ⟨_, rfl, rfl⟩ | exact ⟨_, rfl, Or.inl rfl⟩ | exact ⟨_, rfl, Or.inr ⟨rfl, rfl⟩⟩ | exact ⟨_, rfl, _, rfl⟩ | exact ⟨_, rfl⟩ | refine And.intro ?_ ?_)
    · conv => whnf
      refine ⟨i, _, rfl, fqs_get hil, ?_⟩
      conv => whnf
      refine CallG.pure (Fault121 4) rfl ?_
      conv => whnf
      refine ⟨rfl, ?_⟩
      rintro _ _ rfl
      refine ⟨rfl, ?_⟩
      conv => whnf
      obtain ⟨o, ho⟩ : ∃ o, xs[i] = o := ⟨_, rfl⟩
      have hc' := hc i hil hil2
      rw [ho] at hfl hc' ⊢
      cases o with
      | none =>
        refine CallG.pure (Equal33 flt hfl.1 hfl.2) rfl ?_
        conv => whnf
        refine ⟨rfl, ?_⟩
        rintro _ _ rfl
        refine ⟨rfl, ?_⟩
        conv => whnf
        refine ⟨by omega, by omega, ?_⟩
        conv => whnf
        refine ⟨i + 1, by omega, by omega, ?_⟩
        refine ⟨[], by decide, rfl, ?_, ?_⟩
        · repeat' (first | exact trivial | exact ⟨_, rfl, rfl⟩ | exact ⟨_, rfl, Or.inl rfl⟩ | exact ⟨_, rfl, Or.inr ⟨rfl, rfl⟩⟩ | exact ⟨_, rfl, _, rfl⟩ | exact ⟨_, rfl⟩ | refine And.intro ?_ ?_)
        · repeat' (first | exact trivial | exact ⟨_, rfl, rfl⟩ | exact ⟨_, rfl, Or.inl rfl⟩ | exact ⟨_, rfl, Or.inr ⟨rfl, rfl⟩⟩ | exact ⟨_, rfl, _, rfl⟩ | exact ⟨_, rfl⟩ | refine And.intro ?_ ?_)
      | some q =>
        have e : some q = ys[i] := by
          rcases hc' with e | ⟨e, _⟩
          · exact e
          · cases e
        refine CallG.pure (Equal33n q) rfl ?_
        conv => whnf
        refine ⟨rfl, ?_⟩
        rintro _ _ rfl
        refine ⟨rfl, ?_⟩
        conv => whnf
        refine ⟨i, _, rfl, fqs_get hil, ?_⟩
        conv => whnf
        refine ⟨i, _, rfl, fqs_get hil2, ?_⟩
        conv => whnf
        rw [← e, ho]
        refine CallG.pure (Equal33 (Fq (some q)) hfl.1 hfl.2) rfl ?_
        conv => whnf
        refine ⟨rfl, ?_⟩
        rintro _ _ rfl
        refine ⟨rfl, ?_⟩
        conv => whnf
        refine ⟨by omega, by omega, ?_⟩
        conv => whnf
        refine ⟨i + 1, by omega, by omega, ?_⟩
        refine ⟨[], by decide, rfl, ?_, ?_⟩
        · repeat' (first | exact trivial | exact ⟨_, rfl, rfl⟩ | exact ⟨_, rfl, Or.inl rfl⟩ | exact ⟨_, rfl, Or.inr ⟨rfl, rfl⟩⟩ | exact ⟨_, rfl, _, rfl⟩ | exact ⟨_, rfl⟩ | refine And.intro ?_ ?_)
        · repeat' (first | exact trivial | exact ⟨_, rfl, rfl⟩ | exact ⟨_, rfl, Or.inl rfl⟩ | exact ⟨_, rfl, Or.inr ⟨rfl, rfl⟩⟩ | exact ⟨_, rfl, _, rfl⟩ | exact ⟨_, rfl⟩ | refine And.intro ?_ ?_)
  · conv => whnf
    exact ⟨rfl, rfl⟩
theorem alike22 (xs : List (Option Q)) (l : List Q) (n : Int) (hx : ∀ o ∈ xs, Fok o) (hq : ∀ q ∈ l, (dg q.n).length < 50000 ∧ (dg q.d).length < 50000) (hl : xs.length = l.length) (hs : xs.length < 100000) (hc : ∀ i (h : i < xs.length) (h' : i < l.length), Cls (decide (400 < n)) xs[i] (fq l[i])) : P 22 [] [.p (encRs (fqs xs)), .p (encRs (sts l)), iv n] (fun _ r => r = bv true) := by
  have h := fun b (hb : b = decide (400 < n)) => Close65 xs (bnd l) b hx (by simp [bnd, hl]) hs (fun i h1 h2 => by
    have h3 : i < l.length := by omega
    have e : (bnd l)[i] = fq l[i] := by simp [bnd]
    rw [hb, e]
    exact hc i h1 h3)
  refine PC.of_pure good ok22 rfl ?_
  conv => whnf
  refine CallG.pure (Bound66 l (by omega) hq) rfl ?_
  conv => whnf
  refine ⟨rfl, ?_⟩
  rintro _ _ rfl
  refine ⟨rfl, ?_⟩
  conv => whnf
  refine ⟨fun hn => ?_, fun hn => ?_⟩
  · conv => whnf
    refine CallG.pure (h true (by rw [decide_eq_true hn])) rfl ?_
    conv => whnf
    refine ⟨rfl, ?_⟩
    rintro _ _ rfl
    refine ⟨rfl, ?_⟩
    conv => whnf
    exact ⟨rfl, rfl⟩
  · conv => whnf
    refine CallG.pure (h false (by rw [decide_eq_false hn])) rfl ?_
    conv => whnf
    refine ⟨rfl, ?_⟩
    rintro _ _ rfl
    refine ⟨rfl, ?_⟩
    conv => whnf
    exact ⟨rfl, rfl⟩
end Go.Sx.Tz
end
section
namespace Go.Sx.Tz
open Go Go.Ev Go.Ev.Tz Go.Sx Go.Proofs
set_option maxHeartbeats 4000000
attribute [local irreducible] CallG LoopG
def Wd (q : Q) (k l : Nat) : Prop := bl q.n ≤ k ∧ bl q.d ≤ l
theorem bl_mono {a b : Nat} (h : a ≤ b) : bl a ≤ bl b := bl_le.2 (Nat.lt_of_le_of_lt h (bl_le.1 (Nat.le_refl _)))
theorem bl_mulle {a b k l : Nat} (h1 : bl a ≤ k) (h2 : bl b ≤ l) : bl (a * b) ≤ k + l := by
  rw [bl_le] at h1 h2 ⊢
  rw [Nat.pow_add]
  cases Nat.eq_zero_or_pos a with
  | inl h => subst h; simp; exact Nat.mul_pos (Nat.pow_pos (by decide)) (Nat.pow_pos (by decide))
  | inr h => exact Nat.mul_lt_mul_of_lt_of_le h1 (Nat.le_of_lt h2) (Nat.pow_pos (by decide))
theorem bl_sgnA {na nb : Bool} {a b k : Nat} (h1 : bl a ≤ k) (h2 : bl b ≤ k) : bl (sgnA na a nb b) ≤ k + 1 := by
  have : sgnA na a nb b ≤ a + b := by unfold sgnA; split <;> (try split) <;> omega
  refine Nat.le_trans (bl_mono this) ?_
  rw [bl_le] at h1 h2 ⊢
  rw [Nat.pow_succ]
  omega
theorem Wd_low {neg : Bool} {n d k l : Nat} (h1 : bl n ≤ k) (h2 : bl d ≤ l) : Wd (lowQ neg n d) k l :=
  ⟨Nat.le_trans (bl_mono (Nat.div_le_self _ _)) h1, Nat.le_trans (bl_mono (Nat.div_le_self _ _)) h2⟩
theorem Wd.mul {a b : Q} {k l k' l' : Nat} (ha : Wd a k l) (hb : Wd b k' l') : Wd (mulQ a b) (k + k') (l + l') :=
  Wd_low (bl_mulle ha.1 hb.1) (bl_mulle ha.2 hb.2)
theorem Wd.add {a b : Q} {k l k' l' : Nat} (m : Nat) (ha : Wd a k l) (hb : Wd b k' l') (h1 : k + l' ≤ m) (h2 : k' + l ≤ m) : Wd (addQ a b) (m + 1) (l + l') :=
  Wd_low (bl_sgnA (Nat.le_trans (bl_mulle ha.1 hb.2) h1) (Nat.le_trans (bl_mulle hb.1 ha.2) h2)) (bl_mulle ha.2 hb.2)
theorem Wd.len {q : Q} {k l : Nat} (h : Wd q (32 * k) (32 * l)) : Ln q k l := by
  obtain ⟨h1, h2⟩ := h
  exact ⟨by rw [dg_len, B_pow]; exact bl_le.1 h1, by rw [dg_len, B_pow]; exact bl_le.1 h2⟩
theorem Wd.mono {q : Q} {k l k' l' : Nat} (h : Wd q k l) (h1 : k ≤ k') (h2 : l ≤ l') : Wd q k' l' := ⟨Nat.le_trans h.1 h1, Nat.le_trans h.2 h2⟩
def q0 : Q := ⟨false, 0, 1⟩
theorem q0_lo : q0.lo := ⟨by decide, by decide, by simp [q0]⟩
theorem q0_st : q0.st = wh 0 := wh0.symm
def crE (a b : List Q) (k : Nat) : Nat → Q
  | 0 => q0
  | i + 1 => addQ (crE a b k i) (mulQ (a.getD i q0) (b.getD (k - i) q0))
theorem getD_in {l : List Q} {i : Nat} (h : i < l.length) : l.getD i q0 = l[i] := by
  rw [List.getD_eq_getElem?_getD, List.getElem?_eq_getElem h]; rfl
theorem crE_succ {a b : List Q} {k i : Nat} (h1 : i < a.length) (h2 : k - i < b.length) : crE a b k (i + 1) = addQ (crE a b k i) (mulQ a[i] b[k - i]) := by
  rw [crE, getD_in h1, getD_in h2]
theorem crE_lo {a b : List Q} (ha : ∀ q ∈ a, q.lo) (hb : ∀ q ∈ b, q.lo) (k : Nat) : ∀ i, i ≤ k + 1 → k < a.length → k < b.length → (crE a b k i).lo
  | 0, _, _, _ => q0_lo
  | i + 1, h, h1, h2 => by
    rw [crE_succ (by omega) (by omega)]
    exact addQ_lo (crE_lo ha hb k i (by omega) h1 h2) (mulQ_lo (ha _ (List.getElem_mem _)) (hb _ (List.getElem_mem _)))
theorem crE_Wd {a b : List Q} (s t : Nat) (ha : ∀ q ∈ a, Wd q s s) (hb : ∀ q ∈ b, Wd q t t) (k : Nat) : ∀ i, i ≤ k + 1 → k < a.length → k < b.length → Wd (crE a b k i) ((s + t + 1) * i + 1) ((s + t) * i + 1)
  | 0, _, _, _ => ⟨by show bl 0 ≤ _; exact Nat.zero_le _, by show bl 1 ≤ _; rw [show bl 1 = 1 from rfl]; omega⟩
  | i + 1, h, h1, h2 => by
    have ih := crE_Wd s t ha hb k i (by omega) h1 h2
    rw [crE_succ (by omega) (by omega)]
    have hm := (ha _ (List.getElem_mem (show i < a.length by omega))).mul (hb _ (List.getElem_mem (show k - i < b.length by omega)))
    obtain ⟨z, hz⟩ : ∃ z, s + t = z := ⟨_, rfl⟩
    rw [hz] at hm ih ⊢
    have e1 : (z + 1) * (i + 1) = (z + 1) * i + z + 1 := by rw [Nat.mul_succ]; omega
    have e2 : z * (i + 1) = z * i + z := Nat.mul_succ _ _
    have e3 : (z + 1) * i = z * i + i := by rw [Nat.succ_mul]
    rw [e1, e2]
    exact (Wd.add ((z + 1) * i + z + 1) ih hm (by omega) (by omega)).mono (by omega) (by omega)
theorem fq_some {q z : Q} (h : fq q = some z) : q = z ∧ q.sm := by
  unfold fq at h
  split at h
  · cases h
  · cases h; exact ⟨rfl, by unfold Q.sm; omega⟩
theorem fq_sm {q : Q} (h : q.sm) : fq q = some q := if_neg (by have := h.1; have := h.2; omega)
theorem som_getD {l : List Q} {i : Nat} (h : i < l.length) : (som l).getD i none = some l[i] := by
  rw [List.getD_eq_getElem?_getD, List.getElem?_eq_getElem (by simpa [som] using h)]; simp [som]
theorem crs_crE {a b : List Q} (k : Nat) : ∀ i, i ≤ k + 1 → k < a.length → k < b.length → ∀ q, crs (som a) (som b) k i = some q → q = crE a b k i
  | 0, _, _, _, q, h => by cases h; rfl
  | i + 1, h, h1, h2, q, hq => by
    rw [crs, som_getD (show i < a.length by omega), som_getD (show k - i < b.length by omega)] at hq
    rw [crE_succ (by omega) (by omega)]
    cases hc : crs (som a) (som b) k i with
    | none => rw [hc] at hq; cases hq
    | some x =>
      rw [hc] at hq
      have hx := crs_crE k i (by omega) h1 h2 x hc
      cases hm : fop mulQ (some a[i]) (some b[k - i]) with
      | none => rw [hm] at hq; cases hq
      | some y =>
        rw [hm] at hq
        have hy := (fq_some hm).1
        rw [← hx, hy]
        exact (fq_some hq).1.symm
theorem crs_small {a b : List Q} (s t : Nat) (ha : ∀ q ∈ a, Wd q s s) (hb : ∀ q ∈ b, Wd q t t) (k : Nat) (hst : s + t ≤ 22) (hk : k ≤ 9) : ∀ i, i ≤ k + 1 → k < a.length → k < b.length → crs (som a) (som b) k i = some (crE a b k i)
  | 0, _, _, _ => rfl
  | i + 1, h, h1, h2 => by
    have hw := crE_Wd s t ha hb k (i + 1) h h1 h2
    have hm := (ha _ (List.getElem_mem (show i < a.length by omega))).mul (hb _ (List.getElem_mem (show k - i < b.length by omega)))
    have e1 : (s + t + 1) * (i + 1) ≤ 23 * 10 := Nat.mul_le_mul (by omega) (by omega)
    have e2 : (s + t) * (i + 1) ≤ 22 * 10 := Nat.mul_le_mul (by omega) (by omega)
    rw [crs, som_getD (show i < a.length by omega), som_getD (show k - i < b.length by omega), crs_small s t ha hb k hst hk i (by omega) h1 h2]
    rw [show fop mulQ (some a[i]) (some b[k - i]) = some (mulQ a[i] b[k - i]) from fq_sm ⟨Nat.le_trans hm.1 (by omega), Nat.le_trans hm.2 (by omega)⟩]
    rw [crE_succ (show i < a.length by omega) (by omega)] at hw ⊢
    exact fq_sm ⟨Nat.le_trans hw.1 (by omega), Nat.le_trans hw.2 (by omega)⟩
theorem sts_get {l : List Q} {i : Nat} (h : i < l.length) : ((sts l).map encR)[i]? = some (encR l[i].st) := by simp [sts, h]
theorem sts_snoc {l : List Q} {i : Nat} (h : i < l.length) : ((sts (l.take i)).map encR) ++ [encR l[i].st] = (sts (l.take (i + 1))).map encR := by
  unfold sts
  rw [← List.take_append_getElem h, List.map_append, List.map_append]
  rfl
def Fine (l : List Q) : Prop := ∀ q ∈ l, q.lo ∧ q.sm
theorem Fine.Wd {l : List Q} (h : Fine l) : ∀ q ∈ l, Wd q 4096 4096 := fun q hq => (h q hq).2
theorem RAdd23 (a b : List Q) (ha : Fine a) (hb : Fine b) (hl : a.length = b.length) (hs : a.length < 1000) : P 23 [] [.p (encRs (sts a)), .p (encRs (sts b))] (fun _ r => r = .p (encRs (sts (List.zipWith addQ a b)))) := by
  obtain ⟨z, hz⟩ : ∃ z, List.zipWith addQ a b = z := ⟨_, rfl⟩
  have lz : z.length = a.length := by rw [← hz, List.length_zipWith]; omega
  rw [hz]
  refine PC.of_pure good ok23 rfl ?_
  conv => whnf
  refine ⟨0, LoopG.intro (fun i : Nat => ⟨[(0, .p (encRs (sts a))), (1, .p (encRs (sts b))), (5, .os 0), (6, iv i)], [.arr 51 ((sts (z.take i)).map encR)]⟩) (fun i => i ≤ a.length) (fun i => a.length - i) (0) (Nat.zero_le _) ?_ ?_⟩
  · refine ⟨[none], by decide, rfl, ?_, ?_⟩
    · repeat' (first | exact trivial | exact ⟨_, rfl, rfl⟩ | exact ⟨_, rfl, Or.inl rfl⟩ | exact ⟨_, rfl, Or.inr ⟨rfl, rfl⟩⟩ | exact ⟨_, rfl, _, rfl⟩ | exact ⟨_, rfl⟩ | refine And.intro ?_ ?_)
    · repeat' (first | exact trivial | exact ⟨_, rfl, rfl⟩ | exact ⟨_, rfl, Or.inl rfl⟩ | exact ⟨_, rfl, Or.inr ⟨rfl, rfl⟩⟩ | exact ⟨_, rfl, _, rfl⟩ | exact ⟨_, rfl⟩ | refine And.intro ?_ ?_)
  intro i hi
  conv => whnf
  refine ⟨fun h => ?_, fun h => ?_⟩
  · have hil : i < a.length := by simpa [sts] using h
    have hil2 : i < b.length := by omega
    have fa := ha _ (List.getElem_mem hil)
    have fb := hb _ (List.getElem_mem hil2)
    conv => whnf
    refine ⟨i, _, rfl, sts_get hil, ?_⟩
    conv => whnf
    refine ⟨i, _, rfl, sts_get hil2, ?_⟩
    conv => whnf
    refine CallG.pure (Plus67 a[i] b[i] fa.1 fb.1 128 128 128 128 (Wd.len fa.2) (Wd.len fb.2) (by decide) (by decide) (by decide)) rfl ?_
    conv => whnf
    refine ⟨rfl, ?_⟩
    rintro _ _ rfl
    refine ⟨rfl, ?_⟩
    conv => whnf
    refine ⟨rfl, rfl, (by show _ * 64 ≤ _; simp [sts]; omega), ?_⟩
    conv => whnf
    refine ⟨by omega, by omega, ?_⟩
    conv => whnf
    refine ⟨i + 1, by omega, by omega, ?_⟩
    rw [← sts_snoc (l := z) (i := i) (by omega), show z[i] = addQ a[i] b[i] by simp [← hz]]
    refine ⟨[some 2], by decide, rfl, ?_, ?_⟩
    · repeat' (first | exact trivial | exact ⟨_, rfl, rfl⟩ | exact ⟨_, rfl, Or.inl rfl⟩ | exact ⟨_, rfl, Or.inr ⟨rfl, rfl⟩⟩ | exact ⟨_, rfl, _, rfl⟩ | exact ⟨_, rfl⟩ | refine And.intro ?_ ?_)
    · repeat' (first | exact trivial | exact ⟨_, rfl, rfl⟩ | exact ⟨_, rfl, Or.inl rfl⟩ | exact ⟨_, rfl, Or.inr ⟨rfl, rfl⟩⟩ | exact ⟨_, rfl, _, rfl⟩ | exact ⟨_, rfl⟩ | refine And.intro ?_ ?_)
  · conv => whnf
    exact ⟨rfl, by simp only [oneS, encRs]; rw [List.take_of_length_le (by simp [sts] at h; omega)]⟩
theorem RMul24 (a b : List Q) (ha : Fine a) (hb : Fine b) (hl : a.length = b.length) (hs : a.length ≤ 10) : P 24 [] [.p (encRs (sts a)), .p (encRs (sts b))] (fun _ r => r = .p (encRs (sts ((List.range a.length).map fun k => crE a b k (k + 1))))) := by
  obtain ⟨z, hz⟩ : ∃ z, ((List.range a.length).map fun k => crE a b k (k + 1)) = z := ⟨_, rfl⟩
  have lz : z.length = a.length := by rw [← hz]; simp
  rw [hz]
  refine PC.of_pure good ok24 rfl ?_
  conv => whnf
  refine ⟨0, LoopG.intro (fun i : Nat => ⟨[(0, .p (encRs (sts a))), (1, .p (encRs (sts b))), (5, .os 0), (6, iv i)], [.arr 51 ((sts (z.take i)).map encR)]⟩) (fun i => i ≤ a.length) (fun i => a.length - i) (0) (Nat.zero_le _) ?_ ?_⟩
  · refine ⟨[none], by decide, rfl, ?_, ?_⟩
    · repeat' (first | exact trivial | exact ⟨_, rfl, rfl⟩ | exact ⟨_, rfl, Or.inl rfl⟩ | exact ⟨_, rfl, Or.inr ⟨rfl, rfl⟩⟩ | exact ⟨_, rfl, _, rfl⟩ | exact ⟨_, rfl⟩ | refine And.intro ?_ ?_)
    · repeat' (first | exact trivial | exact ⟨_, rfl, rfl⟩ | exact ⟨_, rfl, Or.inl rfl⟩ | exact ⟨_, rfl, Or.inr ⟨rfl, rfl⟩⟩ | exact ⟨_, rfl, _, rfl⟩ | exact ⟨_, rfl⟩ | refine And.intro ?_ ?_)
  intro i hi
  conv => whnf
  refine ⟨fun h => ?_, fun h => ?_⟩
  · have hil : i < a.length := by simpa [sts] using h
    have hil2 : i < b.length := by omega
    conv => whnf
    refine CallG.pure (Of42w 0 (by decide) (by decide)) rfl ?_
    conv => whnf
    refine ⟨rfl, ?_⟩
    rintro _ _ rfl
    refine ⟨rfl, ?_⟩
    conv => whnf
    rw [← q0_st]
    refine ⟨0, LoopG.intro (fun j : Nat => ⟨[(0, .p (encRs (sts a))), (1, .p (encRs (sts b))), (5, .os 0), (6, iv i), (7, .loc 1 0), (8, iv j)], [.arr 51 ((sts (z.take i)).map encR), .box [iv 0, bv (crE a b i j).neg, .p (encN (dg (crE a b i j).n)), .p (encN (dg (crE a b i j).d))]]⟩) (fun j => j ≤ i + 1) (fun j => i + 1 - j) (0) (Nat.zero_le _) ?_ ?_⟩
    · refine ⟨[some 0, some 1], by decide, rfl, ?_, ?_⟩
      · repeat' (first | exact trivial | exact ⟨_, rfl, rfl⟩ | exact ⟨_, rfl, Or.inl rfl⟩ | exact ⟨_, rfl, Or.inr ⟨rfl, rfl⟩⟩ | exact ⟨_, rfl, _, rfl⟩ | exact ⟨_, rfl⟩ | refine And.intro ?_ ?_)
      · repeat' (first | exact trivial | exact ⟨_, rfl, rfl⟩ | exact ⟨_, rfl, Or.inl rfl⟩ | exact ⟨_, rfl, Or.inr ⟨rfl, rfl⟩⟩ | exact ⟨_, rfl, _, rfl⟩ | exact ⟨_, rfl⟩ | refine And.intro ?_ ?_)
    intro j hj
    conv => whnf
    refine ⟨fun h2 => ?_, fun h2 => ?_⟩
    · have hjl : j < a.length := by omega
      have hjl2 : i - j < b.length := by omega
      have fa := ha _ (List.getElem_mem hjl)
      have fb := hb _ (List.getElem_mem hjl2)
      have hw := crE_Wd 4096 4096 ha.Wd hb.Wd i j hj hil hil2
      have hwl := Wd.len (k := 2700) (l := 2700) (hw.mono (by omega) (by omega))
      have hcl := crE_lo (fun q hq => (ha q hq).1) (fun q hq => (hb q hq).1) i j hj hil hil2
      have hm := Wd.mul (a := a[j]) (b := b[i - j]) fa.2 fb.2
      have hml := Wd.len (k := 256) (l := 256) (hm.mono (by omega) (by omega))
      conv => whnf
      refine ⟨j, _, rfl, sts_get hjl, ?_⟩
      conv => whnf
      refine ⟨by omega, by omega, ?_⟩
      conv => whnf
      refine ⟨i - j, _, (by omega), sts_get hjl2, ?_⟩
      conv => whnf
      refine CallG.pure (Times68 a[j] b[i - j] fa.1 fb.1 128 128 128 128 (Wd.len fa.2) (Wd.len fb.2) (by decide) (by decide)) rfl ?_
      conv => whnf
      refine ⟨rfl, ?_⟩
      rintro _ _ rfl
      refine ⟨rfl, ?_⟩
      conv => whnf
      refine CallG.pure (Plus67 (crE a b i j) (mulQ a[j] b[i - j]) hcl (mulQ_lo fa.1 fb.1) 2700 2700 256 256 hwl hml (by decide) (by decide) (by decide)) rfl ?_
      conv => whnf
      refine ⟨rfl, ?_⟩
      rintro _ _ rfl
      refine ⟨rfl, ?_⟩
      conv => whnf
      rw [← crE_succ hjl hjl2]
      refine ⟨by omega, by omega, ?_⟩
      conv => whnf
      refine ⟨j + 1, by omega, by omega, ?_⟩
      refine ⟨[some 0, some 1], by decide, rfl, ?_, ?_⟩
      · repeat' (first | exact trivial | exact ⟨_, rfl, rfl⟩ | exact ⟨_, rfl, Or.inl rfl⟩ | exact ⟨_, rfl, Or.inr ⟨rfl, rfl⟩⟩ | exact ⟨_, rfl, _, rfl⟩ | exact ⟨_, rfl⟩ | refine And.intro ?_ ?_)
      · repeat' (first | exact trivial | exact ⟨_, rfl, rfl⟩ | exact ⟨_, rfl, Or.inl rfl⟩ | exact ⟨_, rfl, Or.inr ⟨rfl, rfl⟩⟩ | exact ⟨_, rfl, _, rfl⟩ | exact ⟨_, rfl⟩ | refine And.intro ?_ ?_)
    · conv => whnf
      obtain rfl : j = i + 1 := by omega
      refine ⟨rfl, rfl, (by show _ * 64 ≤ _; simp [sts]; omega), ?_⟩
      conv => whnf
      refine ⟨by omega, by omega, ?_⟩
      conv => whnf
      refine ⟨i + 1, by omega, by omega, ?_⟩
      rw [← sts_snoc (l := z) (i := i) (by omega), show z[i] = crE a b i (i + 1) by simp [← hz]]
      refine ⟨[some 3], by decide, rfl, ?_, ?_⟩
      · repeat' (first | exact trivial | exact ⟨_, rfl, rfl⟩ | exact ⟨_, rfl, Or.inl rfl⟩ | exact ⟨_, rfl, Or.inr ⟨rfl, rfl⟩⟩ | exact ⟨_, rfl, _, rfl⟩ | exact ⟨_, rfl⟩ | refine And.intro ?_ ?_)
      · repeat' (first | exact trivial | exact ⟨_, rfl, rfl⟩ | exact ⟨_, rfl, Or.inl rfl⟩ | exact ⟨_, rfl, Or.inr ⟨rfl, rfl⟩⟩ | exact ⟨_, rfl, _, rfl⟩ | exact ⟨_, rfl⟩ | refine And.intro ?_ ?_)
  · conv => whnf
    exact ⟨rfl, by simp only [oneS, encRs]; rw [List.take_of_length_le (by simp [sts] at h; omega)]⟩
end Go.Sx.Tz
end
section
namespace Go.Sx.Tz
open Go Go.Ev Go.Ev.Tz Go.Sx Go.Proofs
set_option maxHeartbeats 4000000
attribute [local irreducible] CallG LoopG
def WdU (l : List Q) (i n : Nat) : Prop := ∀ k (hk : k < l.length), k < i → Wd l[k] n n
theorem Bits21 (l : List Q) (hf : Fine l) (hs : l.length < 1000) : P 21 [] [.p (encRs (sts l))] (fun _ r => ∃ n : Nat, r = iv n ∧ n ≤ 4096 ∧ ∀ q ∈ l, Wd q n n) := by
  refine PC.of_pure good ok21 rfl (R := fun r => ∃ n : Nat, r = iv n ∧ n ≤ 4096 ∧ ∀ q ∈ l, Wd q n n) ?_
  conv => whnf
  refine ⟨0, LoopG.intro (fun (⟨i, n⟩ : Nat × Nat) => ⟨[(0, .p (encRs (sts l))), (3, iv n), (4, iv i)], []⟩) (fun (⟨i, n⟩ : Nat × Nat) => i ≤ l.length ∧ n ≤ 4096 ∧ WdU l i n) (fun (⟨i, _⟩ : Nat × Nat) => l.length - i) ((0, 0)) (by exact ⟨Nat.zero_le _, Nat.zero_le _, fun k hk h => absurd h (by omega)⟩) ?_ ?_⟩
  · refine ⟨[], by decide, rfl, ?_, ?_⟩
    · repeat' (first | exact trivial | exact ⟨_, rfl, rfl⟩ | exact ⟨_, rfl, Or.inl rfl⟩ | exact ⟨_, rfl, Or.inr ⟨rfl, rfl⟩⟩ | exact ⟨_, rfl, _, rfl⟩ | exact ⟨_, rfl⟩ | refine And.intro ?_ ?_)
    · repeat' (first | exact trivial | exact ⟨_, rfl, rfl⟩ | exact ⟨_, rfl, Or.inl rfl⟩ | exact ⟨_, rfl, Or.inr ⟨rfl, rfl⟩⟩ | exact ⟨_, rfl, _, rfl⟩ | exact ⟨_, rfl⟩ | refine And.intro ?_ ?_)
  rintro ⟨i, n⟩ ⟨hi, hn, hw⟩
  conv => whnf
  refine ⟨fun h => ?_, fun h => ?_⟩
  · have hil : i < l.length := by simpa [sts] using h
    have fq' := hf _ (List.getElem_mem hil)
    have l1 := bl_128.1 fq'.2.1
    have l2 := bl_128.1 fq'.2.2
    conv => whnf
    refine ⟨i, _, rfl, sts_get hil, ?_⟩
    conv => whnf
    refine CallG.pure (Bits37 l[i].st l[i].n l[i].d rfl rfl (by omega) (by omega)) rfl ?_
    conv => whnf
    refine ⟨rfl, ?_⟩
    rintro _ _ rfl
    refine ⟨rfl, ?_⟩
    conv => whnf
    refine ⟨by omega, by omega, ?_⟩
    conv => whnf
    have h1 := fq'.2.1
    have h2 := fq'.2.2
    refine ⟨(i + 1, max n (max (bl l[i].n) (bl l[i].d))), ⟨by omega, by omega, fun k hk hk' => ?_⟩, by show l.length - (i + 1) < l.length - i; omega, ?_⟩
    · by_cases e : k = i
      · subst e; exact ⟨by omega, by omega⟩
      · exact (hw k hk (by omega)).mono (by omega) (by omega)
    · refine ⟨[], by decide, rfl, ?_, ?_⟩
      · repeat' (first | exact trivial | exact ⟨_, rfl, rfl⟩ | exact ⟨_, rfl, Or.inl rfl⟩ | exact ⟨_, rfl, Or.inr ⟨rfl, rfl⟩⟩ | exact ⟨_, rfl, _, rfl⟩ | exact ⟨_, rfl⟩ | refine And.intro ?_ ?_ | (refine ⟨_, rfl, congrArg (fun z => some (SV.p (PV.int _ z))) ?_⟩; exact (mx_eq _ _).symm))
      · repeat' (first | exact trivial | exact ⟨_, rfl, rfl⟩ | exact ⟨_, rfl, Or.inl rfl⟩ | exact ⟨_, rfl, Or.inr ⟨rfl, rfl⟩⟩ | exact ⟨_, rfl, _, rfl⟩ | exact ⟨_, rfl⟩ | refine And.intro ?_ ?_ | (refine ⟨_, rfl, congrArg (fun z => some (SV.p (PV.int _ z))) ?_⟩; exact (mx_eq _ _).symm))
  · conv => whnf
    have hil : i = l.length := by simp [sts] at h; omega
    exact ⟨rfl, n, rfl, hn, fun q hq => by
      obtain ⟨k, hk, rfl⟩ := List.mem_iff_getElem.1 hq
      exact hw k hk (by omega)⟩
theorem Series32 (l : List RatS) (hs : l.length < 1000) (hn : ∀ x ∈ l, Num x) : P 32 [] [.p (encRs l)] (fun _ r => r = iv (serE l)) := by
  refine PC.of_pure good ok32 rfl ?_
  conv => whnf
  by_cases l1 : l.length < 1 ∨ 9 < l.length
  · refine ⟨fun h1 => ?_, fun h1 => ?_⟩
    · conv => whnf
      exact ⟨rfl, by rw [serE_3 l1]; rfl⟩
    · conv => whnf
      refine ⟨fun h2 => ?_, fun h2 => ?_⟩
      · conv => whnf
        exact ⟨rfl, by rw [serE_3 l1]; rfl⟩
      · rw [List.length_map] at h1 h2
        omega
  refine ⟨fun h => absurd h (by (rw [List.length_map] at h; omega)), fun _ => ?_⟩
  conv => whnf
  refine ⟨fun h => absurd h (by (rw [List.length_map] at h; omega)), fun _ => ?_⟩
  conv => whnf
  refine ⟨0, LoopG.intro (fun i : Nat => ⟨[(0, .p (encRs l)), (3, iv i)], []⟩) (fun i => i ≤ l.length ∧ ∀ k (hk : k < l.length), k < i → okx l[k] = true) (fun i => l.length - i) (0) (⟨by omega, by omega⟩) ?_ ?_⟩
  · refine ⟨[], by decide, rfl, ?_, ?_⟩
    · repeat' (first | exact trivial | exact ⟨_, rfl, rfl⟩ | exact ⟨_, rfl, Or.inl rfl⟩ | exact ⟨_, rfl, Or.inr ⟨rfl, rfl⟩⟩ | exact ⟨_, rfl, _, rfl⟩ | exact ⟨_, rfl⟩ | refine And.intro ?_ ?_)
    · repeat' (first | exact trivial | exact ⟨_, rfl, rfl⟩ | exact ⟨_, rfl, Or.inl rfl⟩ | exact ⟨_, rfl, Or.inr ⟨rfl, rfl⟩⟩ | exact ⟨_, rfl, _, rfl⟩ | exact ⟨_, rfl⟩ | refine And.intro ?_ ?_)
  rintro i ⟨hi, ha⟩
  conv => whnf
  refine ⟨fun h => ?_, fun h => ?_⟩
  · have hil : i < l.length := by simpa using h
    have hx := hn _ (List.getElem_mem hil)
    have bad : ¬ Okx l[i] → l.all okx = false := fun h => by
      rw [List.all_eq_false]
      exact ⟨_, List.getElem_mem hil, by rw [okx_f.2 h]; decide⟩
    conv => whnf
    refine ⟨i, _, rfl, get_map hil, ?_⟩
    conv => whnf
    refine CallG.pure (IsRat35 l[i] hx.1 hx.2.1) rfl ?_
    conv => whnf
    refine ⟨rfl, ?_⟩
    rintro _ _ ⟨b, rfl, hb⟩
    refine ⟨rfl, ?_⟩
    conv => whnf
    cases b with
    | false =>
      conv => whnf
      exact ⟨rfl, by
        have : ¬ Okx l[i] := fun ⟨q, h1, h2, h3⟩ => by
          have := (hb (by rw [h3]; rfl)).2 ⟨q, h1, h2, h3⟩
          cases this
        rw [serE_5 l1 (bad this)]; rfl⟩
    | true =>
      conv => whnf
      refine ⟨i, _, rfl, get_map hil, ?_⟩
      conv => whnf
      refine ⟨fun he => ?_, fun he => ?_⟩
      · conv => whnf
        refine ⟨by omega, by omega, ?_⟩
        conv => whnf
        refine ⟨i + 1, ⟨by omega, fun k hk hk' => ?_⟩, by omega, ?_⟩
        · by_cases e : k = i
          · subst e; exact okx_t.2 ((hb he).1 rfl)
          · exact ha k hk (by omega)
        · refine ⟨[], by decide, rfl, ?_, ?_⟩
          · repeat' (first | exact trivial | exact ⟨_, rfl, rfl⟩ | exact ⟨_, rfl, Or.inl rfl⟩ | exact ⟨_, rfl, Or.inr ⟨rfl, rfl⟩⟩ | exact ⟨_, rfl, _, rfl⟩ | exact ⟨_, rfl⟩ | refine And.intro ?_ ?_)
          · repeat' (first | exact trivial | exact ⟨_, rfl, rfl⟩ | exact ⟨_, rfl, Or.inl rfl⟩ | exact ⟨_, rfl, Or.inr ⟨rfl, rfl⟩⟩ | exact ⟨_, rfl, _, rfl⟩ | exact ⟨_, rfl⟩ | refine And.intro ?_ ?_)
      · conv => whnf
        exact ⟨rfl, by
          have : ¬ Okx l[i] := fun ⟨q, h1, h2, h3⟩ => he (by rw [h3]; rfl)
          rw [serE_5 l1 (bad this)]; rfl⟩
  · conv => whnf
    exact ⟨rfl, by
      have hall : l.all okx = true := by
        rw [List.all_eq_true]
        intro x hx
        obtain ⟨k, hk, rfl⟩ := List.mem_iff_getElem.1 hx
        exact ha k hk (by simp at h; omega)
      rw [serE_0 l1 hall]; rfl⟩
theorem Two19 (a b : List RatS) (ha : a.length < 1000) (hb : b.length < 1000) (na : ∀ x ∈ a, Num x) (nb : ∀ x ∈ b, Num x) : P 19 [] [.p (encRs a), .p (encRs b)] (fun _ r => r = iv (twoE a b)) := by
  refine PC.of_pure good ok19 rfl ?_
  conv => whnf
  refine CallG.pure (Series32 a ha na) rfl ?_
  conv => whnf
  refine ⟨rfl, ?_⟩
  rintro _ _ rfl
  refine ⟨rfl, ?_⟩
  conv => whnf
  refine ⟨fun h1 => ?_, fun h1 => ?_⟩
  rotate_left
  · conv => whnf
    exact ⟨rfl, by unfold twoE; rw [if_pos h1]; rfl⟩
  conv => whnf
  refine CallG.pure (Series32 b hb nb) rfl ?_
  conv => whnf
  refine ⟨rfl, ?_⟩
  rintro _ _ rfl
  refine ⟨rfl, ?_⟩
  conv => whnf
  refine ⟨fun h2 => ?_, fun h2 => ?_⟩
  rotate_left
  · conv => whnf
    exact ⟨rfl, by unfold twoE; rw [if_neg (by omega), if_pos h2]; rfl⟩
  conv => whnf
  refine ⟨fun h3 => ?_, fun h3 => ?_⟩
  · conv => whnf
    exact ⟨rfl, by
      rw [List.length_map, List.length_map] at h3
      unfold twoE; rw [if_neg (by omega), if_neg (by omega), if_neg (by omega)]; rfl⟩
  · conv => whnf
    exact ⟨rfl, by
      rw [List.length_map, List.length_map] at h3
      unfold twoE; rw [if_neg (by omega), if_neg (by omega), if_pos (by omega)]; rfl⟩
def Dgs (x : RatS) : Prop := Dg x.num ∧ Dg x.den
theorem CutRat75 (x : RatS) (hx : Dgs x) (n : Int) (h1 : -100000 ≤ n) (h2 : n ≤ 100000) : P 75 [] [.agp (encR x), iv n] (fun _ r => ∃ (y : RatS) (k : Nat), r = .tu [.agp (encR y), iv k] ∧ k ≤ 260 ∧ Num y) := by
  refine PC.of_pure good ok75 rfl (R := fun r => ∃ (y : RatS) (k : Nat), r = .tu [.agp (encR y), iv k] ∧ k ≤ 260 ∧ Num y) ?_
  obtain ⟨m, hmm⟩ : ∃ m, n.tdiv 2 = m := ⟨_, rfl⟩
  have hm : m.natAbs = n.natAbs / 2 := by rw [← hmm]; exact Int.natAbs_tdiv n 2
  have hm1 : -100000 ≤ m ∧ m ≤ 100000 := by omega
  clear hm
  conv => whnf
  rw [hmm]
  obtain ⟨t, hT, t1⟩ : ∃ t : Nat, (bif false then (if (bif true then (if m > 2 then m else 2) else (if m < 2 then m else 2)) > 130 then (bif true then (if m > 2 then m else 2) else (if m < 2 then m else 2)) else 130) else (if (bif true then (if m > 2 then m else 2) else (if m < 2 then m else 2)) < 130 then (bif true then (if m > 2 then m else 2) else (if m < 2 then m else 2)) else 130)) = ((t : Nat) : Int) ∧ t ≤ 130 := by
    refine ⟨(min 130 (max 2 m)).toNat, ?_, by omega⟩
    simp only [cond_true, cond_false]
    split <;> split <;> omega
  refine ⟨by decide, by omega, by omega, ?_⟩
  conv => whnf
  rw [hT, mn_eq]
  refine ⟨min (x.num.map digR).length t, rfl, ?_⟩
  conv => whnf
  refine ⟨Nat.zero_le _, Nat.min_le_left _ _, ?_⟩
  conv => whnf
  rw [mn_eq]
  refine ⟨min (x.den.map digR).length t, rfl, ?_⟩
  conv => whnf
  refine ⟨Nat.zero_le _, Nat.min_le_left _ _, ?_⟩
  conv => whnf
  refine ⟨rfl, rfl, (by show _ * 4 ≤ _; simp; omega), ?_⟩
  conv => whnf
  refine ⟨rfl, rfl, (by show _ * 4 ≤ _; simp; omega), ?_⟩
  conv => whnf
  have e : ∀ l : List Nat, ([] ++ List.take (min (l.map digR).length t - 0) (List.drop 0 (l.map digR))) = (l.take t).map digR := fun l => by
    rw [List.nil_append, Nat.sub_zero, List.drop_zero, take_min, List.map_take]
  have lt : ∀ l : List Nat, ((l.take t).map digR).length ≤ 130 := fun l => by rw [List.length_map, List.length_take]; omega
  rw [e, e]
  have n1 := lt x.num
  have n2 := lt x.den
  refine ⟨by omega, by omega, ?_⟩
  conv => whnf
  exact ⟨rfl, ⟨x.fault, x.neg, x.num.take t, x.den.take t⟩, ((x.num.take t).map digR).length + ((x.den.take t).map digR).length, by simp only [oneS, encR, encN]; rfl, by omega, hx.1.take t, hx.2.take t, by rw [List.length_map] at n1; exact Nat.lt_of_le_of_lt n1 (by decide), by rw [List.length_map] at n2; exact Nat.lt_of_le_of_lt n2 (by decide)⟩
theorem CutRats29 (l : List RatS) (hl : ∀ x ∈ l, Dgs x) : P 29 [] [.p (encRs l), iv 11, iv 160] (fun _ r => ∃ z : List RatS, r = .p (encRs z) ∧ z.length ≤ 11 ∧ ∀ x ∈ z, Num x) := by
  refine PC.of_pure good ok29 rfl (R := fun r => ∃ z : List RatS, r = .p (encRs z) ∧ z.length ≤ 11 ∧ ∀ x ∈ z, Num x) ?_
  conv => whnf
  refine ⟨0, LoopG.intro (fun (⟨i, z, n⟩ : Nat × List RatS × Int) => ⟨[(0, .p (encRs l)), (1, iv 11), (2, iv n), (7, .os 0), (8, iv i)], [.arr 51 (z.map encR)]⟩) (fun (⟨i, z, n⟩ : Nat × List RatS × Int) => i ≤ 11 ∧ z.length = i ∧ 160 - 260 * (i : Int) ≤ n ∧ n ≤ 160 ∧ (∀ x ∈ z, Num x)) (fun (⟨i, _, _⟩ : Nat × List RatS × Int) => 11 - i) ((0, [], 160)) (by exact ⟨by omega, rfl, by omega, by omega, by simp⟩) ?_ ?_⟩
  · refine ⟨[none], by decide, rfl, ?_, ?_⟩
    · repeat' (first | exact trivial | exact ⟨_, rfl, rfl⟩ | exact ⟨_, rfl, Or.inl rfl⟩ | exact ⟨_, rfl, Or.inr ⟨rfl, rfl⟩⟩ | exact ⟨_, rfl, _, rfl⟩ | exact ⟨_, rfl⟩ | refine And.intro ?_ ?_)
    · repeat' (first | exact trivial | exact ⟨_, rfl, rfl⟩ | exact ⟨_, rfl, Or.inl rfl⟩ | exact ⟨_, rfl, Or.inr ⟨rfl, rfl⟩⟩ | exact ⟨_, rfl, _, rfl⟩ | exact ⟨_, rfl⟩ | refine And.intro ?_ ?_)
  rintro ⟨i, z, n⟩ ⟨hi, hz, hn1, hn2, hx⟩
  have fin : ∃ z' : List RatS, SV.p (encRs z) = .p (encRs z') ∧ z'.length ≤ 11 ∧ ∀ x ∈ z', Num x := ⟨z, rfl, by omega, hx⟩
  conv => whnf
  refine ⟨fun h1 => ?_, fun h1 => ?_⟩
  · have hil : i < l.length := by simpa using h1
    conv => whnf
    refine ⟨fun h2 => ?_, fun h2 => ?_⟩
    · conv => whnf
      refine ⟨i, _, rfl, get_map hil, ?_⟩
      conv => whnf
      refine CallG.pure (CutRat75 l[i] (hl _ (List.getElem_mem hil)) n (by omega) (by omega)) rfl ?_
      conv => whnf
      refine ⟨rfl, ?_⟩
      rintro _ _ ⟨y, k, rfl, hk, hy⟩
      refine ⟨rfl, ?_⟩
      conv => whnf
      refine ⟨by omega, by omega, ?_⟩
      conv => whnf
      refine ⟨rfl, rfl, (by show _ * 64 ≤ _; simp; omega), ?_⟩
      conv => whnf
      refine ⟨by omega, by omega, ?_⟩
      conv => whnf
      refine ⟨(i + 1, z ++ [y], n - k), ⟨by omega, by simp [hz], by omega, by omega, ?_⟩, by show 11 - (i + 1) < 11 - i; omega, ?_⟩
      · intro x hx'
        rcases List.mem_append.1 hx' with h | h
        · exact hx x h
        · rw [List.mem_singleton.1 h]; exact hy
      · have e : z.map encR ++ [encR y] = (z ++ [y]).map encR := by rw [List.map_append]; rfl
        refine ⟨[some 3], by decide, rfl, ?_, ?_⟩
        · repeat' (first | exact trivial | exact ⟨_, rfl, rfl⟩ | exact ⟨_, rfl, Or.inl rfl⟩ | exact ⟨_, rfl, Or.inr ⟨rfl, rfl⟩⟩ | exact ⟨_, rfl, _, rfl⟩ | exact ⟨_, rfl⟩ | refine And.intro ?_ ?_ | (refine ⟨_, rfl, congrArg (fun z => some (Blk.arr _ z)) ?_⟩; exact e) | (refine ⟨_, rfl, congrArg (fun z => some (SV.p (PV.sl _ z))) ?_⟩; exact e) | (refine ⟨_, rfl, Or.inl (congrArg (fun z => some (SV.p (PV.sl _ z))) ?_)⟩; exact e) | (refine ⟨_, rfl, Or.inr ⟨rfl, ?_⟩⟩; exact e))
        · repeat' (first | exact trivial | exact ⟨_, rfl, rfl⟩ | exact ⟨_, rfl, Or.inl rfl⟩ | exact ⟨_, rfl, Or.inr ⟨rfl, rfl⟩⟩ | exact ⟨_, rfl, _, rfl⟩ | exact ⟨_, rfl⟩ | refine And.intro ?_ ?_ | (refine ⟨_, rfl, congrArg (fun z => some (Blk.arr _ z)) ?_⟩; exact e) | (refine ⟨_, rfl, congrArg (fun z => some (SV.p (PV.sl _ z))) ?_⟩; exact e) | (refine ⟨_, rfl, Or.inl (congrArg (fun z => some (SV.p (PV.sl _ z))) ?_)⟩; exact e) | (refine ⟨_, rfl, Or.inr ⟨rfl, ?_⟩⟩; exact e))
    · conv => whnf
      exact ⟨rfl, fin⟩
  · conv => whnf
    exact ⟨rfl, fin⟩
theorem cut16 (l : List RatS) (hl : ∀ x ∈ l, Dgs x) : P 16 [] [.p (encRs l)] (fun _ r => ∃ z : List RatS, r = .p (encRs z) ∧ z.length ≤ 11 ∧ ∀ x ∈ z, Num x) := by
  refine PC.of_pure good ok16 rfl (R := fun r => ∃ z : List RatS, r = .p (encRs z) ∧ z.length ≤ 11 ∧ ∀ x ∈ z, Num x) ?_
  conv => whnf
  refine CallG.pure (CutRats29 l hl) rfl ?_
  conv => whnf
  refine ⟨rfl, ?_⟩
  rintro _ _ ⟨z, rfl, h⟩
  refine ⟨rfl, ?_⟩
  conv => whnf
  exact ⟨rfl, z, rfl, h⟩
theorem dl {q : Q} {k l : Nat} (h : Wd q k l) (h1 : k ≤ 1000000) (h2 : l ≤ 1000000) : (dg q.n).length < 50000 ∧ (dg q.d).length < 50000 := by
  obtain ⟨a, b⟩ := Wd.len (k := 31250) (l := 31250) (h.mono (by omega) (by omega))
  exact ⟨by omega, by omega⟩
theorem mem_zip {α β γ : Type} {f : α → β → γ} {a : List α} {b : List β} {z : γ} (h : z ∈ List.zipWith f a b) : ∃ x ∈ a, ∃ y ∈ b, z = f x y := by
  obtain ⟨k, hk, rfl⟩ := List.mem_iff_getElem.1 h
  rw [List.length_zipWith] at hk
  exact ⟨a[k], List.getElem_mem _, b[k], List.getElem_mem _, by simp⟩
theorem add_alike (x y : List Q) (fx : Fine x) (fy : Fine y) (hl : x.length = y.length) (hs : x.length < 1000) (n : Int) : P 22 [] [.p (encRs (fqs (List.zipWith (fop addQ) (som x) (som y)))), .p (encRs (sts (List.zipWith addQ x y))), iv n] (fun _ r => r = bv true) := by
  refine alike22 _ _ n ?_ ?_ ?_ ?_ ?_
  · intro o ho
    obtain ⟨a, ha, b, hb, rfl⟩ := mem_zip ho
    exact fop_ok (.inl ⟨rfl, rfl⟩) (som_ok fx a ha) (som_ok fy b hb)
  · intro q hq
    obtain ⟨a, ha, b, hb, rfl⟩ := mem_zip hq
    exact dl (Wd.add 8192 (fx.Wd a ha) (fy.Wd b hb) (by decide) (by decide)) (by decide) (by decide)
  · simp [som]
  · simp [som]; omega
  · intro i h h'
    rw [List.length_zipWith] at h'
    exact .inl (by simp [som, fop])
theorem mul_alike (x y : List Q) (fx : Fine x) (fy : Fine y) (hl : x.length = y.length) (hs : x.length ≤ 9) (s t : Nat) (wx : ∀ q ∈ x, Wd q s s) (wy : ∀ q ∈ y, Wd q t t) (n : Int) (hn : n = 9 * (2 * ((s : Int) + (t : Int)))) : P 22 [] [.p (encRs (fqs ((List.range x.length).map fun k => crs (som x) (som y) k (k + 1)))), .p (encRs (sts ((List.range x.length).map fun k => crE x y k (k + 1)))), iv n] (fun _ r => r = bv true) := by
  have lw : ∀ k, k < x.length → Wd (crE x y k (k + 1)) 100000 100000 := fun k hk => (crE_Wd 4096 4096 fx.Wd fy.Wd k (k + 1) (Nat.le_refl _) hk (by omega)).mono (by omega) (by omega)
  refine alike22 _ _ n ?_ ?_ ?_ ?_ ?_
  · intro o ho
    obtain ⟨k, hk, rfl⟩ := List.mem_map.1 ho
    have hk := List.mem_range.1 hk
    exact crs_ok (som_ok fx) (som_ok fy) k (k + 1) (Nat.le_refl _) (by simpa [som] using hk) (by simp [som]; omega)
  · intro q hq
    obtain ⟨k, hk, rfl⟩ := List.mem_map.1 hq
    exact dl (lw k (List.mem_range.1 hk)) (by decide) (by decide)
  · simp
  · simp; omega
  · intro i h h'
    have hi : i < x.length := by simpa using h'
    rw [show ((List.range x.length).map fun k => crs (som x) (som y) k (k + 1))[i] = crs (som x) (som y) i (i + 1) by simp, show ((List.range x.length).map fun k => crE x y k (k + 1))[i] = crE x y i (i + 1) by simp]
    cases hc : crs (som x) (som y) i (i + 1) with
    | some q =>
      have hq := crs_crE i (i + 1) (Nat.le_refl _) hi (by omega) q hc
      have ok := crs_ok (som_ok fx) (som_ok fy) i (i + 1) (Nat.le_refl _) (by simpa [som] using hi) (by simp [som]; omega) q hc
      rw [hq] at ok ⊢
      exact .inl (fq_sm ok.2).symm
    | none =>
      refine .inr ⟨rfl, ?_⟩
      rw [decide_eq_true_iff]
      cases Nat.lt_or_ge (s + t) 23 with
      | inl h2 =>
        have := crs_small s t wx wy i (by omega) (by omega) (i + 1) (Nat.le_refl _) hi (by omega)
        rw [hc] at this
        cases this
      | inr h2 => omega
theorem JetSums4 (a b : List RatS) (ha : ∀ x ∈ a, Dgs x) (hb : ∀ x ∈ b, Dgs x) : P 4 [] [.p (encRs a), .p (encRs b)] (fun _ r => r = bv true) := by
  refine PC.of_pure good ok4 rfl ?_
  conv => whnf
  refine CallG.pure (cut16 a ha) rfl ?_
  conv => whnf
  refine ⟨rfl, ?_⟩
  rintro _ _ ⟨x, rfl, lx, nx⟩
  refine ⟨rfl, ?_⟩
  conv => whnf
  refine CallG.pure (cut16 b hb) rfl ?_
  conv => whnf
  refine ⟨rfl, ?_⟩
  rintro _ _ ⟨y, rfl, ly, ny⟩
  refine ⟨rfl, ?_⟩
  conv => whnf
  by_cases he : twoE x y = 0
  rotate_left
  · refine CallG.pure (Add17e x y (by omega) (by omega) nx ny he) rfl ?_
    conv => whnf
    refine ⟨rfl, ?_⟩
    rintro _ _ rfl
    refine ⟨rfl, ?_⟩
    conv => whnf
    refine CallG.pure (Mul18e x y (by omega) (by omega) nx ny he) rfl ?_
    conv => whnf
    refine ⟨rfl, ?_⟩
    rintro _ _ rfl
    refine ⟨rfl, ?_⟩
    conv => whnf
    refine CallG.pure (Two19 x y (by omega) (by omega) nx ny) rfl ?_
    conv => whnf
    refine ⟨rfl, ?_⟩
    rintro _ _ rfl
    refine ⟨rfl, ?_⟩
    conv => whnf
    refine ⟨fun h => absurd h he, fun _ => ?_⟩
    conv => whnf
    refine ⟨fun _ => ?_, fun h => absurd rfl h⟩
    conv => whnf
    refine ⟨fun _ => ?_, fun h => absurd rfl h⟩
    conv => whnf
    refine ⟨fun _ => ?_, fun h => absurd rfl h⟩
    conv => whnf
    refine ⟨fun _ => ?_, fun h => absurd rfl h⟩
    conv => whnf
    refine CallG.pure (alive20) rfl ?_
    conv => whnf
    refine ⟨rfl, ?_⟩
    rintro _ _ rfl
    refine ⟨rfl, ?_⟩
    conv => whnf
    exact ⟨rfl, rfl⟩
  · obtain ⟨x, y, rfl, rfl, fx, fy, hl, l1, l9⟩ := twoE_0 he
    refine CallG.pure (Add17 x y fx fy nx ny hl (by omega) he) rfl ?_
    conv => whnf
    refine ⟨rfl, ?_⟩
    rintro _ _ rfl
    refine ⟨rfl, ?_⟩
    conv => whnf
    refine CallG.pure (Mul18 x y fx fy nx ny hl (by omega) he) rfl ?_
    conv => whnf
    refine ⟨rfl, ?_⟩
    rintro _ _ rfl
    refine ⟨rfl, ?_⟩
    conv => whnf
    refine CallG.pure (Two19 (x.map Q.st) (y.map Q.st) (by omega) (by omega) nx ny) rfl ?_
    conv => whnf
    refine ⟨rfl, ?_⟩
    rintro _ _ rfl
    refine ⟨rfl, ?_⟩
    conv => whnf
    rw [he]
    refine ⟨fun _ => ?_, fun h => absurd rfl h⟩
    conv => whnf
    refine CallG.pure (Bits21 x fx (by omega)) rfl ?_
    conv => whnf
    refine ⟨rfl, ?_⟩
    rintro _ _ ⟨n, rfl, hn, wx⟩
    refine ⟨rfl, ?_⟩
    conv => whnf
    refine CallG.pure (Bits21 y fy (by omega)) rfl ?_
    conv => whnf
    refine ⟨rfl, ?_⟩
    rintro _ _ ⟨m, rfl, hm, wy⟩
    refine ⟨rfl, ?_⟩
    conv => whnf
    refine ⟨by omega, by omega, ?_⟩
    conv => whnf
    refine ⟨by omega, by omega, ?_⟩
    conv => whnf
    refine ⟨fun _ => ?_, fun h => absurd rfl h⟩
    conv => whnf
    refine CallG.pure (RAdd23 x y fx fy hl (by omega)) rfl ?_
    conv => whnf
    refine ⟨rfl, ?_⟩
    rintro _ _ rfl
    refine ⟨rfl, ?_⟩
    conv => whnf
    refine CallG.pure (add_alike x y fx fy hl (by omega) (2 * ((n : Int) + (m : Int)))) rfl ?_
    conv => whnf
    refine ⟨rfl, ?_⟩
    rintro _ _ rfl
    refine ⟨rfl, ?_⟩
    conv => whnf
    refine ⟨fun _ => ?_, fun h => absurd rfl h⟩
    conv => whnf
    refine CallG.pure (RMul24 x y fx fy hl (by omega)) rfl ?_
    conv => whnf
    refine ⟨rfl, ?_⟩
    rintro _ _ rfl
    refine ⟨rfl, ?_⟩
    conv => whnf
    refine ⟨by omega, by omega, ?_⟩
    conv => whnf
    refine CallG.pure (mul_alike x y fx fy hl l9 n m wx wy (9 * (2 * ((n : Int) + (m : Int)))) rfl) rfl ?_
    conv => whnf
    refine ⟨rfl, ?_⟩
    rintro _ _ rfl
    refine ⟨rfl, ?_⟩
    conv => whnf
    refine CallG.pure (alive20) rfl ?_
    conv => whnf
    refine ⟨rfl, ?_⟩
    rintro _ _ rfl
    refine ⟨rfl, ?_⟩
    conv => whnf
    exact ⟨rfl, rfl⟩
end Go.Sx.Tz
end
end

/- Part of the proof that whatever the two series: JetSums answers true -/
import Derived.Test.YtcnmkdpnbaidgaaGreatDoorT15
import Derived.Test.YtcnmkdpnbaidgaaGreatDoorT14
set_option linter.all false
noncomputable section
section
namespace Go.Sx.Tz
def B : Nat := 4294967296
theorem B_pos : 0 < B := by decide
def vl : List Nat → Nat
  | [] => 0
  | d :: l => d + B * vl l
def dg (n : Nat) : List Nat := if h : n = 0 then [] else (n % B) :: dg (n / B)
termination_by n
decreasing_by exact Nat.div_lt_self (Nat.pos_of_ne_zero h) (by decide)
theorem dg_zero : dg 0 = [] := by rw [dg]; simp
theorem dg_pos {n : Nat} (h : n ≠ 0) : dg n = (n % B) :: dg (n / B) := by rw [dg]; simp [h]
def Dg (l : List Nat) : Prop := ∀ d ∈ l, d < B
theorem Dg.nil : Dg [] := fun d h => by cases h
theorem Dg.cons {d : Nat} {l : List Nat} (h : d < B) (k : Dg l) : Dg (d :: l) := fun x hx => by
  rcases List.mem_cons.1 hx with rfl | hx
  · exact h
  · exact k x hx
theorem Dg.head {d : Nat} {l : List Nat} (h : Dg (d :: l)) : d < B := h d (List.mem_cons_self ..)
theorem Dg.tail {d : Nat} {l : List Nat} (h : Dg (d :: l)) : Dg l := fun x hx => h x (List.mem_cons_of_mem _ hx)
theorem Dg.take {l : List Nat} (h : Dg l) (n : Nat) : Dg (l.take n) := fun x hx => h x (List.mem_of_mem_take hx)
theorem Dg.drop {l : List Nat} (h : Dg l) (n : Nat) : Dg (l.drop n) := fun x hx => h x (List.mem_of_mem_drop hx)
theorem Dg.app {a b : List Nat} (h : Dg a) (k : Dg b) : Dg (a ++ b) := fun x hx => by
  rcases List.mem_append.1 hx with hx | hx
  · exact h x hx
  · exact k x hx
theorem Dg.get {l : List Nat} (h : Dg l) {i : Nat} (hi : i < l.length) : l[i] < B := h _ (List.getElem_mem hi)
theorem dg_Dg (n : Nat) : Dg (dg n) := by
  induction n using Nat.strongRecOn with
  | _ n ih =>
    by_cases h : n = 0
    · subst h; rw [dg_zero]; exact .nil
    · rw [dg_pos h]
      exact .cons (Nat.mod_lt _ B_pos) (ih _ (Nat.div_lt_self (Nat.pos_of_ne_zero h) (by decide)))
theorem vl_dg (n : Nat) : vl (dg n) = n := by
  induction n using Nat.strongRecOn with
  | _ n ih =>
    by_cases h : n = 0
    · subst h; rw [dg_zero]; rfl
    · rw [dg_pos h, vl, ih _ (Nat.div_lt_self (Nat.pos_of_ne_zero h) (by decide))]
      have := Nat.mod_add_div n B; omega
theorem vl_lt {l : List Nat} (h : Dg l) : vl l < B ^ l.length := by
  induction l with
  | nil => simp [vl]
  | cons d l ih =>
    have h1 := h.head
    have h2 := ih h.tail
    rw [vl, List.length_cons, Nat.pow_succ]
    calc d + B * vl l < B + B * vl l := by omega
      _ = B * (vl l + 1) := by rw [Nat.mul_add]; omega
      _ ≤ B * B ^ l.length := Nat.mul_le_mul_left _ h2
      _ = B ^ l.length * B := Nat.mul_comm _ _
theorem vl_app (a b : List Nat) : vl (a ++ b) = vl a + B ^ a.length * vl b := by
  induction a with
  | nil => simp [vl]
  | cons d a ih => simp only [List.cons_append, vl, ih, List.length_cons, Nat.pow_succ, Nat.mul_add]; rw [Nat.mul_comm (B ^ a.length) B, Nat.mul_assoc]; omega
theorem vl_snoc (a : List Nat) (d : Nat) : vl (a ++ [d]) = vl a + B ^ a.length * d := by rw [vl_app]; simp [vl]
theorem vl_zeros (n : Nat) : vl (List.replicate n 0) = 0 := by
  induction n with
  | zero => rfl
  | succ n ih => simp [List.replicate_succ, vl, ih]
theorem vl_cons_div {d : Nat} {l : List Nat} (h : d < B) : vl (d :: l) % B = d ∧ vl (d :: l) / B = vl l := by
  rw [vl]
  constructor
  · rw [Nat.add_mul_mod_self_left, Nat.mod_eq_of_lt h]
  · rw [Nat.add_mul_div_left _ _ B_pos, Nat.div_eq_of_lt h]; omega
def Nz (l : List Nat) : Prop := ∀ h : l ≠ [], l.getLast h ≠ 0
theorem Nz.tail {d : Nat} {l : List Nat} (h : Nz (d :: l)) : Nz l := fun k => by
  have := h (by simp)
  rwa [List.getLast_cons k] at this
theorem dg_Nz (n : Nat) : Nz (dg n) := by
  induction n using Nat.strongRecOn with
  | _ n ih =>
    by_cases h : n = 0
    · subst h; rw [dg_zero]; exact fun k => absurd rfl k
    · rw [dg_pos h]
      intro k
      by_cases h2 : n / B = 0
      · have : (n % B :: dg (n / B)) = [n % B] := by rw [h2, dg_zero]
        simp only [this, List.getLast_singleton]
        have := Nat.mod_add_div n B
        rw [h2] at this; omega
      · have h3 : dg (n / B) ≠ [] := by rw [dg_pos h2]; simp
        rw [List.getLast_cons h3]
        exact ih _ (Nat.div_lt_self (Nat.pos_of_ne_zero h) (by decide)) h3
theorem vl_ne {l : List Nat} (h : Nz l) (h2 : l ≠ []) : vl l ≠ 0 := by
  have : l = l.dropLast ++ [l.getLast h2] := (List.dropLast_concat_getLast h2).symm
  rw [this, vl_snoc]
  have h3 := h h2
  have : 0 < B ^ l.dropLast.length * l.getLast h2 := Nat.mul_pos (Nat.pow_pos B_pos) (Nat.pos_of_ne_zero h3)
  omega
theorem dg_vl {l : List Nat} (h : Dg l) (k : Nz l) : dg (vl l) = l := by
  induction l with
  | nil => exact dg_zero
  | cons d l ih =>
    have hne := vl_ne k (by simp)
    rw [dg_pos hne, (vl_cons_div h.head).1, (vl_cons_div h.head).2, ih h.tail k.tail]
theorem dg_vl_snoc0 {l : List Nat} : dg (vl (l ++ [0])) = dg (vl l) := by rw [vl_snoc]; simp
theorem dg_len {n k : Nat} : (dg n).length ≤ k ↔ n < B ^ k := by
  constructor
  · intro h
    have h1 := vl_lt (dg_Dg n)
    rw [vl_dg] at h1
    exact Nat.lt_of_lt_of_le h1 (Nat.pow_le_pow_right B_pos h)
  · intro h
    cases Nat.lt_or_ge k (dg n).length with
    | inr h2 => exact h2
    | inl h2 =>
      have hne : dg n ≠ [] := fun e => by rw [e] at h2; simp at h2
      have e : dg n = (dg n).dropLast ++ [(dg n).getLast hne] := (List.dropLast_concat_getLast hne).symm
      have h3 := dg_Nz n hne
      have h4 : vl (dg n) = n := vl_dg n
      rw [e, vl_snoc] at h4
      have h5 : B ^ k ≤ B ^ (dg n).dropLast.length := Nat.pow_le_pow_right B_pos (by simp; omega)
      have h6 : B ^ (dg n).dropLast.length * 1 ≤ B ^ (dg n).dropLast.length * (dg n).getLast hne := Nat.mul_le_mul_left _ (by omega)
      omega
theorem dg_len_pos {n : Nat} : (dg n).length = 0 ↔ n = 0 := by
  constructor
  · intro h
    have : dg n = [] := List.length_eq_zero_iff.1 h
    rw [← vl_dg n, this]; rfl
  · intro h; subst h; rw [dg_zero]; rfl
theorem dg_nil {n : Nat} : dg n = [] ↔ n = 0 := by rw [← dg_len_pos, List.length_eq_zero_iff]
theorem dg_inj {a b : Nat} (h : dg a = dg b) : a = b := by rw [← vl_dg a, ← vl_dg b, h]
theorem dg_one_digit {d : Nat} (h : d < B) (h0 : d ≠ 0) : dg d = [d] := by
  rw [dg_pos h0, Nat.mod_eq_of_lt h, Nat.div_eq_of_lt h, dg_zero]
theorem vl_take_drop (l : List Nat) (i : Nat) (h : i ≤ l.length) : vl l = vl (l.take i) + B ^ i * vl (l.drop i) := by
  have := vl_app (l.take i) (l.drop i)
  rw [List.take_append_drop, List.length_take, Nat.min_eq_left h] at this
  exact this
theorem vl_take_succ {l : List Nat} {i : Nat} (h : i < l.length) : vl (l.take (i + 1)) = vl (l.take i) + B ^ i * l[i] := by
  rw [← List.take_append_getElem h, vl_snoc, List.length_take, Nat.min_eq_left (by omega)]
theorem vl_drop {l : List Nat} {i : Nat} (h : i < l.length) : vl (l.drop i) = l[i] + B * vl (l.drop (i + 1)) := by
  rw [List.drop_eq_getElem_cons h, vl]
def dAt (l : List Nat) (i : Nat) : Nat := l.getD i 0
theorem dAt_lt {l : List Nat} {i : Nat} (h : i < l.length) : dAt l i = l[i] := by simp [dAt, h]
theorem dAt_ge {l : List Nat} {i : Nat} (h : l.length ≤ i) : dAt l i = 0 := by simp [dAt, h]
theorem dAt_B {l : List Nat} (h : Dg l) (i : Nat) : dAt l i < B := by
  by_cases hi : i < l.length
  · rw [dAt_lt hi]; exact h.get hi
  · rw [dAt_ge (by omega)]; exact B_pos
theorem vl_take_dAt (l : List Nat) (i : Nat) : vl (l.take (i + 1)) = vl (l.take i) + B ^ i * dAt l i := by
  by_cases h : i < l.length
  · rw [vl_take_succ h, dAt_lt h]
  · rw [dAt_ge (by omega), List.take_of_length_le (by omega), List.take_of_length_le (by omega)]; omega
end Go.Sx.Tz
end
section
namespace Go.Sx.Tz
open Go Go.Ev Go.Ev.Tz Go.Sx Go.Proofs
theorem frzSel_mono : ∀ {sel : List Bool} {l : List SV} {S : SS} {K K' : SS → List SV → Prop}, (∀ S v, K S v → K' S v) → frzSel S sel l K → frzSel S sel l K'
  | [], [], _, _, _, hk, h => hk _ _ h
  | [], _ :: _, _, _, _, hk, h => hk _ _ h
  | true :: _, [], _, _, _, hk, h => hk _ _ h
  | false :: _, [], _, _, _, hk, h => hk _ _ h
  | true :: _, _ :: _, _, _, _, hk, h => frzV_mono (fun _ _ h => frzSel_mono (fun _ _ h => hk _ _ h) h) h
  | false :: s, _ :: _, _, _, _, hk, h => frzSel_mono (sel := s) (fun _ _ h => hk _ _ h) h
theorem lendS {PC : Ctr} {S : SS} {f : FuncId} {args : List SV} {ok : Nat → Bool} {K : SS → SV → Prop} (sel : List Bool) (srcs : List Src) (Mc : List Blk) (ags : List SV) (R : List Blk → SV → Prop) (h : PC f Mc ags R)
    (k : frzSel S sel args fun S args => lentOk S args (renJ srcs (len srcs) (len S.M)) Mc srcs ∧ argsOk srcs (renJ srcs (len srcs) (len S.M)) 0 ags args ∧ sepOk ok srcs 0 Mc srcs = true ∧ ∀ M' r, R M' r → afterL S srcs Mc M' r K) : CallG PC S f args ok K :=
  .inr ⟨sel, srcs, Mc, ags, R, frzSel_mono (fun _ _ ⟨a, b, c, d⟩ => ⟨h, a, b, c, d⟩) k⟩
structure Ty where
  kind : Int
  dims : List Int
def dimR (d : Int) : List PV := [.int .i64 d]
def encDims (l : List Int) : PV := .sl 3 (l.map dimR)
def encTy (t : Ty) : List PV := [.int .i64 t.kind, encDims t.dims]
def encTys (l : List Ty) : PV := .sl 29 (l.map encTy)
def digR (d : Nat) : List PV := [.int .u32 (d : Nat)]
def encN (l : List Nat) : PV := .sl 112 (l.map digR)
structure RatS where
  fault : Int
  neg : Bool
  num : List Nat
  den : List Nat
def encR (r : RatS) : List PV := [.int .i64 r.fault, .bool r.neg, encN r.num, encN r.den]
def encRs (l : List RatS) : PV := .sl 51 (l.map encR)
structure BitS where
  fault : Int
  on : Bool
def encB (b : BitS) : List PV := [.int .i64 b.fault, .bool b.on]
structure ValS where
  ty : Ty
  nums : List RatS
  bits : List BitS
def encV (v : ValS) : List PV := [.int .i64 v.ty.kind, encDims v.ty.dims, encRs v.nums, .sl 154 (v.bits.map encB)]
def encVs (l : List ValS) : PV := .sl 77 (l.map encV)
theorem get_map {α : Type} {f : α → List PV} {l : List α} {i : Nat} (h : i < l.length) : (l.map f)[i]? = some (f l[i]) := by simp [h]
def maxInt : Nat := 9223372036854775807
abbrev iv (n : Int) : SV := .p (.int .i64 n)
abbrev u3 (n : Nat) : SV := .p (.int .u32 (n : Nat))
abbrev u6 (n : Nat) : SV := .p (.int .u64 (n : Nat))
abbrev bv (b : Bool) : SV := .p (.bool b)
abbrev nv (n : Nat) : SV := .p (encN (dg n))
theorem app_dig (o : List Nat) (n : Nat) (z : Int) (h : z = n) : o.map digR ++ [[PV.int .u32 z]] = (o ++ [n]).map digR := by subst h; simp [digR]
theorem mx_eq (a b : Nat) : (bif true then (if (b : Int) > (a : Int) then (b : Int) else (a : Int)) else (if (b : Int) < (a : Int) then (b : Int) else (a : Int))) = ((max a b : Nat) : Int) := by
  simp only [cond_true]; split <;> omega
theorem mn_eq (a b : Nat) : (bif false then (if (b : Int) > (a : Int) then (b : Int) else (a : Int)) else (if (b : Int) < (a : Int) then (b : Int) else (a : Int))) = ((min a b : Nat) : Int) := by
  simp only [cond_false]; split <;> omega
theorem wu6 (n : Int) : IntKind.u64.wrap n = n % 18446744073709551616 := by simp [IntKind.wrap, IntKind.bits, IntKind.signed]
theorem wu3 (n : Int) : IntKind.u32.wrap n = n % 4294967296 := by simp [IntKind.wrap, IntKind.bits, IntKind.signed]
theorem fd (n : Int) (k : Nat) : Int.fdiv n (2 ^ k) = n / 2 ^ k := Int.fdiv_eq_ediv_of_nonneg _ (Int.le_of_lt (Int.pow_pos (by decide)))
theorem mn6 (k : Nat) (h : k ≤ 64) : min k IntKind.u64.bits = k := by simp [IntKind.bits]; omega
theorem mn3 (k : Nat) (h : k ≤ 32) : min k IntKind.u32.bits = k := by simp [IntKind.bits]; omega
theorem sh3 (d k : Nat) (h : k ≤ 32) : Int.fdiv (d : Int) (2 ^ min k IntKind.u32.bits) = ((d / 2 ^ k : Nat) : Int) := by
  rw [fd, mn3 k h]; simp
theorem sh6 (d k : Nat) (h : k ≤ 64) : Int.fdiv (d : Int) (2 ^ min k IntKind.u64.bits) = ((d / 2 ^ k : Nat) : Int) := by
  rw [fd, mn6 k h]; simp
theorem wu6n (d : Nat) : IntKind.u64.wrap (d : Int) = ((d % 18446744073709551616 : Nat) : Int) := by rw [wu6]; simp
theorem wu3n (d : Nat) : IntKind.u32.wrap (d : Int) = ((d % 4294967296 : Nat) : Int) := by rw [wu3]; simp
end Go.Sx.Tz
end
section
namespace Go.Sx.Tz
open Go Go.Ev Go.Ev.Tz Go.Sx Go.Proofs Go.RowKit Go.ChangeShapes Go.WideShapes Go.Proofs.YtcnmkdpnbaidgaaGreatDoor
attribute [local irreducible] Tryz.types Tryz.funcs
theorem shp_sl {P : Program} {n t e : Nat} {pvs : List PV} (ht : P.underlying t = some (.slice e)) (h : Shp P (n + 1) t pvs) : ∃ rows : List (List PV), pvs = [.sl e rows] ∧ rows.length ≤ maxLen ∧ ∀ r, r ∈ rows → Shp P n e r := by
  unfold Shp at h; rw [ht] at h; exact h
theorem shp_int {P : Program} {n t : Nat} {k : IntKind} {pvs : List PV} (ht : P.underlying t = some (.int k)) (h : Shp P (n + 1) t pvs) : ∃ i, pvs = [.int k i] ∧ (Lit.int k i).wf = true := by
  unfold Shp at h; rw [ht] at h; exact h
theorem shp_bool {P : Program} {n t : Nat} {pvs : List PV} (ht : P.underlying t = some .bool) (h : Shp P (n + 1) t pvs) : ∃ b, pvs = [.bool b] := by
  unfold Shp at h; rw [ht] at h; exact h
theorem shp_st {P : Program} {n t : Nat} {fs : Array Field} {pvs : List PV} (ht : P.underlying t = some (.struct fs)) (h : Shp P (n + 1) t pvs) : ∃ l, All2 (fun (f : Field) r => Shp P n f.type r) fs.toList l ∧ pvs = l.flatten := by
  unfold Shp at h; rw [ht] at h; exact h
theorem exists_map {α β : Type} {f : α → β} : ∀ {l : List β}, (∀ x, x ∈ l → ∃ a, x = f a) → ∃ l' : List α, l = l'.map f
  | [], _ => ⟨[], rfl⟩
  | x :: r, h => by
    obtain ⟨a, rfl⟩ := h x (.head _)
    obtain ⟨l, rfl⟩ := exists_map (l := r) fun y hy => h y (.tail _ hy)
    exact ⟨a :: l, rfl⟩
theorem own : ownKnob Tryz.prog.godebug = none := by kernel_rfl
theorem laidOut : laidOutB Tryz.prog = true := by kernel_rfl
theorem law_calls {W : World} (hL : laidMetH Tryz.prog Rows.dualUnitsRow.laid W) (hS : W.ShapedOpen Tryz.prog) {f : FuncId} {sv : List SV} (h : P f [] sv (fun _ r => r = bv true)) {E : Env} {σ : St} {Φ : Fz} (hA : Ar Tryz.prog cxA.T X W E σ Φ) {vs args : List Value}
    (hv : LRel Tryz.prog E vs args) (ha : LVR cxA.T Φ [] sv vs) : Calls Tryz.prog f ⟨args⟩ W fun e W' => e = .returned (.bool true) ∧ Below W.heap.size W W' :=
  PC.calls good_cxA mixed (sums_cxA (globsAt hL hS).size (globsAt hL hS)) h hA hv ha
theorem goes_none {P : Program} (h : P.funcs.any Func.goes = false) (f : FuncId) : P.goes f = false := by
  have hall : ∀ (g : Nat) (fn : Func), P.funcs[g]? = some fn → fn.goes = false := fun g fn hg => by
    have := Array.any_eq_false.1 h
    obtain ⟨hlt, rfl⟩ := Array.getElem?_eq_some_iff.1 hg
    cases hq : (P.funcs[g]).goes with
    | false => rfl
    | true => exact absurd hq (this g hlt)
  unfold Program.goes
  rw [h, Bool.and_false, Bool.or_false, List.any_eq_false]
  intro g _
  cases hg : P.funcs[g]? with
  | none => simp
  | some fn => simp [hall g fn hg]
theorem goesBy_none {P : Program} {c : OpenClaim} (h : P.funcs.any Func.goes = false) (hs : c.start = .entering) : c.goesBy P = false := by
  unfold OpenClaim.goesBy Program.goesAt Program.goesFrom
  rw [hs]
  cases P.funcNamed c.func with
  | none => rfl
  | some f => simp [goes_none h]
theorem no_goes : Tryz.pinned.checked.prog.funcs.any Func.goes = false := by kernel_rfl
theorem mainIs : Tryz.pinned.checked.prog.mainIs = some (true, "12d293304533b96634aac677a7546efc3ec2c21e02291f64237086facc67c418".toList) := by kernel_rfl
end Go.Sx.Tz
end
section
namespace Go.Sx.Tz
open Go Go.Ev Go.Ev.Tz Go.Sx Go.Proofs Go.RowKit Go.ChangeShapes Go.WideShapes
attribute [local irreducible] Tryz.types Tryz.funcs
theorem shp_u32 {n : Nat} {pvs : List PV} (h : Shp Tryz.prog (n + 1) 112 pvs) : ∃ d : Nat, d < B ∧ pvs = digR d := by
  obtain ⟨i, rfl, hw⟩ := shp_int Tryz.underlying112 h
  have hi : 0 ≤ i ∧ i < 4294967296 := by
    have : IntKind.u32.min ≤ i ∧ i ≤ IntKind.u32.max := by simpa [Lit.wf] using hw
    simp [IntKind.min, IntKind.max, IntKind.bits, IntKind.signed] at this
    omega
  refine ⟨i.toNat, by unfold B; omega, ?_⟩
  unfold digR
  rw [show ((i.toNat : Nat) : Int) = i by omega]
theorem shp_num {n : Nat} {pvs : List PV} (h : Shp Tryz.prog (n + 2) 49 pvs) : ∃ l : List Nat, Dg l ∧ pvs = [encN l] := by
  obtain ⟨rows, rfl, _, h1⟩ := shp_sl Tryz.underlying49 h
  have : ∀ {rows : List (List PV)}, (∀ r, r ∈ rows → Shp Tryz.prog (n + 1) 112 r) → ∃ l : List Nat, Dg l ∧ rows = l.map digR := by
    intro rows
    induction rows with
    | nil => exact fun _ => ⟨[], .nil, rfl⟩
    | cons r rs ih =>
      intro hh
      obtain ⟨d, hd, rfl⟩ := shp_u32 (hh r (.head _))
      obtain ⟨l, hl, rfl⟩ := ih fun x hx => hh x (.tail _ hx)
      exact ⟨d :: l, hl.cons hd, rfl⟩
  obtain ⟨l, hl, rfl⟩ := this h1
  exact ⟨l, hl, rfl⟩
theorem shp_rat {n : Nat} {pvs : List PV} (h : Shp Tryz.prog (n + 3) 51 pvs) : ∃ x : RatS, (Dg x.num ∧ Dg x.den) ∧ pvs = encR x := by
  obtain ⟨l, h2, rfl⟩ := shp_st Tryz.underlying51 h
  cases h2 with
  | cons a h2 => cases h2 with
    | cons b h2 => cases h2 with
      | cons c h2 => cases h2 with
        | cons d h2 =>
          cases h2
          obtain ⟨k, rfl, _⟩ := shp_int Tryz.underlying24 a
          obtain ⟨bb, rfl⟩ := shp_bool Tryz.underlying4 b
          obtain ⟨x, hx, rfl⟩ := shp_num c
          obtain ⟨y, hy, rfl⟩ := shp_num d
          exact ⟨⟨k, bb, x, y⟩, ⟨hx, hy⟩, rfl⟩
theorem shp_rats {n : Nat} {pvs : List PV} (h : Shp Tryz.prog (n + 4) 38 pvs) : ∃ l : List RatS, (∀ x ∈ l, Dg x.num ∧ Dg x.den) ∧ pvs = [encRs l] := by
  obtain ⟨rows, rfl, _, h1⟩ := shp_sl Tryz.underlying38 h
  have : ∀ {rows : List (List PV)}, (∀ r, r ∈ rows → Shp Tryz.prog (n + 3) 51 r) → ∃ l : List RatS, (∀ x ∈ l, Dg x.num ∧ Dg x.den) ∧ rows = l.map encR := by
    intro rows
    induction rows with
    | nil => exact fun _ => ⟨[], by simp, rfl⟩
    | cons r rs ih =>
      intro hh
      obtain ⟨x, hx, rfl⟩ := shp_rat (hh r (.head _))
      obtain ⟨l, hl, rfl⟩ := ih fun x hx => hh x (.tail _ hx)
      refine ⟨x :: l, ?_, rfl⟩
      intro y hy
      rcases List.mem_cons.1 hy with rfl | hy
      · exact hx
      · exact hl y hy
  obtain ⟨l, hl, rfl⟩ := this h1
  exact ⟨l, hl, rfl⟩
end Go.Sx.Tz
end
section
namespace Go.Sx.Tz
open Go Go.Ev Go.Ev.Tz Go.Sx Go.Proofs
set_option maxHeartbeats 4000000
attribute [local irreducible] CallG LoopG
theorem slice_pre {l : List Nat} {k j : Nat} (h : j ≤ k) : (((l.take k).map digR).drop 0).take (j - 0) = (l.take j).map digR := by
  rw [List.drop_zero, Nat.sub_zero, ← List.map_take, List.take_take, Nat.min_eq_left h]
theorem dg_take {x : List Nat} (hx : Dg x) {k : Nat} (h1 : vl (x.take k) = vl x) (h2 : ∀ i (hi : i < x.length), k = i + 1 → x[i] ≠ 0) (h3 : k ≤ x.length) : x.take k = dg (vl x) := by
  rw [← h1]
  refine (dg_vl (hx.take k) fun hne => ?_).symm
  cases k with
  | zero => simp at hne
  | succ k =>
    have := h2 k (by omega) rfl
    have e : x.take (k + 1) = x.take k ++ [x[k]'(by omega)] := (List.take_append_getElem (by omega)).symm
    simp only [e, List.getLast_concat]
    exact this
theorem trim256 (x : List Nat) (hx : Dg x) (hl : x.length < 100000) : P 256 [] [.p (encN x)] (fun _ r => r = nv (vl x)) := by
  refine PC.of_pure good ok256 rfl ?_
  conv => whnf
  refine ⟨0, LoopG.intro (fun k : Nat => ⟨[(0, .p (encN (x.take k)))], []⟩) (fun k => k ≤ x.length ∧ vl (x.take k) = vl x) (fun k => k) (x.length) (⟨by omega, by rw [List.take_length]⟩) ?_ ?_⟩
  · rw [List.take_length]
    refine ⟨[], by decide, rfl, ?_, ?_⟩
    · repeat' (first | exact trivial | exact ⟨_, rfl, rfl⟩ | exact ⟨_, rfl, Or.inl rfl⟩ | exact ⟨_, rfl, Or.inr ⟨rfl, rfl⟩⟩ | exact ⟨_, rfl, _, rfl⟩ | exact ⟨_, rfl⟩ | refine And.intro ?_ ?_)
    · repeat' (first | exact trivial | exact ⟨_, rfl, rfl⟩ | exact ⟨_, rfl, Or.inl rfl⟩ | exact ⟨_, rfl, Or.inr ⟨rfl, rfl⟩⟩ | exact ⟨_, rfl, _, rfl⟩ | exact ⟨_, rfl⟩ | refine And.intro ?_ ?_)
  intro k hk
  conv => whnf
  refine ⟨fun h => ?_, fun h => ?_⟩
  · conv => whnf
    have hkl : (x.take k).length = k := by simp; omega
    have hk0 : 0 < k := by simp at h; omega
    obtain ⟨j, rfl⟩ : ∃ j, k = j + 1 := ⟨k - 1, by omega⟩
    have hjl : j < x.length := by omega
    have hn : (((x.take (j + 1)).map digR).length : Int) - 1 = j := by rw [List.length_map, hkl]; omega
    refine ⟨by omega, by omega, ?_⟩
    conv => whnf
    refine ⟨j, digR x[j], hn, by simp [hjl], ?_⟩
    conv => whnf
    refine ⟨fun hz => ?_, fun hz => ?_⟩
    · conv => whnf
      refine ⟨by omega, by omega, ?_⟩
      conv => whnf
      refine ⟨j, hn, ?_⟩
      conv => whnf
      refine ⟨Nat.zero_le _, (by rw [List.length_map, hkl]; omega), ?_⟩
      conv => whnf
      refine ⟨j, ⟨by omega, ?_⟩, by omega, ?_⟩
      · rw [← hk.2, vl_take_succ hjl, show x[j] = 0 by omega]; simp
      · rw [show encN (x.take j) = PV.sl 112 ((((x.take (j + 1)).map digR).drop 0).take (j - 0)) by rw [slice_pre (by omega)]; rfl]
        refine ⟨[], by decide, rfl, ?_, ?_⟩
        · repeat' (first | exact trivial | exact ⟨_, rfl, rfl⟩ | exact ⟨_, rfl, Or.inl rfl⟩ | exact ⟨_, rfl, Or.inr ⟨rfl, rfl⟩⟩ | exact ⟨_, rfl, _, rfl⟩ | exact ⟨_, rfl⟩ | refine And.intro ?_ ?_)
        · repeat' (first | exact trivial | exact ⟨_, rfl, rfl⟩ | exact ⟨_, rfl, Or.inl rfl⟩ | exact ⟨_, rfl, Or.inr ⟨rfl, rfl⟩⟩ | exact ⟨_, rfl, _, rfl⟩ | exact ⟨_, rfl⟩ | refine And.intro ?_ ?_)
    · conv => whnf
      exact ⟨rfl, by
        simp only [oneS]
        rw [show PV.sl 112 ((x.take (j + 1)).map digR) = encN (x.take (j + 1)) from rfl, dg_take hx hk.2 (fun i hi e => by obtain rfl : i = j := (by omega); omega) hk.1]⟩
  · conv => whnf
    exact ⟨rfl, by
      simp only [oneS]
      have hkl : (x.take k).length = k := by simp; omega
      have hk0 : k = 0 := by rw [List.length_map, hkl] at h; omega
      subst hk0
      rw [show PV.sl 112 ((x.take 0).map digR) = encN (x.take 0) from rfl, dg_take hx hk.2 (fun i hi e => by omega) hk.1]⟩
theorem Nz_iff {x : List Nat} : Nz x ↔ (0 < x.length → dAt x (x.length - 1) ≠ 0) := by
  constructor
  · intro h h0
    have hne : x ≠ [] := fun e => by rw [e] at h0; simp at h0
    have := h hne
    rwa [List.getLast_eq_getElem, ← dAt_lt] at this
  · intro h hne
    have h0 : 0 < x.length := List.length_pos_iff.2 hne
    rw [List.getLast_eq_getElem, ← dAt_lt]
    exact h h0
def formE (x : List Nat) : Int := if 512 < x.length then 3 else if 0 < x.length ∧ dAt x (x.length - 1) = 0 then 5 else 0
def formL : List (List Nat) → Int
  | [] => 0
  | x :: r => if formE x = 0 then formL r else formE x
theorem formE_dg {n : Nat} (h : (dg n).length ≤ 512) : formE (dg n) = 0 := by
  unfold formE
  rw [if_neg (by omega), if_neg]
  rintro ⟨h2, h3⟩
  exact Nz_iff.1 (dg_Nz n) h2 h3
theorem formE_ok {x : List Nat} (hx : Dg x) (h : formE x = 0) : x = dg (vl x) ∧ x.length ≤ 512 := by
  unfold formE at h
  split at h
  · cases h
  · split at h
    · cases h
    · rename_i h1 h2
      exact ⟨(dg_vl hx (Nz_iff.2 fun h0 hz => h2 ⟨h0, hz⟩)).symm, by omega⟩
theorem formL_at {l : List (List Nat)} {i : Nat} (hi : i < l.length) (h : ∀ k (hk : k < l.length), k < i → formE l[k] = 0) (h2 : formE l[i] ≠ 0) : formL l = formE l[i] := by
  induction l generalizing i with
  | nil => simp at hi
  | cons x r ih =>
    cases i with
    | zero => simp only [formL, List.getElem_cons_zero] at h2 ⊢; rw [if_neg h2]
    | succ i =>
      have h0 := h 0 (by simp) (by omega)
      simp only [List.getElem_cons_zero] at h0
      simp only [formL, h0, if_true, List.getElem_cons_succ]
      exact ih (by simpa using hi) (fun k hk hk' => by have := h (k + 1) (by simpa using hk) (by omega); simpa using this) (by simpa using h2)
theorem formL_no {l : List (List Nat)} (h : ∀ k (hk : k < l.length), formE l[k] = 0) : formL l = 0 := by
  induction l with
  | nil => rfl
  | cons x r ih =>
    have h0 := h 0 (by simp)
    simp only [List.getElem_cons_zero] at h0
    simp only [formL, h0, if_true]
    exact ih fun k hk => by have := h (k + 1) (by simpa using hk); simpa using this
def rowN (x : List Nat) : List PV := [encN x]
theorem form196 (l : List (List Nat)) (hd : ∀ x ∈ l, Dg x) (hl : l.length < 1000) (hx : ∀ x ∈ l, x.length < 100000) : P 196 [] [.p (.sl 49 (l.map rowN))] (fun _ r => r = iv (formL l)) := by
  refine PC.of_pure good ok196 rfl ?_
  conv => whnf
  refine ⟨0, LoopG.intro (fun i : Nat => ⟨[(5, .p (.sl 49 (l.map rowN))), (6, iv l.length), (7, iv i)], []⟩) (fun i => i ≤ l.length ∧ ∀ k (hk : k < l.length), k < i → formE l[k] = 0) (fun i => l.length - i) (0) (⟨by omega, by omega⟩) ?_ ?_⟩
  · rw [show iv l.length = iv (l.map rowN).length by simp]
    refine ⟨[], by decide, rfl, ?_, ?_⟩
    · repeat' (first | exact trivial | exact ⟨_, rfl, rfl⟩ | exact ⟨_, rfl, Or.inl rfl⟩ | exact ⟨_, rfl, Or.inr ⟨rfl, rfl⟩⟩ | exact ⟨_, rfl, _, rfl⟩ | exact ⟨_, rfl⟩ | refine And.intro ?_ ?_)
    · repeat' (first | exact trivial | exact ⟨_, rfl, rfl⟩ | exact ⟨_, rfl, Or.inl rfl⟩ | exact ⟨_, rfl, Or.inr ⟨rfl, rfl⟩⟩ | exact ⟨_, rfl, _, rfl⟩ | exact ⟨_, rfl⟩ | refine And.intro ?_ ?_)
  intro i hi
  conv => whnf
  refine ⟨fun h => ?_, fun h => ?_⟩
  · conv => whnf
    have hli : i < l.length := by simpa using h
    refine ⟨i, _, rfl, get_map hli, ?_⟩
    conv => whnf
    have hxi := hx l[i] (List.getElem_mem hli)
    refine ⟨fun h1 => ?_, fun h1 => ?_⟩
    · conv => whnf
      exact ⟨rfl, by
        have : formE l[i] = 3 := by unfold formE; rw [if_pos (by simp at h1; omega)]
        simp only [oneS]; rw [formL_at hli hi.2 (by rw [this]; decide), this]⟩
    · have h1' : ¬ 512 < l[i].length := by simp at h1; omega
      have next : ¬ (0 < l[i].length ∧ dAt l[i] (l[i].length - 1) = 0) → ∀ k (hk : k < l.length), k < i + 1 → formE l[k] = 0 := fun b k hk hk' => by
        by_cases e : k = i
        · subst e; unfold formE; rw [if_neg h1', if_neg b]
        · exact hi.2 k hk (by omega)
      conv => whnf
      refine ⟨fun h2 => ?_, fun h2 => ?_⟩
      · conv => whnf
        have h2' : 0 < l[i].length := by simpa using h2
        obtain ⟨j, hj⟩ : ∃ j, l[i].length = j + 1 := ⟨l[i].length - 1, by omega⟩
        have hn : ((l[i].map digR).length : Int) - 1 = j := by rw [List.length_map, hj]; omega
        have hjl : j < l[i].length := by omega
        have hdj : dAt l[i] (l[i].length - 1) = l[i][j] := by rw [hj]; exact dAt_lt hjl
        refine ⟨by omega, by omega, ?_⟩
        conv => whnf
        refine ⟨j, _, hn, get_map hjl, ?_⟩
        conv => whnf
        refine ⟨fun h3 => ?_, fun h3 => ?_⟩
        · conv => whnf
          exact ⟨rfl, by
            have : formE l[i] = 5 := by unfold formE; rw [if_neg h1', if_pos ⟨h2', by rw [hdj]; omega⟩]
            simp only [oneS]; rw [formL_at hli hi.2 (by rw [this]; decide), this]⟩
        · conv => whnf
          refine ⟨by omega, by omega, ?_⟩
          conv => whnf
          refine ⟨i + 1, ⟨by omega, next fun q => h3 (by rw [← hdj]; omega)⟩, by omega, ?_⟩
          refine ⟨[], by decide, rfl, ?_, ?_⟩
          · repeat' (first | exact trivial | exact ⟨_, rfl, rfl⟩ | exact ⟨_, rfl, Or.inl rfl⟩ | exact ⟨_, rfl, Or.inr ⟨rfl, rfl⟩⟩ | exact ⟨_, rfl, _, rfl⟩ | exact ⟨_, rfl⟩ | refine And.intro ?_ ?_)
          · repeat' (first | exact trivial | exact ⟨_, rfl, rfl⟩ | exact ⟨_, rfl, Or.inl rfl⟩ | exact ⟨_, rfl, Or.inr ⟨rfl, rfl⟩⟩ | exact ⟨_, rfl, _, rfl⟩ | exact ⟨_, rfl⟩ | refine And.intro ?_ ?_)
      · conv => whnf
        refine ⟨by omega, by omega, ?_⟩
        conv => whnf
        refine ⟨i + 1, ⟨by omega, next fun q => h2 (by simpa using q.1)⟩, by omega, ?_⟩
        refine ⟨[], by decide, rfl, ?_, ?_⟩
        · repeat' (first | exact trivial | exact ⟨_, rfl, rfl⟩ | exact ⟨_, rfl, Or.inl rfl⟩ | exact ⟨_, rfl, Or.inr ⟨rfl, rfl⟩⟩ | exact ⟨_, rfl, _, rfl⟩ | exact ⟨_, rfl⟩ | refine And.intro ?_ ?_)
        · repeat' (first | exact trivial | exact ⟨_, rfl, rfl⟩ | exact ⟨_, rfl, Or.inl rfl⟩ | exact ⟨_, rfl, Or.inr ⟨rfl, rfl⟩⟩ | exact ⟨_, rfl, _, rfl⟩ | exact ⟨_, rfl⟩ | refine And.intro ?_ ?_)
  · conv => whnf
    exact ⟨rfl, by simp only [oneS]; rw [formL_no fun k hk => hi.2 k hk (by omega)]⟩
theorem form1 (x : List Nat) (hd : Dg x) (hx : x.length < 100000) : P 196 [] [.p (.sl 49 [[encN x]])] (fun _ r => r = iv (formE x)) := by
  have h := form196 [x] (by simpa using hd) (by simp) (by simpa using hx)
  have e : formL [x] = formE x := by simp only [formL]; split <;> simp_all
  rw [e] at h
  exact h
theorem IsNat132 (x : List Nat) (hd : Dg x) (hx : x.length < 100000) : P 132 [] [.p (encN x)] (fun _ r => r = bv (decide (formE x = 0))) := by
  refine PC.of_pure good ok132 rfl ?_
  conv => whnf
  refine CallG.pure (form1 x hd hx) rfl ?_
  conv => whnf
  refine ⟨rfl, ?_⟩
  rintro _ _ rfl
  refine ⟨rfl, ?_⟩
  conv => whnf
  refine ⟨fun h => ?_, fun h => ?_⟩
  · conv => whnf
    exact ⟨rfl, by simp [oneS, h]⟩
  · conv => whnf
    exact ⟨rfl, by simp [oneS, h]⟩
end Go.Sx.Tz
end
section
namespace Go.Sx.Tz
open Go Go.Ev Go.Ev.Tz Go.Sx Go.Proofs
set_option maxHeartbeats 4000000
attribute [local irreducible] CallG LoopG
theorem at326 (x : List Nat) (hx : Dg x) (i : Nat) : P 326 [] [.p (encN x), iv i] (fun _ r => r = u6 (dAt x i)) := by
  refine PC.of_pure good ok326 rfl ?_
  conv => whnf
  refine ⟨fun h => ?_, fun h => ?_⟩
  · conv => whnf
    have hl : i < x.length := by simpa using h
    refine ⟨i, _, rfl, get_map hl, ?_⟩
    conv => whnf
    exact ⟨rfl, by
      have := hx.get hl
      unfold B at this
      simp only [oneS, dAt_lt hl, wu6]; rw [Int.emod_eq_of_lt (by omega) (by omega)]⟩
  · conv => whnf
    exact ⟨rfl, by simp only [oneS, dAt_ge (l := x) (i := i) (by simpa using h)]; rfl⟩
theorem add_step {a b s c p : Nat} (h : s + p * c = a + b) (x y : Nat) : (s + p * ((c + (x + y)) % B)) + p * B * ((c + (x + y)) / B) = (a + p * x) + (b + p * y) := by
  have h1 := Nat.mod_add_div (c + (x + y)) B
  have : p * ((c + (x + y)) % B) + p * B * ((c + (x + y)) / B) = p * (c + (x + y)) := by rw [Nat.mul_assoc, ← Nat.mul_add, h1]
  rw [Nat.add_assoc, this, Nat.mul_add, Nat.mul_add]; omega
theorem add287 (x y : List Nat) (hx : Dg x) (hy : Dg y) (lx : x.length < 50000) (ly : y.length < 50000) : P 287 [] [.p (encN x), .p (encN y)] (fun _ r => r = nv (vl x + vl y)) := by
  refine PC.of_pure good ok287 rfl ?_
  conv => whnf
  rw [mx_eq, List.length_map, List.length_map]
  refine ⟨by omega, by omega, ?_⟩
  conv => whnf
  refine ⟨0, max x.length y.length + 1, rfl, rfl, Nat.zero_le _, by show _ * 4 ≤ _; omega, ?_⟩
  conv => whnf
  rw [mx_eq, List.length_map, List.length_map]
  refine ⟨0, LoopG.intro (fun (⟨i, o, c⟩ : Nat × List Nat × Nat) => ⟨[(0, .p (encN x)), (1, .p (encN y)), (5, .os 0), (6, u6 c), (19, iv (max x.length y.length : Nat)), (20, iv i)], [.arr 112 (o.map digR)]⟩) (fun ⟨i, o, c⟩ => i ≤ max x.length y.length ∧ o.length = i ∧ Dg o ∧ c < 2 ∧ vl o + B ^ i * c = vl (x.take i) + vl (y.take i)) (fun ⟨i, _, _⟩ => max x.length y.length - i) ((0, [], 0)) (⟨by omega, rfl, .nil, by omega, rfl⟩) ?_ ?_⟩
  · refine ⟨[some 0], by decide, rfl, ?_, ?_⟩
    · repeat' (first | exact trivial | exact ⟨_, rfl, rfl⟩ | exact ⟨_, rfl, Or.inl rfl⟩ | exact ⟨_, rfl, Or.inr ⟨rfl, rfl⟩⟩ | exact ⟨_, rfl, _, rfl⟩ | exact ⟨_, rfl⟩ | refine And.intro ?_ ?_)
    · repeat' (first | exact trivial | exact ⟨_, rfl, rfl⟩ | exact ⟨_, rfl, Or.inl rfl⟩ | exact ⟨_, rfl, Or.inr ⟨rfl, rfl⟩⟩ | exact ⟨_, rfl, _, rfl⟩ | exact ⟨_, rfl⟩ | refine And.intro ?_ ?_)
  rintro ⟨i, o, c⟩ ⟨hi, ho, hd, hc, hv⟩
  conv => whnf
  refine ⟨fun h => ?_, fun h => ?_⟩
  · conv => whnf
    refine CallG.pure (at326 x hx i) rfl ?_
    conv => whnf
    refine ⟨rfl, ?_⟩
    rintro _ _ rfl
    refine ⟨rfl, ?_⟩
    conv => whnf
    refine CallG.pure (at326 y hy i) rfl ?_
    conv => whnf
    refine ⟨rfl, ?_⟩
    rintro _ _ rfl
    refine ⟨rfl, ?_⟩
    conv => whnf
    have bx := dAt_B hx i
    have by_ := dAt_B hy i
    have hB : B = 4294967296 := rfl
    refine ⟨rfl, rfl, (by show _ * 4 ≤ _; simp; omega), ?_⟩
    conv => whnf
    refine ⟨32, rfl, ?_⟩
    conv => whnf
    refine ⟨by omega, by omega, ?_⟩
    conv => whnf
    refine ⟨(i + 1, o ++ [(c + (dAt x i + dAt y i)) % B], (c + (dAt x i + dAt y i)) / B), ⟨by omega, by simp [ho], hd.app (.cons (Nat.mod_lt _ B_pos) .nil), by rw [Nat.div_lt_iff_lt_mul B_pos]; omega, ?_⟩, by show _ - _ < _ - _; omega, ?_⟩
    · rw [vl_snoc, ho, vl_take_dAt, vl_take_dAt, Nat.pow_succ]
      exact add_step hv _ _
    · refine ⟨[some 2], by decide, rfl, ?_, ?_⟩
      · repeat' (first | exact trivial | exact ⟨_, rfl, rfl⟩ | exact ⟨_, rfl, Or.inl rfl⟩ | exact ⟨_, rfl, Or.inr ⟨rfl, rfl⟩⟩ | exact ⟨_, rfl, _, rfl⟩ | exact ⟨_, rfl⟩ | refine And.intro ?_ ?_ | (refine ⟨_, rfl, congrArg (fun z => some (SV.p (PV.int _ z))) ?_⟩; simp only [wu6, fd, mn6 32 (by decide), hB]; omega) | (refine ⟨_, rfl, congrArg (fun z => some (Blk.arr _ z)) ?_⟩; exact app_dig _ _ _ (by simp only [wu6, wu3, hB]; omega)) | (refine ⟨_, rfl, congrArg (fun z => some (SV.p (PV.sl _ z))) ?_⟩; exact app_dig _ _ _ (by simp only [wu6, wu3, hB]; omega)) | (refine ⟨_, rfl, Or.inl (congrArg (fun z => some (SV.p (PV.sl _ z))) ?_)⟩; exact app_dig _ _ _ (by simp only [wu6, wu3, hB]; omega)) | (refine ⟨_, rfl, Or.inr ⟨rfl, ?_⟩⟩; exact app_dig _ _ _ (by simp only [wu6, wu3, hB]; omega)))
      · repeat' (first | exact trivial | exact ⟨_, rfl, rfl⟩ | exact ⟨_, rfl, Or.inl rfl⟩ | exact ⟨_, rfl, Or.inr ⟨rfl, rfl⟩⟩ | exact ⟨_, rfl, _, rfl⟩ | exact ⟨_, rfl⟩ | refine And.intro ?_ ?_ | (refine ⟨_, rfl, congrArg (fun z => some (SV.p (PV.int _ z))) ?_⟩; simp only [wu6, fd, mn6 32 (by decide), hB]; omega) | (refine ⟨_, rfl, congrArg (fun z => some (Blk.arr _ z)) ?_⟩; exact app_dig _ _ _ (by simp only [wu6, wu3, hB]; omega)) | (refine ⟨_, rfl, congrArg (fun z => some (SV.p (PV.sl _ z))) ?_⟩; exact app_dig _ _ _ (by simp only [wu6, wu3, hB]; omega)) | (refine ⟨_, rfl, Or.inl (congrArg (fun z => some (SV.p (PV.sl _ z))) ?_)⟩; exact app_dig _ _ _ (by simp only [wu6, wu3, hB]; omega)) | (refine ⟨_, rfl, Or.inr ⟨rfl, ?_⟩⟩; exact app_dig _ _ _ (by simp only [wu6, wu3, hB]; omega)))
  · conv => whnf
    refine ⟨rfl, rfl, (by show _ * 4 ≤ _; simp; omega), ?_⟩
    conv => whnf
    rw [app_dig o c _ (by rw [wu3]; omega)]
    have hB : B = 4294967296 := rfl
    refine CallG.pure (trim256 (o ++ [c]) (hd.app (.cons (by omega) .nil)) (by simp; omega)) rfl ?_
    conv => whnf
    refine ⟨rfl, ?_⟩
    rintro _ _ rfl
    refine ⟨rfl, ?_⟩
    conv => whnf
    exact ⟨rfl, by
      have hi' : i = max x.length y.length := by omega
      rw [vl_snoc, ho, hv, List.take_of_length_le (by omega), List.take_of_length_le (by omega)]; rfl⟩
theorem sub_step {a b s c p : Nat} {x y : Nat} (hx : x < B) (hy : y < B) (hc : c < 2) (h : s + b = a + p * c) :
    s + p * (((x : Int) - y - c) % B).toNat + (b + p * y) = (a + p * x) + p * B * (if (x : Int) - y - c < 0 then 1 else 0) := by
  have key : (((x : Int) - y - c) % B).toNat + y + c = x + B * (if (x : Int) - y - c < 0 then 1 else 0) := by
    have hB : B = 4294967296 := rfl
    split <;> (simp only [hB] at *; omega)
  have h2 := congrArg (fun z => p * z) key
  simp only [Nat.mul_add] at h2
  rw [← Nat.mul_assoc] at h2
  omega
theorem sub289 (x y : List Nat) (hx : Dg x) (hy : Dg y) (lx : x.length < 50000) (ly : y.length ≤ x.length) (hle : vl y ≤ vl x) : P 289 [] [.p (encN x), .p (encN y)] (fun _ r => r = nv (vl x - vl y)) := by
  refine PC.of_pure good ok289 rfl ?_
  conv => whnf
  refine ⟨0, x.length, rfl, (by simp), Nat.zero_le _, by show _ * 4 ≤ _; omega, ?_⟩
  conv => whnf
  refine ⟨0, LoopG.intro (fun (⟨i, o, c⟩ : Nat × List Nat × Nat) => ⟨[(0, .p (encN x)), (1, .p (encN y)), (5, .os 0), (6, u6 c), (13, iv x.length), (14, iv i)], [.arr 112 (o.map digR)]⟩) (fun ⟨i, o, c⟩ => i ≤ x.length ∧ o.length = i ∧ Dg o ∧ c < 2 ∧ vl o + vl (y.take i) = vl (x.take i) + B ^ i * c) (fun ⟨i, _, _⟩ => x.length - i) ((0, [], 0)) (⟨by omega, rfl, .nil, by omega, rfl⟩) ?_ ?_⟩
  · rw [show iv x.length = iv (x.map digR).length by simp]
    refine ⟨[some 0], by decide, rfl, ?_, ?_⟩
    · repeat' (first | exact trivial | exact ⟨_, rfl, rfl⟩ | exact ⟨_, rfl, Or.inl rfl⟩ | exact ⟨_, rfl, Or.inr ⟨rfl, rfl⟩⟩ | exact ⟨_, rfl, _, rfl⟩ | exact ⟨_, rfl⟩ | refine And.intro ?_ ?_)
    · repeat' (first | exact trivial | exact ⟨_, rfl, rfl⟩ | exact ⟨_, rfl, Or.inl rfl⟩ | exact ⟨_, rfl, Or.inr ⟨rfl, rfl⟩⟩ | exact ⟨_, rfl, _, rfl⟩ | exact ⟨_, rfl⟩ | refine And.intro ?_ ?_)
  rintro ⟨i, o, c⟩ ⟨hi, ho, hd, hc, hv⟩
  conv => whnf
  refine ⟨fun h => ?_, fun h => ?_⟩
  · conv => whnf
    refine CallG.pure (at326 x hx i) rfl ?_
    conv => whnf
    refine ⟨rfl, ?_⟩
    rintro _ _ rfl
    refine ⟨rfl, ?_⟩
    conv => whnf
    refine CallG.pure (at326 y hy i) rfl ?_
    conv => whnf
    refine ⟨rfl, ?_⟩
    rintro _ _ rfl
    refine ⟨rfl, ?_⟩
    conv => whnf
    have bx := dAt_B hx i
    have by_ := dAt_B hy i
    have hB : B = 4294967296 := rfl
    refine ⟨rfl, rfl, (by show _ * 4 ≤ _; simp; omega), ?_⟩
    conv => whnf
    refine ⟨63, rfl, ?_⟩
    conv => whnf
    refine ⟨by omega, by omega, ?_⟩
    conv => whnf
    refine ⟨(i + 1, o ++ [(((dAt x i : Int) - dAt y i - c) % B).toNat], if (dAt x i : Int) - dAt y i - c < 0 then 1 else 0), ⟨by omega, by simp [ho], hd.app (.cons (by rw [hB]; omega) .nil), by split <;> omega, ?_⟩, by show _ - _ < _ - _; omega, ?_⟩
    · rw [vl_snoc, ho, vl_take_dAt, vl_take_dAt, Nat.pow_succ]
      exact sub_step bx by_ hc hv
    · refine ⟨[some 2], by decide, rfl, ?_, ?_⟩
      · repeat' (first | exact trivial | exact ⟨_, rfl, rfl⟩ | exact ⟨_, rfl, Or.inl rfl⟩ | exact ⟨_, rfl, Or.inr ⟨rfl, rfl⟩⟩ | exact ⟨_, rfl, _, rfl⟩ | exact ⟨_, rfl⟩ | refine And.intro ?_ ?_ | (refine ⟨_, rfl, congrArg (fun z => some (SV.p (PV.int _ z))) ?_⟩; simp only [wu6, fd, mn6 63 (by decide)]; first | omega | (split <;> omega)) | (refine ⟨_, rfl, congrArg (fun z => some (Blk.arr _ z)) ?_⟩; exact app_dig _ _ _ (by simp only [wu6, wu3, hB]; omega)) | (refine ⟨_, rfl, congrArg (fun z => some (SV.p (PV.sl _ z))) ?_⟩; exact app_dig _ _ _ (by simp only [wu6, wu3, hB]; omega)) | (refine ⟨_, rfl, Or.inl (congrArg (fun z => some (SV.p (PV.sl _ z))) ?_)⟩; exact app_dig _ _ _ (by simp only [wu6, wu3, hB]; omega)) | (refine ⟨_, rfl, Or.inr ⟨rfl, ?_⟩⟩; exact app_dig _ _ _ (by simp only [wu6, wu3, hB]; omega)))
      · repeat' (first | exact trivial | exact ⟨_, rfl, rfl⟩ | exact ⟨_, rfl, Or.inl rfl⟩ | exact ⟨_, rfl, Or.inr ⟨rfl, rfl⟩⟩ | exact ⟨_, rfl, _, rfl⟩ | exact ⟨_, rfl⟩ | refine And.intro ?_ ?_ | (refine ⟨_, rfl, congrArg (fun z => some (SV.p (PV.int _ z))) ?_⟩; simp only [wu6, fd, mn6 63 (by decide)]; first | omega | (split <;> omega)) | (refine ⟨_, rfl, congrArg (fun z => some (Blk.arr _ z)) ?_⟩; exact app_dig _ _ _ (by simp only [wu6, wu3, hB]; omega)) | (refine ⟨_, rfl, congrArg (fun z => some (SV.p (PV.sl _ z))) ?_⟩; exact app_dig _ _ _ (by simp only [wu6, wu3, hB]; omega)) | (refine ⟨_, rfl, Or.inl (congrArg (fun z => some (SV.p (PV.sl _ z))) ?_)⟩; exact app_dig _ _ _ (by simp only [wu6, wu3, hB]; omega)) | (refine ⟨_, rfl, Or.inr ⟨rfl, ?_⟩⟩; exact app_dig _ _ _ (by simp only [wu6, wu3, hB]; omega)))
  · conv => whnf
    refine CallG.pure (trim256 o hd (by omega)) rfl ?_
    conv => whnf
    refine ⟨rfl, ?_⟩
    rintro _ _ rfl
    refine ⟨rfl, ?_⟩
    conv => whnf
    exact ⟨rfl, by
      have hi' : i = x.length := by simp at h; omega
      subst hi'
      rw [List.take_of_length_le (by omega), List.take_of_length_le (by omega)] at hv
      have h1 := vl_lt hd
      rw [ho] at h1
      have h0 : c = 0 := by
        cases Nat.eq_zero_or_pos c with
        | inl h => exact h
        | inr h =>
          obtain rfl : c = 1 := by omega
          rw [Nat.mul_one] at hv
          omega
      subst h0
      rw [show vl o = vl x - vl y by omega]; rfl⟩
def cmpN (a b : Nat) : Int := if a < b then -1 else if b < a then 1 else 0
theorem lt_of_len {a b : Nat} (h : (dg a).length < (dg b).length) : a < b := by
  have h1 : a < B ^ (dg a).length := dg_len.1 (Nat.le_refl _)
  have h2 : ¬ b < B ^ (dg a).length := fun q => by have := dg_len.2 q; omega
  omega
theorem lt_at {x y : List Nat} (hx : Dg x) (hl : x.length = y.length) {i : Nat} (hi : i < x.length) (hd : x.drop (i + 1) = y.drop (i + 1)) (h : x[i] < y[i]) : vl x < vl y := by
  rw [vl_take_drop x i (by omega), vl_take_drop y i (by omega), vl_drop hi, vl_drop (by omega : i < y.length), hd]
  have h1 := vl_lt (hx.take i)
  rw [List.length_take, Nat.min_eq_left (by omega)] at h1
  have h2 : B ^ i * (x[i] + B * vl (y.drop (i + 1))) + B ^ i ≤ B ^ i * (y[i] + B * vl (y.drop (i + 1))) := by
    rw [← Nat.mul_succ]; exact Nat.mul_le_mul_left _ (by omega)
  omega
theorem compare288 (a b : Nat) (la : (dg a).length < 50000) (lb : (dg b).length < 50000) : P 288 [] [nv a, nv b] (fun _ r => r = iv (cmpN a b)) := by
  refine PC.of_pure good ok288 rfl ?_
  conv => whnf
  refine ⟨fun h => ?_, fun h => ?_⟩
  · conv => whnf
    exact ⟨rfl, by
      have := lt_of_len (a := a) (b := b) (by simpa using h)
      simp only [oneS, cmpN, if_pos this]⟩
  · conv => whnf
    refine ⟨fun h2 => ?_, fun h2 => ?_⟩
    · conv => whnf
      exact ⟨rfl, by
        have := lt_of_len (a := b) (b := a) (by simpa using h2)
        simp only [oneS, cmpN, if_neg (by omega : ¬ a < b), if_pos this]⟩
    · have hl : (dg a).length = (dg b).length := by simp at h h2; omega
      conv => whnf
      refine ⟨by omega, by simp; omega, ?_⟩
      conv => whnf
      refine ⟨0, LoopG.intro (fun j : Nat => ⟨[(0, nv a), (1, nv b), (5, iv (j - 1))], []⟩) (fun j => j ≤ (dg a).length ∧ (dg a).drop j = (dg b).drop j) (fun j => j) ((dg a).length) (⟨by omega, by rw [List.drop_of_length_le (by omega), List.drop_of_length_le (by omega)]⟩) ?_ ?_⟩
      · refine ⟨[], by decide, rfl, ?_, ?_⟩
        · repeat' (first | exact trivial | exact ⟨_, rfl, rfl⟩ | exact ⟨_, rfl, Or.inl rfl⟩ | exact ⟨_, rfl, Or.inr ⟨rfl, rfl⟩⟩ | exact ⟨_, rfl, _, rfl⟩ | exact ⟨_, rfl⟩ | refine And.intro ?_ ?_ | (refine ⟨_, rfl, congrArg (fun z => some (SV.p (PV.int _ z))) ?_⟩; simp))
        · repeat' (first | exact trivial | exact ⟨_, rfl, rfl⟩ | exact ⟨_, rfl, Or.inl rfl⟩ | exact ⟨_, rfl, Or.inr ⟨rfl, rfl⟩⟩ | exact ⟨_, rfl, _, rfl⟩ | exact ⟨_, rfl⟩ | refine And.intro ?_ ?_ | (refine ⟨_, rfl, congrArg (fun z => some (SV.p (PV.int _ z))) ?_⟩; simp))
      rintro j ⟨hj, hd⟩
      conv => whnf
      refine ⟨fun h3 => ?_, fun h3 => ?_⟩
      · obtain ⟨i, rfl⟩ : ∃ i, j = i + 1 := ⟨j - 1, by omega⟩
        conv => whnf
        refine ⟨i, _, (by omega), get_map (show i < (dg a).length by omega), ?_⟩
        conv => whnf
        refine ⟨i, _, (by omega), get_map (show i < (dg b).length by omega), ?_⟩
        conv => whnf
        refine ⟨fun h4 => ?_, fun h4 => ?_⟩
        · conv => whnf
          refine ⟨by omega, by omega, ?_⟩
          conv => whnf
          refine ⟨i, ⟨by omega, ?_⟩, by omega, ?_⟩
          · rw [List.drop_eq_getElem_cons (show i < (dg a).length by omega), List.drop_eq_getElem_cons (show i < (dg b).length by omega), hd, show (dg a)[i] = (dg b)[i] by omega]
          · refine ⟨[], by decide, rfl, ?_, ?_⟩
            · repeat' (first | exact trivial | exact ⟨_, rfl, rfl⟩ | exact ⟨_, rfl, Or.inl rfl⟩ | exact ⟨_, rfl, Or.inr ⟨rfl, rfl⟩⟩ | exact ⟨_, rfl, _, rfl⟩ | exact ⟨_, rfl⟩ | refine And.intro ?_ ?_ | (refine ⟨_, rfl, congrArg (fun z => some (SV.p (PV.int _ z))) ?_⟩; omega))
            · repeat' (first | exact trivial | exact ⟨_, rfl, rfl⟩ | exact ⟨_, rfl, Or.inl rfl⟩ | exact ⟨_, rfl, Or.inr ⟨rfl, rfl⟩⟩ | exact ⟨_, rfl, _, rfl⟩ | exact ⟨_, rfl⟩ | refine And.intro ?_ ?_ | (refine ⟨_, rfl, congrArg (fun z => some (SV.p (PV.int _ z))) ?_⟩; omega))
        · conv => whnf
          refine ⟨i, _, (by omega), get_map (show i < (dg a).length by omega), ?_⟩
          conv => whnf
          refine ⟨i, _, (by omega), get_map (show i < (dg b).length by omega), ?_⟩
          conv => whnf
          refine ⟨fun h5 => ?_, fun h5 => ?_⟩
          · conv => whnf
            exact ⟨rfl, by
              have := lt_at (dg_Dg a) hl (by omega) hd (by omega)
              rw [vl_dg, vl_dg] at this
              simp only [oneS, cmpN, if_pos this]⟩
          · conv => whnf
            exact ⟨rfl, by
              have := lt_at (dg_Dg b) hl.symm (by omega) hd.symm (by omega)
              rw [vl_dg, vl_dg] at this
              simp only [oneS, cmpN, if_neg (by omega : ¬ a < b), if_pos this]⟩
      · conv => whnf
        exact ⟨rfl, by
          have : j = 0 := by omega
          subst this
          have := dg_inj hd
          subst this
          simp [oneS, cmpN]⟩
theorem form2 (a b : Nat) (la : (dg a).length ≤ 512) (lb : (dg b).length ≤ 512) : P 196 [] [.p (.sl 49 [[encN (dg a)], [encN (dg b)]])] (fun _ r => r = iv 0) := by
  have h := form196 [dg a, dg b] (by intro x hx; simp at hx; rcases hx with rfl | rfl <;> exact dg_Dg _) (by simp) (by intro x hx; simp at hx; rcases hx with rfl | rfl <;> omega)
  have e : formL [dg a, dg b] = 0 := by simp only [formL, formE_dg la, formE_dg lb]; simp
  rw [e] at h
  exact h
theorem Add239 (a b : Nat) (la : (dg a).length ≤ 512) (lb : (dg b).length ≤ 512) : P 239 [] [nv a, nv b] (fun _ r => r = .tu [nv (a + b), iv 0]) := by
  refine PC.of_pure good ok239 rfl ?_
  conv => whnf
  refine CallG.pure (form2 a b la lb) rfl ?_
  conv => whnf
  refine ⟨rfl, ?_⟩
  rintro _ _ rfl
  refine ⟨rfl, ?_⟩
  conv => whnf
  refine ⟨fun _ => ?_, fun h => absurd rfl h⟩
  conv => whnf
  refine CallG.pure (add287 (dg a) (dg b) (dg_Dg a) (dg_Dg b) (by omega) (by omega)) rfl ?_
  conv => whnf
  refine ⟨rfl, ?_⟩
  rintro _ _ rfl
  refine ⟨rfl, ?_⟩
  conv => whnf
  exact ⟨rfl, by rw [vl_dg, vl_dg]; rfl⟩
theorem Compare240 (a b : Nat) (la : (dg a).length ≤ 512) (lb : (dg b).length ≤ 512) : P 240 [] [nv a, nv b] (fun _ r => r = .tu [iv (cmpN a b), iv 0]) := by
  refine PC.of_pure good ok240 rfl ?_
  conv => whnf
  refine CallG.pure (form2 a b la lb) rfl ?_
  conv => whnf
  refine ⟨rfl, ?_⟩
  rintro _ _ rfl
  refine ⟨rfl, ?_⟩
  conv => whnf
  refine ⟨fun _ => ?_, fun h => absurd rfl h⟩
  conv => whnf
  refine CallG.pure (compare288 a b (by omega) (by omega)) rfl ?_
  conv => whnf
  refine ⟨rfl, ?_⟩
  rintro _ _ rfl
  refine ⟨rfl, ?_⟩
  conv => whnf
  exact ⟨rfl, rfl⟩
theorem len_le {a b : Nat} (h : a ≤ b) : (dg a).length ≤ (dg b).length := dg_len.2 (Nat.lt_of_le_of_lt h (dg_len.1 (Nat.le_refl _)))
theorem Sub241 (a b : Nat) (la : (dg a).length ≤ 512) (lb : (dg b).length ≤ 512) (hle : b ≤ a) : P 241 [] [nv a, nv b] (fun _ r => r = .tu [nv (a - b), iv 0]) := by
  refine PC.of_pure good ok241 rfl ?_
  conv => whnf
  refine CallG.pure (form2 a b la lb) rfl ?_
  conv => whnf
  refine ⟨rfl, ?_⟩
  rintro _ _ rfl
  refine ⟨rfl, ?_⟩
  conv => whnf
  refine ⟨fun _ => ?_, fun h => absurd rfl h⟩
  conv => whnf
  refine CallG.pure (compare288 a b (by omega) (by omega)) rfl ?_
  conv => whnf
  refine ⟨rfl, ?_⟩
  rintro _ _ rfl
  refine ⟨rfl, ?_⟩
  conv => whnf
  have hc : ¬ cmpN a b < 0 := by unfold cmpN; rw [if_neg (by omega)]; split <;> omega
  refine ⟨fun h => absurd h hc, fun h => ?_⟩
  conv => whnf
  refine CallG.pure (sub289 (dg a) (dg b) (dg_Dg a) (dg_Dg b) (by omega) (len_le hle) (by rw [vl_dg, vl_dg]; exact hle)) rfl ?_
  conv => whnf
  refine ⟨rfl, ?_⟩
  rintro _ _ rfl
  refine ⟨rfl, ?_⟩
  conv => whnf
  exact ⟨rfl, by rw [vl_dg, vl_dg]; rfl⟩
end Go.Sx.Tz
end
section
namespace Go.Sx.Tz
open Go Go.Ev Go.Ev.Tz Go.Sx Go.Proofs
set_option maxHeartbeats 4000000
attribute [local irreducible] CallG LoopG
def bl (n : Nat) : Nat := if n = 0 then 0 else Nat.log2 n + 1
theorem bl_le {n k : Nat} : bl n ≤ k ↔ n < 2 ^ k := by
  unfold bl
  split
  · subst n; simp; exact Nat.pow_pos (by decide)
  · rename_i h
    rw [← Nat.log2_lt h]; omega
theorem bl_eq {n m : Nat} (h1 : n < 2 ^ m) (h2 : m = 0 ∨ 2 ^ (m - 1) ≤ n) : bl n = m := by
  have a := bl_le.2 h1
  rcases h2 with rfl | h2
  · omega
  · cases Nat.lt_or_ge (bl n) m with
    | inr h => omega
    | inl h =>
      have : n < 2 ^ (m - 1) := bl_le.1 (by omega)
      omega
theorem bl_ge {n k : Nat} : k < bl n ↔ 2 ^ k ≤ n := by
  have := @bl_le n k
  omega
theorem bl_mul {n d : Nat} {k : Nat} (hd : d ≠ 0) (hlow : n < 2 ^ k) : bl (n + 2 ^ k * d) = k + bl d := by
  have h1 : 2 ^ (bl d - 1) ≤ d := bl_ge.1 (by have : 0 < bl d := bl_ge.2 (by simp; omega); omega)
  have h2 : d < 2 ^ bl d := bl_le.1 (Nat.le_refl _)
  have h0 : 0 < bl d := bl_ge.2 (by simp; omega)
  refine bl_eq ?_ (.inr ?_)
  · rw [Nat.pow_add]
    calc n + 2 ^ k * d < 2 ^ k + 2 ^ k * d := by omega
      _ = 2 ^ k * (d + 1) := by rw [Nat.mul_add]; omega
      _ ≤ 2 ^ k * 2 ^ bl d := Nat.mul_le_mul_left _ h2
  · rw [show k + bl d - 1 = k + (bl d - 1) by omega, Nat.pow_add]
    exact Nat.le_trans (Nat.mul_le_mul_left _ h1) (Nat.le_add_left _ _)
theorem bl_shift {d k : Nat} (h : 2 ^ k ≤ d) : bl d = k + bl (d / 2 ^ k) := by
  have h1 : d / 2 ^ k ≠ 0 := by
    have := (Nat.le_div_iff_mul_le (Nat.pow_pos (by decide : 0 < 2))).2 (by rw [Nat.one_mul]; exact h : 1 * 2 ^ k ≤ d)
    omega
  have h2 := bl_mul (k := k) h1 (Nat.mod_lt d (Nat.pow_pos (by decide : 0 < 2)))
  rwa [Nat.mod_add_div] at h2
theorem tabL {L : List UInt8} (hL : L = (List.range 256).map (fun n => UInt8.ofNat (bl n))) {n : Nat} (hn : n < 256) : (ByteArray.mk L.toArray).data.toList[n]? = some (UInt8.ofNat (bl n)) := by
  subst hL
  simp [hn]
theorem bl8 {n : Nat} (hn : n < 256) : (UInt8.ofNat (bl n)).toNat = bl n ∧ bl n ≤ 8 := by
  have h : bl n ≤ 8 := bl_le.2 (by omega)
  exact ⟨by simp; omega, h⟩
theorem wu8 (n : Int) : IntKind.u8.wrap n = n % 256 := by simp [IntKind.wrap, IntKind.bits, IntKind.signed]
theorem wi6 (n : Nat) (h : n < 9223372036854775808) : IntKind.i64.wrap (n : Int) = n := by
  unfold IntKind.wrap
  have : ((n : Int) % (2 ^ IntKind.i64.bits : Int)) = n := by simp only [IntKind.bits]; omega
  simp only [this]
  rw [if_neg]
  simp [IntKind.bits]; omega
theorem Len304 (d : Nat) (hd : d < B) : P 304 [] [u3 d] (fun _ r => r = iv (bl d)) := by
  have hB : B = 4294967296 := rfl
  refine PC.of_pure good ok304 rfl ?_
  conv => whnf
  refine ⟨fun h => ?_, fun h => ?_⟩
  · conv => whnf
    refine ⟨16, rfl, ?_⟩
    conv => whnf
    rw [sh3 d 16 (by decide)]
    refine ⟨fun h2 => ?_, fun h2 => ?_⟩
    · conv => whnf
      refine ⟨8, rfl, ?_⟩
      conv => whnf
      rw [sh3 _ 8 (by decide)]
      refine ⟨by decide, by decide, ?_⟩
      conv => whnf
      have hn : d / 2 ^ 16 / 2 ^ 8 < 256 := by omega
      refine ⟨d / 2 ^ 16 / 2 ^ 8, _, (by rw [wu8]; omega), tabL (by decide +kernel) hn, ?_⟩
      conv => whnf
      rw [(bl8 hn).1, wi6 _ (by have := (bl8 hn).2; omega)]
      have := (bl8 hn).2
      refine ⟨by omega, by omega, ?_⟩
      conv => whnf
      exact ⟨rfl, by simp only [oneS]; rw [bl_shift (d := d) (k := 16) (by omega), bl_shift (d := d / 2 ^ 16) (k := 8) (by omega)]; simp; omega⟩
    · conv => whnf
      have hn : d / 2 ^ 16 < 256 := by omega
      refine ⟨d / 2 ^ 16, _, (by rw [wu8]; omega), tabL (by decide +kernel) hn, ?_⟩
      conv => whnf
      rw [(bl8 hn).1, wi6 _ (by have := (bl8 hn).2; omega)]
      have := (bl8 hn).2
      refine ⟨by omega, by omega, ?_⟩
      conv => whnf
      exact ⟨rfl, by simp only [oneS]; rw [bl_shift (d := d) (k := 16) (by omega)]; simp⟩
  · conv => whnf
    refine ⟨fun h2 => ?_, fun h2 => ?_⟩
    · conv => whnf
      refine ⟨8, rfl, ?_⟩
      conv => whnf
      rw [sh3 _ 8 (by decide)]
      refine ⟨by decide, by decide, ?_⟩
      conv => whnf
      have hn : d / 2 ^ 8 < 256 := by omega
      refine ⟨d / 2 ^ 8, _, (by rw [wu8]; omega), tabL (by decide +kernel) hn, ?_⟩
      conv => whnf
      rw [(bl8 hn).1, wi6 _ (by have := (bl8 hn).2; omega)]
      have := (bl8 hn).2
      refine ⟨by omega, by omega, ?_⟩
      conv => whnf
      exact ⟨rfl, by simp only [oneS]; rw [bl_shift (d := d) (k := 8) (by omega)]; simp⟩
    · conv => whnf
      have hn : d < 256 := by omega
      refine ⟨d, _, (by rw [wu8]; omega), tabL (by decide +kernel) hn, ?_⟩
      conv => whnf
      rw [(bl8 hn).1, wi6 _ (by have := (bl8 hn).2; omega)]
      have := (bl8 hn).2
      refine ⟨by omega, by omega, ?_⟩
      conv => whnf
      exact ⟨rfl, by simp only [oneS]; simp⟩
theorem LeadingZeros306 (d : Nat) (hd : d < B) : P 306 [] [u3 d] (fun _ r => r = iv (32 - bl d)) := by
  have h : bl d ≤ 32 := bl_le.2 hd
  refine PC.of_pure good ok306 rfl ?_
  conv => whnf
  refine CallG.pure (Len304 d hd) rfl ?_
  conv => whnf
  refine ⟨rfl, ?_⟩
  rintro _ _ rfl
  refine ⟨rfl, ?_⟩
  conv => whnf
  refine ⟨by omega, by omega, ?_⟩
  conv => whnf
  exact ⟨rfl, rfl⟩
theorem B_pow (k : Nat) : B ^ k = 2 ^ (32 * k) := by rw [Nat.pow_mul]; rfl
theorem bl_dg {n : Nat} (h : n ≠ 0) : bl n = 32 * ((dg n).length - 1) + bl (dAt (dg n) ((dg n).length - 1)) ∧ dAt (dg n) ((dg n).length - 1) < B ∧ 0 < (dg n).length := by
  have h0 : 0 < (dg n).length := by
    cases Nat.eq_zero_or_pos (dg n).length with
    | inl e => exact absurd (dg_len_pos.1 e) h
    | inr e => exact e
  obtain ⟨k, hk⟩ : ∃ k, (dg n).length = k + 1 := ⟨(dg n).length - 1, by omega⟩
  have hnz := Nz_iff.1 (dg_Nz n) h0
  rw [hk, Nat.add_sub_cancel] at hnz ⊢
  have e : n = vl ((dg n).take k) + 2 ^ (32 * k) * dAt (dg n) k := by
    rw [← B_pow, ← vl_take_dAt, ← hk, List.take_length, vl_dg]
  have hlow : vl ((dg n).take k) < 2 ^ (32 * k) := by
    have := vl_lt ((dg_Dg n).take k)
    rw [List.length_take, hk, Nat.min_eq_left (by omega), B_pow] at this
    exact this
  refine ⟨?_, dAt_B (dg_Dg n) k, by omega⟩
  have := bl_mul hnz hlow
  rw [← e] at this
  exact this
theorem size254 (n : Nat) (hl : (dg n).length < 50000) : P 254 [] [nv n] (fun _ r => r = iv (bl n)) := by
  refine PC.of_pure good ok254 rfl ?_
  conv => whnf
  refine ⟨fun h => ?_, fun h => ?_⟩
  · conv => whnf
    exact ⟨rfl, by
      have : n = 0 := dg_len_pos.1 (by simp at h; simp [h])
      subst this; rfl⟩
  · have hn : n ≠ 0 := fun e => h (by subst e; rw [dg_zero]; rfl)
    obtain ⟨h1, h2, h3⟩ := bl_dg hn
    obtain ⟨k, hk⟩ : ∃ k, (dg n).length = k + 1 := ⟨(dg n).length - 1, by omega⟩
    have hkl : k < (dg n).length := by omega
    have hb : bl (dAt (dg n) k) ≤ 32 := bl_le.2 (by rw [hk] at h2; exact h2)
    rw [hk, Nat.add_sub_cancel] at h1 h2
    rw [dAt_lt hkl] at h1 h2 hb
    conv => whnf
    refine ⟨by omega, by simp; omega, ?_⟩
    conv => whnf
    refine ⟨by simp; omega, by simp; omega, ?_⟩
    conv => whnf
    refine ⟨by omega, by simp; omega, ?_⟩
    conv => whnf
    refine ⟨k, _, (by simp; omega), get_map hkl, ?_⟩
    conv => whnf
    refine CallG.pure (Len304 _ h2) rfl ?_
    conv => whnf
    refine ⟨rfl, ?_⟩
    rintro _ _ rfl
    refine ⟨rfl, ?_⟩
    conv => whnf
    refine ⟨by simp; omega, by simp; omega, ?_⟩
    conv => whnf
    exact ⟨rfl, by
      simp only [oneS]
      rw [show (32 : Int) * (((List.map digR (dg n)).length : Int) - 1) + (bl (dg n)[k] : Int) = (bl n : Int) by rw [List.length_map, hk, h1]; simp]⟩
theorem form1d (n : Nat) (hl : (dg n).length ≤ 512) : P 196 [] [.p (.sl 49 [[encN (dg n)]])] (fun _ r => r = iv 0) := by
  have h := form1 (dg n) (dg_Dg n) (by omega)
  rw [formE_dg hl] at h
  exact h
theorem Bits197 (n : Nat) (hl : (dg n).length ≤ 512) : P 197 [] [nv n] (fun _ r => r = .tu [iv (bl n), iv 0]) := by
  refine PC.of_pure good ok197 rfl ?_
  conv => whnf
  refine CallG.pure (form1d n hl) rfl ?_
  conv => whnf
  refine ⟨rfl, ?_⟩
  rintro _ _ rfl
  refine ⟨rfl, ?_⟩
  conv => whnf
  refine ⟨fun _ => ?_, fun h => absurd rfl h⟩
  conv => whnf
  refine CallG.pure (size254 n (by omega)) rfl ?_
  conv => whnf
  refine ⟨rfl, ?_⟩
  rintro _ _ rfl
  refine ⟨rfl, ?_⟩
  conv => whnf
  exact ⟨rfl, rfl⟩
theorem Clone103 (x : List Nat) (hl : x.length < 100000) : P 103 [] [.p (encN x)] (fun _ r => r = .p (encN x)) := by
  refine PC.of_pure good ok103 rfl ?_
  conv => whnf
  refine ⟨fun h => ?_, ?_⟩
  · conv => whnf
    exact ⟨rfl, by simp only [oneS, encN]; rw [h]⟩
  · conv => whnf
    refine ⟨rfl, rfl, (by show _ * 4 ≤ _; simp; omega), ?_⟩
    conv => whnf
    exact ⟨rfl, rfl⟩
end Go.Sx.Tz
end
section
namespace Go.Sx.Tz
open Go Go.Ev Go.Ev.Tz Go.Sx Go.Proofs
set_option maxHeartbeats 4000000
attribute [local irreducible] CallG LoopG
theorem or6 {A C : Int} (a b : Nat) (hA : A = ((2 ^ 32 * a : Nat) : Int)) (hC : C = (b : Int)) (ha : a < 2 ^ 32) (hb : b < 2 ^ 32) :
    IntKind.u64.wrap ((BitVec.ofInt IntKind.u64.bits A ||| BitVec.ofInt IntKind.u64.bits C).toNat : Int) = ((2 ^ 32 * a + b : Nat) : Int) := by
  subst hA hC
  have h1 : 2 ^ 32 * a < 2 ^ 64 := by omega
  have h2 : b < 2 ^ 64 := by omega
  have h3 : (2 ^ 32 * a ||| b) < 2 ^ 64 := Nat.or_lt_two_pow h1 h2
  have e : (BitVec.ofInt IntKind.u64.bits ((2 ^ 32 * a : Nat) : Int) ||| BitVec.ofInt IntKind.u64.bits (b : Int)).toNat = (2 ^ 32 * a ||| b) := by
    show (BitVec.ofInt 64 _ ||| BitVec.ofInt 64 _).toNat = _
    rw [BitVec.toNat_or, BitVec.ofInt_natCast, BitVec.ofInt_natCast, BitVec.toNat_ofNat, BitVec.toNat_ofNat, Nat.mod_eq_of_lt h1, Nat.mod_eq_of_lt h2]
  rw [e, Nat.two_pow_add_eq_or_of_lt hb, wu6]
  omega
theorem td (a b : Nat) : Int.tdiv (a : Int) (b : Int) = ((a / b : Nat) : Int) := rfl
theorem tm (a b : Nat) : Int.tmod (a : Int) (b : Int) = ((a % b : Nat) : Int) := rfl
theorem sl6 (a k : Nat) (h : k ≤ 64) (hl : a * 2 ^ k < 2 ^ 64) : IntKind.u64.wrap ((a : Int) * 2 ^ (min k IntKind.u64.bits)) = ((a * 2 ^ k : Nat) : Int) := by
  rw [wu6, mn6 k h, show ((a : Int) * 2 ^ k) = ((a * 2 ^ k : Nat) : Int) by simp]
  omega
theorem rep_dig (n : Nat) : List.replicate n [PV.int .u32 0] = (List.replicate n 0).map digR := by simp [digR]
theorem set_rep (i q : Nat) (l : List Nat) : (List.replicate (i + 1) 0 ++ l).set i q = List.replicate i 0 ++ q :: l := by
  rw [List.replicate_succ', List.append_assoc, List.set_append_right _ _ (by simp)]
  simp
theorem set_dig {o : List Nat} {i : Nat} {z : Int} {n : Nat} (h : z = n) : (o.map digR).set i [PV.int .u32 z] = (o.set i n).map digR := by subst h; rw [List.map_set]; rfl
theorem w36 {n : Nat} (h : n < B) : IntKind.u32.wrap (IntKind.u64.wrap (n : Int)) = n := by
  have hB : B = 4294967296 := rfl
  rw [wu6, wu3]; omega
theorem short305 (x : List Nat) (y : Nat) (hx : Dg x) (hy : y < B) (hy0 : 0 < y) (lx : x.length < 50000) : P 305 [] [.p (encN x), u3 y] (fun _ r => r = .tu [nv (vl x / y), u3 (vl x % y)]) := by
  have hB : B = 4294967296 := rfl
  refine PC.of_pure good ok305 rfl ?_
  conv => whnf
  refine ⟨x.length, x.length, (by simp), (by simp), by omega, by show _ * 4 ≤ _; omega, ?_⟩
  conv => whnf
  refine ⟨by omega, by simp; omega, ?_⟩
  conv => whnf
  rw [rep_dig]
  refine ⟨0, LoopG.intro (fun (⟨j, qs, c⟩ : Nat × List Nat × Nat) => ⟨[(0, .p (encN x)), (1, u3 y), (6, .os 0), (7, u6 c), (8, iv (j - 1))], [.arr 112 ((List.replicate j 0 ++ qs).map digR)]⟩) (fun ⟨j, qs, c⟩ => j ≤ x.length ∧ qs.length + j = x.length ∧ Dg qs ∧ c < y ∧ vl (x.drop j) = y * vl qs + c) (fun ⟨j, _, _⟩ => j) ((x.length, [], 0)) (⟨by omega, by simp, .nil, hy0, by simp [vl]⟩) ?_ ?_⟩
  · refine ⟨[some 0], by decide, rfl, ?_, ?_⟩
    · repeat' (first | exact trivial | exact ⟨_, rfl, rfl⟩ | exact ⟨_, rfl, Or.inl rfl⟩ | exact ⟨_, rfl, Or.inr ⟨rfl, rfl⟩⟩ | exact ⟨_, rfl, _, rfl⟩ | exact ⟨_, rfl⟩ | refine And.intro ?_ ?_ | (refine ⟨_, rfl, congrArg (fun z => some (SV.p (PV.int _ z))) ?_⟩; simp) | (refine ⟨_, rfl, congrArg (fun z => some (Blk.arr _ z)) ?_⟩; simp) | (refine ⟨_, rfl, congrArg (fun z => some (SV.p (PV.sl _ z))) ?_⟩; simp) | (refine ⟨_, rfl, Or.inl (congrArg (fun z => some (SV.p (PV.sl _ z))) ?_)⟩; simp) | (refine ⟨_, rfl, Or.inr ⟨rfl, ?_⟩⟩; simp))
    · repeat' (first | exact trivial | exact ⟨_, rfl, rfl⟩ | exact ⟨_, rfl, Or.inl rfl⟩ | exact ⟨_, rfl, Or.inr ⟨rfl, rfl⟩⟩ | exact ⟨_, rfl, _, rfl⟩ | exact ⟨_, rfl⟩ | refine And.intro ?_ ?_ | (refine ⟨_, rfl, congrArg (fun z => some (SV.p (PV.int _ z))) ?_⟩; simp) | (refine ⟨_, rfl, congrArg (fun z => some (Blk.arr _ z)) ?_⟩; simp) | (refine ⟨_, rfl, congrArg (fun z => some (SV.p (PV.sl _ z))) ?_⟩; simp) | (refine ⟨_, rfl, Or.inl (congrArg (fun z => some (SV.p (PV.sl _ z))) ?_)⟩; simp) | (refine ⟨_, rfl, Or.inr ⟨rfl, ?_⟩⟩; simp))
  rintro ⟨j, qs, c⟩ ⟨hj, hq, hd, hc, hv⟩
  conv => whnf
  refine ⟨fun h => ?_, fun h => ?_⟩
  · obtain ⟨i, rfl⟩ : ∃ i, j = i + 1 := ⟨j - 1, by omega⟩
    have hil : i < x.length := by omega
    have hxi := hx.get hil
    conv => whnf
    refine ⟨32, rfl, ?_⟩
    conv => whnf
    refine ⟨i, _, (by omega), get_map hil, ?_⟩
    conv => whnf
    rw [or6 c x[i] (by rw [sl6 c 32 (by decide) (by omega)]; omega) (by rw [wu6]; omega) (by omega) (by omega)]
    rw [show IntKind.u64.wrap (y : Int) = (y : Int) by rw [wu6]; omega, td]
    refine ⟨by omega, ?_⟩
    conv => whnf
    have hA : (2 ^ 32 * c + x[i]) / y < B := by
      rw [Nat.div_lt_iff_lt_mul hy0, hB]
      have : 2 ^ 32 * c + 2 ^ 32 ≤ 2 ^ 32 * y := by rw [← Nat.mul_succ]; exact Nat.mul_le_mul_left _ hc
      omega
    refine ⟨i, (by omega), (by simp; omega), ?_⟩
    conv => whnf
    refine ⟨rfl, _, get_map (by simp; omega), rfl, Nat.le_refl _, ?_⟩
    conv => whnf
    rw [show IntKind.u64.wrap (y : Int) = (y : Int) by rw [wu6]; omega, tm]
    refine ⟨by omega, ?_⟩
    conv => whnf
    refine ⟨by omega, by omega, ?_⟩
    conv => whnf
    refine ⟨(i, (2 ^ 32 * c + x[i]) / y :: qs, (2 ^ 32 * c + x[i]) % y), ⟨by omega, by simp; omega, hd.cons hA, Nat.mod_lt _ hy0, ?_⟩, by show i < i + 1; omega, ?_⟩
    · rw [vl_drop hil, hv, vl, Nat.mul_add, Nat.mul_add]
      have := Nat.div_add_mod (2 ^ 32 * c + x[i]) y
      rw [Nat.mul_left_comm y B, hB] at *
      omega
    · have e : ∀ z : Int, z = ((2 ^ 32 * c + x[i]) / y : Nat) → (((List.replicate (i + 1) 0 ++ qs).map digR).set i [PV.int .u32 z]) = (List.replicate i 0 ++ (2 ^ 32 * c + x[i]) / y :: qs).map digR := fun z hz => by rw [set_dig hz, set_rep]
      refine ⟨[some 0], by decide, rfl, ?_, ?_⟩
      · repeat' (first | exact trivial | exact ⟨_, rfl, rfl⟩ | exact ⟨_, rfl, Or.inl rfl⟩ | exact ⟨_, rfl, Or.inr ⟨rfl, rfl⟩⟩ | exact ⟨_, rfl, _, rfl⟩ | exact ⟨_, rfl⟩ | refine And.intro ?_ ?_ | (refine ⟨_, rfl, congrArg (fun z => some (SV.p (PV.int _ z))) ?_⟩; (try simp only [wu6, wu3]); omega) | (refine ⟨_, rfl, congrArg (fun z => some (Blk.arr _ z)) ?_⟩; exact e _ (w36 hA)) | (refine ⟨_, rfl, congrArg (fun z => some (SV.p (PV.sl _ z))) ?_⟩; exact e _ (w36 hA)) | (refine ⟨_, rfl, Or.inl (congrArg (fun z => some (SV.p (PV.sl _ z))) ?_)⟩; exact e _ (w36 hA)) | (refine ⟨_, rfl, Or.inr ⟨rfl, ?_⟩⟩; exact e _ (w36 hA)))
      · repeat' (first | exact trivial | exact ⟨_, rfl, rfl⟩ | exact ⟨_, rfl, Or.inl rfl⟩ | exact ⟨_, rfl, Or.inr ⟨rfl, rfl⟩⟩ | exact ⟨_, rfl, _, rfl⟩ | exact ⟨_, rfl⟩ | refine And.intro ?_ ?_ | (refine ⟨_, rfl, congrArg (fun z => some (SV.p (PV.int _ z))) ?_⟩; (try simp only [wu6, wu3]); omega) | (refine ⟨_, rfl, congrArg (fun z => some (Blk.arr _ z)) ?_⟩; exact e _ (w36 hA)) | (refine ⟨_, rfl, congrArg (fun z => some (SV.p (PV.sl _ z))) ?_⟩; exact e _ (w36 hA)) | (refine ⟨_, rfl, Or.inl (congrArg (fun z => some (SV.p (PV.sl _ z))) ?_)⟩; exact e _ (w36 hA)) | (refine ⟨_, rfl, Or.inr ⟨rfl, ?_⟩⟩; exact e _ (w36 hA)))
  · conv => whnf
    have hj0 : j = 0 := by omega
    subst hj0
    refine CallG.pure (trim256 qs hd (by omega)) rfl ?_
    conv => whnf
    refine ⟨rfl, ?_⟩
    rintro _ _ rfl
    refine ⟨rfl, ?_⟩
    conv => whnf
    exact ⟨rfl, by
      simp only [List.drop_zero] at hv
      have e1 : vl x / y = vl qs := by rw [hv, Nat.mul_add_div hy0, Nat.div_eq_of_lt hc]; omega
      have e2 : vl x % y = c := by rw [hv, Nat.mul_add_mod, Nat.mod_eq_of_lt hc]
      rw [e1, e2, wu3, show ((c : Int) % 4294967296) = c by omega]; rfl⟩
end Go.Sx.Tz
end
section
namespace Go.Sx.Tz
open Go Go.Ev Go.Ev.Tz Go.Sx Go.Proofs
set_option maxHeartbeats 4000000
attribute [local irreducible] CallG LoopG
theorem div255s (a b : Nat) (la : (dg a).length < 50000) (hs : (dg b).length = 1) : P 255 [] [nv a, nv b] (fun _ r => r = .tu [nv (a / b), nv (a % b)]) := by
  have hb0 : 0 < b := Nat.pos_of_ne_zero fun e => by subst e; rw [dg_zero] at hs; simp at hs
  refine PC.of_pure good ok255 rfl ?_
  conv => whnf
  refine CallG.pure (compare288 a b la (by omega)) rfl ?_
  conv => whnf
  refine ⟨rfl, ?_⟩
  rintro _ _ rfl
  refine ⟨rfl, ?_⟩
  conv => whnf
  refine ⟨fun h => ?_, fun h => ?_⟩
  · have hlt : a < b := by
      unfold cmpN at h
      split at h
      · assumption
      · split at h <;> omega
    conv => whnf
    refine CallG.pure (Clone103 (dg a) (by omega)) rfl ?_
    conv => whnf
    refine ⟨rfl, ?_⟩
    rintro _ _ rfl
    refine ⟨rfl, ?_⟩
    conv => whnf
    exact ⟨rfl, by rw [Nat.div_eq_of_lt hlt, Nat.mod_eq_of_lt hlt]; show _ = SV.tu [.p (encN (dg 0)), _]; rw [dg_zero]; rfl⟩
  · conv => whnf
    refine ⟨fun h2 => ?_, fun h2 => ?_⟩
    · conv => whnf
      obtain ⟨d, hd⟩ : ∃ d, dg b = [d] := List.length_eq_one_iff.1 hs
      have hdB : d < B := dg_Dg b d (by rw [hd]; simp)
      have hdb : b = d := by rw [← vl_dg b, hd]; simp [vl]
      refine ⟨0, digR d, rfl, (by rw [hd]; rfl), ?_⟩
      conv => whnf
      refine CallG.pure (short305 (dg a) d (dg_Dg a) hdB (by omega) la) rfl ?_
      conv => whnf
      refine ⟨rfl, ?_⟩
      rintro _ _ rfl
      refine ⟨rfl, ?_⟩
      conv => whnf
      have hr : vl (dg a) % d < B := by rw [vl_dg]; exact Nat.lt_trans (Nat.mod_lt _ (by omega)) hdB
      refine CallG.pure (trim256 [vl (dg a) % d] (.cons hr .nil) (by simp)) rfl ?_
      conv => whnf
      refine ⟨rfl, ?_⟩
      rintro _ _ rfl
      refine ⟨rfl, ?_⟩
      conv => whnf
      exact ⟨rfl, by rw [vl_dg, ← hdb]; simp [oneS, vl, encN]⟩
    · exact absurd (by rw [List.length_map, hs]; rfl) h2
theorem Div199s (a b : Nat) (la : (dg a).length ≤ 512) (hs : (dg b).length = 1) : P 199 [] [nv a, nv b] (fun _ r => r = .tu [nv (a / b), nv (a % b), iv 0]) := by
  refine PC.of_pure good ok199 rfl ?_
  conv => whnf
  refine CallG.pure (form2 a b la (by omega)) rfl ?_
  conv => whnf
  refine ⟨rfl, ?_⟩
  rintro _ _ rfl
  refine ⟨rfl, ?_⟩
  conv => whnf
  refine ⟨fun _ => ?_, fun h => absurd rfl h⟩
  conv => whnf
  refine ⟨fun h => ?_, fun h => ?_⟩
  · exact absurd h (by rw [List.length_map, hs]; decide)
  · conv => whnf
    refine CallG.pure (div255s a b (by omega) hs) rfl ?_
    conv => whnf
    refine ⟨rfl, ?_⟩
    rintro _ _ rfl
    refine ⟨rfl, ?_⟩
    conv => whnf
    exact ⟨rfl, rfl⟩
theorem gcd198s (a b : Nat) (la : (dg a).length < 50000) (hb : (dg b).length ≤ 1) : P 198 [] [nv a, nv b] (fun _ r => r = nv (Nat.gcd a b)) := by
  refine PC.of_pure good ok198 rfl ?_
  conv => whnf
  refine ⟨0, LoopG.intro (fun (⟨x, y⟩ : Nat × Nat) => ⟨[(0, nv x), (1, nv y)], []⟩) (fun ⟨x, y⟩ => (dg x).length < 50000 ∧ (dg y).length ≤ 1 ∧ Nat.gcd x y = Nat.gcd a b) (fun ⟨x, y⟩ => y) ((a, b)) (⟨la, hb, rfl⟩) ?_ ?_⟩
  · refine ⟨[], by decide, rfl, ?_, ?_⟩
    · repeat' (first | exact trivial | exact ⟨_, rfl, rfl⟩ | exact ⟨_, rfl, Or.inl rfl⟩ | exact ⟨_, rfl, Or.inr ⟨rfl, rfl⟩⟩ | exact ⟨_, rfl, _, rfl⟩ | exact ⟨_, rfl⟩ | refine And.intro ?_ ?_)
    · repeat' (first | exact trivial | exact ⟨_, rfl, rfl⟩ | exact ⟨_, rfl, Or.inl rfl⟩ | exact ⟨_, rfl, Or.inr ⟨rfl, rfl⟩⟩ | exact ⟨_, rfl, _, rfl⟩ | exact ⟨_, rfl⟩ | refine And.intro ?_ ?_)
  rintro ⟨x, y⟩ ⟨h1, h2, h3⟩
  conv => whnf
  refine ⟨fun h => ?_, fun h => ?_⟩
  · have hy : (dg y).length = 1 := by simp at h; omega
    have hy0 : 0 < y := Nat.pos_of_ne_zero fun e => by subst e; rw [dg_zero] at hy; simp at hy
    conv => whnf
    refine CallG.pure (div255s x y h1 hy) rfl ?_
    conv => whnf
    refine ⟨rfl, ?_⟩
    rintro _ _ rfl
    refine ⟨rfl, ?_⟩
    conv => whnf
    refine ⟨(y, x % y), ⟨by omega, ?_, ?_⟩, Nat.mod_lt _ hy0, ?_⟩
    · exact Nat.le_trans (len_le (Nat.le_of_lt (Nat.mod_lt x hy0))) (by omega)
    · rw [← h3, Nat.gcd_comm x y, Nat.gcd_rec y x, Nat.gcd_comm]
    · refine ⟨[], by decide, rfl, ?_, ?_⟩
      · repeat' (first | exact trivial | exact ⟨_, rfl, rfl⟩ | exact ⟨_, rfl, Or.inl rfl⟩ | exact ⟨_, rfl, Or.inr ⟨rfl, rfl⟩⟩ | exact ⟨_, rfl, _, rfl⟩ | exact ⟨_, rfl⟩ | refine And.intro ?_ ?_)
      · repeat' (first | exact trivial | exact ⟨_, rfl, rfl⟩ | exact ⟨_, rfl, Or.inl rfl⟩ | exact ⟨_, rfl, Or.inr ⟨rfl, rfl⟩⟩ | exact ⟨_, rfl, _, rfl⟩ | exact ⟨_, rfl⟩ | refine And.intro ?_ ?_)
  · conv => whnf
    refine CallG.pure (Clone103 (dg x) (by omega)) rfl ?_
    conv => whnf
    refine ⟨rfl, ?_⟩
    rintro _ _ rfl
    refine ⟨rfl, ?_⟩
    conv => whnf
    exact ⟨rfl, by
      have : y = 0 := dg_len_pos.1 (by simp at h; simp [h])
      subst this
      rw [← h3, Nat.gcd_zero_right]; rfl⟩
theorem Gcd134s (a b : Nat) (la : (dg a).length ≤ 512) (hb : (dg b).length ≤ 1) : P 134 [] [nv a, nv b] (fun _ r => r = .tu [nv (Nat.gcd a b), iv 0]) := by
  refine PC.of_pure good ok134 rfl ?_
  conv => whnf
  refine CallG.pure (form2 a b la (by omega)) rfl ?_
  conv => whnf
  refine ⟨rfl, ?_⟩
  rintro _ _ rfl
  refine ⟨rfl, ?_⟩
  conv => whnf
  refine ⟨fun _ => ?_, fun h => absurd rfl h⟩
  conv => whnf
  refine CallG.pure (gcd198s a b (by omega) hb) rfl ?_
  conv => whnf
  refine ⟨rfl, ?_⟩
  rintro _ _ rfl
  refine ⟨rfl, ?_⟩
  conv => whnf
  exact ⟨rfl, rfl⟩
end Go.Sx.Tz
end
section
namespace Go.Sx.Tz
open Go Go.Ev Go.Ev.Tz Go.Sx Go.Proofs
set_option maxHeartbeats 4000000
attribute [local irreducible] CallG LoopG
theorem short143 (x : List Nat) (hx : Dg x) (hl : x.length < 100000) : P 143 [] [.p (encN x)] (fun _ r => r = nv (vl x)) := by
  refine PC.of_pure good ok143 rfl ?_
  conv => whnf
  refine ⟨0, LoopG.intro (fun k : Nat => ⟨[(0, .p (encN x)), (3, iv k)], []⟩) (fun k => k ≤ x.length ∧ vl (x.take k) = vl x) (fun k => k) (x.length) (⟨by omega, by rw [List.take_length]⟩) ?_ ?_⟩
  · rw [show iv x.length = iv (x.map digR).length by simp]
    refine ⟨[], by decide, rfl, ?_, ?_⟩
    · repeat' (first | exact trivial | exact ⟨_, rfl, rfl⟩ | exact ⟨_, rfl, Or.inl rfl⟩ | exact ⟨_, rfl, Or.inr ⟨rfl, rfl⟩⟩ | exact ⟨_, rfl, _, rfl⟩ | exact ⟨_, rfl⟩ | refine And.intro ?_ ?_)
    · repeat' (first | exact trivial | exact ⟨_, rfl, rfl⟩ | exact ⟨_, rfl, Or.inl rfl⟩ | exact ⟨_, rfl, Or.inr ⟨rfl, rfl⟩⟩ | exact ⟨_, rfl, _, rfl⟩ | exact ⟨_, rfl⟩ | refine And.intro ?_ ?_)
  intro k hk
  have fin : x.take k = dg (vl x) → PV.sl 112 (((x.map digR).drop 0).take (k - 0)) = encN (dg (vl x)) := fun e => by rw [List.drop_zero, Nat.sub_zero, ← List.map_take, e]; rfl
  conv => whnf
  refine ⟨fun h => ?_, fun h => ?_⟩
  · conv => whnf
    obtain ⟨j, rfl⟩ : ∃ j, k = j + 1 := ⟨k - 1, by omega⟩
    have hjl : j < x.length := by omega
    refine ⟨by omega, by omega, ?_⟩
    conv => whnf
    refine ⟨j, _, (by omega), get_map hjl, ?_⟩
    conv => whnf
    refine ⟨fun hz => ?_, fun hz => ?_⟩
    · conv => whnf
      refine ⟨by omega, by omega, ?_⟩
      conv => whnf
      refine ⟨j, ⟨by omega, ?_⟩, by omega, ?_⟩
      · rw [← hk.2, vl_take_succ hjl, show x[j] = 0 by omega]; simp
      · refine ⟨[], by decide, rfl, ?_, ?_⟩
        · repeat' (first | exact trivial | exact ⟨_, rfl, rfl⟩ | exact ⟨_, rfl, Or.inl rfl⟩ | exact ⟨_, rfl, Or.inr ⟨rfl, rfl⟩⟩ | exact ⟨_, rfl, _, rfl⟩ | exact ⟨_, rfl⟩ | refine And.intro ?_ ?_ | (refine ⟨_, rfl, congrArg (fun z => some (SV.p (PV.int _ z))) ?_⟩; omega))
        · repeat' (first | exact trivial | exact ⟨_, rfl, rfl⟩ | exact ⟨_, rfl, Or.inl rfl⟩ | exact ⟨_, rfl, Or.inr ⟨rfl, rfl⟩⟩ | exact ⟨_, rfl, _, rfl⟩ | exact ⟨_, rfl⟩ | refine And.intro ?_ ?_ | (refine ⟨_, rfl, congrArg (fun z => some (SV.p (PV.int _ z))) ?_⟩; omega))
    · conv => whnf
      refine ⟨j + 1, rfl, ?_⟩
      conv => whnf
      refine ⟨Nat.zero_le _, (by simp; omega), ?_⟩
      conv => whnf
      exact ⟨rfl, by simp only [oneS]; rw [fin (dg_take hx hk.2 (fun i hi e => by have : i = j := (by omega); subst this; omega) hk.1)]⟩
  · conv => whnf
    have hk0 : k = 0 := by omega
    subst hk0
    refine ⟨0, rfl, ?_⟩
    conv => whnf
    refine ⟨Nat.zero_le _, (by simp), ?_⟩
    conv => whnf
    exact ⟨rfl, by simp only [oneS]; rw [fin (dg_take hx hk.2 (fun i hi e => by omega) hk.1)]⟩
theorem Compare140 (a b : Nat) (la : (dg a).length < 50000) (lb : (dg b).length < 50000) : P 140 [] [nv a, nv b] (fun _ r => r = iv (cmpN a b)) := by
  refine PC.of_pure good ok140 rfl ?_
  conv => whnf
  refine ⟨fun hl => ?_, fun hl => ?_⟩
  · have hl : (dg a).length = (dg b).length := by simp at hl; omega
    conv => whnf
    refine ⟨by omega, by simp; omega, ?_⟩
    conv => whnf
    refine ⟨0, LoopG.intro (fun j : Nat => ⟨[(0, nv a), (1, nv b), (5, iv (j - 1))], []⟩) (fun j => j ≤ (dg a).length ∧ (dg a).drop j = (dg b).drop j) (fun j => j) ((dg a).length) (⟨by omega, by rw [List.drop_of_length_le (by omega), List.drop_of_length_le (by omega)]⟩) ?_ ?_⟩
    · refine ⟨[], by decide, rfl, ?_, ?_⟩
      · repeat' (first | exact trivial | exact ⟨_, rfl, rfl⟩ | exact ⟨_, rfl, Or.inl rfl⟩ | exact ⟨_, rfl, Or.inr ⟨rfl, rfl⟩⟩ | exact ⟨_, rfl, _, rfl⟩ | exact ⟨_, rfl⟩ | refine And.intro ?_ ?_ | (refine ⟨_, rfl, congrArg (fun z => some (SV.p (PV.int _ z))) ?_⟩; simp))
      · repeat' (first | exact trivial | exact ⟨_, rfl, rfl⟩ | exact ⟨_, rfl, Or.inl rfl⟩ | exact ⟨_, rfl, Or.inr ⟨rfl, rfl⟩⟩ | exact ⟨_, rfl, _, rfl⟩ | exact ⟨_, rfl⟩ | refine And.intro ?_ ?_ | (refine ⟨_, rfl, congrArg (fun z => some (SV.p (PV.int _ z))) ?_⟩; simp))
    rintro j ⟨hj, hd⟩
    conv => whnf
    refine ⟨fun h3 => ?_, fun h3 => ?_⟩
    · obtain ⟨i, rfl⟩ : ∃ i, j = i + 1 := ⟨j - 1, by omega⟩
      conv => whnf
      refine ⟨i, _, (by omega), get_map (show i < (dg a).length by omega), ?_⟩
      conv => whnf
      refine ⟨i, _, (by omega), get_map (show i < (dg b).length by omega), ?_⟩
      conv => whnf
      refine ⟨fun h4 => ?_, fun h4 => ?_⟩
      · conv => whnf
        exact ⟨rfl, by
          have := lt_at (dg_Dg a) hl (by omega) hd (by omega)
          rw [vl_dg, vl_dg] at this
          simp only [oneS, cmpN, if_pos this]⟩
      · conv => whnf
        refine ⟨i, _, (by omega), get_map (show i < (dg a).length by omega), ?_⟩
        conv => whnf
        refine ⟨i, _, (by omega), get_map (show i < (dg b).length by omega), ?_⟩
        conv => whnf
        refine ⟨fun h5 => ?_, fun h5 => ?_⟩
        · conv => whnf
          exact ⟨rfl, by
            have := lt_at (dg_Dg b) hl.symm (by omega) hd.symm (by omega)
            rw [vl_dg, vl_dg] at this
            simp only [oneS, cmpN, if_neg (by omega : ¬ a < b), if_pos this]⟩
        · conv => whnf
          refine ⟨by omega, by omega, ?_⟩
          conv => whnf
          refine ⟨i, ⟨by omega, ?_⟩, by omega, ?_⟩
          · rw [List.drop_eq_getElem_cons (show i < (dg a).length by omega), List.drop_eq_getElem_cons (show i < (dg b).length by omega), hd, show (dg a)[i] = (dg b)[i] by omega]
          · refine ⟨[], by decide, rfl, ?_, ?_⟩
            · repeat' (first | exact trivial | exact ⟨_, rfl, rfl⟩ | exact ⟨_, rfl, Or.inl rfl⟩ | exact ⟨_, rfl, Or.inr ⟨rfl, rfl⟩⟩ | exact ⟨_, rfl, _, rfl⟩ | exact ⟨_, rfl⟩ | refine And.intro ?_ ?_ | (refine ⟨_, rfl, congrArg (fun z => some (SV.p (PV.int _ z))) ?_⟩; omega))
            · repeat' (first | exact trivial | exact ⟨_, rfl, rfl⟩ | exact ⟨_, rfl, Or.inl rfl⟩ | exact ⟨_, rfl, Or.inr ⟨rfl, rfl⟩⟩ | exact ⟨_, rfl, _, rfl⟩ | exact ⟨_, rfl⟩ | refine And.intro ?_ ?_ | (refine ⟨_, rfl, congrArg (fun z => some (SV.p (PV.int _ z))) ?_⟩; omega))
    · conv => whnf
      exact ⟨rfl, by
        have : j = 0 := by omega
        subst this
        have := dg_inj hd
        subst this
        simp [oneS, cmpN]⟩
  · conv => whnf
    refine ⟨fun h2 => ?_, fun h2 => ?_⟩
    · conv => whnf
      exact ⟨rfl, by
        have := lt_of_len (a := a) (b := b) (by simpa using h2)
        simp only [oneS, cmpN, if_pos this]⟩
    · conv => whnf
      exact ⟨rfl, by
        have := lt_of_len (a := b) (b := a) (by simp at hl h2; omega)
        simp only [oneS, cmpN, if_neg (by omega : ¬ a < b), if_pos this]⟩
theorem digit189 (x : List Nat) (hx : Dg x) (i : Nat) : P 189 [] [.p (encN x), iv i] (fun _ r => r = u6 (dAt x i)) := by
  refine PC.of_pure good ok189 rfl ?_
  conv => whnf
  refine ⟨fun h => ?_, fun h => ?_⟩
  · conv => whnf
    have hl : i < x.length := by simpa using h
    refine ⟨i, _, rfl, get_map hl, ?_⟩
    conv => whnf
    exact ⟨rfl, by
      have := hx.get hl
      unfold B at this
      simp only [oneS, dAt_lt hl, wu6]; rw [Int.emod_eq_of_lt (by omega) (by omega)]⟩
  · conv => whnf
    exact ⟨rfl, by simp only [oneS, dAt_ge (l := x) (i := i) (by simpa using h)]; rfl⟩
theorem or3 {A C : Int} (k a b : Nat) (hA : A = ((2 ^ k * a : Nat) : Int)) (hC : C = (b : Int)) (ha : 2 ^ k * a < 2 ^ 32) (hb : b < 2 ^ k) (hb2 : b < 2 ^ 32) :
    IntKind.u32.wrap ((BitVec.ofInt IntKind.u32.bits A ||| BitVec.ofInt IntKind.u32.bits C).toNat : Int) = ((2 ^ k * a + b : Nat) : Int) := by
  subst hA hC
  have h3 : (2 ^ k * a ||| b) < 2 ^ 32 := Nat.or_lt_two_pow ha hb2
  have e : (BitVec.ofInt IntKind.u32.bits ((2 ^ k * a : Nat) : Int) ||| BitVec.ofInt IntKind.u32.bits (b : Int)).toNat = (2 ^ k * a ||| b) := by
    show (BitVec.ofInt 32 _ ||| BitVec.ofInt 32 _).toNat = _
    rw [BitVec.toNat_or, BitVec.ofInt_natCast, BitVec.ofInt_natCast, BitVec.toNat_ofNat, BitVec.toNat_ofNat, Nat.mod_eq_of_lt ha, Nat.mod_eq_of_lt hb2]
  rw [e, Nat.two_pow_add_eq_or_of_lt hb, wu3]
  generalize (2 ^ k * a ||| b) = z at h3 ⊢
  omega
theorem or3' {A C : Int} (k a b : Nat) (hA : A = (b : Int)) (hC : C = ((2 ^ k * a : Nat) : Int)) (ha : 2 ^ k * a < 2 ^ 32) (hb : b < 2 ^ k) (hb2 : b < 2 ^ 32) :
    IntKind.u32.wrap ((BitVec.ofInt IntKind.u32.bits A ||| BitVec.ofInt IntKind.u32.bits C).toNat : Int) = ((2 ^ k * a + b : Nat) : Int) := by
  rw [BitVec.or_comm]; exact or3 k a b hC hA ha hb hb2
theorem sl3 (a k : Nat) (h : k ≤ 32) (hl : a * 2 ^ k < 2 ^ 32) : IntKind.u32.wrap ((a : Int) * 2 ^ (min k IntKind.u32.bits)) = ((2 ^ k * a : Nat) : Int) := by
  rw [wu3, mn3 k h, show ((a : Int) * 2 ^ k) = ((2 ^ k * a : Nat) : Int) by rw [Nat.mul_comm]; simp, Nat.mul_comm]
  omega
theorem half139 (n : Nat) (ln : (dg n).length < 50000) : P 139 [] [nv n] (fun _ r => r = nv (n / 2)) := by
  have hB : B = 4294967296 := rfl
  refine PC.of_pure good ok139 rfl ?_
  conv => whnf
  refine ⟨(dg n).length, (dg n).length, (by simp), (by simp), by omega, by show _ * 4 ≤ _; omega, ?_⟩
  conv => whnf
  refine ⟨by omega, by simp; omega, ?_⟩
  conv => whnf
  rw [rep_dig]
  refine ⟨0, LoopG.intro (fun (⟨j, qs, c⟩ : Nat × List Nat × Nat) => ⟨[(0, nv n), (3, .os 0), (4, u3 c), (5, iv (j - 1))], [.arr 112 ((List.replicate j 0 ++ qs).map digR)]⟩) (fun ⟨j, qs, c⟩ => j ≤ (dg n).length ∧ qs.length + j = (dg n).length ∧ Dg qs ∧ c < 2 ∧ vl ((dg n).drop j) = 2 * vl qs + c) (fun ⟨j, _, _⟩ => j) (((dg n).length, [], 0)) (⟨by omega, by simp, .nil, by omega, by simp [vl]⟩) ?_ ?_⟩
  · refine ⟨[some 0], by decide, rfl, ?_, ?_⟩
    · repeat' (first | exact trivial | exact ⟨_, rfl, rfl⟩ | exact ⟨_, rfl, Or.inl rfl⟩ | exact ⟨_, rfl, Or.inr ⟨rfl, rfl⟩⟩ | exact ⟨_, rfl, _, rfl⟩ | exact ⟨_, rfl⟩ | refine And.intro ?_ ?_ | (refine ⟨_, rfl, congrArg (fun z => some (SV.p (PV.int _ z))) ?_⟩; simp) | (refine ⟨_, rfl, congrArg (fun z => some (Blk.arr _ z)) ?_⟩; simp) | (refine ⟨_, rfl, congrArg (fun z => some (SV.p (PV.sl _ z))) ?_⟩; simp) | (refine ⟨_, rfl, Or.inl (congrArg (fun z => some (SV.p (PV.sl _ z))) ?_)⟩; simp) | (refine ⟨_, rfl, Or.inr ⟨rfl, ?_⟩⟩; simp))
    · repeat' (first | exact trivial | exact ⟨_, rfl, rfl⟩ | exact ⟨_, rfl, Or.inl rfl⟩ | exact ⟨_, rfl, Or.inr ⟨rfl, rfl⟩⟩ | exact ⟨_, rfl, _, rfl⟩ | exact ⟨_, rfl⟩ | refine And.intro ?_ ?_ | (refine ⟨_, rfl, congrArg (fun z => some (SV.p (PV.int _ z))) ?_⟩; simp) | (refine ⟨_, rfl, congrArg (fun z => some (Blk.arr _ z)) ?_⟩; simp) | (refine ⟨_, rfl, congrArg (fun z => some (SV.p (PV.sl _ z))) ?_⟩; simp) | (refine ⟨_, rfl, Or.inl (congrArg (fun z => some (SV.p (PV.sl _ z))) ?_)⟩; simp) | (refine ⟨_, rfl, Or.inr ⟨rfl, ?_⟩⟩; simp))
  rintro ⟨j, qs, c⟩ ⟨hj, hq, hd, hc, hv⟩
  conv => whnf
  refine ⟨fun h => ?_, fun h => ?_⟩
  · obtain ⟨i, rfl⟩ : ∃ i, j = i + 1 := ⟨j - 1, by omega⟩
    have hil : i < (dg n).length := by omega
    have hxi := (dg_Dg n).get hil
    conv => whnf
    refine ⟨i, _, (by omega), get_map hil, ?_⟩
    conv => whnf
    refine ⟨1, rfl, ?_⟩
    conv => whnf
    refine ⟨31, rfl, ?_⟩
    conv => whnf
    rw [or3' 31 c ((dg n)[i] / 2) (by rw [sh3 _ 1 (by decide)]) (by rw [sl3 c 31 (by decide) (by omega)]) (by omega) (by omega) (by omega)]
    refine ⟨i, (by omega), (by simp; omega), ?_⟩
    conv => whnf
    refine ⟨rfl, _, get_map (by simp; omega), rfl, Nat.le_refl _, ?_⟩
    conv => whnf
    refine ⟨i, _, (by omega), get_map hil, ?_⟩
    conv => whnf
    rw [show ((2 : Int)) = ((2 : Nat) : Int) from rfl, tm]
    refine ⟨by omega, ?_⟩
    conv => whnf
    refine ⟨by omega, by omega, ?_⟩
    conv => whnf
    refine ⟨(i, (2 ^ 31 * c + (dg n)[i] / 2) :: qs, (dg n)[i] % 2), ⟨by omega, by simp; omega, hd.cons (by omega), Nat.mod_lt _ (by decide), ?_⟩, by show i < i + 1; omega, ?_⟩
    · rw [vl_drop hil, hv, vl, hB]; omega
    · have e : ∀ z : Int, z = ((2 ^ 31 * c + (dg n)[i] / 2 : Nat) : Int) → (((List.replicate (i + 1) 0 ++ qs).map digR).set i [PV.int .u32 z]) = (List.replicate i 0 ++ (2 ^ 31 * c + (dg n)[i] / 2) :: qs).map digR := fun z hz => by rw [set_dig hz, set_rep]
      refine ⟨[some 0], by decide, rfl, ?_, ?_⟩
      · repeat' (first | exact trivial | exact ⟨_, rfl, rfl⟩ | exact ⟨_, rfl, Or.inl rfl⟩ | exact ⟨_, rfl, Or.inr ⟨rfl, rfl⟩⟩ | exact ⟨_, rfl, _, rfl⟩ | exact ⟨_, rfl⟩ | refine And.intro ?_ ?_ | (refine ⟨_, rfl, congrArg (fun z => some (SV.p (PV.int _ z))) ?_⟩; omega) | (refine ⟨_, rfl, congrArg (fun z => some (Blk.arr _ z)) ?_⟩; exact e _ rfl) | (refine ⟨_, rfl, congrArg (fun z => some (SV.p (PV.sl _ z))) ?_⟩; exact e _ rfl) | (refine ⟨_, rfl, Or.inl (congrArg (fun z => some (SV.p (PV.sl _ z))) ?_)⟩; exact e _ rfl) | (refine ⟨_, rfl, Or.inr ⟨rfl, ?_⟩⟩; exact e _ rfl))
      · repeat' (first | exact trivial | exact ⟨_, rfl, rfl⟩ | exact ⟨_, rfl, Or.inl rfl⟩ | exact ⟨_, rfl, Or.inr ⟨rfl, rfl⟩⟩ | exact ⟨_, rfl, _, rfl⟩ | exact ⟨_, rfl⟩ | refine And.intro ?_ ?_ | (refine ⟨_, rfl, congrArg (fun z => some (SV.p (PV.int _ z))) ?_⟩; omega) | (refine ⟨_, rfl, congrArg (fun z => some (Blk.arr _ z)) ?_⟩; exact e _ rfl) | (refine ⟨_, rfl, congrArg (fun z => some (SV.p (PV.sl _ z))) ?_⟩; exact e _ rfl) | (refine ⟨_, rfl, Or.inl (congrArg (fun z => some (SV.p (PV.sl _ z))) ?_)⟩; exact e _ rfl) | (refine ⟨_, rfl, Or.inr ⟨rfl, ?_⟩⟩; exact e _ rfl))
  · conv => whnf
    have hj0 : j = 0 := by omega
    subst hj0
    refine CallG.pure (short143 qs hd (by omega)) rfl ?_
    conv => whnf
    refine ⟨rfl, ?_⟩
    rintro _ _ rfl
    refine ⟨rfl, ?_⟩
    conv => whnf
    exact ⟨rfl, by
      simp only [List.drop_zero, vl_dg] at hv
      rw [show n / 2 = vl qs by omega]; rfl⟩
theorem set_rep2 (l : List Nat) (k q : Nat) : (l ++ List.replicate (k + 1) 0).set l.length q = (l ++ [q]) ++ List.replicate k 0 := by
  rw [List.set_append_right _ _ (Nat.le_refl _), List.replicate_succ]; simp
theorem set_rep3 {l : List Nat} {i n m : Nat} (hi : l.length = i) (hn : n = m + 1) (q : Nat) : (l ++ List.replicate n 0).set i q = (l ++ [q]) ++ List.replicate m 0 := by
  subst hi hn; exact set_rep2 l m q
theorem putC_dig (d : Nat) (v : PV) : putC (digR d) 0 [v] = [v] := rfl
theorem Sub141 (a b : Nat) (la : (dg a).length < 50000) (hle : b ≤ a) : P 141 [] [nv a, nv b] (fun _ r => r = nv (a - b)) := by
  have hB : B = 4294967296 := rfl
  refine PC.of_pure good ok141 rfl ?_
  conv => whnf
  refine ⟨(dg a).length, (dg a).length, (by simp), (by simp), by omega, by show _ * 4 ≤ _; omega, ?_⟩
  conv => whnf
  rw [rep_dig]
  refine ⟨0, LoopG.intro (fun (⟨i, o, c⟩ : Nat × List Nat × Nat) => ⟨[(0, nv a), (1, nv b), (5, .os 0), (6, u6 c), (7, iv i)], [.arr 112 ((o ++ List.replicate ((dg a).length - i) 0).map digR)]⟩) (fun ⟨i, o, c⟩ => i ≤ (dg a).length ∧ o.length = i ∧ Dg o ∧ c < 2 ∧ vl o + vl ((dg b).take i) = vl ((dg a).take i) + B ^ i * c) (fun ⟨i, _, _⟩ => (dg a).length - i) ((0, [], 0)) (⟨by omega, rfl, .nil, by omega, rfl⟩) ?_ ?_⟩
  · refine ⟨[some 0], by decide, rfl, ?_, ?_⟩
    · repeat' (first | exact trivial | exact ⟨_, rfl, rfl⟩ | exact ⟨_, rfl, Or.inl rfl⟩ | exact ⟨_, rfl, Or.inr ⟨rfl, rfl⟩⟩ | exact ⟨_, rfl, _, rfl⟩ | exact ⟨_, rfl⟩ | refine And.intro ?_ ?_)
    · repeat' (first | exact trivial | exact ⟨_, rfl, rfl⟩ | exact ⟨_, rfl, Or.inl rfl⟩ | exact ⟨_, rfl, Or.inr ⟨rfl, rfl⟩⟩ | exact ⟨_, rfl, _, rfl⟩ | exact ⟨_, rfl⟩ | refine And.intro ?_ ?_)
  rintro ⟨i, o, c⟩ ⟨hi, ho, hd, hc, hv⟩
  conv => whnf
  refine ⟨fun h => ?_, fun h => ?_⟩
  · have hil : i < (dg a).length := by simpa using h
    have bx := (dg_Dg a).get hil
    have by_ := dAt_B (dg_Dg b) i
    conv => whnf
    refine ⟨i, _, (by omega), get_map hil, ?_⟩
    conv => whnf
    refine CallG.pure (digit189 (dg b) (dg_Dg b) i) rfl ?_
    conv => whnf
    refine ⟨rfl, ?_⟩
    rintro _ _ rfl
    refine ⟨rfl, ?_⟩
    conv => whnf
    refine ⟨i, (by omega), (by simp; omega), ?_⟩
    conv => whnf
    refine ⟨rfl, _, get_map (by simp; omega), rfl, Nat.le_refl _, ?_⟩
    conv => whnf
    refine ⟨32, rfl, ?_⟩
    conv => whnf
    refine ⟨by omega, by omega, ?_⟩
    conv => whnf
    obtain ⟨k, hk⟩ : ∃ k, (dg a).length - i = k + 1 := ⟨(dg a).length - i - 1, by omega⟩
    have hk' : (dg a).length - (i + 1) = k := by omega
    obtain ⟨q, c', q1, q2, q3, q4, q5⟩ : ∃ q c' : Nat, q < B ∧ c' < 2 ∧ q + dAt (dg b) i + c = (dg a)[i] + B * c' ∧ (q : Int) = (((dg a)[i] : Int) + 4294967296 - dAt (dg b) i - c) % 4294967296 ∧ (c' : Int) = 1 - (((dg a)[i] : Int) + 4294967296 - dAt (dg b) i - c) / 4294967296 :=
      ⟨((((dg a)[i] : Int) + 4294967296 - dAt (dg b) i - c) % 4294967296).toNat, (1 - (((dg a)[i] : Int) + 4294967296 - dAt (dg b) i - c) / 4294967296).toNat, by rw [hB]; omega, by omega, by rw [hB] at *; omega, by omega, by omega⟩
    refine ⟨(i + 1, o ++ [q], c'), ⟨by omega, by simp [ho], hd.app (.cons q1 .nil), q2, ?_⟩, by show _ - _ < _ - _; omega, ?_⟩
    · rw [vl_snoc, ho, vl_take_succ hil, vl_take_dAt, Nat.pow_succ]
      have h2 := congrArg (fun z => B ^ i * z) q3
      simp only [Nat.mul_add] at h2
      rw [← Nat.mul_assoc] at h2
      omega
    · have e : ∀ z : Int, z = (q : Int) → (((o ++ List.replicate ((dg a).length - i) 0).map digR).set i [PV.int .u32 z]) = ((o ++ [q]) ++ List.replicate ((dg a).length - (i + 1)) 0).map digR := fun z hz => by rw [hk, hk', set_dig hz, ← ho, set_rep2]
      refine ⟨[some 0], by decide, rfl, ?_, ?_⟩
      · repeat' (first | exact trivial | exact ⟨_, rfl, rfl⟩ | exact ⟨_, rfl, Or.inl rfl⟩ | exact ⟨_, rfl, Or.inr ⟨rfl, rfl⟩⟩ | exact ⟨_, rfl, _, rfl⟩ | exact ⟨_, rfl⟩ | refine And.intro ?_ ?_ | (refine ⟨_, rfl, congrArg (fun z => some (SV.p (PV.int _ z))) ?_⟩; (try simp only [wu6, fd, mn6 32 (by decide)]); omega) | (refine ⟨_, rfl, congrArg (fun z => some (Blk.arr _ z)) ?_⟩; (refine e _ ?_; rw [wu3, wu6, wu6, wu6, wu6]; omega)) | (refine ⟨_, rfl, congrArg (fun z => some (SV.p (PV.sl _ z))) ?_⟩; (refine e _ ?_; rw [wu3, wu6, wu6, wu6, wu6]; omega)) | (refine ⟨_, rfl, Or.inl (congrArg (fun z => some (SV.p (PV.sl _ z))) ?_)⟩; (refine e _ ?_; rw [wu3, wu6, wu6, wu6, wu6]; omega)) | (refine ⟨_, rfl, Or.inr ⟨rfl, ?_⟩⟩; (refine e _ ?_; rw [wu3, wu6, wu6, wu6, wu6]; omega)))
      · repeat' (first | exact trivial | exact ⟨_, rfl, rfl⟩ | exact ⟨_, rfl, Or.inl rfl⟩ | exact ⟨_, rfl, Or.inr ⟨rfl, rfl⟩⟩ | exact ⟨_, rfl, _, rfl⟩ | exact ⟨_, rfl⟩ | refine And.intro ?_ ?_ | (refine ⟨_, rfl, congrArg (fun z => some (SV.p (PV.int _ z))) ?_⟩; (try simp only [wu6, fd, mn6 32 (by decide)]); omega) | (refine ⟨_, rfl, congrArg (fun z => some (Blk.arr _ z)) ?_⟩; (refine e _ ?_; rw [wu3, wu6, wu6, wu6, wu6]; omega)) | (refine ⟨_, rfl, congrArg (fun z => some (SV.p (PV.sl _ z))) ?_⟩; (refine e _ ?_; rw [wu3, wu6, wu6, wu6, wu6]; omega)) | (refine ⟨_, rfl, Or.inl (congrArg (fun z => some (SV.p (PV.sl _ z))) ?_)⟩; (refine e _ ?_; rw [wu3, wu6, wu6, wu6, wu6]; omega)) | (refine ⟨_, rfl, Or.inr ⟨rfl, ?_⟩⟩; (refine e _ ?_; rw [wu3, wu6, wu6, wu6, wu6]; omega)))
  · conv => whnf
    have hi' : i = (dg a).length := by simp at h; omega
    subst hi'
    rw [Nat.sub_self, List.replicate_zero, List.append_nil]
    refine CallG.pure (short143 o hd (by omega)) rfl ?_
    conv => whnf
    refine ⟨rfl, ?_⟩
    rintro _ _ rfl
    refine ⟨rfl, ?_⟩
    conv => whnf
    exact ⟨rfl, by
      have hbl := len_le hle
      rw [List.take_of_length_le (by omega), List.take_of_length_le (by omega), vl_dg, vl_dg] at hv
      have h1 := vl_lt hd
      rw [ho] at h1
      have h0 : c = 0 := by
        cases Nat.eq_zero_or_pos c with
        | inl h => exact h
        | inr h =>
          obtain rfl : c = 1 := by omega
          rw [Nat.mul_one] at hv
          omega
      subst h0
      rw [show vl o = a - b by omega]; rfl⟩
theorem twice142 (n b0 : Nat) (ln : (dg n).length < 50000) (hb0 : b0 < 2) : P 142 [] [nv n, u3 b0] (fun _ r => r = nv (2 * n + b0)) := by
  have hB : B = 4294967296 := rfl
  refine PC.of_pure good ok142 rfl ?_
  conv => whnf
  refine ⟨by omega, by simp; omega, ?_⟩
  conv => whnf
  refine ⟨(dg n).length + 1, (dg n).length + 1, (by simp), (by simp), by omega, by show _ * 4 ≤ _; omega, ?_⟩
  conv => whnf
  rw [rep_dig]
  refine ⟨0, LoopG.intro (fun (⟨i, o, c⟩ : Nat × List Nat × Nat) => ⟨[(0, nv n), (1, u3 c), (5, .os 0), (6, iv i)], [.arr 112 ((o ++ List.replicate ((dg n).length + 1 - i) 0).map digR)]⟩) (fun ⟨i, o, c⟩ => i ≤ (dg n).length ∧ o.length = i ∧ Dg o ∧ c < 2 ∧ vl o + B ^ i * c = 2 * vl ((dg n).take i) + b0) (fun ⟨i, _, _⟩ => (dg n).length - i) ((0, [], b0)) (⟨by omega, rfl, .nil, hb0, by simp [vl]⟩) ?_ ?_⟩
  · refine ⟨[some 0], by decide, rfl, ?_, ?_⟩
    · repeat' (first | exact trivial | exact ⟨_, rfl, rfl⟩ | exact ⟨_, rfl, Or.inl rfl⟩ | exact ⟨_, rfl, Or.inr ⟨rfl, rfl⟩⟩ | exact ⟨_, rfl, _, rfl⟩ | exact ⟨_, rfl⟩ | refine And.intro ?_ ?_)
    · repeat' (first | exact trivial | exact ⟨_, rfl, rfl⟩ | exact ⟨_, rfl, Or.inl rfl⟩ | exact ⟨_, rfl, Or.inr ⟨rfl, rfl⟩⟩ | exact ⟨_, rfl, _, rfl⟩ | exact ⟨_, rfl⟩ | refine And.intro ?_ ?_)
  rintro ⟨i, o, c⟩ ⟨hi, ho, hd, hc, hv⟩
  conv => whnf
  refine ⟨fun h => ?_, fun h => ?_⟩
  · have hil : i < (dg n).length := by simpa using h
    have bx := (dg_Dg n).get hil
    conv => whnf
    refine ⟨i, _, (by omega), get_map hil, ?_⟩
    conv => whnf
    refine ⟨1, rfl, ?_⟩
    conv => whnf
    rw [or3 1 ((dg n)[i] % 2 ^ 31) c (by rw [wu3, mn3 1 (by decide)]; omega) rfl (by omega) (by omega) (by omega)]
    refine ⟨i, (by omega), (by simp; omega), ?_⟩
    conv => whnf
    refine ⟨rfl, _, get_map (by simp; omega), rfl, Nat.le_refl _, ?_⟩
    conv => whnf
    refine ⟨i, _, (by omega), get_map hil, ?_⟩
    conv => whnf
    refine ⟨31, rfl, ?_⟩
    conv => whnf
    rw [sh3 _ 31 (by decide)]
    refine ⟨by omega, by omega, ?_⟩
    conv => whnf
    obtain ⟨q, c', q1, q2, q3, q4, q5⟩ : ∃ q c' : Nat, q < B ∧ c' < 2 ∧ q + B * c' = 2 * (dg n)[i] + c ∧ q = 2 ^ 1 * ((dg n)[i] % 2 ^ 31) + c ∧ c' = (dg n)[i] / 2 ^ 31 :=
      ⟨2 ^ 1 * ((dg n)[i] % 2 ^ 31) + c, (dg n)[i] / 2 ^ 31, by omega, by omega, by rw [hB]; omega, rfl, rfl⟩
    refine ⟨(i + 1, o ++ [q], c'), ⟨by omega, by simp [ho], hd.app (.cons q1 .nil), q2, ?_⟩, by show _ - _ < _ - _; omega, ?_⟩
    · rw [vl_snoc, ho, vl_take_succ hil, Nat.pow_succ]
      have h2 := congrArg (fun z => B ^ i * z) q3
      simp only [Nat.mul_add] at h2
      rw [← Nat.mul_assoc, Nat.mul_left_comm (B ^ i) 2] at h2
      simp only [Nat.mul_add]
      omega
    · have e : ∀ z : Int, z = (q : Int) → (((o ++ List.replicate ((dg n).length + 1 - i) 0).map digR).set i [PV.int .u32 z]) = ((o ++ [q]) ++ List.replicate ((dg n).length + 1 - (i + 1)) 0).map digR := fun z hz => by rw [set_dig hz, set_rep3 ho (show (dg n).length + 1 - i = ((dg n).length + 1 - (i + 1)) + 1 by omega)]
      refine ⟨[some 0], by decide, rfl, ?_, ?_⟩
      · repeat' (first | exact trivial | exact ⟨_, rfl, rfl⟩ | exact ⟨_, rfl, Or.inl rfl⟩ | exact ⟨_, rfl, Or.inr ⟨rfl, rfl⟩⟩ | exact ⟨_, rfl, _, rfl⟩ | exact ⟨_, rfl⟩ | refine And.intro ?_ ?_ | (refine ⟨_, rfl, congrArg (fun z => some (SV.p (PV.int _ z))) ?_⟩; omega) | (refine ⟨_, rfl, congrArg (fun z => some (Blk.arr _ z)) ?_⟩; (refine e _ ?_; rw [q4])) | (refine ⟨_, rfl, congrArg (fun z => some (SV.p (PV.sl _ z))) ?_⟩; (refine e _ ?_; rw [q4])) | (refine ⟨_, rfl, Or.inl (congrArg (fun z => some (SV.p (PV.sl _ z))) ?_)⟩; (refine e _ ?_; rw [q4])) | (refine ⟨_, rfl, Or.inr ⟨rfl, ?_⟩⟩; (refine e _ ?_; rw [q4])))
      · repeat' (first | exact trivial | exact ⟨_, rfl, rfl⟩ | exact ⟨_, rfl, Or.inl rfl⟩ | exact ⟨_, rfl, Or.inr ⟨rfl, rfl⟩⟩ | exact ⟨_, rfl, _, rfl⟩ | exact ⟨_, rfl⟩ | refine And.intro ?_ ?_ | (refine ⟨_, rfl, congrArg (fun z => some (SV.p (PV.int _ z))) ?_⟩; omega) | (refine ⟨_, rfl, congrArg (fun z => some (Blk.arr _ z)) ?_⟩; (refine e _ ?_; rw [q4])) | (refine ⟨_, rfl, congrArg (fun z => some (SV.p (PV.sl _ z))) ?_⟩; (refine e _ ?_; rw [q4])) | (refine ⟨_, rfl, Or.inl (congrArg (fun z => some (SV.p (PV.sl _ z))) ?_)⟩; (refine e _ ?_; rw [q4])) | (refine ⟨_, rfl, Or.inr ⟨rfl, ?_⟩⟩; (refine e _ ?_; rw [q4])))
  · have hi' : i = (dg n).length := by simp at h; omega
    subst hi'
    conv => whnf
    refine ⟨(dg n).length, (by simp), (by simp; omega), ?_⟩
    conv => whnf
    refine ⟨rfl, _, get_map (by simp; omega), rfl, Nat.le_refl _, ?_⟩
    conv => whnf
    rw [putC_dig, set_dig rfl, set_rep3 ho (show (dg n).length + 1 - (dg n).length = 0 + 1 by omega), List.replicate_zero, List.append_nil]
    refine CallG.pure (short143 (o ++ [c]) (hd.app (.cons (by omega) .nil)) (by simp; omega)) rfl ?_
    conv => whnf
    refine ⟨rfl, ?_⟩
    rintro _ _ rfl
    refine ⟨rfl, ?_⟩
    conv => whnf
    exact ⟨rfl, by
      rw [List.take_length, vl_dg] at hv
      rw [vl_snoc, ho, hv]; rfl⟩
end Go.Sx.Tz
end
section
namespace Go.Sx.Tz
open Go Go.Ev Go.Ev.Tz Go.Sx Go.Proofs
set_option maxHeartbeats 4000000
attribute [local irreducible] CallG LoopG
theorem dg0 {x : Nat} (h : x ≠ 0) : ((dg x).map digR)[0]? = some (digR (x % B)) := by rw [dg_pos h]; rfl
theorem tm2 (a : Nat) : Int.tmod (a : Int) 2 = ((a % 2 : Nat) : Int) := rfl
theorem td2 (a : Nat) : Int.tdiv (a : Int) 2 = ((a / 2 : Nat) : Int) := rfl
theorem cop2 {y : Nat} (hy : y % 2 = 1) : Nat.gcd 2 y = 1 := by
  rw [Nat.gcd_rec, hy]; rfl
theorem gcd_half {x y : Nat} (hx : x % 2 = 0) (hy : y % 2 = 1) : Nat.gcd (x / 2) y = Nat.gcd x y := by
  have e : x = 2 * (x / 2) := by omega
  conv => rhs; rw [e]
  exact (Nat.Coprime.gcd_mul_left_cancel (x / 2) (cop2 hy)).symm
theorem gcd_sub {u v : Nat} (h : u ≤ v) : Nat.gcd u (v - u) = Nat.gcd u v := by
  have := Nat.gcd_add_self_right u (v - u)
  rw [Nat.sub_add_cancel h] at this
  exact this.symm
theorem two_pow_bound {t x a k : Nat} (h : 2 ^ t * x = a) (hx : 0 < x) (ha : (dg a).length ≤ k) : t < 32 * k + 1 := by
  have h1 : a < B ^ k := dg_len.1 ha
  rw [B_pow] at h1
  have h2 : 2 ^ t ≤ a := by rw [← h]; exact Nat.le_mul_of_pos_right _ hx
  have h3 : 2 ^ t < 2 ^ (32 * k) := by omega
  have := (Nat.pow_lt_pow_iff_right (by decide : 1 < 2)).1 h3
  omega
theorem pos_len {n : Nat} : 0 < (((dg n).map digR).length : Int) ↔ 0 < n := by
  rw [List.length_map]
  have := @dg_len_pos n
  omega
theorem zero_len {n : Nat} : (((dg n).map digR).length : Int) = 0 ↔ n = 0 := by
  rw [List.length_map]
  have := @dg_len_pos n
  omega
theorem Gcd81 (a b : Nat) (la : (dg a).length < 5000) (lb : (dg b).length < 5000) : P 81 [] [nv a, nv b] (fun _ r => r = nv (Nat.gcd a b)) := by
  have hB : B = 4294967296 := rfl
  refine PC.of_pure good ok81 rfl ?_
  conv => whnf
  refine ⟨fun ha0 => ?_, fun ha0 => ?_⟩
  · have := zero_len.1 ha0
    subst this
    conv => whnf
    refine ⟨rfl, rfl, (by show _ * 4 ≤ _; simp; omega), ?_⟩
    conv => whnf
    exact ⟨rfl, by rw [Nat.gcd_zero_left]; rfl⟩
  have ha : 0 < a := Nat.pos_of_ne_zero fun e => ha0 (zero_len.2 e)
  conv => whnf
  refine ⟨fun hb0 => ?_, fun hb0 => ?_⟩
  · have := zero_len.1 hb0
    subst this
    conv => whnf
    refine ⟨rfl, rfl, (by show _ * 4 ≤ _; simp; omega), ?_⟩
    conv => whnf
    exact ⟨rfl, by rw [Nat.gcd_zero_right]; rfl⟩
  have hb : 0 < b := Nat.pos_of_ne_zero fun e => hb0 (zero_len.2 e)
  conv => whnf
  refine ⟨0, LoopG.intro (fun (⟨x, y, t⟩ : Nat × Nat × Nat) => ⟨[(0, nv x), (1, nv y), (5, iv t)], []⟩) (fun ⟨x, y, t⟩ => 0 < x ∧ 0 < y ∧ 2 ^ t * x = a ∧ 2 ^ t * y = b) (fun ⟨x, _, _⟩ => x) ((a, b, 0)) (⟨ha, hb, by simp, by simp⟩) ?_ ?_⟩
  · refine ⟨[], by decide, rfl, ?_, ?_⟩
    · repeat' (first | exact trivial | exact ⟨_, rfl, rfl⟩ | exact ⟨_, rfl, Or.inl rfl⟩ | exact ⟨_, rfl, Or.inr ⟨rfl, rfl⟩⟩ | exact ⟨_, rfl, _, rfl⟩ | exact ⟨_, rfl⟩ | refine And.intro ?_ ?_)
    · repeat' (first | exact trivial | exact ⟨_, rfl, rfl⟩ | exact ⟨_, rfl, Or.inl rfl⟩ | exact ⟨_, rfl, Or.inr ⟨rfl, rfl⟩⟩ | exact ⟨_, rfl, _, rfl⟩ | exact ⟨_, rfl⟩ | refine And.intro ?_ ?_)
  rintro ⟨x, y, t⟩ ⟨hx, hy, hxa, hyb⟩
  have ht := two_pow_bound hxa hx (Nat.le_of_lt la)
  have hxle : x ≤ a := by rw [← hxa]; exact Nat.le_mul_of_pos_left _ (Nat.pow_pos (by decide))
  have hyle : y ≤ b := by rw [← hyb]; exact Nat.le_mul_of_pos_left _ (Nat.pow_pos (by decide))
  have lx := len_le hxle
  have ly := len_le hyle
  have hG : 2 ^ t * Nat.gcd x y = Nat.gcd a b := by rw [← Nat.gcd_mul_left, hxa, hyb]
  have mB : ∀ z : Nat, z % B % 2 = z % 2 := fun z => by rw [hB]; omega
  conv => whnf
  refine ⟨0, _, rfl, dg0 (by omega), ?_⟩
  conv => whnf
  rw [tm2, mB]
  refine ⟨by decide, ?_⟩
  conv => whnf
  refine ⟨fun hx2 => ?_, fun hx2 => ?_⟩
  rotate_left
  have hpar : x % 2 = 1 ∨ y % 2 = 1 := by omega
  conv => whnf
  rotate_left
  conv => whnf
  refine ⟨0, _, rfl, dg0 (by omega), ?_⟩
  conv => whnf
  rw [tm2, mB]
  refine ⟨by decide, ?_⟩
  conv => whnf
  refine ⟨fun hy2 => ?_, fun hy2 => ?_⟩
  · conv => whnf
    refine CallG.pure (half139 x (by omega)) rfl ?_
    conv => whnf
    refine ⟨rfl, ?_⟩
    rintro _ _ rfl
    refine ⟨rfl, ?_⟩
    conv => whnf
    refine CallG.pure (half139 y (by omega)) rfl ?_
    conv => whnf
    refine ⟨rfl, ?_⟩
    rintro _ _ rfl
    refine ⟨rfl, ?_⟩
    conv => whnf
    refine ⟨by omega, by omega, ?_⟩
    conv => whnf
    refine ⟨(x / 2, y / 2, t + 1), ⟨by omega, by omega, ?_, ?_⟩, by show x / 2 < x; omega, ?_⟩
    · rw [Nat.pow_succ, Nat.mul_assoc, show 2 * (x / 2) = x by omega, hxa]
    · rw [Nat.pow_succ, Nat.mul_assoc, show 2 * (y / 2) = y by omega, hyb]
    · refine ⟨[], by decide, rfl, ?_, ?_⟩
      · repeat' (first | exact trivial | exact ⟨_, rfl, rfl⟩ | exact ⟨_, rfl, Or.inl rfl⟩ | exact ⟨_, rfl, Or.inr ⟨rfl, rfl⟩⟩ | exact ⟨_, rfl, _, rfl⟩ | exact ⟨_, rfl⟩ | refine And.intro ?_ ?_)
      · repeat' (first | exact trivial | exact ⟨_, rfl, rfl⟩ | exact ⟨_, rfl, Or.inl rfl⟩ | exact ⟨_, rfl, Or.inr ⟨rfl, rfl⟩⟩ | exact ⟨_, rfl, _, rfl⟩ | exact ⟨_, rfl⟩ | refine And.intro ?_ ?_)
  have hpar : x % 2 = 1 ∨ y % 2 = 1 := by omega
  conv => whnf
  all_goals
    refine ⟨0, LoopG.intro (fun (⟨u, v⟩ : Nat × Nat) => ⟨[(0, nv u), (1, nv v), (5, iv t)], []⟩) (fun ⟨u, v⟩ => 0 < u ∧ (dg u).length < 5000 ∧ (dg v).length < 5000 ∧ (u % 2 = 1 ∨ v % 2 = 1) ∧ Nat.gcd u v = Nat.gcd x y) (fun ⟨u, v⟩ => u + v) ((x, y)) (⟨hx, by omega, by omega, hpar, rfl⟩) ?_ ?_⟩
    · refine ⟨[], by decide, rfl, ?_, ?_⟩
      · repeat' (first | exact trivial | exact ⟨_, rfl, rfl⟩ | exact ⟨_, rfl, Or.inl rfl⟩ | exact ⟨_, rfl, Or.inr ⟨rfl, rfl⟩⟩ | exact ⟨_, rfl, _, rfl⟩ | exact ⟨_, rfl⟩ | refine And.intro ?_ ?_)
      · repeat' (first | exact trivial | exact ⟨_, rfl, rfl⟩ | exact ⟨_, rfl, Or.inl rfl⟩ | exact ⟨_, rfl, Or.inr ⟨rfl, rfl⟩⟩ | exact ⟨_, rfl, _, rfl⟩ | exact ⟨_, rfl⟩ | refine And.intro ?_ ?_)
    rintro ⟨u, v⟩ ⟨hu, hul, hvl, hp, hg⟩
    conv => whnf
    refine ⟨fun hv0 => ?_, fun hv0 => ?_⟩
    · have hv : 0 < v := pos_len.1 hv0
      conv => whnf
      refine ⟨0, LoopG.intro (fun (u' : Nat) => ⟨[(0, nv u'), (1, nv v), (5, iv t)], []⟩) (fun u' => 0 < u' ∧ u' ≤ u ∧ (u' % 2 = 1 ∨ v % 2 = 1) ∧ Nat.gcd u' v = Nat.gcd x y) (fun u' => u') (u) (⟨hu, by omega, hp, hg⟩) ?_ ?_⟩
      · refine ⟨[], by decide, rfl, ?_, ?_⟩
        · repeat' (first | exact trivial | exact ⟨_, rfl, rfl⟩ | exact ⟨_, rfl, Or.inl rfl⟩ | exact ⟨_, rfl, Or.inr ⟨rfl, rfl⟩⟩ | exact ⟨_, rfl, _, rfl⟩ | exact ⟨_, rfl⟩ | refine And.intro ?_ ?_)
        · repeat' (first | exact trivial | exact ⟨_, rfl, rfl⟩ | exact ⟨_, rfl, Or.inl rfl⟩ | exact ⟨_, rfl, Or.inr ⟨rfl, rfl⟩⟩ | exact ⟨_, rfl, _, rfl⟩ | exact ⟨_, rfl⟩ | refine And.intro ?_ ?_)
      rintro u' ⟨hu', hul', hp', hg'⟩
      have lu := len_le hul'
      conv => whnf
      refine ⟨0, _, rfl, dg0 (by omega), ?_⟩
      conv => whnf
      rw [tm2, mB]
      refine ⟨by decide, ?_⟩
      conv => whnf
      refine ⟨fun h1 => ?_, fun h1 => ?_⟩
      · conv => whnf
        refine CallG.pure (half139 u' (by omega)) rfl ?_
        conv => whnf
        refine ⟨rfl, ?_⟩
        rintro _ _ rfl
        refine ⟨rfl, ?_⟩
        conv => whnf
        refine ⟨u' / 2, ⟨by omega, by omega, by omega, ?_⟩, by omega, ?_⟩
        · rw [gcd_half (by omega) (by omega), hg']
        · refine ⟨[], by decide, rfl, ?_, ?_⟩
          · repeat' (first | exact trivial | exact ⟨_, rfl, rfl⟩ | exact ⟨_, rfl, Or.inl rfl⟩ | exact ⟨_, rfl, Or.inr ⟨rfl, rfl⟩⟩ | exact ⟨_, rfl, _, rfl⟩ | exact ⟨_, rfl⟩ | refine And.intro ?_ ?_)
          · repeat' (first | exact trivial | exact ⟨_, rfl, rfl⟩ | exact ⟨_, rfl, Or.inl rfl⟩ | exact ⟨_, rfl, Or.inr ⟨rfl, rfl⟩⟩ | exact ⟨_, rfl, _, rfl⟩ | exact ⟨_, rfl⟩ | refine And.intro ?_ ?_)
      · conv => whnf
        refine ⟨0, LoopG.intro (fun (v' : Nat) => ⟨[(0, nv u'), (1, nv v'), (5, iv t)], []⟩) (fun v' => 0 < v' ∧ v' ≤ v ∧ Nat.gcd u' v' = Nat.gcd x y) (fun v' => v') (v) (⟨hv, by omega, hg'⟩) ?_ ?_⟩
        · refine ⟨[], by decide, rfl, ?_, ?_⟩
          · repeat' (first | exact trivial | exact ⟨_, rfl, rfl⟩ | exact ⟨_, rfl, Or.inl rfl⟩ | exact ⟨_, rfl, Or.inr ⟨rfl, rfl⟩⟩ | exact ⟨_, rfl, _, rfl⟩ | exact ⟨_, rfl⟩ | refine And.intro ?_ ?_)
          · repeat' (first | exact trivial | exact ⟨_, rfl, rfl⟩ | exact ⟨_, rfl, Or.inl rfl⟩ | exact ⟨_, rfl, Or.inr ⟨rfl, rfl⟩⟩ | exact ⟨_, rfl, _, rfl⟩ | exact ⟨_, rfl⟩ | refine And.intro ?_ ?_)
        rintro v' ⟨hv', hvl', hg''⟩
        have lv := len_le hvl'
        conv => whnf
        refine ⟨0, _, rfl, dg0 (by omega), ?_⟩
        conv => whnf
        rw [tm2, mB]
        refine ⟨by decide, ?_⟩
        conv => whnf
        refine ⟨fun h2 => ?_, fun h2 => ?_⟩
        · conv => whnf
          refine CallG.pure (half139 v' (by omega)) rfl ?_
          conv => whnf
          refine ⟨rfl, ?_⟩
          rintro _ _ rfl
          refine ⟨rfl, ?_⟩
          conv => whnf
          refine ⟨v' / 2, ⟨by omega, by omega, ?_⟩, by omega, ?_⟩
          · rw [Nat.gcd_comm, gcd_half (by omega) (by omega), Nat.gcd_comm, hg'']
          · refine ⟨[], by decide, rfl, ?_, ?_⟩
            · repeat' (first | exact trivial | exact ⟨_, rfl, rfl⟩ | exact ⟨_, rfl, Or.inl rfl⟩ | exact ⟨_, rfl, Or.inr ⟨rfl, rfl⟩⟩ | exact ⟨_, rfl, _, rfl⟩ | exact ⟨_, rfl⟩ | refine And.intro ?_ ?_)
            · repeat' (first | exact trivial | exact ⟨_, rfl, rfl⟩ | exact ⟨_, rfl, Or.inl rfl⟩ | exact ⟨_, rfl, Or.inr ⟨rfl, rfl⟩⟩ | exact ⟨_, rfl, _, rfl⟩ | exact ⟨_, rfl⟩ | refine And.intro ?_ ?_)
        · conv => whnf
          refine CallG.pure (Compare140 u' v' (by omega) (by omega)) rfl ?_
          conv => whnf
          refine ⟨rfl, ?_⟩
          rintro _ _ rfl
          refine ⟨rfl, ?_⟩
          conv => whnf
          refine ⟨fun h3 => ?_, fun h3 => ?_⟩
          · have hlt : v' < u' := by
              unfold cmpN at h3
              split at h3
              · omega
              · split at h3 <;> omega
            conv => whnf
            refine CallG.pure (Sub141 u' v' (by omega) (by omega)) rfl ?_
            conv => whnf
            refine ⟨rfl, ?_⟩
            rintro _ _ rfl
            refine ⟨rfl, ?_⟩
            conv => whnf
            refine ⟨(v', u' - v'), ⟨hv', by omega, ?_, .inl (by omega), ?_⟩, by show v' + (u' - v') < u + v; omega, ?_⟩
            · exact Nat.lt_of_le_of_lt (len_le (Nat.sub_le u' v')) (by omega)
            · rw [← hg'', Nat.gcd_comm u' v', gcd_sub (Nat.le_of_lt hlt)]
            · refine ⟨[], by decide, rfl, ?_, ?_⟩
              · repeat' (first | exact trivial | exact ⟨_, rfl, rfl⟩ | exact ⟨_, rfl, Or.inl rfl⟩ | exact ⟨_, rfl, Or.inr ⟨rfl, rfl⟩⟩ | exact ⟨_, rfl, _, rfl⟩ | exact ⟨_, rfl⟩ | refine And.intro ?_ ?_)
              · repeat' (first | exact trivial | exact ⟨_, rfl, rfl⟩ | exact ⟨_, rfl, Or.inl rfl⟩ | exact ⟨_, rfl, Or.inr ⟨rfl, rfl⟩⟩ | exact ⟨_, rfl, _, rfl⟩ | exact ⟨_, rfl⟩ | refine And.intro ?_ ?_)
          · have hle : u' ≤ v' := by
              unfold cmpN at h3
              split at h3
              · omega
              · split at h3 <;> omega
            conv => whnf
            refine CallG.pure (Sub141 v' u' (by omega) hle) rfl ?_
            conv => whnf
            refine ⟨rfl, ?_⟩
            rintro _ _ rfl
            refine ⟨rfl, ?_⟩
            conv => whnf
            refine ⟨(u', v' - u'), ⟨hu', by omega, ?_, .inl (by omega), ?_⟩, by show u' + (v' - u') < u + v; omega, ?_⟩
            · exact Nat.lt_of_le_of_lt (len_le (Nat.sub_le v' u')) (by omega)
            · rw [← hg'', gcd_sub hle]
            · refine ⟨[], by decide, rfl, ?_, ?_⟩
              · repeat' (first | exact trivial | exact ⟨_, rfl, rfl⟩ | exact ⟨_, rfl, Or.inl rfl⟩ | exact ⟨_, rfl, Or.inr ⟨rfl, rfl⟩⟩ | exact ⟨_, rfl, _, rfl⟩ | exact ⟨_, rfl⟩ | refine And.intro ?_ ?_)
              · repeat' (first | exact trivial | exact ⟨_, rfl, rfl⟩ | exact ⟨_, rfl, Or.inl rfl⟩ | exact ⟨_, rfl, Or.inr ⟨rfl, rfl⟩⟩ | exact ⟨_, rfl, _, rfl⟩ | exact ⟨_, rfl⟩ | refine And.intro ?_ ?_)
    · have hv : v = 0 := by
        cases Nat.eq_zero_or_pos v with
        | inl h => exact h
        | inr h => exact absurd (pos_len.2 h) hv0
      subst hv
      rw [Nat.gcd_zero_right] at hg
      have hga : Nat.gcd x y ≤ a := Nat.le_trans (Nat.le_of_dvd hx (Nat.gcd_dvd_left x y)) hxle
      conv => whnf
      refine ⟨0, LoopG.intro (fun (k : Nat) => ⟨[(0, nv (2 ^ k * u)), (5, iv t), (7, iv k)], []⟩) (fun k => k ≤ t) (fun k => t - k) (0) (Nat.zero_le _) ?_ ?_⟩
      · rw [show nv (2 ^ 0 * u) = nv u by simp]
        refine ⟨[], by decide, rfl, ?_, ?_⟩
        · repeat' (first | exact trivial | exact ⟨_, rfl, rfl⟩ | exact ⟨_, rfl, Or.inl rfl⟩ | exact ⟨_, rfl, Or.inr ⟨rfl, rfl⟩⟩ | exact ⟨_, rfl, _, rfl⟩ | exact ⟨_, rfl⟩ | refine And.intro ?_ ?_)
        · repeat' (first | exact trivial | exact ⟨_, rfl, rfl⟩ | exact ⟨_, rfl, Or.inl rfl⟩ | exact ⟨_, rfl, Or.inr ⟨rfl, rfl⟩⟩ | exact ⟨_, rfl, _, rfl⟩ | exact ⟨_, rfl⟩ | refine And.intro ?_ ?_)
      rintro k hk
      conv => whnf
      refine ⟨fun h1 => ?_, fun h1 => ?_⟩
      · conv => whnf
        have hle : 2 ^ k * u ≤ a := by
          rw [hg]
          refine Nat.le_trans (Nat.mul_le_mul_right _ (Nat.pow_le_pow_right (by decide) hk)) ?_
          rw [hG]
          exact Nat.le_of_dvd ha (Nat.gcd_dvd_left a b)
        have := len_le hle
        refine CallG.pure (twice142 (2 ^ k * u) 0 (by omega) (by decide)) rfl ?_
        conv => whnf
        refine ⟨rfl, ?_⟩
        rintro _ _ rfl
        refine ⟨rfl, ?_⟩
        conv => whnf
        refine ⟨by omega, by omega, ?_⟩
        conv => whnf
        refine ⟨k + 1, by omega, by omega, ?_⟩
        rw [show nv (2 ^ (k + 1) * u) = nv (2 * (2 ^ k * u) + 0) by rw [Nat.pow_succ, Nat.mul_comm (2 ^ k) 2, Nat.mul_assoc]; rfl]
        refine ⟨[], by decide, rfl, ?_, ?_⟩
        · repeat' (first | exact trivial | exact ⟨_, rfl, rfl⟩ | exact ⟨_, rfl, Or.inl rfl⟩ | exact ⟨_, rfl, Or.inr ⟨rfl, rfl⟩⟩ | exact ⟨_, rfl, _, rfl⟩ | exact ⟨_, rfl⟩ | refine And.intro ?_ ?_)
        · repeat' (first | exact trivial | exact ⟨_, rfl, rfl⟩ | exact ⟨_, rfl, Or.inl rfl⟩ | exact ⟨_, rfl, Or.inr ⟨rfl, rfl⟩⟩ | exact ⟨_, rfl, _, rfl⟩ | exact ⟨_, rfl⟩ | refine And.intro ?_ ?_)
      · conv => whnf
        have hkt : k = t := by omega
        subst hkt
        rw [hg, hG]
        have := len_le (Nat.le_of_dvd ha (Nat.gcd_dvd_left a b))
        refine ⟨rfl, rfl, (by show _ * 4 ≤ _; simp; omega), ?_⟩
        conv => whnf
        exact ⟨rfl, rfl⟩
end Go.Sx.Tz
end
section
namespace Go.Sx.Tz
open Go Go.Ev Go.Ev.Tz Go.Sx Go.Proofs
set_option maxHeartbeats 4000000
attribute [local irreducible] CallG LoopG
theorem Of253 (n : Nat) (hn : n < 18446744073709551616) : P 253 [] [u6 n] (fun _ r => r = nv n) := by
  have hB : B = 4294967296 := rfl
  refine PC.of_pure good ok253 rfl ?_
  conv => whnf
  refine ⟨32, rfl, ?_⟩
  conv => whnf
  rw [sh6 n 32 (by decide), wu3n, wu3n, show (n / 2 ^ 32) % 4294967296 = n / 2 ^ 32 by omega]
  refine CallG.pure (trim256 [n % 4294967296, n / 2 ^ 32] (.cons (by omega) (.cons (by omega) .nil)) (by simp)) rfl ?_
  conv => whnf
  refine ⟨rfl, ?_⟩
  rintro _ _ rfl
  refine ⟨rfl, ?_⟩
  conv => whnf
  exact ⟨rfl, by rw [show vl [n % 4294967296, n / 2 ^ 32] = n by simp [vl, hB]; omega]; rfl⟩
theorem size195 (n : Int) (h1 : -9223372036854775808 ≤ n) (h2 : n < 9223372036854775808) : P 195 [] [iv n] (fun _ r => r = .tu [bv (decide (n < 0)), nv n.natAbs]) := by
  refine PC.of_pure good ok195 rfl ?_
  conv => whnf
  refine ⟨fun h => ?_, fun h => ?_⟩
  · conv => whnf
    rw [show IntKind.u64.wrap (0 - IntKind.u64.wrap n) = ((n.natAbs : Nat) : Int) by rw [wu6, wu6]; omega]
    refine CallG.pure (Of253 n.natAbs (by omega)) rfl ?_
    conv => whnf
    refine ⟨rfl, ?_⟩
    rintro _ _ rfl
    refine ⟨rfl, ?_⟩
    conv => whnf
    exact ⟨rfl, by simp [oneS, h, encN]⟩
  · conv => whnf
    rw [show IntKind.u64.wrap n = ((n.natAbs : Nat) : Int) by rw [wu6]; omega]
    refine CallG.pure (Of253 n.natAbs (by omega)) rfl ?_
    conv => whnf
    refine ⟨rfl, ?_⟩
    rintro _ _ rfl
    refine ⟨rfl, ?_⟩
    conv => whnf
    exact ⟨rfl, by simp [oneS, h, encN]⟩
theorem long133 (n : Nat) (hl : (dg n).length ≤ 512) : P 133 [] [nv n] (fun _ r => r = bv (decide (4096 < bl n))) := by
  refine PC.of_pure good ok133 rfl ?_
  conv => whnf
  refine CallG.pure (Bits197 n hl) rfl ?_
  conv => whnf
  refine ⟨rfl, ?_⟩
  rintro _ _ rfl
  refine ⟨rfl, ?_⟩
  conv => whnf
  refine ⟨fun _ => ?_, fun h => absurd rfl h⟩
  conv => whnf
  refine ⟨fun h => ?_, fun h => ?_⟩
  · conv => whnf
    exact ⟨rfl, by simp [oneS]; omega⟩
  · conv => whnf
    exact ⟨rfl, by simp [oneS]; omega⟩
theorem fault174 (e : Int) : P 174 [] [iv e] (fun _ r => r = .agp (encR ⟨e, false, [], []⟩)) := by
  refine PC.of_pure good ok174 rfl ?_
  conv => whnf
  exact ⟨rfl, rfl⟩
theorem natural137 (x : List Nat) (e : Int) : P 137 [] [.p (encN x), iv e] (fun _ r => r = .p (encN x)) := by
  refine PC.of_pure good ok137 rfl ?_
  conv => whnf
  exact ⟨rfl, rfl⟩
def quo (neg : Bool) (n d : Nat) : RatS :=
  if d = 0 then ⟨11, false, [], []⟩ else if 4096 < bl (n / Nat.gcd n d) ∨ 4096 < bl (d / Nat.gcd n d) then ⟨4, false, [], []⟩ else ⟨0, neg && decide (0 < n / Nat.gcd n d), dg (n / Nat.gcd n d), dg (d / Nat.gcd n d)⟩
theorem quotient136s (neg : Bool) (n d : Nat) (hn : (dg n).length ≤ 512) (hd : (dg d).length = 1) : P 136 [] [.agp [.bool neg, encN (dg n)], nv d] (fun _ r => r = .agp (encR (quo neg n d))) := by
  have hd0 : 0 < d := Nat.pos_of_ne_zero fun e => by subst e; rw [dg_zero] at hd; simp at hd
  have hg0 : 0 < Nat.gcd n d := Nat.gcd_pos_of_pos_right _ hd0
  have hgl : (dg (Nat.gcd n d)).length = 1 := by
    have h1 := len_le (Nat.gcd_le_right n hd0)
    have h2 : (dg (Nat.gcd n d)).length ≠ 0 := fun e => by have := dg_len_pos.1 e; omega
    omega
  have hq : ¬ d = 0 := by omega
  refine PC.of_pure good ok136 rfl ?_
  conv => whnf
  refine ⟨fun h => ?_, fun h => ?_⟩
  · exact absurd h (by rw [List.length_map, hd]; decide)
  · conv => whnf
    refine CallG.pure (Gcd134s n d hn (by omega)) rfl ?_
    conv => whnf
    refine ⟨rfl, ?_⟩
    rintro _ _ rfl
    refine ⟨rfl, ?_⟩
    conv => whnf
    refine CallG.pure (natural137 (dg (Nat.gcd n d)) 0) rfl ?_
    conv => whnf
    refine ⟨rfl, ?_⟩
    rintro _ _ rfl
    refine ⟨rfl, ?_⟩
    conv => whnf
    refine CallG.pure (Div199s n (Nat.gcd n d) hn hgl) rfl ?_
    conv => whnf
    refine ⟨rfl, ?_⟩
    rintro _ _ rfl
    refine ⟨rfl, ?_⟩
    conv => whnf
    refine CallG.pure (Div199s d (Nat.gcd n d) (by omega) hgl) rfl ?_
    conv => whnf
    refine ⟨rfl, ?_⟩
    rintro _ _ rfl
    refine ⟨rfl, ?_⟩
    conv => whnf
    have hl1 : (dg (n / Nat.gcd n d)).length ≤ 512 := Nat.le_trans (len_le (Nat.div_le_self _ _)) hn
    have hl2 : (dg (d / Nat.gcd n d)).length ≤ 512 := Nat.le_trans (len_le (Nat.div_le_self _ _)) (by omega)
    refine CallG.pure (long133 (n / Nat.gcd n d) hl1) rfl ?_
    conv => whnf
    refine ⟨rfl, ?_⟩
    rintro _ _ rfl
    refine ⟨rfl, ?_⟩
    conv => whnf
    have hpos : ∀ k : Nat, (0 < (((dg k).map digR).length : Int)) ↔ 0 < k := fun k => by
      rw [List.length_map]
      have := @dg_len_pos k
      omega
    by_cases hb1 : 4096 < bl (n / Nat.gcd n d)
    · rw [decide_eq_true hb1]
      conv => whnf
      refine CallG.pure (fault174 4) rfl ?_
      conv => whnf
      refine ⟨rfl, ?_⟩
      rintro _ _ rfl
      refine ⟨rfl, ?_⟩
      conv => whnf
      exact ⟨rfl, by unfold quo; rw [if_neg hq, if_pos (.inl hb1)]; rfl⟩
    · rw [decide_eq_false hb1]
      conv => whnf
      refine CallG.pure (long133 (d / Nat.gcd n d) hl2) rfl ?_
      conv => whnf
      refine ⟨rfl, ?_⟩
      rintro _ _ rfl
      refine ⟨rfl, ?_⟩
      conv => whnf
      by_cases hb2 : 4096 < bl (d / Nat.gcd n d)
      · rw [decide_eq_true hb2]
        conv => whnf
        refine CallG.pure (fault174 4) rfl ?_
        conv => whnf
        refine ⟨rfl, ?_⟩
        rintro _ _ rfl
        refine ⟨rfl, ?_⟩
        conv => whnf
        exact ⟨rfl, by unfold quo; rw [if_neg hq, if_pos (.inr hb2)]; rfl⟩
      · rw [decide_eq_false hb2]
        have e : ∀ b, quo b n d = ⟨0, b && decide (0 < n / Nat.gcd n d), dg (n / Nat.gcd n d), dg (d / Nat.gcd n d)⟩ := fun b => by unfold quo; rw [if_neg hq, if_neg (by omega)]
        cases neg with
        | false =>
          conv => whnf
          exact ⟨rfl, by rw [e]; rfl⟩
        | true =>
          conv => whnf
          refine ⟨fun h3 => ?_, fun h3 => ?_⟩
          · conv => whnf
            exact ⟨rfl, by rw [e, decide_eq_true ((hpos _).1 h3)]; rfl⟩
          · conv => whnf
            exact ⟨rfl, by rw [e, decide_eq_false (fun q => h3 ((hpos _).2 q))]; rfl⟩
def wh (n : Int) : RatS := quo (decide (n < 0)) n.natAbs 1
theorem dg_1 : dg 1 = [1] := by rw [dg_pos (by decide), show 1 / B = 0 from rfl, dg_zero]; rfl
theorem dg_i64 {n : Nat} (h : n < 18446744073709551616) : (dg n).length ≤ 2 := dg_len.2 (by simpa [B] using h)
theorem Of129w (n : Int) (h1 : -9223372036854775808 ≤ n) (h2 : n < 9223372036854775808) : P 129 [] [iv n, iv 1] (fun _ r => r = .tu [.agp (encR (wh n)), iv 0]) := by
  refine PC.of_pure good ok129 rfl ?_
  conv => whnf
  refine CallG.pure (size195 n h1 h2) rfl ?_
  conv => whnf
  refine ⟨rfl, ?_⟩
  rintro _ _ rfl
  refine ⟨rfl, ?_⟩
  conv => whnf
  refine CallG.pure (size195 1 (by decide) (by decide)) rfl ?_
  conv => whnf
  refine ⟨rfl, ?_⟩
  rintro _ _ rfl
  refine ⟨rfl, ?_⟩
  conv => whnf
  have hl : (dg n.natAbs).length ≤ 512 := Nat.le_trans (dg_i64 (by omega)) (by decide)
  by_cases hz : n < 0
  · rw [decide_eq_true hz]
    conv => whnf
    refine CallG.pure (quotient136s true n.natAbs 1 hl (by rw [dg_1]; rfl)) rfl ?_
    conv => whnf
    refine ⟨rfl, ?_⟩
    rintro _ _ rfl
    refine ⟨rfl, ?_⟩
    conv => whnf
    exact ⟨rfl, by unfold wh; rw [decide_eq_true hz]; rfl⟩
  · rw [decide_eq_false hz]
    conv => whnf
    refine CallG.pure (quotient136s false n.natAbs 1 hl (by rw [dg_1]; rfl)) rfl ?_
    conv => whnf
    refine ⟨rfl, ?_⟩
    rintro _ _ rfl
    refine ⟨rfl, ?_⟩
    conv => whnf
    exact ⟨rfl, by unfold wh; rw [decide_eq_false hz]; rfl⟩
theorem rat171 (x : RatS) (e : Int) : P 171 [] [.agp (encR x), iv e] (fun _ r => r = .agp (encR x)) := by
  refine PC.of_pure good ok171 rfl ?_
  conv => whnf
  exact ⟨rfl, rfl⟩
theorem whole107 (n : Int) (h1 : -9223372036854775808 ≤ n) (h2 : n < 9223372036854775808) : P 107 [] [iv n] (fun _ r => r = .agp (encR (wh n))) := by
  refine PC.of_pure good ok107 rfl ?_
  conv => whnf
  refine CallG.pure (Of129w n h1 h2) rfl ?_
  conv => whnf
  refine ⟨rfl, ?_⟩
  rintro _ _ rfl
  refine ⟨rfl, ?_⟩
  conv => whnf
  refine CallG.pure (rat171 (wh n) 0) rfl ?_
  conv => whnf
  refine ⟨rfl, ?_⟩
  rintro _ _ rfl
  refine ⟨rfl, ?_⟩
  conv => whnf
  exact ⟨rfl, rfl⟩
end Go.Sx.Tz
end
section
namespace Go.Sx.Tz
open Go Go.Ev Go.Ev.Tz Go.Sx Go.Proofs
set_option maxHeartbeats 4000000
attribute [local irreducible] CallG LoopG
theorem bl_half {d : Nat} (h : 0 < d) : bl d = 1 + bl (d / 2) := by
  by_cases h1 : d = 1
  · subst h1; rfl
  · have := bl_shift (d := d) (k := 1) (by omega)
    simpa using this
theorem Bits82 (n : Nat) (hl : (dg n).length < 50000) : P 82 [] [nv n] (fun _ r => r = iv (bl n)) := by
  have hB : B = 4294967296 := rfl
  refine PC.of_pure good ok82 rfl ?_
  conv => whnf
  refine ⟨fun h => ?_, fun h => ?_⟩
  · conv => whnf
    have := zero_len.1 h
    subst this
    exact ⟨rfl, rfl⟩
  · have hn : n ≠ 0 := fun e => h (zero_len.2 e)
    obtain ⟨h1, h2, h3⟩ := bl_dg hn
    obtain ⟨k, hk⟩ : ∃ k, (dg n).length = k + 1 := ⟨(dg n).length - 1, by omega⟩
    have hkl : k < (dg n).length := by omega
    rw [hk, Nat.add_sub_cancel] at h1 h2
    rw [dAt_lt hkl] at h1 h2
    obtain ⟨e0, he0⟩ : ∃ e0, e0 = (dg n)[k] := ⟨_, rfl⟩
    rw [← he0] at h1 h2
    conv => whnf
    refine ⟨by omega, by simp; omega, ?_⟩
    conv => whnf
    refine ⟨by simp; omega, by simp; omega, ?_⟩
    conv => whnf
    refine ⟨by omega, by simp; omega, ?_⟩
    conv => whnf
    refine ⟨k, digR e0, (by simp; omega), (by rw [get_map hkl, he0]), ?_⟩
    conv => whnf
    refine ⟨0, LoopG.intro (fun (⟨d, c⟩ : Nat × Nat) => ⟨[(3, iv (32 * k + c)), (4, u3 d)], []⟩) (fun (⟨d, c⟩ : Nat × Nat) => d < B ∧ c + bl d = bl e0) (fun (⟨d, _⟩ : Nat × Nat) => d) ((e0, 0)) (⟨h2, by simp⟩) ?_ ?_⟩
    · refine ⟨[], by decide, rfl, ?_, ?_⟩
      · repeat' (first | exact trivial | exact ⟨_, rfl, rfl⟩ | exact ⟨_, rfl, Or.inl rfl⟩ | exact ⟨_, rfl, Or.inr ⟨rfl, rfl⟩⟩ | exact ⟨_, rfl, _, rfl⟩ | exact ⟨_, rfl⟩ | refine And.intro ?_ ?_ | (refine ⟨_, rfl, congrArg (fun z => some (SV.p (PV.int _ z))) ?_⟩; (simp; omega)))
      · repeat' (first | exact trivial | exact ⟨_, rfl, rfl⟩ | exact ⟨_, rfl, Or.inl rfl⟩ | exact ⟨_, rfl, Or.inr ⟨rfl, rfl⟩⟩ | exact ⟨_, rfl, _, rfl⟩ | exact ⟨_, rfl⟩ | refine And.intro ?_ ?_ | (refine ⟨_, rfl, congrArg (fun z => some (SV.p (PV.int _ z))) ?_⟩; (simp; omega)))
    rintro ⟨d, c⟩ ⟨hd, hc⟩
    have hbd : bl d ≤ 32 := bl_le.2 hd
    have hcc : bl e0 ≤ 32 := bl_le.2 h2
    conv => whnf
    refine ⟨fun h4 => ?_, fun h4 => ?_⟩
    · have e := bl_half (d := d) (by omega)
      conv => whnf
      refine ⟨by omega, by omega, ?_⟩
      conv => whnf
      rw [td2]
      refine ⟨by decide, ?_⟩
      conv => whnf
      refine ⟨(d / 2, c + 1), ⟨by omega, by omega⟩, by show d / 2 < d; omega, ?_⟩
      refine ⟨[], by decide, rfl, ?_, ?_⟩
      · repeat' (first | exact trivial | exact ⟨_, rfl, rfl⟩ | exact ⟨_, rfl, Or.inl rfl⟩ | exact ⟨_, rfl, Or.inr ⟨rfl, rfl⟩⟩ | exact ⟨_, rfl, _, rfl⟩ | exact ⟨_, rfl⟩ | refine And.intro ?_ ?_ | (refine ⟨_, rfl, congrArg (fun z => some (SV.p (PV.int _ z))) ?_⟩; (try rw [wu3]); omega))
      · repeat' (first | exact trivial | exact ⟨_, rfl, rfl⟩ | exact ⟨_, rfl, Or.inl rfl⟩ | exact ⟨_, rfl, Or.inr ⟨rfl, rfl⟩⟩ | exact ⟨_, rfl, _, rfl⟩ | exact ⟨_, rfl⟩ | refine And.intro ?_ ?_ | (refine ⟨_, rfl, congrArg (fun z => some (SV.p (PV.int _ z))) ?_⟩; (try rw [wu3]); omega))
    · conv => whnf
      exact ⟨rfl, by
        have : d = 0 := by omega
        subst this
        simp only [oneS]
        rw [h1, ← hc]
        simp [bl]⟩
theorem Long187 (n : Nat) (hl : (dg n).length < 50000) : P 187 [] [nv n] (fun _ r => r = bv (decide (4096 < bl n))) := by
  refine PC.of_pure good ok187 rfl ?_
  conv => whnf
  refine CallG.pure (Bits82 n hl) rfl ?_
  conv => whnf
  refine ⟨rfl, ?_⟩
  rintro _ _ rfl
  refine ⟨rfl, ?_⟩
  conv => whnf
  refine ⟨fun h => ?_, fun h => ?_⟩
  · conv => whnf
    exact ⟨rfl, by simp [oneS]; omega⟩
  · conv => whnf
    exact ⟨rfl, by simp [oneS]; omega⟩
theorem Fault121 (e : Int) : P 121 [] [iv e] (fun _ r => r = .agp (encR ⟨e, false, [], []⟩)) := by
  refine PC.of_pure good ok121 rfl ?_
  conv => whnf
  exact ⟨rfl, rfl⟩
theorem one190 : P 190 [] [] (fun _ r => r = .p (encN [1])) := by
  refine PC.of_pure good ok190 rfl ?_
  conv => whnf
  exact ⟨rfl, rfl⟩
theorem Bound122 (f : Int) (neg : Bool) (n d : Nat) (ln : (dg n).length < 50000) (ld : (dg d).length < 50000) : P 122 [] [.agp (encR ⟨f, neg, dg n, dg d⟩)] (fun _ r => r = .agp (encR (if 4096 < bl n ∨ 4096 < bl d then ⟨4, false, [], []⟩ else ⟨f, neg, dg n, dg d⟩))) := by
  refine PC.of_pure good ok122 rfl ?_
  conv => whnf
  refine CallG.pure (Long187 n ln) rfl ?_
  conv => whnf
  refine ⟨rfl, ?_⟩
  rintro _ _ rfl
  refine ⟨rfl, ?_⟩
  conv => whnf
  by_cases h1 : 4096 < bl n
  · rw [decide_eq_true h1, if_pos (.inl h1)]
    conv => whnf
    refine CallG.pure (Fault121 4) rfl ?_
    conv => whnf
    refine ⟨rfl, ?_⟩
    rintro _ _ rfl
    refine ⟨rfl, ?_⟩
    conv => whnf
    exact ⟨rfl, rfl⟩
  · rw [decide_eq_false h1]
    conv => whnf
    refine CallG.pure (Long187 d ld) rfl ?_
    conv => whnf
    refine ⟨rfl, ?_⟩
    rintro _ _ rfl
    refine ⟨rfl, ?_⟩
    conv => whnf
    by_cases h2 : 4096 < bl d
    · rw [decide_eq_true h2, if_pos (.inr h2)]
      conv => whnf
      refine CallG.pure (Fault121 4) rfl ?_
      conv => whnf
      refine ⟨rfl, ?_⟩
      rintro _ _ rfl
      refine ⟨rfl, ?_⟩
      conv => whnf
      exact ⟨rfl, rfl⟩
    · rw [decide_eq_false h2, if_neg (by omega)]
      conv => whnf
      exact ⟨rfl, rfl⟩
def low (neg : Bool) (n d : Nat) : RatS := ⟨0, neg && decide (0 < n), dg (n / Nat.gcd n d), dg (d / Nat.gcd n d)⟩
theorem Exact125c (neg : Bool) (n d : Nat) (ln : (dg n).length < 5000) (ld : (dg d).length < 5000) (hd : 0 < d) (hg : n = 0 ∨ Nat.gcd n d = 1) : P 125 [] [bv neg, nv n, nv d] (fun _ r => r = .agp (encR (low neg n d))) := by
  refine PC.of_pure good ok125 rfl ?_
  conv => whnf
  refine ⟨fun h => ?_, fun h => ?_⟩
  · have := zero_len.1 h
    subst this
    conv => whnf
    refine CallG.pure (one190) rfl ?_
    conv => whnf
    refine ⟨rfl, ?_⟩
    rintro _ _ rfl
    refine ⟨rfl, ?_⟩
    conv => whnf
    exact ⟨rfl, by
      unfold low
      rw [Nat.gcd_zero_left, Nat.div_self hd, Nat.zero_div, dg_1, dg_zero]
      cases neg <;> rfl⟩
  · have hn : 0 < n := Nat.pos_of_ne_zero fun e => h (zero_len.2 e)
    have hg : Nat.gcd n d = 1 := by omega
    conv => whnf
    refine CallG.pure (Gcd81 n d ln ld) rfl ?_
    conv => whnf
    refine ⟨rfl, ?_⟩
    rintro _ _ rfl
    refine ⟨rfl, ?_⟩
    conv => whnf
    rw [hg]
    refine ⟨fun h2 => ?_, fun h2 => ?_⟩
    · exact absurd h2 (by rw [dg_1]; decide)
    · conv => whnf
      refine ⟨0, digR 1, rfl, (by rw [dg_1]; rfl), ?_⟩
      conv => whnf
      refine ⟨fun h => absurd h (by omega), fun _ => ?_⟩
      conv => whnf
      refine ⟨rfl, rfl, (by show _ * 4 ≤ _; simp; omega), ?_⟩
      conv => whnf
      refine ⟨rfl, rfl, (by show _ * 4 ≤ _; simp; omega), ?_⟩
      conv => whnf
      exact ⟨rfl, by
        unfold low
        rw [hg, Nat.div_one, Nat.div_one, decide_eq_true hn]
        simp [oneS, encR, encN]⟩
theorem quo_low (neg : Bool) (n d : Nat) (hd : 0 < d) : quo neg n d = if 4096 < bl (n / Nat.gcd n d) ∨ 4096 < bl (d / Nat.gcd n d) then ⟨4, false, [], []⟩ else low neg n d := by
  have hg0 : 0 < Nat.gcd n d := Nat.gcd_pos_of_pos_right _ hd
  unfold quo low
  rw [if_neg (by omega)]
  congr 2
  have : (0 < n / Nat.gcd n d) ↔ 0 < n := by
    constructor
    · intro h
      cases Nat.eq_zero_or_pos n with
      | inl e => subst e; simp at h
      | inr h => exact h
    · intro h
      exact Nat.div_pos (Nat.le_of_dvd h (Nat.gcd_dvd_left n d)) hg0
  simp only [this]
theorem Ratio84c (neg : Bool) (n d : Nat) (ln : (dg n).length < 5000) (ld : (dg d).length < 5000) (hd : 0 < d) (hg : n = 0 ∨ Nat.gcd n d = 1) : P 84 [] [bv neg, nv n, nv d] (fun _ r => r = .agp (encR (quo neg n d))) := by
  refine PC.of_pure good ok84 rfl ?_
  conv => whnf
  refine ⟨fun h => ?_, fun h => ?_⟩
  · exact absurd (zero_len.1 h) (by omega)
  · conv => whnf
    refine CallG.pure (Exact125c neg n d ln ld hd hg) rfl ?_
    conv => whnf
    refine ⟨rfl, ?_⟩
    rintro _ _ rfl
    refine ⟨rfl, ?_⟩
    conv => whnf
    have l1 := len_le (Nat.div_le_self n (Nat.gcd n d))
    have l2 := len_le (Nat.div_le_self d (Nat.gcd n d))
    refine CallG.pure (Bound122 0 (neg && decide (0 < n)) (n / Nat.gcd n d) (d / Nat.gcd n d) (by omega) (by omega)) rfl ?_
    conv => whnf
    refine ⟨rfl, ?_⟩
    rintro _ _ rfl
    refine ⟨rfl, ?_⟩
    conv => whnf
    exact ⟨rfl, by rw [quo_low neg n d hd]; rfl⟩
theorem Of85 (n : Nat) (hn : n < 18446744073709551616) : P 85 [] [u6 n] (fun _ r => r = nv n) := by
  have hB : B = 4294967296 := rfl
  refine PC.of_pure good ok85 rfl ?_
  conv => whnf
  refine ⟨32, rfl, ?_⟩
  conv => whnf
  rw [sh6 n 32 (by decide), wu3n, wu3n, show (n / 2 ^ 32) % 4294967296 = n / 2 ^ 32 by omega]
  refine CallG.pure (short143 [n % 4294967296, n / 2 ^ 32] (.cons (by omega) (.cons (by omega) .nil)) (by simp)) rfl ?_
  conv => whnf
  refine ⟨rfl, ?_⟩
  rintro _ _ rfl
  refine ⟨rfl, ?_⟩
  conv => whnf
  exact ⟨rfl, by rw [show vl [n % 4294967296, n / 2 ^ 32] = n by simp [vl, hB]; omega]; rfl⟩
theorem size86 (n : Int) (h1 : -9223372036854775808 ≤ n) (h2 : n < 9223372036854775808) : P 86 [] [iv n] (fun _ r => r = u6 n.natAbs) := by
  refine PC.of_pure good ok86 rfl ?_
  conv => whnf
  refine ⟨fun h => ?_, fun h => ?_⟩
  · conv => whnf
    exact ⟨rfl, by simp only [oneS]; rw [show IntKind.u64.wrap (0 - IntKind.u64.wrap n) = ((n.natAbs : Nat) : Int) by rw [wu6, wu6]; omega]⟩
  · conv => whnf
    exact ⟨rfl, by simp only [oneS]; rw [show IntKind.u64.wrap n = ((n.natAbs : Nat) : Int) by rw [wu6]; omega]⟩
theorem Of42w (n : Int) (h1 : -9223372036854775808 ≤ n) (h2 : n < 9223372036854775808) : P 42 [] [iv n, iv 1] (fun _ r => r = .agp (encR (wh n))) := by
  have hl : (dg n.natAbs).length ≤ 512 := Nat.le_trans (dg_i64 (by omega)) (by decide)
  refine PC.of_pure good ok42 rfl ?_
  conv => whnf
  refine ⟨fun hz => ?_, fun hz => ?_⟩
  · conv => whnf
    refine ⟨fun h => absurd h (by decide), fun _ => ?_⟩
    conv => whnf
    refine CallG.pure (size86 n h1 h2) rfl ?_
    conv => whnf
    refine ⟨rfl, ?_⟩
    rintro _ _ rfl
    refine ⟨rfl, ?_⟩
    conv => whnf
    refine CallG.pure (Of85 n.natAbs (by omega)) rfl ?_
    conv => whnf
    refine ⟨rfl, ?_⟩
    rintro _ _ rfl
    refine ⟨rfl, ?_⟩
    conv => whnf
    refine CallG.pure (size86 1 (by decide) (by decide)) rfl ?_
    conv => whnf
    refine ⟨rfl, ?_⟩
    rintro _ _ rfl
    refine ⟨rfl, ?_⟩
    conv => whnf
    refine CallG.pure (Of85 1 (by decide)) rfl ?_
    conv => whnf
    refine ⟨rfl, ?_⟩
    rintro _ _ rfl
    refine ⟨rfl, ?_⟩
    conv => whnf
    refine CallG.pure (Ratio84c true n.natAbs 1 (by omega) (by rw [dg_1]; decide) (by decide) (.inr (Nat.gcd_one_right _))) rfl ?_
    conv => whnf
    refine ⟨rfl, ?_⟩
    rintro _ _ rfl
    refine ⟨rfl, ?_⟩
    conv => whnf
    exact ⟨rfl, by unfold wh; rw [decide_eq_true hz]; rfl⟩
  · conv => whnf
    refine ⟨fun h => absurd h (by decide), fun _ => ?_⟩
    conv => whnf
    refine CallG.pure (size86 n h1 h2) rfl ?_
    conv => whnf
    refine ⟨rfl, ?_⟩
    rintro _ _ rfl
    refine ⟨rfl, ?_⟩
    conv => whnf
    refine CallG.pure (Of85 n.natAbs (by omega)) rfl ?_
    conv => whnf
    refine ⟨rfl, ?_⟩
    rintro _ _ rfl
    refine ⟨rfl, ?_⟩
    conv => whnf
    refine CallG.pure (size86 1 (by decide) (by decide)) rfl ?_
    conv => whnf
    refine ⟨rfl, ?_⟩
    rintro _ _ rfl
    refine ⟨rfl, ?_⟩
    conv => whnf
    refine CallG.pure (Of85 1 (by decide)) rfl ?_
    conv => whnf
    refine ⟨rfl, ?_⟩
    rintro _ _ rfl
    refine ⟨rfl, ?_⟩
    conv => whnf
    refine CallG.pure (Ratio84c false n.natAbs 1 (by omega) (by rw [dg_1]; decide) (by decide) (.inr (Nat.gcd_one_right _))) rfl ?_
    conv => whnf
    refine ⟨rfl, ?_⟩
    rintro _ _ rfl
    refine ⟨rfl, ?_⟩
    conv => whnf
    exact ⟨rfl, by unfold wh; rw [decide_eq_false hz]; rfl⟩
end Go.Sx.Tz
end
section
namespace Go.Sx.Tz
open Go Go.Ev Go.Ev.Tz Go.Sx Go.Proofs
set_option maxHeartbeats 4000000
attribute [local irreducible] CallG LoopG
theorem vl_set : ∀ {o : List Nat} {j d : Nat} (h : j < o.length), vl (o.set j d) + B ^ j * o[j] = vl o + B ^ j * d
  | x :: o, 0, d, h => by simp [vl]; omega
  | x :: o, j + 1, d, h => by
    have := vl_set (o := o) (j := j) (d := d) (by simpa using h)
    simp only [List.set_cons_succ, vl, List.getElem_cons_succ]
    rw [Nat.pow_succ, Nat.mul_comm (B ^ j) B, Nat.mul_assoc, Nat.mul_assoc, Nat.add_assoc, ← Nat.mul_add, this, Nat.mul_add]; omega
theorem Dg.set {o : List Nat} (h : Dg o) {d : Nat} (hd : d < B) (j : Nat) : Dg (o.set j d) := fun x hx => by
  rcases List.mem_or_eq_of_mem_set hx with hx | rfl
  · exact h x hx
  · exact hd
theorem vl_zero_at {o : List Nat} {k : Nat} (h : vl o < B ^ k) (hk : k < o.length) : o[k] = 0 := by
  have h1 := vl_take_drop o k (by omega)
  have h2 : vl (o.drop k) = 0 := by
    cases Nat.eq_zero_or_pos (vl (o.drop k)) with
    | inl h => exact h
    | inr hp =>
      have : B ^ k * 1 ≤ B ^ k * vl (o.drop k) := Nat.mul_le_mul_left _ hp
      omega
  have h3 := vl_drop hk
  omega
theorem mul_step {vo vo' p c a b d s R : Nat} (hs : s = c + (a * b + d)) (h1 : vo' + p * d = vo + p * (s % B)) (h2 : vo + p * c = R) : vo' + p * B * (s / B) = R + p * (a * b) := by
  have h3 : p * (s % B) + p * B * (s / B) = p * s := by rw [Nat.mul_assoc, ← Nat.mul_add, Nat.mod_add_div]
  have h4 : p * s = p * c + (p * (a * b) + p * d) := by rw [hs, Nat.mul_add, Nat.mul_add]
  omega
theorem mul_bound {a b c d : Nat} (ha : a < B) (hb : b < B) (hc : c < B) (hd : d < B) : c + (a * b + d) < B * B := by
  have : a * b ≤ (B - 1) * (B - 1) := Nat.mul_le_mul (by omega) (by omega)
  unfold B at *
  omega
theorem wdig {d : Nat} (h : d < B) : IntKind.u64.wrap (d : Int) = d := by
  have hB : B = 4294967296 := rfl
  rw [wu6]; omega
theorem mul6 {a b c d : Nat} (ha : a < B) (hb : b < B) (hc : c < B) (hd : d < B) :
    IntKind.u64.wrap ((c : Int) + IntKind.u64.wrap (IntKind.u64.wrap (IntKind.u64.wrap (a : Int) * IntKind.u64.wrap (b : Int)) + IntKind.u64.wrap (d : Int))) = ((c + (a * b + d) : Nat) : Int) := by
  have h : c + (a * b + d) < 18446744073709551616 := mul_bound ha hb hc hd
  rw [wdig ha, wdig hb, wdig hd, ← Int.natCast_mul]
  generalize a * b = m at h
  rw [wu6, wu6, wu6]
  omega
theorem hi6 {s : Nat} : Int.fdiv (s : Int) (2 ^ min 32 IntKind.u64.bits) = ((s / B : Nat) : Int) := sh6 s 32 (by decide)
theorem lo3 {s : Nat} : IntKind.u32.wrap (s : Int) = ((s % B : Nat) : Int) := wu3n s
theorem mul200 (x y : List Nat) (hx : Dg x) (hy : Dg y) (lx : x.length < 20000) (ly : y.length < 20000) : P 200 [] [.p (encN x), .p (encN y)] (fun _ r => r = nv (vl x * vl y)) := by
  have hB : B = 4294967296 := rfl
  have hyl := vl_lt hy
  refine PC.of_pure good ok200 rfl ?_
  conv => whnf
  refine ⟨by omega, by simp; omega, ?_⟩
  conv => whnf
  refine ⟨x.length + y.length, x.length + y.length, (by simp), (by simp), Nat.le_refl _, by show _ * 4 ≤ _; omega, ?_⟩
  conv => whnf
  rw [rep_dig]
  refine ⟨0, LoopG.intro (fun (⟨i, o⟩ : Nat × List Nat) => ⟨[(1, .p (encN y)), (5, .os 0), (17, .p (encN x)), (18, iv x.length), (19, iv i)], [.arr 112 (o.map digR)]⟩) (fun (⟨i, o⟩ : Nat × List Nat) => i ≤ x.length ∧ o.length = x.length + y.length ∧ Dg o ∧ vl o = vl (x.take i) * vl y) (fun ⟨i, _⟩ => x.length - i) ((0, List.replicate (x.length + y.length) 0)) (by exact ⟨by omega, by simp, fun d hd => by rw [List.eq_of_mem_replicate hd]; exact B_pos, by rw [vl_zeros]; simp [vl]⟩) ?_ ?_⟩
  · refine ⟨[some 0], by decide, rfl, ?_, ?_⟩
    · repeat' (first | exact trivial | exact ⟨_, rfl, rfl⟩ | exact ⟨_, rfl, Or.inl rfl⟩ | exact ⟨_, rfl, Or.inr ⟨rfl, rfl⟩⟩ | exact ⟨_, rfl, _, rfl⟩ | exact ⟨_, rfl⟩ | refine And.intro ?_ ?_ | (refine ⟨_, rfl, congrArg (fun z => some (SV.p (PV.int _ z))) ?_⟩; simp) | (refine ⟨_, rfl, congrArg (fun z => some (Blk.arr _ z)) ?_⟩; rfl) | (refine ⟨_, rfl, congrArg (fun z => some (SV.p (PV.sl _ z))) ?_⟩; rfl) | (refine ⟨_, rfl, Or.inl (congrArg (fun z => some (SV.p (PV.sl _ z))) ?_)⟩; rfl) | (refine ⟨_, rfl, Or.inr ⟨rfl, ?_⟩⟩; rfl))
    · repeat' (first | exact trivial | exact ⟨_, rfl, rfl⟩ | exact ⟨_, rfl, Or.inl rfl⟩ | exact ⟨_, rfl, Or.inr ⟨rfl, rfl⟩⟩ | exact ⟨_, rfl, _, rfl⟩ | exact ⟨_, rfl⟩ | refine And.intro ?_ ?_ | (refine ⟨_, rfl, congrArg (fun z => some (SV.p (PV.int _ z))) ?_⟩; simp) | (refine ⟨_, rfl, congrArg (fun z => some (Blk.arr _ z)) ?_⟩; rfl) | (refine ⟨_, rfl, congrArg (fun z => some (SV.p (PV.sl _ z))) ?_⟩; rfl) | (refine ⟨_, rfl, Or.inl (congrArg (fun z => some (SV.p (PV.sl _ z))) ?_)⟩; rfl) | (refine ⟨_, rfl, Or.inr ⟨rfl, ?_⟩⟩; rfl))
  rintro ⟨i, o⟩ ⟨hi, ho, hd, hv⟩
  conv => whnf
  refine ⟨fun h => ?_, fun h => ?_⟩
  · have hil : i < x.length := by omega
    have hxi := hx.get hil
    obtain ⟨a, hxa⟩ : ∃ a, x[i] = a := ⟨_, rfl⟩
    rw [hxa] at hxi
    conv => whnf
    refine ⟨i, digR a, rfl, (by rw [get_map hil, hxa]), ?_⟩
    conv => whnf
    refine ⟨0, LoopG.intro (fun (⟨k, q, c⟩ : Nat × List Nat × Nat) => ⟨[(1, .p (encN y)), (5, .os 0), (6, iv i), (7, u3 a), (8, u6 c), (17, .p (encN x)), (18, iv x.length), (19, iv i), (24, .p (encN y)), (25, iv y.length), (26, iv k)], [.arr 112 (q.map digR)]⟩) (fun ⟨k, q, c⟩ => k ≤ y.length ∧ q.length = x.length + y.length ∧ Dg q ∧ c < B ∧ (∀ p : Nat, i + k ≤ p → q[p]? = o[p]?) ∧ vl q + B ^ (i + k) * c = vl o + B ^ i * (a * vl (y.take k))) (fun ⟨k, _, _⟩ => y.length - k) ((0, o, 0)) (⟨by omega, ho, hd, B_pos, fun _ _ => rfl, by simp [vl]⟩) ?_ ?_⟩
    · refine ⟨[some 0], by decide, rfl, ?_, ?_⟩
      · repeat' (first | exact trivial | exact ⟨_, rfl, rfl⟩ | exact ⟨_, rfl, Or.inl rfl⟩ | exact ⟨_, rfl, Or.inr ⟨rfl, rfl⟩⟩ | exact ⟨_, rfl, _, rfl⟩ | exact ⟨_, rfl⟩ | refine And.intro ?_ ?_ | (refine ⟨_, rfl, congrArg (fun z => some (SV.p (PV.int _ z))) ?_⟩; simp))
      · repeat' (first | exact trivial | exact ⟨_, rfl, rfl⟩ | exact ⟨_, rfl, Or.inl rfl⟩ | exact ⟨_, rfl, Or.inr ⟨rfl, rfl⟩⟩ | exact ⟨_, rfl, _, rfl⟩ | exact ⟨_, rfl⟩ | refine And.intro ?_ ?_ | (refine ⟨_, rfl, congrArg (fun z => some (SV.p (PV.int _ z))) ?_⟩; simp))
    rintro ⟨k, q, c⟩ ⟨hk, hq, hdq, hc, hsame, hval⟩
    conv => whnf
    refine ⟨fun h2 => ?_, fun h2 => ?_⟩
    · have hkl : k < y.length := by omega
      have hyk := hy.get hkl
      have hqp : i + k < q.length := by omega
      have hdp := hdq.get hqp
      conv => whnf
      refine ⟨k, _, rfl, get_map hkl, ?_⟩
      conv => whnf
      refine ⟨by omega, by omega, ?_⟩
      conv => whnf
      refine ⟨i + k, (by omega), (by simp; omega), ?_⟩
      conv => whnf
      refine ⟨rfl, _, get_map hqp, ?_⟩
      conv => whnf
      refine ⟨by omega, by omega, ?_⟩
      conv => whnf
      refine ⟨i + k, (by omega), (by simp; omega), ?_⟩
      conv => whnf
      refine ⟨rfl, _, get_map hqp, rfl, Nat.le_refl _, ?_⟩
      conv => whnf
      refine ⟨32, rfl, ?_⟩
      conv => whnf
      refine ⟨by omega, by omega, ?_⟩
      conv => whnf
      have hs := mul_bound hxi hyk hc hdp
      have hset := vl_set (o := q) (j := i + k) (d := (c + (a * y[k] + q[i + k])) % B) hqp
      refine ⟨(k + 1, q.set (i + k) ((c + (a * y[k] + q[i + k])) % B), (c + (a * y[k] + q[i + k])) / B), ⟨by omega, by simpa using hq, hdq.set (Nat.mod_lt _ B_pos) _, by rw [Nat.div_lt_iff_lt_mul B_pos]; exact hs, fun p hp => ?_, ?_⟩, by show _ - _ < _ - _; omega, ?_⟩
      · rw [List.getElem?_set, if_neg (by omega)]; exact hsame p (by omega)
      · have := mul_step rfl hset hval
        rw [show i + (k + 1) = i + k + 1 by omega, Nat.pow_succ, this, vl_take_succ hkl, Nat.pow_add, Nat.mul_add, Nat.mul_add]
        have e1 : B ^ i * B ^ k * (a * y[k]) = B ^ i * (a * (B ^ k * y[k])) := by
          rw [Nat.mul_assoc, Nat.mul_left_comm (B ^ k)]
        omega
      · refine ⟨[some 0], by decide, rfl, ?_, ?_⟩
        · repeat' (first | exact trivial | exact ⟨_, rfl, rfl⟩ | exact ⟨_, rfl, Or.inl rfl⟩ | exact ⟨_, rfl, Or.inr ⟨rfl, rfl⟩⟩ | exact ⟨_, rfl, _, rfl⟩ | exact ⟨_, rfl⟩ | refine And.intro ?_ ?_ | (refine ⟨_, rfl, congrArg (fun z => some (SV.p (PV.int _ z))) ?_⟩; rw [mul6 hxi hyk hc hdp, hi6]) | (refine ⟨_, rfl, congrArg (fun z => some (Blk.arr _ z)) ?_⟩; exact set_dig (by rw [mul6 hxi hyk hc hdp, lo3])) | (refine ⟨_, rfl, congrArg (fun z => some (SV.p (PV.sl _ z))) ?_⟩; exact set_dig (by rw [mul6 hxi hyk hc hdp, lo3])) | (refine ⟨_, rfl, Or.inl (congrArg (fun z => some (SV.p (PV.sl _ z))) ?_)⟩; exact set_dig (by rw [mul6 hxi hyk hc hdp, lo3])) | (refine ⟨_, rfl, Or.inr ⟨rfl, ?_⟩⟩; exact set_dig (by rw [mul6 hxi hyk hc hdp, lo3])))
        · repeat' (first | exact trivial | exact ⟨_, rfl, rfl⟩ | exact ⟨_, rfl, Or.inl rfl⟩ | exact ⟨_, rfl, Or.inr ⟨rfl, rfl⟩⟩ | exact ⟨_, rfl, _, rfl⟩ | exact ⟨_, rfl⟩ | refine And.intro ?_ ?_ | (refine ⟨_, rfl, congrArg (fun z => some (SV.p (PV.int _ z))) ?_⟩; rw [mul6 hxi hyk hc hdp, hi6]) | (refine ⟨_, rfl, congrArg (fun z => some (Blk.arr _ z)) ?_⟩; exact set_dig (by rw [mul6 hxi hyk hc hdp, lo3])) | (refine ⟨_, rfl, congrArg (fun z => some (SV.p (PV.sl _ z))) ?_⟩; exact set_dig (by rw [mul6 hxi hyk hc hdp, lo3])) | (refine ⟨_, rfl, Or.inl (congrArg (fun z => some (SV.p (PV.sl _ z))) ?_)⟩; exact set_dig (by rw [mul6 hxi hyk hc hdp, lo3])) | (refine ⟨_, rfl, Or.inr ⟨rfl, ?_⟩⟩; exact set_dig (by rw [mul6 hxi hyk hc hdp, lo3])))
    · conv => whnf
      obtain rfl : k = y.length := by omega
      have hqp : i + y.length < q.length := by omega
      refine ⟨by simp; omega, by simp; omega, ?_⟩
      conv => whnf
      refine ⟨i + y.length, (by simp), (by simp; omega), ?_⟩
      conv => whnf
      refine ⟨rfl, _, get_map hqp, rfl, Nat.le_refl _, ?_⟩
      conv => whnf
      refine ⟨by omega, by omega, ?_⟩
      conv => whnf
      have h0 : q[i + y.length] = 0 := by
        have h1 : vl o < B ^ (i + y.length) := by
          rw [hv, Nat.pow_add]
          have h2 := vl_lt (hx.take i)
          rw [List.length_take, Nat.min_eq_left (by omega)] at h2
          exact Nat.mul_lt_mul'' h2 hyl
        have h3 := vl_zero_at h1 (by omega)
        have h4 := hsame (i + y.length) (Nat.le_refl _)
        rw [List.getElem?_eq_getElem hqp, List.getElem?_eq_getElem (by omega), h3] at h4
        exact Option.some.inj h4
      have hset := vl_set (o := q) (j := i + y.length) (d := c) hqp
      rw [h0, Nat.mul_zero, Nat.add_zero, hval, hv, List.take_of_length_le (Nat.le_refl y.length)] at hset
      refine ⟨(i + 1, q.set (i + y.length) c), ⟨by omega, by simpa using hq, hdq.set hc _, ?_⟩, by show _ - _ < _ - _; omega, ?_⟩
      · rw [hset, vl_take_succ hil, hxa, Nat.add_mul, Nat.mul_assoc]
      · refine ⟨[some 0], by decide, rfl, ?_, ?_⟩
        · repeat' (first | exact trivial | exact ⟨_, rfl, rfl⟩ | exact ⟨_, rfl, Or.inl rfl⟩ | exact ⟨_, rfl, Or.inr ⟨rfl, rfl⟩⟩ | exact ⟨_, rfl, _, rfl⟩ | exact ⟨_, rfl⟩ | refine And.intro ?_ ?_ | (refine ⟨_, rfl, congrArg (fun z => some (Blk.arr _ z)) ?_⟩; exact set_dig (by rw [lo3, Nat.mod_eq_of_lt hc])) | (refine ⟨_, rfl, congrArg (fun z => some (SV.p (PV.sl _ z))) ?_⟩; exact set_dig (by rw [lo3, Nat.mod_eq_of_lt hc])) | (refine ⟨_, rfl, Or.inl (congrArg (fun z => some (SV.p (PV.sl _ z))) ?_)⟩; exact set_dig (by rw [lo3, Nat.mod_eq_of_lt hc])) | (refine ⟨_, rfl, Or.inr ⟨rfl, ?_⟩⟩; exact set_dig (by rw [lo3, Nat.mod_eq_of_lt hc])))
        · repeat' (first | exact trivial | exact ⟨_, rfl, rfl⟩ | exact ⟨_, rfl, Or.inl rfl⟩ | exact ⟨_, rfl, Or.inr ⟨rfl, rfl⟩⟩ | exact ⟨_, rfl, _, rfl⟩ | exact ⟨_, rfl⟩ | refine And.intro ?_ ?_ | (refine ⟨_, rfl, congrArg (fun z => some (Blk.arr _ z)) ?_⟩; exact set_dig (by rw [lo3, Nat.mod_eq_of_lt hc])) | (refine ⟨_, rfl, congrArg (fun z => some (SV.p (PV.sl _ z))) ?_⟩; exact set_dig (by rw [lo3, Nat.mod_eq_of_lt hc])) | (refine ⟨_, rfl, Or.inl (congrArg (fun z => some (SV.p (PV.sl _ z))) ?_)⟩; exact set_dig (by rw [lo3, Nat.mod_eq_of_lt hc])) | (refine ⟨_, rfl, Or.inr ⟨rfl, ?_⟩⟩; exact set_dig (by rw [lo3, Nat.mod_eq_of_lt hc])))
  · conv => whnf
    obtain rfl : i = x.length := by omega
    refine CallG.pure (trim256 o hd (by omega)) rfl ?_
    conv => whnf
    refine ⟨rfl, ?_⟩
    rintro _ _ rfl
    refine ⟨rfl, ?_⟩
    conv => whnf
    exact ⟨rfl, by rw [hv, List.take_of_length_le (Nat.le_refl _)]; rfl⟩
end Go.Sx.Tz
end
end

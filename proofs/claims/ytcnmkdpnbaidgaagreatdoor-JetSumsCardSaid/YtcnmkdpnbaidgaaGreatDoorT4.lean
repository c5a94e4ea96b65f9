/- Part of the proof that whatever the two series: JetSums answers true -/
import Derived.Test.YtcnmkdpnbaidgaaGreatDoorT3
import Derived.Deep.Slices
import Derived.Carry
import Derived.OpenShut
import Derived.Test.YtcnmkdpnbaidgaaGreatDoorT2
set_option linter.all false
noncomputable section
section
namespace Go.Sx
open Go.Ev Go.RowKit
variable {C : Cx} {X : Sc} {Φ Ψ : Fz} {G H : List GB} {S : SS} {M : List Blk} {tm : Tr Value} {σ σ' : St} {m : Nat}
theorem MR.grow {T : Tabs} (h : MR T Φ M G σ) (hf : Φ.le Ψ) (hs : ∀ i, i < σ.next → σ'.get i = σ.get i) (hn : σ.next ≤ σ'.next) (hnew : ∀ i o, Ψ i = some o → Φ i = none → σ.next ≤ i) : MR T Ψ M G σ' := by
  have hnone : ∀ i, i < σ.next → Φ i = none → Ψ i = none := fun i hi h0 => by
    cases hq : Ψ i with
    | none => rfl
    | some o => have := hnew i o hq h0; omega
  refine ⟨h.len, fun j b hb => ?_, h.inj, fun j x hx => ?_, fun x hx => ⟨(h.lent x hx).1, Nat.lt_of_lt_of_le (h.lent x hx).2 hn⟩, fun y hy => ?_⟩
  · obtain ⟨g, hg, r⟩ := h.blk j b hb
    refine ⟨g, hg, r.mono hf (Gle.refl G) fun x hx => hs x ?_⟩
    rcases hx with hx | hx
    · exact (h.own j x ⟨b, g, hb, hg, hx⟩).2
    · exact (h.lent x ⟨j, b, g, hb, hg, hx⟩).2
  · obtain ⟨a, b⟩ := h.own j x hx
    exact ⟨hnone x b a, Nat.lt_of_lt_of_le b hn⟩
  · obtain ⟨a, b, c, d⟩ := h.par y ((Par.congr fun j x hx => hs x (h.own j x hx).2).1 hy)
    exact ⟨hnone y d a, b, c, Nat.lt_of_lt_of_le d hn⟩
theorem no_own {j x : Nat} : ¬ Own [] [] j x := fun ⟨b, g, h, _⟩ => by simp [nth] at h
theorem no_par {y : Nat} : ¬ Par [] [] σ y := fun ⟨_, _, _, _, _, _, _, h, _⟩ => no_own h
theorem no_lent {x : Nat} : ¬ Lent [] [] x := fun ⟨j, b, g, h, _⟩ => by simp [nth] at h
theorem MR.none {T : Tabs} : MR T Φ [] [] σ := ⟨rfl, fun j b h => by simp [nth] at h, fun j k x h => absurd h no_own, fun j x h => absurd h no_own, fun x h => absurd h no_lent, fun y h => absurd h no_par⟩
theorem CallP_ok (h : SR X C.T Φ G S tm σ) {f : FuncId} {args : List SV} {ws : List Value} (ha : LVR C.T Φ G args ws) {K : SS → SV → Prop} (hx : CallP (PC C X) S f args K) :
    ∃ v w σ' Ψ G' S', K S' v ∧ C.ext f = none ∧ Evt C f ws σ w σ' ∧ SR X C.T Ψ G' S' tm σ' ∧ VR C.T Ψ G' v w ∧ Stp m Φ S.M G σ Ψ S'.M G' σ' ∧ (∀ i, i < σ.next → σ'.get i = σ.get i) := by
  obtain ⟨R, hx⟩ := hx
  obtain ⟨Ψ, S1, as, ⟨hc, hp, hk⟩, f1, f2⟩ := frzVs_ok (m := m) h ha hx
  obtain ⟨hext, hp⟩ := hp
  obtain ⟨w, σ', Ω, G', M', r, k1, k2, k3, k4, k5, k6⟩ := hp Ψ [] σ ws f1.sr.ws MR.none (f2.toClosed hc)
  obtain ⟨hr, hk⟩ := hk M' r k1
  have hsame : ∀ i, i < σ.next → σ'.get i = σ.get i := fun i hi => k2.frame i hi (fun _ => no_own) no_par
  have hnew : ∀ i o, Ω i = some o → Ψ i = none → σ.next ≤ i := fun i o a b => by
    rcases k2.newF i o a b with ⟨j, hj⟩ | hj
    · exact absurd hj no_own
    · exact hj
  refine ⟨r, w, σ', Ω, G, S1, hk, hext, k6, ⟨f1.sr.tmono k2.fz (Gle.refl G), f1.sr.mr.grow k2.fz hsame k2.next hnew, k3⟩, k5.toClosed hr, f1.st.trans ?_, hsame⟩
  have hpar : ∀ i, Par S1.M G σ' i → Par S1.M G σ i := fun i hi => (Par.congr fun j x hx => hsame x (f1.sr.mr.own j x hx).2).1 hi
  exact ⟨k2.fz, fun _ _ => rfl, k2.next, fun i hi _ _ => hsame i hi, fun i o a b => .inr (hnew i o a b), fun j i hj => .inl ⟨j, hj⟩, fun i hi => .inl (hpar i hi), fun i hi => hi, fun hm => hm⟩
theorem CallG_ok (h : SR X C.T Φ G S tm σ) (hm : m ≤ S.M.length) {f : FuncId} {args : List SV} {ws : List Value} (ha : LVR C.T Φ G args ws) {ok : Nat → Bool} {K : SS → SV → Prop} (hx : CallG (PC C X) S f args ok K) :
    ∃ v w σ' Ψ G' S', K S' v ∧ C.ext f = none ∧ Evt C f ws σ w σ' ∧ SR X C.T Ψ G' S' tm σ' ∧ VR C.T Ψ G' v w ∧ Stp m Φ S.M G σ Ψ S'.M G' σ' ∧
      (∀ y, y < σ.next → (∀ j, ok j = true → ¬ Own S.M G j y ∧ ¬ Par S.M G σ y) → σ'.get y = σ.get y) := by
  rcases hx with hx | hx
  · obtain ⟨v, w, σ', Ψ, G', S', k1, k2, k3, k4, k5, k6, k7⟩ := CallP_ok (m := m) h ha hx
    exact ⟨v, w, σ', Ψ, G', S', k1, k2, k3, k4, k5, k6, fun y hy _ => k7 y hy⟩
  · exact CallL_ok h hm ha hx
theorem gd_ok (h : SR X C.T Φ G S tm σ) {ops : List Oper} {o : Oper} {K : Bool → Prop} (hx : gd S ops o K) : ∃ b, K b ∧ wantedT ops tm o.guard = some b := by
  unfold gd at hx
  split at hx
  · rename_i hg; exact ⟨true, hx, by rw [hg]; rfl⟩
  · rename_i g want hg
    rw [hg]
    unfold wantedT
    rw [nth_eq] at hx
    split at hx
    · rename_i og hog
      split at hx
      · rename_i t ht
        split at hx
        · rename_i b hb
          obtain ⟨w, a1, a2⟩ := h.tmp t _ hb
          rw [a2.bool_inv] at a1
          exact ⟨b == want, onB_ok (K := fun b => K (b == want)) hx, by simp only [hog, ht, a1]⟩
        · rename_i hb
          obtain ⟨w, a1, a2⟩ := h.tmp t _ hb
          cases a2
          exact ⟨_, hx, by simp only [hog, ht, a1]; rfl⟩
        · exact hx.elim
      · exact hx.elim
    · exact hx.elim
theorem frc_ok {v : SV} {K : SV → Prop} (h : frc v K) : K v := by
  cases v <;> (try exact h)
  rename_i v
  cases v <;> exact h
theorem spn_ok {α : Type} : ∀ {l : List α} {K : List α → Prop}, spn l K → K l
  | [], _, h => h
  | _ :: r, _, h => spn_ok (l := r) h
theorem spnM_ok : ∀ {l : List Blk} {K : List Blk → Prop}, spnM l K → K l
  | [], _, h => h
  | .box _ :: r, _, h => spnM_ok (l := r) (spn_ok h)
  | .arr _ _ :: r, _, h => spnM_ok (l := r) h
  | .fz _ _ :: r, _, h => spnM_ok (l := r) h
  | .ro _ _ :: r, _, h => spnM_ok (l := r) h
  | .dd :: r, _, h => spnM_ok (l := r) h
theorem litN_ok : ∀ {n : Nat} {K : Nat → Prop}, litN n K → K n
  | 0, _, h => h
  | n + 1, _, h => litN_ok (n := n) h
theorem put_ok {T : Tabs} (h : SR X T Φ G S tm σ) {N : Nat} {dst : Option Nat} (hd : ∀ d, dst = some d → d < N) {v : SV} {w : Value} (hv : VR T Φ G v w) {K : SS → Prop} (hx : put S dst v K) :
    ∃ tm' S', K S' ∧ putT N tm dst w = some tm' ∧ S'.M = S.M ∧ SR X T Φ G S' tm' σ := by
  obtain ⟨t, M⟩ := S
  unfold put at hx
  split at hx
  · exact ⟨tm, _, spnM_ok hx, rfl, rfl, h⟩
  · rename_i d
    have hx := spnM_ok (frc_ok hx)
    refine ⟨tm.set d w, _, hx, ?_, rfl, ⟨fun t' v' hl => ?_, h.mr, h.ws⟩⟩
    · simp only [putT, forceV_eq]
      rw [show Nat.blt d N = true from blt_of (hd d rfl)]
      rfl
    · rw [look_put] at hl
      rw [Tr.get_set]
      split at hl
      · rename_i e; cases hl; subst e
        exact ⟨w, if_pos rfl, hv⟩
      · rename_i e
        rw [if_neg (fun q => e q.symm)]
        exact h.tmp t' v' hl
def Ebt {α : Type} (F : (FuncId → List Value → St → Option (Value × St)) → Option α) (C : Cx) (r : α) : Prop := ∃ K, ∀ k, K ≤ k → F (evFn C k) = some r
theorem isA_evL {T : Tabs} {lies : Lies} {op : Op} (h : isA op = true) : evL T lies tm σ op = none := by
  cases op <;> first | rfl | (cases h; done)
theorem Ebt.pure {α : Type} {F : (FuncId → List Value → St → Option (Value × St)) → Option α} {r : α} (h : ∀ c, F c = some r) : Ebt F C r := ⟨0, fun _ _ => h _⟩
theorem okJ_ok {ok : Nat → Bool} {v : SV} {x : Prop} (h : okJ ok v x) : x ∧ ∀ j, tj v = some j → ok j = true := by
  unfold okJ at h
  split at h
  · rename_i j hj
    split at h
    · exact ⟨h, fun k hk => by rw [hj] at hk; cases hk; assumption⟩
    · exact h.elim
  · rename_i hj
    exact ⟨h, fun k hk => by rw [hj] at hk; cases hk⟩
theorem xX_ok (hX : X.Good C.T) (h : SR X C.T Φ G S tm σ) (hm : m ≤ S.M.length) {op : Op} {ok : Nat → Bool} {K : SS → SV → Prop} (hx : xX (PC C X) X S op ok K) :
    ∃ v w σ' Ψ G' S', K S' v ∧ (∀ lies, evL C.T lies tm σ op = none) ∧ evA C.T tm op = none ∧ Ebt (fun callF => evX C callF tm σ op) C (w, σ') ∧ SR X C.T Ψ G' S' tm σ' ∧ VR C.T Ψ G' v w ∧ Stp m Φ S.M G σ Ψ S'.M G' σ' ∧
      (∀ y, y < σ.next → (∀ j, ok j = true → ¬ Own S.M G j y ∧ ¬ Par S.M G σ y) → σ'.get y = σ.get y) := by
  unfold xX at hx
  split at hx
  · rename_i t a x
    obtain ⟨va, wa, hx, a1, a2⟩ := xo_ok h hx
    obtain ⟨vx, wx, hx, b1, b2⟩ := xo_ok h hx
    split at hx
    · rename_i i hi
      obtain ⟨hx, hok⟩ := okJ_ok hx
      obtain ⟨σ', Ψ, S', k1, k2, k3, k4, k5⟩ := xstore_ok (m := m) h (hX _ _ hi) a2 b2 hx
      exact ⟨_, undef, σ', Ψ, G, S', k1, fun _ => rfl, rfl, .pure fun c => by simp only [evX, a1, b1, k2], k3, .un, k4, fun y _ p => k5 y fun j hj => p j (hok j hj)⟩
    · exact hx.elim
  · rename_i c
    split at hx
    · rename_i hc
      split at hx
      · rename_i t u s x ht hs
        obtain ⟨va, wa, hx, a1, a2⟩ := xo_ok h hx
        obtain ⟨vx, wx, hx, b1, b2⟩ := xo_ok h hx
        obtain ⟨hx, hok⟩ := okJ_ok hx
        obtain ⟨v', w', σ', G', S', k1, k2, k3, k4, k5, k6⟩ := xappend_ok hX h hm a2 b2 hx
        exact ⟨v', w', σ', Φ, G', S', k1, fun _ => by simp only [evL, evBuiltinL, hc], rfl, .pure fun cf => by simp only [evX, hc, ht, hs, opds, a1, b1, k2], k3, k4, k5, fun y hy p => k6 y hy fun j hj => p j (hok j hj)⟩
      · exact hx.elim
    · rename_i f hc
      obtain ⟨vf, wf, hx, a1, a2⟩ := xo_ok h hx
      split at hx
      · rename_i f caps
        obtain ⟨vs, ws, hx, b1, b2⟩ := xos_ok h hx
        cases a2 with
        | fn a3 =>
          rename_i cs
          obtain ⟨v, w, σ', Ψ, G', S', k1, k2, ⟨K0, k3⟩, k4, k5, k6, k7⟩ := CallG_ok (m := m) h hm (b2.append a3) hx
          refine ⟨v, w, σ', Ψ, G', S', k1, fun _ => by simp only [evL, evBuiltinL, hc], rfl, ⟨K0, fun k hk => ?_⟩, k4, k5, k6, k7⟩
          simp only [evX, hc, a1, b1, List.nil_append, evCall, k2]
          exact k3 k hk
      · exact hx.elim
    · exact hx.elim
  · exact hx.elim
theorem xOp_ok (hX : X.Good C.T) (h : SR X C.T Φ G S tm σ) (hm : m ≤ S.M.length) {N : Nat} {o : Oper} (hd : ∀ d, o.dst = some d → d < N) {K : SS → Prop} (hx : xOp (PC C X) X S o K) :
    ∃ tm' σ' Ψ G' S', K S' ∧ Ebt (fun callF => evRun C callF N tm σ o) C (tm', σ') ∧ SR X C.T Ψ G' S' tm' σ' ∧ Stp m Φ S.M G σ Ψ S'.M G' σ' := by
  unfold xOp at hx
  split at hx
  · obtain ⟨v, u, k1, k2, k3⟩ := xL_ok hX (lies := C.lies) h hx
    obtain ⟨tm', S', p1, p2, p3, p4⟩ := put_ok h (N := N) hd k3 k1
    exact ⟨tm', σ, Φ, G, S', p1, .pure fun c => by simp only [evRun, k2, p2], p4, by rw [p3]; exact Stp.refl _ _ _ _ _⟩
  · split at hx
    · rename_i hA
      obtain ⟨b, mk, S1, ob, mkv, Ψ, G', k1, k2, k3, k4, k5, k6, _⟩ := xA_ok hX h hm hx
      obtain ⟨tm', S', p1, p2, p3, p4⟩ := put_ok k4 (N := N) hd k6 (litN_ok k1)
      exact ⟨tm', σ.push ob, Ψ, G', S', p1, .pure fun c => by simp only [evRun, isA_evL hA, k2, p2], p4, by rw [p3]; exact k5⟩
    · obtain ⟨v, w, σ', Ψ, G', S1, k1, k2, k3, ⟨K0, k4⟩, k5, k6, k7, _⟩ := xX_ok hX h hm hx
      obtain ⟨tm', S', p1, p2, p3, p4⟩ := put_ok k5 (N := N) hd k6 k1
      exact ⟨tm', σ', Ψ, G', S', p1, ⟨K0, fun k hk => by simp only [evRun, k2, k3, k4 k hk, p2]⟩, p4, by rw [p3]; exact k7⟩
theorem wpOps_ok (hX : X.Good C.T) {N : Nat} {ops : List Oper} : ∀ {l : List Oper} {Φ : Fz} {G : List GB} {S : SS} {tm : Tr Value} {σ : St}, SR X C.T Φ G S tm σ → m ≤ S.M.length → (∀ o ∈ l, ∀ d, o.dst = some d → d < N) → ∀ {K : SS → Prop}, wpOps (PC C X) X ops l S K →
    ∃ tm' σ' Ψ G' S', K S' ∧ Ebt (fun callF => evOps C callF N ops l tm σ) C (tm', σ') ∧ SR X C.T Ψ G' S' tm' σ' ∧ Stp m Φ S.M G σ Ψ S'.M G' σ'
  | [], Φ, G, S, tm, σ, h, hm, hd, K, hx => ⟨tm, σ, Φ, G, S, hx, .pure fun _ => rfl, h, Stp.refl _ _ _ _ _⟩
  | o :: r, Φ, G, S, tm, σ, h, hm, hd, K, hx => by
    simp only [wpOps] at hx
    obtain ⟨b, hx, hw⟩ := gd_ok h hx
    cases b with
    | true =>
      obtain ⟨tm1, σ1, Ψ, G1, S1, k1, ⟨K1, k2⟩, k3, k4⟩ := xOp_ok hX h hm (hd o (List.mem_cons_self ..)) hx
      obtain ⟨tm2, σ2, Ω, G2, S2, q1, ⟨K2, q2⟩, q3, q4⟩ := wpOps_ok hX k3 (k4.mlen hm) (fun o' ho => hd o' (List.mem_cons_of_mem _ ho)) k1
      refine ⟨tm2, σ2, Ω, G2, S2, q1, ⟨max K1 K2, fun k hk => ?_⟩, q3, k4.trans q4⟩
      simp only [evOps, evOper, hw, k2 k (by omega)]
      exact q2 k (by omega)
    | false =>
      obtain ⟨tm1, S1, p1, p2, p3, p4⟩ := put_ok h (N := N) (hd o (List.mem_cons_self ..)) .un hx
      obtain ⟨tm2, σ2, Ω, G2, S2, q1, ⟨K2, q2⟩, q3, q4⟩ := wpOps_ok hX p4 (by rw [p3]; exact hm) (fun o' ho => hd o' (List.mem_cons_of_mem _ ho)) p1
      refine ⟨tm2, σ2, Ω, G2, S2, q1, ⟨K2, fun k hk => ?_⟩, q3, by rw [← p3]; exact q4⟩
      simp only [evOps, evOper, hw, p2]
      exact q2 k hk
end Go.Sx
end
section
namespace Go.Sx
open Go.Ev Go.RowKit
variable {C : Cx} {X : Sc} {Φ Ψ : Fz} {G H : List GB} {S : SS} {M : List Blk} {tm tm' : Tr Value} {σ σ' : St} {m : Nat}
def memT (t : Nat) : List Tmp → Bool
  | [] => false
  | k :: r => cond (Nat.beq k t) true (memT t r)
theorem memT_iff {t : Nat} : ∀ {l : List Tmp}, memT t l = true ↔ t ∈ l
  | [] => by simp [memT]
  | k :: r => by
    unfold memT
    cases h : Nat.beq k t with
    | true => simp [beq_of h]
    | false => simp [memT_iff (l := r)]; intro e; subst e; simp at h
theorem hasN_iff {t : Nat} : ∀ {l : List Nat}, hasN t l = true ↔ t ∈ l
  | [] => by simp [hasN]
  | k :: r => by
    unfold hasN
    cases h : Nat.beq k t with
    | true => simp [beq_of h]
    | false => simp [hasN_iff (l := r)]; intro e; subst e; simp at h
def touchT (ops : List Oper) (i : Nat) : List Tmp := match ops[i]? with
  | some o => readsOf ops o ++ o.dst.toList
  | none => []
def dstT (ops : List Oper) (i : Nat) : Option Tmp := match ops[i]? with
  | some o => o.dst
  | none => none
def apart (ops : List Oper) (i x : Nat) : Bool := match dstT ops x with
  | some d => !(memT d (touchT ops i))
  | none => true
def selfOk (ops : List Oper) (i : Nat) : Bool := match ops[i]? with
  | some o => match o.dst with
    | some d => !(memT d (readsOf ops o))
    | none => true
  | none => false
def allA (ops : List Oper) (i : Nat) : List Nat → Bool
  | [] => true
  | f :: r => cond (apart ops i f) (allA ops i r) false
def flOk (ops : List Oper) (ex : List Nat) : List Nat → Bool
  | [] => true
  | i :: r => selfOk ops i && !(hasN i ex) && !(hasN i r) && allA ops i r && flOk ops ex r
def pendOk (ops : List Oper) (s : Stg) (pend : List Nat) : List Nat → Bool
  | [] => true
  | i :: r => (hasN i s.fl || (hasN i pend && apart ops i s.x && allA ops i s.fl)) && pendOk ops s pend r
def stgOk (ops : List Oper) : List Stg → List Nat → List Nat → Bool
  | [], _, _ => true
  | s :: r, ex, pend => flOk ops ex s.fl && pendOk ops s pend s.pend && stgOk ops r (s.fl ++ ex) s.pend
theorem allA_iff {ops : List Oper} {i : Nat} : ∀ {l : List Nat}, allA ops i l = true → ∀ f ∈ l, apart ops i f = true
  | [], _, f, hf => by cases hf
  | k :: r, h, f, hf => by
    unfold allA at h
    cases ha : apart ops i k with
    | false => rw [ha] at h; cases h
    | true =>
      rw [ha] at h
      rcases List.mem_cons.1 hf with rfl | hf
      · exact ha
      · exact allA_iff h f hf
theorem St.ld_mono (hs : ∀ j ob, σ.get j = some ob → σ'.get j = some ob) {i o n : Nat} {vs : List Value} (h : σ.ld i o n = some vs) : σ'.ld i o n = some vs := by
  unfold St.ld at h ⊢
  split at h
  · rename_i e cs ro p k hg; rw [hs _ _ hg]; exact h
  · cases h
theorem evLoad_mono {T : Tabs} (hs : ∀ j ob, σ.get j = some ob → σ'.get j = some ob) {t : TypeId} {x v : Value} (h : evLoad T σ t x = some v) : evLoad T σ' t x = some v := by
  unfold evLoad at h ⊢
  split at h
  · cases hd : T.und t with
    | none => rw [hd] at h; exact h
    | some d =>
      cases hi : T.info t with
      | none => rw [hd, hi] at h; exact h
      | some inf =>
        rw [hd, hi] at h
        simp only at h ⊢
        cases ha : aggD d with
        | true =>
          rw [ha] at h
          simp only [cond_true] at h ⊢
          split at h
          · rename_i vs hv; rw [St.ld_mono hs hv]; exact h
          · cases h
        | false =>
          rw [ha] at h
          simp only [cond_false] at h ⊢
          split at h
          · rename_i vs hv; rw [St.ld_mono hs hv]; exact h
          · cases h
  · cases h
theorem cellElem_mono (hs : ∀ j ob, σ.get j = some ob → σ'.get j = some ob) {i : Nat} {e : TypeId} (h : cellElem (σ.get i) = some e) : cellElem (σ'.get i) = some e := by
  cases hg : σ.get i with
  | none => rw [hg] at h; cases h
  | some ob => rw [hs _ _ hg]; rw [hg] at h; exact h
theorem evSlice_mono {T : Tabs} (hs : ∀ j ob, σ.get j = some ob → σ'.get j = some ob) {t : TypeId} {x v : Value} {lo hi mx : Option Value} (h : evSlice T σ t x lo hi mx = some v) : evSlice T σ' t x lo hi mx = some v := by
  unfold evSlice at h ⊢
  split at h
  · unfold sliceVal at h ⊢
    split at h <;> (try exact h)
    rename_i i o sp ln cp
    cases hm : markE sp with
    | true => rw [hm] at h; exact h
    | false =>
      rw [hm] at h
      simp only [cond_false] at h ⊢
      unfold sliceRow at h ⊢
      split at h
      · rename_i e e' he hc
        rw [he, cellElem_mono hs hc]
        exact h
      · cases h
  · cases h
theorem evConv_mono {T : Tabs} (hs : ∀ j ob, σ.get j = some ob → σ'.get j = some ob) {s d : TypeId} {x v : Value} (h : evConv T σ s d x = some v) : evConv T σ' s d x = some v := by
  unfold evConv at h ⊢
  split at h <;> (try exact h)
  rename_i i o sp ln c
  cases hc : (!markE sp && isStr (T.und d) && isBytes T s) with
  | false => rw [hc] at h; exact h
  | true =>
    rw [hc] at h
    simp only [cond_true] at h ⊢
    split at h
    · rename_i vs hv; rw [St.ld_mono hs hv]; exact h
    · cases h
theorem evUnsafe_mono {T : Tabs} {lies : Lies} (hs : ∀ j ob, σ.get j = some ob → σ'.get j = some ob) {s d : TypeId} {x v : Value} (h : evUnsafe T lies σ s d x = some v) : evUnsafe T lies σ' s d x = some v := by
  unfold evUnsafe at h ⊢
  split at h
  · split at h
    · rename_i i o _ e cs p k ho
      have : ownRow (σ'.get i) = some (e, cs, p, k) := by
        cases hg : σ.get i with
        | none => rw [hg] at ho; cases ho
        | some ob => rw [hs _ _ hg]; rw [hg] at ho; exact ho
      rw [this]; exact h
    · cases h
  · cases h
theorem evL_mono {T : Tabs} {lies : Lies} (hs : ∀ j ob, σ.get j = some ob → σ'.get j = some ob) {op : Op} {v : Value} (h : evL T lies tm σ op = some v) : evL T lies tm σ' op = some v := by
  cases op <;> (try exact h)
  case load t x =>
    simp only [evL] at h ⊢
    split at h
    · exact evLoad_mono hs h
    · cases h
  case slice t x lo hi mx =>
    simp only [evL] at h ⊢
    split at h
    · exact evSlice_mono hs h
    · cases h
  case convert s d x =>
    simp only [evL] at h ⊢
    split at h
    · split at h
      · exact evUnsafe_mono hs h
      · exact evConv_mono hs h
    · cases h
theorem evPd_keep {N : Nat} {ops : List Oper} {ids ids' : Tr Nat} {i : Nat} (h : evPd C N ops tm σ ids i = true) (ht : ∀ t ∈ touchT ops i, tm'.get t = tm.get t) (hid : ids'.get i = ids.get i)
    (hL : ∀ o v, ops[i]? = some o → evL C.T C.lies tm' σ o.op = some v → evL C.T C.lies tm' σ' o.op = some v) (hA : ∀ o id ob r, ops[i]? = some o → ids.get i = some id → evA C.T tm o.op = some r → sameT N tm o.dst (r.2 id) = true → σ.get id = some ob → σ'.get id = some ob) : evPd C N ops tm' σ' ids' i = true := by
  unfold evPd at h ⊢
  unfold touchT at ht
  cases ho : ops[i]? with
  | none => rw [ho] at h; cases h
  | some o =>
    rw [ho] at h ht
    simp only at h ht ⊢
    have hr : ∀ t ∈ readsOf ops o, tm'.get t = tm.get t := fun t a => ht t (List.mem_append_left _ a)
    have hdst : ∀ v, sameT N tm o.dst v = sameT N tm' o.dst v := fun v => by
      cases hd : o.dst with
      | none => rfl
      | some d =>
        have : tm'.get d = tm.get d := ht d (List.mem_append_right _ (by rw [hd]; simp))
        simp only [sameT, this]
    have hw : wantedT ops tm' o.guard = wantedT ops tm o.guard := by
      cases hg : o.guard with
      | none => rfl
      | some gw =>
        obtain ⟨g, want⟩ := gw
        simp only [wantedT]
        cases hog : ops[g]? with
        | none => rfl
        | some og =>
          simp only
          cases hod : og.dst with
          | none => rfl
          | some t =>
            simp only
            rw [hr t]
            unfold readsOf
            rw [hg]
            simp only [hog, hod]
            exact List.mem_append_right _ (by simp)
    have hx : ∀ x ∈ o.op.operands, opd C.T tm' x = opd C.T tm x := operands_congr fun t a => hr t (by unfold readsOf; exact List.mem_append_left _ a)
    rw [hw]
    cases hwt : wantedT ops tm o.guard with
    | none => rw [hwt] at h; cases h
    | some b =>
      rw [hwt] at h
      cases b with
      | false => simp only at h ⊢; rw [← hdst]; exact h
      | true =>
        simp only at h ⊢
        rw [hid]
        cases hi : ids.get i with
        | none =>
          rw [hi] at h
          simp only at h ⊢
          cases hv : evL C.T C.lies tm σ o.op with
          | none => rw [hv] at h; cases h
          | some v =>
            rw [hv] at h
            have h1 : evL C.T C.lies tm' σ o.op = some v := by rw [evL_congr hx]; exact hv
            rw [hL o v ho h1]
            simp only at h ⊢
            rw [← hdst]; exact h
        | some id =>
          rw [hi] at h
          simp only at h ⊢
          rw [evA_congr hx]
          cases hq : evA C.T tm o.op with
          | none => rw [hq] at h; cases h
          | some r =>
            obtain ⟨ob, mk⟩ := r
            rw [hq] at h
            simp only [Bool.and_eq_true] at h ⊢
            cases hs : σ.get id with
            | none => rw [hs] at h; cases h.1
            | some ob' =>
              rw [hs] at h
              rw [hA o id ob' _ ho hi hq h.2 hs]
              exact ⟨h.1, by rw [← hdst]; exact h.2⟩
theorem putT_keep {N : Nat} {dst : Option Nat} {v : Value} (h : putT N tm dst v = some tm') {t : Nat} (ht : dst ≠ some t) : tm'.get t = tm.get t := by
  rw [(putT_get h).2, if_neg ht]
theorem sameT_put {N : Nat} {dst : Option Nat} {v : Value} (h : putT N tm dst v = some tm') (hv : veq v v = true) : sameT N tm' dst v = true := by
  cases dst with
  | none => rfl
  | some d =>
    obtain ⟨a, b⟩ := putT_get h
    simp only [sameT]
    rw [show Nat.blt d N = true from blt_of (a d rfl), b d, if_pos rfl]
    exact hv
theorem wpFl_ok (hX : X.Good C.T) (h : SR X C.T Φ G S tm σ) (hm : m ≤ S.M.length) {N : Nat} {ops : List Oper} {i : Nat} (hd : ∀ o, ops[i]? = some o → ∀ d, o.dst = some d → d < N) (hself : selfOk ops i = true) {ids : Tr Nat} (hids : ids.get i = none)
    {K : SS → Prop} (hx : wpFl X ops i S K) :
    ∃ tm' σ' ids' Ψ G' S', K S' ∧ evFl C N ops tm σ ids i = some (tm', σ', ids') ∧ SR X C.T Ψ G' S' tm' σ' ∧ Stp m Φ S.M G σ Ψ S'.M G' σ' ∧ evPd C N ops tm' σ' ids' i = true ∧
      (∀ t, dstT ops i ≠ some t → tm'.get t = tm.get t) ∧ (∀ j, j ≠ i → ids'.get j = ids.get j) ∧ (∀ j ob, σ.get j = some ob → σ'.get j = some ob) := by
  unfold wpFl at hx
  rw [nth_eq] at hx
  split at hx
  · rename_i o ho
    unfold selfOk at hself
    rw [ho] at hself
    simp only at hself
    obtain ⟨b, hx, hw⟩ := gd_ok h hx
    have hdst : dstT ops i = o.dst := by unfold dstT; rw [ho]
    have again : ∀ {tm'' : Tr Value} {v : Value}, putT N tm o.dst v = some tm'' → (∀ t ∈ readsOf ops o, tm''.get t = tm.get t) := fun hp t ht => putT_keep hp fun e => by
      rw [e] at hself
      simp only [Bool.not_eq_true'] at hself
      rw [memT_iff.2 ht] at hself
      cases hself
    have hwant : ∀ {tm'' : Tr Value}, (∀ t ∈ readsOf ops o, tm''.get t = tm.get t) → wantedT ops tm'' o.guard = wantedT ops tm o.guard := fun {tm''} hr => by
      cases hg : o.guard with
      | none => rfl
      | some gw =>
        obtain ⟨g, want⟩ := gw
        simp only [wantedT]
        cases hog : ops[g]? with
        | none => rfl
        | some og =>
          simp only
          cases hod : og.dst with
          | none => rfl
          | some t =>
            simp only
            rw [hr t]
            unfold readsOf
            rw [hg]
            simp only [hog, hod]
            exact List.mem_append_right _ (by simp)
    have hop : ∀ {tm'' : Tr Value}, (∀ t ∈ readsOf ops o, tm''.get t = tm.get t) → ∀ x ∈ o.op.operands, opd C.T tm'' x = opd C.T tm x := fun hr => operands_congr fun t a => hr t (by unfold readsOf; exact List.mem_append_left _ a)
    cases b with
    | false =>
      obtain ⟨tm', S', p1, p2, p3, p4⟩ := put_ok h (N := N) (hd o ho) .un hx
      have hr := again p2
      refine ⟨tm', σ, ids, Φ, G, S', p1, by simp only [evFl, ho, hw, p2], p4, by rw [p3]; exact Stp.refl _ _ _ _ _, ?_, fun t ht => putT_keep p2 (by rw [← hdst]; exact ht), fun _ _ => rfl, fun _ _ e => e⟩
      simp only [evPd, ho, hwant hr, hw]
      exact sameT_put p2 (by simp [veq, undef, veqF, allEq])
    | true =>
      simp only at hx
      split at hx
      · obtain ⟨v, u, k1, k2, k3⟩ := xL_ok hX (lies := C.lies) h hx
        cases hs : shal v with
        | false => rw [hs] at k1; exact k1.elim
        | true =>
          rw [hs] at k1
          obtain ⟨tm', S', p1, p2, p3, p4⟩ := put_ok h (N := N) (hd o ho) k3 k1
          have hr := again p2
          refine ⟨tm', σ, ids, Φ, G, S', p1, by simp only [evFl, ho, hw, k2, p2], p4, by rw [p3]; exact Stp.refl _ _ _ _ _, ?_, fun t ht => putT_keep p2 (by rw [← hdst]; exact ht), fun _ _ => rfl, fun _ _ e => e⟩
          have h1 : evL C.T C.lies tm' σ o.op = some u := by rw [evL_congr (hop hr)]; exact k2
          simp only [evPd, ho, hwant hr, hw, hids, h1]
          exact sameT_put p2 (shal_veq k3 hs)
      · split at hx
        · rename_i hA
          obtain ⟨bk, mk, S1, ob, mkv, Ψ, G', k1, k2, k3, k4, k5, k6, k7, k8⟩ := xA_ok (m := m) hX h hm hx
          cases hs : shalB bk with
          | false => rw [hs] at k1; exact k1.elim
          | true =>
            rw [hs] at k1
            obtain ⟨tm', S', p1, p2, p3, p4⟩ := put_ok k4 (N := N) (hd o ho) k6 (litN_ok k1)
            have hr := again p2
            refine ⟨tm', σ.push ob, ids.set i σ.next, Ψ, G', S', p1, by simp only [evFl, ho, hw, isA_evL hA, k2, p2], p4, by rw [p3]; exact k5, ?_, fun t ht => putT_keep p2 (by rw [← hdst]; exact ht), fun j hj => by rw [Tr.get_set, if_neg hj], fun j ob' e => ?_⟩
            · have h1 : evA C.T tm' o.op = some (ob, mkv) := by rw [evA_congr (hop hr)]; exact k2
              simp only [evPd, ho, hwant hr, hw, Tr.get_set, if_true, h1, St.get_push, k7 hs, Bool.true_and]
              exact sameT_put p2 (shal_veq k6 k8)
            · have := h.ws.dom j ob' e
              rw [St.get_push, if_neg (by omega)]; exact e
        · exact hx.elim
  · exact hx.elim
end Go.Sx
end
section
namespace Go.Sx
open Go.Ev Go.RowKit
variable {C : Cx} {X : Sc} {Φ Ψ : Fz} {G H : List GB} {S : SS} {M : List Blk} {tm tm' : Tr Value} {σ σ' : St} {m : Nat}
theorem apart_ok {ops : List Oper} {i x : Nat} (h : apart ops i x = true) : ∀ t ∈ touchT ops i, dstT ops x ≠ some t := fun t ht e => by
  unfold apart at h
  rw [e] at h
  simp only [Bool.not_eq_true'] at h
  rw [memT_iff.2 ht] at h
  cases h
theorem evPd_mono {N : Nat} {ops : List Oper} {ids ids' : Tr Nat} {i : Nat} (h : evPd C N ops tm σ ids i = true) (ht : ∀ t ∈ touchT ops i, tm'.get t = tm.get t) (hid : ids'.get i = ids.get i) (hs : ∀ j ob, σ.get j = some ob → σ'.get j = some ob) :
    evPd C N ops tm' σ' ids' i = true := evPd_keep h ht hid (fun _ _ _ e => evL_mono hs e) fun _ id ob _ _ _ _ _ e => hs id ob e
theorem flOk_cons {ops : List Oper} {ex : List Nat} {i : Nat} {r : List Nat} (h : flOk ops ex (i :: r) = true) : selfOk ops i = true ∧ i ∉ ex ∧ i ∉ r ∧ (∀ f ∈ r, apart ops i f = true) ∧ flOk ops ex r = true := by
  simp only [flOk, Bool.and_eq_true, Bool.not_eq_true'] at h
  obtain ⟨⟨⟨⟨a, b⟩, c⟩, d⟩, e⟩ := h
  refine ⟨a, fun hh => ?_, fun hh => ?_, allA_iff d, e⟩
  · rw [hasN_iff.2 hh] at b; cases b
  · rw [hasN_iff.2 hh] at c; cases c
theorem wpFls_ok (hX : X.Good C.T) {N : Nat} {ops : List Oper} (hN : ∀ (i : Nat) (o : Oper), ops[i]? = some o → ∀ d, o.dst = some d → d < N) {ex : List Nat} :
    ∀ {l : List Nat} {Φ : Fz} {G : List GB} {S : SS} {tm : Tr Value} {σ : St} {ids : Tr Nat} {dn : List Nat}, SR X C.T Φ G S tm σ → m ≤ S.M.length → flOk ops ex l = true →
      (∀ i id, ids.get i = some id → i ∈ ex ∨ i ∈ dn) → (∀ i ∈ dn, i ∉ l) → (∀ i ∈ dn, evPd C N ops tm σ ids i = true ∧ ∀ f ∈ l, apart ops i f = true) → ∀ {K : SS → Prop}, wpFls X ops l S K →
      ∃ tm' σ' ids' Ψ G' S', K S' ∧ evFls C N ops l tm σ ids = some (tm', σ', ids') ∧ SR X C.T Ψ G' S' tm' σ' ∧ Stp m Φ S.M G σ Ψ S'.M G' σ' ∧ (∀ i ∈ l ++ dn, evPd C N ops tm' σ' ids' i = true) ∧
        (∀ i id, ids'.get i = some id → i ∈ ex ∨ i ∈ l ++ dn)
  | [], Φ, G, S, tm, σ, ids, dn, h, hm, hf, hids, hdn, hpd, K, hx =>
    ⟨tm, σ, ids, Φ, G, S, hx, rfl, h, Stp.refl _ _ _ _ _, fun i hi => (hpd i (by simpa using hi)).1, fun i id e => by simpa using hids i id e⟩
  | i :: r, Φ, G, S, tm, σ, ids, dn, h, hm, hf, hids, hdn, hpd, K, hx => by
    obtain ⟨f1, f2, f3, f4, f5⟩ := flOk_cons hf
    have hi0 : ids.get i = none := by
      cases hq : ids.get i with
      | none => rfl
      | some id =>
        rcases hids i id hq with a | a
        · exact absurd a f2
        · exact absurd (List.mem_cons_self ..) (hdn i a)
    simp only [wpFls] at hx
    obtain ⟨tm1, σ1, ids1, Ψ, G1, S1, k1, k2, k3, k4, k5, k6, k7, k8⟩ := wpFl_ok hX h hm (hN i) f1 hi0 hx
    have hpd1 : ∀ j ∈ i :: dn, evPd C N ops tm1 σ1 ids1 j = true ∧ ∀ f ∈ r, apart ops j f = true := by
      intro j hj
      rcases List.mem_cons.1 hj with rfl | hj
      · exact ⟨k5, f4⟩
      · rename_i hj1
        obtain ⟨a, b⟩ := hpd j hj
        refine ⟨evPd_mono a (fun t ht => k6 t (apart_ok (b i (List.mem_cons_self ..)) t ht)) (k7 j fun e => ?_) k8, fun f hf => b f (List.mem_cons_of_mem _ hf)⟩
        exact hdn j hj (by rw [e]; exact List.mem_cons_self ..)
    obtain ⟨tm2, σ2, ids2, Ω, G2, S2, q1, q2, q3, q4, q5, q6⟩ := wpFls_ok hX hN (dn := i :: dn) k3 (k4.mlen hm) f5 (fun j id e => by
        by_cases hj : j = i
        · exact .inr (by rw [hj]; exact List.mem_cons_self ..)
        · rw [k7 j hj] at e
          rcases hids j id e with a | a
          · exact .inl a
          · exact .inr (List.mem_cons_of_mem _ a)) (fun j hj => by
        rcases List.mem_cons.1 hj with rfl | hj
        · exact f3
        · exact fun a => hdn j hj (List.mem_cons_of_mem _ a)) hpd1 k1
    refine ⟨tm2, σ2, ids2, Ω, G2, S2, q1, by simp only [evFls, k2]; exact q2, q3, k4.trans q4, fun j hj => q5 j ?_, fun j id e => ?_⟩
    · simp only [List.mem_append, List.mem_cons] at hj ⊢
      rcases hj with (a | a) | a
      · exact .inr (.inl a)
      · exact .inl a
      · exact .inr (.inr a)
    · have := q6 j id e
      simp only [List.mem_append, List.mem_cons] at this ⊢
      rcases this with a | a | a | a
      · exact .inl a
      · exact .inr (.inl (.inr a))
      · exact .inr (.inl (.inl a))
      · exact .inr (.inr a)
theorem pendOk_iff {ops : List Oper} {s : Stg} {pend : List Nat} : ∀ {l : List Nat}, pendOk ops s pend l = true → ∀ i ∈ l, i ∈ s.fl ∨ (i ∈ pend ∧ apart ops i s.x = true ∧ ∀ f ∈ s.fl, apart ops i f = true)
  | [], _, i, hi => by cases hi
  | k :: r, h, i, hi => by
    simp only [pendOk, Bool.and_eq_true, Bool.or_eq_true] at h
    rcases List.mem_cons.1 hi with rfl | hi
    · rcases h.1 with a | ⟨⟨a, b⟩, c⟩
      · exact .inl (hasN_iff.1 a)
      · exact .inr ⟨hasN_iff.1 a, b, allA_iff c⟩
    · exact pendOk_iff h.2 i hi
theorem okOf_iff {ops : List Oper} {fl : List Nat} {j : Nat} : ∀ {l : List Nat}, okOf S ops fl j l = true → ∀ i ∈ l, i ∉ fl → ∃ q, rds S ops i = some q ∧ j ∉ q
  | [], _, i, hi, _ => by cases hi
  | k :: r, h, i, hi, hn => by
    unfold okOf at h
    split at h
    · rename_i hh
      rcases List.mem_cons.1 hi with rfl | hi
      · exact absurd (hasN_iff.1 hh) hn
      · exact okOf_iff h i hi hn
    · split at h
      · rename_i q hq
        split at h
        · cases h
        · rename_i hj
          rcases List.mem_cons.1 hi with rfl | hi
          · exact ⟨q, hq, fun hh => by rw [hasN_iff.2 hh] at hj; cases hj⟩
          · exact okOf_iff h i hi hn
      · cases h
theorem quiet_keep (h : SR X C.T Φ G S tm σ) {N : Nat} {ops : List Oper} {ids : Tr Nat} {i : Nat} (hp : evPd C N ops tm σ ids i = true) {ok : Nat → Bool} (hq : ∀ j, ok j = true → ∃ q, rds S ops i = some q ∧ j ∉ q) (ht : ∀ t ∈ touchT ops i, tm'.get t = tm.get t)
    (hphi : ∀ j ob, Φ j = some ob → σ'.get j = some ob) (hmem : ∀ y, y < σ.next → (∀ j, ok j = true → ¬ Own S.M G j y ∧ ¬ Par S.M G σ y) → σ'.get y = σ.get y) : evPd C N ops tm' σ' ids i = true := by
  by_cases hany : ∃ j, ok j = true
  · obtain ⟨j0, hj0⟩ := hany
    obtain ⟨q, hq0, _⟩ := hq j0 hj0
    have hq : ∀ j, ok j = true → j ∉ q := fun j hj => by
      obtain ⟨q', a, b⟩ := hq j hj
      rw [hq0] at a; cases a; exact b
    have hown : ∀ j x, j ∈ q → Own S.M G j x → σ'.get x = σ.get x := fun j x hj ho => hmem x (h.mr.own j x ho).2 fun k hk => ⟨fun a => hq k hk (by rw [h.mr.inj k j x a ho]; exact hj), fun a => (h.mr.par x a).2.1 j ho⟩
    have hlent : ∀ x, Lent S.M G x → σ'.get x = σ.get x := fun x hl => hmem x (h.mr.lent x hl).2 fun k _ => ⟨(h.mr.lent x hl).1 k, fun a => (h.mr.par x a).2.2.1 hl⟩
    have hfz : ∀ x ob, Φ x = some ob → σ'.get x = σ.get x := fun x ob e => by rw [hphi x ob e, h.ws.phi x ob e]
    have hslice : ∀ j a n c, j ∈ q → nth G j = some (.sl (.slice (some a) n c)) → markE a.spot = false → (∃ b, nth S.M j = some b ∧ b ≠ .dd) → σ'.get a.block = σ.get a.block := by
      intro j a n c hj hg hmk ⟨b, hb, hbd⟩
      have hbr := h.mr.at_ hb hg
      cases b with
      | box c => exact hbr.elim
      | arr e rows => exact hown j _ hj ⟨_, _, hb, hg, rfl⟩
      | fz e rows =>
        have hbr : PRel C.T Φ (.sl e rows) _ := hbr
        cases hbr with
        | emp => simp [markE] at hmk
        | sl x => exact hfz _ _ x
      | ro e rows => exact hlent _ ⟨j, _, _, hb, hg, by simp [lentN, hmk]⟩
      | dd => exact absurd rfl hbd
    have hlive : ∀ {b : Option Blk} {j : Nat} {q : List Nat}, liveB b j = some q → q = [j] ∧ ∃ b', b = some b' ∧ b' ≠ .dd := by
      intro b j q hb
      unfold liveB at hb
      split at hb <;> first | (cases hb; exact ⟨rfl, _, rfl, by simp⟩) | cases hb
    unfold rds at hq0
    rw [nth_eq] at hq0
    refine evPd_keep hp ht rfl (fun o v ho he => ?_) fun o id ob r ho hid hA hsm hob => ?_
    · have hto : ∀ t ∈ tmpsOf o.op, tm'.get t = tm.get t := fun t a => ht t (by unfold touchT; rw [ho]; exact List.mem_append_left _ (by unfold readsOf; exact List.mem_append_left _ a))
      rw [ho] at hq0
      obtain ⟨dst, op, ty, pos, after, guard⟩ := o
      simp only at hq0 he hto ⊢
      cases op <;> (try exact he)
      case load t x =>
        simp only [isA] at hq0
        cases x with
        | tmp k =>
          simp only at hq0
          have hk : tm'.get k = tm.get k := hto k (by simp [tmpsOf, Op.operands])
          cases hl : look S.t k with
          | none => rw [hl] at hq0; cases hq0
          | some v0 =>
            rw [hl] at hq0
            obtain ⟨w, a, b⟩ := h.tmp k _ hl
            have fin : ∀ x o, w = .pointer (some ⟨x, o, none⟩) → σ'.get x = σ.get x → evL C.T C.lies tm' σ' (.load t (.tmp k)) = some v := by
              intro x o hw hsame
              subst hw
              simp only [evL, opd, hk, a, Option.getD_some, evLoad] at he ⊢
              have hld : ∀ (o n : Nat), σ'.ld x o n = σ.ld x o n := fun o n => by unfold St.ld; rw [hsame]
              simp only [hld]
              exact he
            cases b <;> simp only at hq0 <;> (try (cases hq0; done))
            · rename_i j b o hg
              obtain ⟨rfl, bk, hb, hbd⟩ := hlive hq0
              refine fin b o rfl (hown j b (List.mem_singleton.2 rfl) ⟨bk, _, hb, hg, ?_⟩)
              have hbr := h.mr.at_ hb hg
              cases bk with
              | box c => rfl
              | dd => exact absurd rfl hbd
              | _ => exact hbr.elim
            · rename_i e j i0 o b o0 ln cp s inf hg hmk hi
              obtain ⟨rfl, bk, hb, hbd⟩ := hlive hq0
              exact fin b _ rfl (hslice j ⟨b, o0, s⟩ ln cp (List.mem_singleton.2 rfl) hg hmk ⟨bk, hb, hbd⟩)
            · rename_i row b o e cs ro p k b1 b2
              exact fin b o rfl (hfz _ _ b1)
        | global g => cases hq0
        | const v => cases hq0
        | func f => cases hq0
      case convert s d x =>
        simp only [isA] at hq0
        cases x with
        | tmp k =>
          simp only at hq0
          cases hl : look S.t k with
          | none => rw [hl] at hq0; cases hq0
          | some v0 =>
            rw [hl] at hq0
            cases v0 <;> (try (cases hq0; done))
            rename_i v0
            cases v0 <;> (try (cases hq0; done))
            obtain ⟨w, a, b⟩ := h.tmp k _ hl
            have hk : tm'.get k = tm.get k := hto k (by simp [tmpsOf, Op.operands])
            rw [b.int_inv] at a
            simp only [evL, opd, hk, a, Option.getD_some] at he ⊢
            exact he
        | const v => cases hq0
        | global g => cases hq0
        | func f => cases hq0
      case slice t x lo hi mx =>
        simp only [isA] at hq0
        cases x with
        | tmp k =>
          simp only at hq0
          have hk : tm'.get k = tm.get k := hto k (by simp [tmpsOf, Op.operands])
          cases hl : look S.t k with
          | none => rw [hl] at hq0; cases hq0
          | some v0 =>
            rw [hl] at hq0
            obtain ⟨w, a, b⟩ := h.tmp k _ hl
            have fin : (∀ a n c, w = .slice (some a) n c → markE a.spot = false → σ'.get a.block = σ.get a.block) → evL C.T C.lies tm' σ' (.slice t (.tmp k) lo hi mx) = some v := by
              intro hsame
              have key : ∀ lo hi mx, evSlice C.T σ' t w lo hi mx = evSlice C.T σ t w lo hi mx := by
                intro lo hi mx
                unfold evSlice
                split
                · unfold sliceVal
                  cases w with
                  | slice ad n c =>
                    cases ad with
                    | none => cases n <;> cases c <;> rfl
                    | some ad =>
                      obtain ⟨i0, o0, sp⟩ := ad
                      simp only
                      cases hmk : markE sp with
                      | true => rfl
                      | false =>
                        simp only [cond_false, sliceRow]
                        rw [hsame ⟨i0, o0, sp⟩ n c rfl hmk]
                  | _ => rfl
                · rfl
              simp only [evL, opd, hk, a, Option.getD_some] at he ⊢
              rw [← he]
              cases opdOpt C.T tm' lo <;> cases opdOpt C.T tm' hi <;> cases opdOpt C.T tm' mx <;> first | rfl | exact key _ _ _
            cases b <;> (try simp only at hq0) <;> (try (cases hq0; done))
            · rename_i v1 hp1
              cases hp1 <;> (try simp only at hq0) <;> (try (cases hq0; done)) <;> (refine fin fun a n c hw hmk => ?_) <;> cases hw
              · simp [markE] at hmk
              · rename_i x1 _ _ _ _ _ _
                exact hfz _ _ ‹Φ _ = some _›
            · exact fin fun a n c hw _ => by cases hw
            · rename_i j n c a0 hg
              obtain ⟨rfl, bk, hb, hbd⟩ := hlive hq0
              refine fin fun ad n' c' hw hmk => ?_
              cases hw
              exact hslice j ad n c (List.mem_singleton.2 rfl) hg hmk ⟨bk, hb, hbd⟩
        | global g => cases hq0
        | const v => cases hq0
        | func f => cases hq0
    · rw [ho] at hq0
      simp only at hq0
      split at hq0
      · rename_i hisA
        split at hq0
        · rename_i d hd
          cases hl : look S.t d with
          | none => rw [hl] at hq0; cases hq0
          | some v0 =>
            rw [hl] at hq0
            obtain ⟨w, a, b⟩ := h.tmp d _ hl
            have hw : w = r.2 id := by
              rw [hd] at hsm
              simp only [sameT, a, Bool.and_eq_true] at hsm
              exact (veq_eq hsm.2).symm
            have hmk : (r.2 id = ptrTo id) ∨ ∃ l c, r.2 id = rowOf l c id := by
              obtain ⟨dst, op, ty, pos, after, guard⟩ := o
              simp only at hisA hA
              cases op <;> (try (cases hisA; done)) <;> simp only [evA] at hA
              · split at hA
                · cases hA; exact .inl rfl
                · cases hA
              · split at hA
                · cases hA; exact .inl rfl
                · cases hA
              · split at hA
                · split at hA
                  · cases hA; exact .inr ⟨_, _, rfl⟩
                  · cases hA
                · cases hA
              · split at hA
                · unfold evMakeSlice at hA
                  split at hA
                  · split at hA
                    · split at hA
                      · split at hA
                        · obtain ⟨_, hA⟩ := cond_inner hA
                          cases hA; exact .inr ⟨_, _, rfl⟩
                        · cases hA
                      · cases hA
                    · cases hA
                  · cases hA
                · cases hA
            cases b <;> simp only at hq0 <;> (try (cases hq0; done))
            · rename_i j b o1 hg
              split at hq0
              · rename_i c hb
                cases ho1 : Nat.beq o1 0 with
                | false => rw [ho1] at hq0; cases hq0
                | true =>
                  rw [ho1] at hq0; cases hq0
                  rcases hmk with hmk | ⟨l, c', hmk⟩
                  · rw [hmk] at hw
                    cases hw
                    rw [hown j id (List.mem_singleton.2 rfl) ⟨_, _, hb, hg, rfl⟩]
                    exact hob
                  · rw [hmk] at hw; cases hw
              · cases hq0
            · rename_i j n c a0 hg
              rcases hmk with hmk | ⟨l, c', hmk⟩
              · rw [hmk] at hw; cases hw
              · rw [hmk] at hw
                cases hw
                split at hq0
                · rename_i e rows hb
                  cases hq0
                  rw [hown j id (List.mem_singleton.2 rfl) ⟨_, _, hb, hg, rfl⟩]
                  exact hob
                · rename_i e rows hb
                  cases hq0
                  rw [hslice j ⟨id, 0, none⟩ n c (List.mem_singleton.2 rfl) hg rfl ⟨_, hb, by simp⟩]
                  exact hob
                · cases hq0
        · cases hq0
      · rename_i hisA
        obtain ⟨dst, op, ty, pos, after, guard⟩ := o
        simp only at hisA hA hq0
        cases op <;> (first | (cases hA; done) | (cases hisA; done) | (cases hq0; done) | skip)
  · refine evPd_mono hp ht rfl fun j ob e => ?_
    rw [hmem j (h.ws.dom j ob e) fun k hk => absurd ⟨k, hk⟩ hany]
    exact e
theorem evStg_nil {N : Nat} {ops : List Oper} {pend : List Nat} {ids : Tr Nat} {cf : FuncId → List Value → St → Option (Value × St)} : evStg C cf N ops [] pend tm σ ids = cond (pend.all fun i => evPd C N ops tm σ ids i) (some (tm, σ)) none := rfl
theorem evStg_cons {N : Nat} {ops : List Oper} {s : Stg} {r : List Stg} {pend : List Nat} {ids : Tr Nat} {cf : FuncId → List Value → St → Option (Value × St)} : evStg C cf N ops (s :: r) pend tm σ ids = cond (pend.all fun i => evPd C N ops tm σ ids i)
    (match ops[s.x]? with
      | none => none
      | some o => match wantedT ops tm o.guard with
        | none => none
        | some b => match cond b (evXL C cf tm σ o.op) (some (undef, σ)) with
          | none => none
          | some (v, σ1) => match putT N tm o.dst v with
            | none => none
            | some tm1 => match evFls C N ops s.fl tm1 σ1 ids with
              | some (tm2, σ2, ids2) => evStg C cf N ops r s.pend tm2 σ2 ids2
              | none => none) none := rfl
theorem wpStg_ok (hX : X.Good C.T) {N : Nat} {ops : List Oper} (hN : ∀ (i : Nat) (o : Oper), ops[i]? = some o → ∀ d, o.dst = some d → d < N) :
    ∀ {rest : List Stg} {ex pend : List Nat} {Φ : Fz} {G : List GB} {S : SS} {tm : Tr Value} {σ : St} {ids : Tr Nat}, SR X C.T Φ G S tm σ → m ≤ S.M.length → stgOk ops rest ex pend = true → (∀ i id, ids.get i = some id → i ∈ ex) → (∀ i ∈ pend, i ∈ ex) →
      (∀ i ∈ pend, evPd C N ops tm σ ids i = true) → ∀ {K : SS → Prop}, wpStg (PC C X) X ops rest S K →
      ∃ tm' σ' Ψ G' S', K S' ∧ Ebt (fun cf => evStg C cf N ops rest pend tm σ ids) C (tm', σ') ∧ SR X C.T Ψ G' S' tm' σ' ∧ Stp m Φ S.M G σ Ψ S'.M G' σ'
  | [], ex, pend, Φ, G, S, tm, σ, ids, h, hm, hst, hids, hpe, hpd, K, hx => by
    refine ⟨tm, σ, Φ, G, S, hx, .pure fun cf => ?_, h, Stp.refl _ _ _ _ _⟩
    rw [evStg_nil, List.all_eq_true.2 hpd]
    rfl
  | s :: r, ex, pend, Φ, G, S, tm, σ, ids, h, hm, hst, hids, hpe, hpd, K, hx => by
    simp only [stgOk, Bool.and_eq_true] at hst
    obtain ⟨⟨s1, s2⟩, s3⟩ := hst
    have s2 := pendOk_iff s2
    simp only [wpStg] at hx
    rw [nth_eq] at hx
    split at hx
    · rename_i o ho
      have hdst : dstT ops s.x = o.dst := by unfold dstT; rw [ho]
      obtain ⟨b, hx, hw⟩ := gd_ok h hx
      have fin : ∀ {Ψ : Fz} {G1 : List GB} {S1 : SS} {tm1 : Tr Value} {σ1 : St} {v : Value}, SR X C.T Ψ G1 S1 tm1 σ1 → Stp m Φ S.M G σ Ψ S1.M G1 σ1 → putT N tm o.dst v = some tm1 →
          Ebt (fun cf => cond b (evXL C cf tm σ o.op) (some (undef, σ))) C (v, σ1) → (∀ i ∈ s.pend, i ∉ s.fl → evPd C N ops tm1 σ1 ids i = true) → wpFls X ops s.fl S1 (fun S => wpStg (PC C X) X ops r S K) →
          ∃ tm' σ' Ψ G' S', K S' ∧ Ebt (fun cf => evStg C cf N ops (s :: r) pend tm σ ids) C (tm', σ') ∧ SR X C.T Ψ G' S' tm' σ' ∧ Stp m Φ S.M G σ Ψ S'.M G' σ' := by
        intro Ψ G1 S1 tm1 σ1 v q1 q2 q3 ⟨K1, q4⟩ q5 q6
        obtain ⟨tm2, σ2, ids2, Ω, G2, S2, r1, r2, r3, r4, r5, r6⟩ := wpFls_ok hX hN (m := m) (ex := ex) (dn := s.pend.filter fun i => !(hasN i s.fl)) (ids := ids) q1 (q2.mlen hm) s1 (fun i id e => .inl (hids i id e)) (fun i hi hf => by
            have := (List.mem_filter.1 hi).2
            rw [hasN_iff.2 hf] at this; cases this) (fun i hi => by
            obtain ⟨a, b⟩ := List.mem_filter.1 hi
            have hn : i ∉ s.fl := fun hf => by rw [hasN_iff.2 hf] at b; cases b
            refine ⟨q5 i a hn, ?_⟩
            rcases s2 i a with c | ⟨_, _, c⟩
            · exact absurd c hn
            · exact c) q6
        obtain ⟨tm3, σ3, Ω3, G3, S3, t1, ⟨K2, t2⟩, t3, t4⟩ := wpStg_ok hX hN (ex := s.fl ++ ex) (pend := s.pend) r3 (r4.mlen (q2.mlen hm)) s3 (fun i id e => by
            rcases r6 i id e with a | a
            · exact List.mem_append_right _ a
            · rcases List.mem_append.1 a with a | a
              · exact List.mem_append_left _ a
              · rcases s2 i (List.mem_filter.1 a).1 with c | ⟨c, _⟩
                · exact List.mem_append_left _ c
                · exact List.mem_append_right _ (hpe i c)) (fun i hi => by
            rcases s2 i hi with c | ⟨c, _⟩
            · exact List.mem_append_left _ c
            · exact List.mem_append_right _ (hpe i c)) (fun i hi => r5 i (by
            cases hh : hasN i s.fl with
            | true => exact List.mem_append_left _ (hasN_iff.1 hh)
            | false => exact List.mem_append_right _ (List.mem_filter.2 ⟨hi, by rw [hh]; rfl⟩))) r1
        refine ⟨tm3, σ3, Ω3, G3, S3, t1, ⟨max K1 K2, fun k hk => ?_⟩, t3, (q2.trans r4).trans t4⟩
        have e1 := q4 k (by omega)
        have e2 := t2 k (by omega)
        simp only at e1 e2
        show evStg C (evFn C k) N ops (s :: r) pend tm σ ids = _
        rw [evStg_cons, List.all_eq_true.2 hpd]
        simp only [cond_true, ho, hw, e1, q3, r2]
        exact e2
      have keepT : ∀ {tm1 : Tr Value} {v : Value}, putT N tm o.dst v = some tm1 → ∀ i ∈ s.pend, i ∉ s.fl → (∀ t ∈ touchT ops i, tm1.get t = tm.get t) := by
        intro tm1 v hp i hi hn t ht
        rcases s2 i hi with c | ⟨_, c, _⟩
        · exact absurd c hn
        · exact putT_keep hp (by rw [← hdst]; exact apart_ok c t ht)
      have inPend : ∀ i ∈ s.pend, i ∉ s.fl → evPd C N ops tm σ ids i = true := by
        intro i hi hn
        rcases s2 i hi with c | ⟨c, _⟩
        · exact absurd c hn
        · exact hpd i c
      cases b with
      | false =>
        obtain ⟨tm1, S1, p1, p2, p3, p4⟩ := put_ok h (N := N) (hN _ o ho) .un hx
        exact fin p4 (by rw [p3]; exact Stp.refl _ _ _ _ _) p2 (.pure fun _ => rfl) (fun i hi hn => evPd_mono (inPend i hi hn) (keepT p2 i hi hn) rfl fun _ _ e => e) p1
      | true =>
        simp only at hx
        split at hx
        · obtain ⟨v, u, k1, k2, k3⟩ := xL_ok hX (lies := C.lies) h hx
          obtain ⟨tm1, S1, p1, p2, p3, p4⟩ := put_ok h (N := N) (hN _ o ho) k3 k1
          exact fin p4 (by rw [p3]; exact Stp.refl _ _ _ _ _) p2 (.pure fun cf => by simp only [cond_true, evXL, k2]) (fun i hi hn => evPd_mono (inPend i hi hn) (keepT p2 i hi hn) rfl fun _ _ e => e) p1
        · obtain ⟨v, w, σ1, Ψ, G1, S1, k1, k2, k3, ⟨K0, k4⟩, k5, k6, k7, k8⟩ := xX_ok (m := m) hX h hm hx
          obtain ⟨tm1, S2, p1, p2, p3, p4⟩ := put_ok k5 (N := N) (hN _ o ho) k6 k1
          refine fin p4 (by rw [p3]; exact k7) p2 ⟨K0, fun k hk => by simp only [cond_true, evXL, k2]; exact k4 k hk⟩ (fun i hi hn => ?_) p1
          exact quiet_keep h (inPend i hi hn) (ok := fun j => okOf S ops s.fl j s.pend) (fun j hj => okOf_iff hj i hi hn) (keepT p2 i hi hn) (fun j ob e => k5.ws.phi j ob (k7.fz j ob e)) k8
    · exact hx.elim
def beqL {α : Type} (f : α → α → Bool) : List α → List α → Bool
  | [], [] => true
  | x :: r, y :: s => f x y && beqL f r s
  | _, _ => false
end Go.Sx
end
section
namespace Go.Sx
open Go.Ev Go.RowKit
variable {C : Cx} {X : Sc} {Φ Ψ : Fz} {G H : List GB} {S : SS} {M : List Blk} {tm tm' : Tr Value} {σ σ' : St} {m : Nat}
def gOf (G : List GB) (π : List (Option Nat)) : List GB := π.map fun o => match o with
  | some j => (nth G j).getD (.sl (.slice none 0 0))
  | none => .sl (.slice none 0 0)
theorem nth_map {α β : Type} (f : α → β) : ∀ (l : List α) (i : Nat), nth (l.map f) i = (nth l i).map f
  | [], i => by simp [nth]
  | x :: r, 0 => rfl
  | x :: r, i + 1 => by simp [nth, nth_map f r i]
theorem srcOk1_get {f : Nat → Option Nat} : ∀ {π : List (Option Nat)} {M : List Blk}, srcOk1 S f π M → π.length = M.length ∧ ∀ i b, nth M i = some b →
    (∃ j b', nth π i = some (some j) ∧ renB f b = some b' ∧ nth S.M j = some b') ∨ (nth π i = some none ∧ ∃ e, b = .arr e [])
  | [], [], _ => ⟨rfl, fun i b h => by simp [nth] at h⟩
  | some j :: s, b :: r, h => by
    obtain ⟨⟨b', h1, h2⟩, h3⟩ := h
    obtain ⟨a, c⟩ := srcOk1_get h3
    refine ⟨by simp [a], fun i x hx => ?_⟩
    cases i with
    | zero => simp [nth] at hx; subst hx; exact .inl ⟨j, b', rfl, h1, h2⟩
    | succ i => exact c i x hx
  | none :: s, b :: r, h => by
    obtain ⟨⟨e, h1⟩, h3⟩ := h
    obtain ⟨a, c⟩ := srcOk1_get h3
    refine ⟨by simp [a], fun i x hx => ?_⟩
    cases i with
    | zero => simp [nth] at hx; subst hx; exact .inr ⟨rfl, e, h1⟩
    | succ i => exact c i x hx
  | [], _ :: _, h => by cases h
  | some _ :: _, [], h => by cases h
  | none :: _, [], h => by cases h
theorem tmpOk_get {π : List (Option Nat)} {f : Nat → Option Nat} : ∀ {l : List (Nat × SV)}, tmpOk S π f l → ∀ t v, look l t = some v → ∃ u, look S.t t = some u ∧ (renV f v = some u ∨ (∃ j e, v = .os j ∧ nth π j = some none ∧ u = .nl e) ∨ ∃ e, v = .p (.sl e []) ∧ u = .nl e)
  | [], _, t, v, h => by simp [look] at h
  | (k, x) :: r, hx, t, v, h => by
    obtain ⟨⟨u, h1, h2⟩, h3⟩ := hx
    rw [look_put] at h
    split at h
    · rename_i e; cases h; subst e
      refine ⟨u, h1, ?_⟩
      split at h2
      · rename_i j
        split at h2
        · obtain ⟨e, rfl⟩ := h2
          exact .inr (.inl ⟨j, e, rfl, ‹_›, rfl⟩)
        · exact .inl h2
      · rcases h2 with h2 | ⟨rfl, rfl⟩
        · exact .inl h2
        · exact .inr (.inr ⟨_, rfl, rfl⟩)
      · exact .inl h2
    · exact tmpOk_get h3 t v h
theorem somes_mem {j : Nat} : ∀ {π : List (Option Nat)} {i : Nat}, nth π i = some (some j) → j ∈ somes π
  | [], i, h => by simp [nth] at h
  | some k :: r, 0, h => by simp [nth] at h; subst h; simp [somes]
  | none :: r, 0, h => by simp [nth] at h
  | some k :: r, i + 1, h => by simp only [somes]; exact List.mem_cons_of_mem _ (somes_mem (π := r) (i := i) h)
  | none :: r, i + 1, h => by simp only [somes]; exact somes_mem (π := r) (i := i) h
theorem somes_inj {j : Nat} : ∀ {π : List (Option Nat)} {i k : Nat}, (somes π).Nodup → nth π i = some (some j) → nth π k = some (some j) → i = k
  | [], i, k, _, h, _ => by simp [nth] at h
  | some x :: r, 0, 0, _, _, _ => rfl
  | some x :: r, 0, k + 1, hn, h, h' => by
    simp [nth] at h; subst h
    simp only [somes, List.nodup_cons] at hn
    exact absurd (somes_mem (π := r) (i := k) h') hn.1
  | some x :: r, i + 1, 0, hn, h, h' => by
    simp [nth] at h'; subst h'
    simp only [somes, List.nodup_cons] at hn
    exact absurd (somes_mem (π := r) (i := i) h) hn.1
  | some x :: r, i + 1, k + 1, hn, h, h' => by
    simp only [somes, List.nodup_cons] at hn
    rw [somes_inj (π := r) hn.2 h h']
  | none :: r, 0, k, _, h, _ => by simp [nth] at h
  | none :: r, i + 1, 0, _, _, h' => by simp [nth] at h'
  | none :: r, i + 1, k + 1, hn, h, h' => by
    rw [somes_inj (π := r) hn h h']
theorem keepOk_get : ∀ {n i : Nat} {π : List (Option Nat)}, keepOk n i π = true → n ≤ π.length ∧ ∀ j, j < n → nth π j = some (some (i + j))
  | 0, i, π, _ => ⟨Nat.zero_le _, fun j hj => absurd hj (Nat.not_lt_zero _)⟩
  | n + 1, i, some k :: r, h => by
    simp only [keepOk, Bool.and_eq_true] at h
    obtain ⟨a, b⟩ := keepOk_get h.2
    refine ⟨by simpa using a, fun j hj => ?_⟩
    cases j with
    | zero => simp [nth, beq_of h.1]
    | succ j => rw [show i + (j + 1) = i + 1 + j by omega]; exact b j (by omega)
  | n + 1, i, none :: r, h => by simp [keepOk] at h
  | n + 1, i, [], h => by simp [keepOk] at h
theorem Wk_ok {T : Tabs} (h : SR X T Φ G S tm σ) {S' : SS} (hw : Wk m S S') : ∃ G', SR X T Φ G' S' tm σ ∧ Stp m Φ S.M G σ Φ S'.M G' σ ∧ m ≤ S'.M.length := by
  obtain ⟨π, hn, hk, hs, ht⟩ := hw
  obtain ⟨hl, hs⟩ := srcOk1_get hs
  obtain ⟨hk1, hk2⟩ := keepOk_get hk
  have hG : ∀ i j, nth π i = some (some j) → ∀ g, nth G j = some g → nth (gOf G π) i = some g := fun i j hi g hg => by
    unfold gOf; rw [nth_map, hi]; simp [hg]
  have hG0 : ∀ i, nth π i = some none → nth (gOf G π) i = some (.sl (.slice none 0 0)) := fun i hi => by unfold gOf; rw [nth_map, hi]; rfl
  have hf : ∀ i j g, (nth π i).join = some j → nth G j = some g → nth (gOf G π) i = some g := fun i j g hi hg => by
    cases hq : nth π i with
    | none => rw [hq] at hi; cases hi
    | some o => rw [hq] at hi; cases o with
      | none => cases hi
      | some j' => cases hi; exact hG i j hq g hg
  have hown : ∀ i x, Own S'.M (gOf G π) i x → ∃ j, nth π i = some (some j) ∧ Own S.M G j x := by
    rintro i x ⟨b, g, hb, hg, ho⟩
    rcases hs i b hb with ⟨j, b', h1, h2, h3⟩ | ⟨h1, e, rfl⟩
    · obtain ⟨g', h4, _⟩ := h.mr.blk j b' h3
      rw [hG i j h1 g' h4] at hg; cases hg
      exact ⟨j, h1, b', g, h3, h4, by rw [← (renB_own h2 g).1]; exact ho⟩
    · rw [hG0 i h1] at hg; cases hg; cases ho
  have hlent : ∀ x, Lent S'.M (gOf G π) x → Lent S.M G x := by
    rintro x ⟨i, b, g, hb, hg, ho⟩
    rcases hs i b hb with ⟨j, b', h1, h2, h3⟩ | ⟨h1, e, rfl⟩
    · obtain ⟨g', h4, _⟩ := h.mr.blk j b' h3
      rw [hG i j h1 g' h4] at hg; cases hg
      exact ⟨j, b', g, h3, h4, by rw [← (renB_own h2 g).2]; exact ho⟩
    · rw [hG0 i h1] at hg; cases hg; cases ho
  have hpar : ∀ y, Par S'.M (gOf G π) σ y → Par S.M G σ y := fun y ⟨i, x, e, cs, ro, l, k, a, q⟩ => let ⟨j, _, b⟩ := hown i x a; ⟨j, x, e, cs, ro, l, k, b, q⟩
  refine ⟨gOf G π, ⟨fun t v hv => ?_, ⟨?_, fun i b hb => ?_, fun i k x a b => ?_, fun i x a => ?_, fun x a => ?_, fun y a => ?_⟩, h.ws⟩, ?_, by rw [← hl]; exact hk1⟩
  · obtain ⟨u, h1, h2⟩ := tmpOk_get ht t v hv
    obtain ⟨w, h3, h4⟩ := h.tmp t u h1
    rcases h2 with h2 | ⟨j, e, rfl, h5, rfl⟩ | ⟨e, rfl, rfl⟩
    · exact ⟨w, h3, unren hf h2 h4⟩
    · cases h4
      exact ⟨_, h3, .os (hG0 j h5)⟩
    · cases h4
      exact ⟨_, h3, .p (.nil e)⟩
  · rw [← hl]; unfold gOf; simp
  · rcases hs i b hb with ⟨j, b', h1, h2, h3⟩ | ⟨h1, e, rfl⟩
    · obtain ⟨g', h4, h5⟩ := h.mr.blk j b' h3
      exact ⟨g', hG i j h1 g' h4, unrenB hf h2 h5⟩
    · exact ⟨_, hG0 i h1, .inl ⟨rfl, rfl⟩⟩
  · obtain ⟨j, h1, h2⟩ := hown i x a
    obtain ⟨j', h3, h4⟩ := hown k x b
    have := h.mr.inj j j' x h2 h4
    subst this
    exact somes_inj hn h1 h3
  · obtain ⟨j, _, h2⟩ := hown i x a
    exact h.mr.own j x h2
  · obtain ⟨a1, a2⟩ := h.mr.lent x (hlent x a)
    exact ⟨fun i b => let ⟨j, _, h2⟩ := hown i x b; a1 j h2, a2⟩
  · obtain ⟨a1, a2, a3, a4⟩ := h.mr.par y (hpar y a)
    exact ⟨a1, fun i b => let ⟨j, _, h2⟩ := hown i y b; a2 j h2, fun b => a3 (hlent y b), a4⟩
  · refine ⟨Fz.le.refl Φ, fun j hj => ?_, Nat.le_refl _, fun _ _ _ _ => rfl, fun i o a b => (by rw [b] at a; cases a), fun i x a => ?_, fun y a => .inl (hpar y a), hlent, fun _ => by rw [← hl]; exact hk1⟩
    · have h1 := hk2 j hj
      rw [Nat.zero_add] at h1
      have hb : ∃ b, nth S'.M j = some b := by
        have : j < S'.M.length := by omega
        exact ⟨S'.M[j], by rw [nth_eq]; simp [this]⟩
      obtain ⟨b, hb⟩ := hb
      rcases hs j b hb with ⟨j', b', h2, h3, h4⟩ | ⟨h2, _⟩
      · rw [h1] at h2; cases h2
        obtain ⟨g', h5, _⟩ := h.mr.blk j b' h4
        rw [hG j j h1 g' h5, h5]
      · rw [h1] at h2; cases h2
    · obtain ⟨j, _, b⟩ := hown i x a
      exact .inl ⟨j, b⟩
def dstOk (N : Nat) : List Oper → Bool
  | [] => true
  | o :: r => (match o.dst with
    | some d => Nat.blt d N
    | none => true) && dstOk N r
def eqL : List Nat → List Nat → Bool
  | [], [] => true
  | x :: r, y :: s => Nat.beq x y && eqL r s
  | _, _ => false
def eqG : List Stg → List Stg → Bool
  | [], [] => true
  | x :: r, y :: s => Nat.beq x.x y.x && eqL x.fl y.fl && eqL x.pend y.pend && eqG r s
  | _, _ => false
def drawOk (N : Nat) (ops : List Oper) (p : Pl) : Bool :=
  let q := mkPlan ops
  planOk ops q && eqL q.fl p.fl && eqG q.rest p.rest && dstOk N ops && flOk ops [] p.fl && stgOk ops p.rest p.fl p.fl
def codeOk (N : Nat) (pl : Nat → Option Pl) : Code → Bool
  | .region id ops draw => match draw with
    | false => dstOk N ops.toList
    | true => match pl id with
      | some p => drawOk N ops.toList p
      | none => false
  | .seq a b => codeOk N pl a && codeOk N pl b
  | .cond _ a b => codeOk N pl a && codeOk N pl b
  | .block _ b => codeOk N pl b
  | .loop b => codeOk N pl b
  | _ => true
theorem dstOk_get {N : Nat} : ∀ {l : List Oper}, dstOk N l = true → ∀ o ∈ l, ∀ d, o.dst = some d → d < N
  | [], _, o, ho, _, _ => by cases ho
  | x :: r, h, o, ho, d, hd => by
    simp only [dstOk, Bool.and_eq_true] at h
    rcases List.mem_cons.1 ho with rfl | ho
    · rw [hd] at h; exact Nat.le_of_ble_eq_true h.1
    · exact dstOk_get h.2 o ho d hd
theorem eqL_eq : ∀ {a b : List Nat}, eqL a b = true → a = b
  | [], [], _ => rfl
  | x :: r, y :: s, h => by
    simp only [eqL, Bool.and_eq_true] at h
    rw [beq_of h.1, eqL_eq h.2]
  | [], _ :: _, h => by simp [eqL] at h
  | _ :: _, [], h => by simp [eqL] at h
theorem eqG_eq : ∀ {a b : List Stg}, eqG a b = true → a = b
  | [], [], _ => rfl
  | ⟨x, f, p⟩ :: r, ⟨y, g, q⟩ :: s, h => by
    simp only [eqG, Bool.and_eq_true] at h
    rw [beq_of h.1.1.1, eqL_eq h.1.1.2, eqL_eq h.1.2, eqG_eq h.2]
  | [], _ :: _, h => by simp [eqG] at h
  | _ :: _, [], h => by simp [eqG] at h
theorem draw_ok (hX : X.Good C.T) {N : Nat} {ops : List Oper} {p : Pl} (hp : drawOk N ops p = true) (h : SR X C.T Φ G S tm σ) (hm : m ≤ S.M.length) {K : SS → Prop} (hx : wpFls X ops p.fl S fun S => wpStg (PC C X) X ops p.rest S K) :
    ∃ tm' σ' Ψ G' S', K S' ∧ Ebt (fun cf => evDraw C cf N ops tm σ) C (tm', σ') ∧ SR X C.T Ψ G' S' tm' σ' ∧ Stp m Φ S.M G σ Ψ S'.M G' σ' := by
  simp only [drawOk, Bool.and_eq_true] at hp
  obtain ⟨⟨⟨⟨⟨p1, p2⟩, p3⟩, p4⟩, p5⟩, p6⟩ := hp
  have hN : ∀ (i : Nat) (o : Oper), ops[i]? = some o → ∀ d, o.dst = some d → d < N := fun i o ho => dstOk_get p4 o (List.mem_of_getElem? ho)
  obtain ⟨tm1, σ1, ids, Ψ, G1, S1, r1, r2, r3, r4, r5, r6⟩ := wpFls_ok hX hN (ex := []) (dn := []) (ids := .nil) h hm p5 (fun i id e => by rw [Tr.get_nil] at e; cases e) (fun i hi => by cases hi) (fun i hi => by cases hi) hx
  obtain ⟨tm2, σ2, Ω, G2, S2, t1, ⟨K0, t2⟩, t3, t4⟩ := wpStg_ok hX hN (ex := p.fl) (pend := p.fl) r3 (r4.mlen hm) p6 (fun i id e => by
    rcases r6 i id e with a | a
    · cases a
    · simpa using a) (fun _ h => h) (fun i hi => r5 i (by simpa using hi)) r1
  refine ⟨tm2, σ2, Ω, G2, S2, t1, ⟨K0, fun k hk => ?_⟩, t3, r4.trans t4⟩
  simp only [evDraw, p1, cond_true, eqL_eq p2, r2, eqG_eq p3]
  exact t2 k hk
theorem wpC_ok (hX : X.Good C.T) {N : Nat} {pl : Nat → Option Pl} : ∀ (c : Code) {Φ : Fz} {G : List GB} {S : SS} {tm : Tr Value} {σ : St}, codeOk N pl c = true → SR X C.T Φ G S tm σ → m ≤ S.M.length → ∀ {Q : Out → SS → Prop}, wpC (PC C X) X m pl c S Q →
    ∃ out tm' σ' Ψ G' S', Q out S' ∧ (∃ K, ∀ k, K ≤ k → evCode C (evFn C k) N k c tm σ = some (out, tm', σ')) ∧ SR X C.T Ψ G' S' tm' σ' ∧ Stp m Φ S.M G σ Ψ S'.M G' σ' ∧ m ≤ S'.M.length
  | .skip, Φ, G, S, tm, σ, hc, h, hm, Q, hx => ⟨_, tm, σ, Φ, G, S, hx, ⟨0, fun k _ => rfl⟩, h, Stp.refl _ _ _ _ _, hm⟩
  | .exit id, Φ, G, S, tm, σ, hc, h, hm, Q, hx => ⟨_, tm, σ, Φ, G, S, hx, ⟨0, fun k _ => rfl⟩, h, Stp.refl _ _ _ _ _, hm⟩
  | .ret, Φ, G, S, tm, σ, hc, h, hm, Q, hx => ⟨_, tm, σ, Φ, G, S, hx, ⟨0, fun k _ => rfl⟩, h, Stp.refl _ _ _ _ _, hm⟩
  | .region id ops draw, Φ, G, S, tm, σ, hc, h, hm, Q, hx => by
    cases draw with
    | false =>
      obtain ⟨tm', σ', Ψ, G', S', k1, ⟨K, k2⟩, k3, k4⟩ := wpOps_ok hX h hm (dstOk_get hc) hx
      exact ⟨_, tm', σ', Ψ, G', S', k1, ⟨K, fun k hk => by simp only [evCode, cond_false, k2 k hk]⟩, k3, k4, k4.mlen hm⟩
    | true =>
      simp only [wpC] at hx
      simp only [codeOk] at hc
      split at hx
      · rename_i p hp
        rw [hp] at hc
        obtain ⟨tm', σ', Ψ, G', S', k1, ⟨K, k2⟩, k3, k4⟩ := draw_ok hX hc h hm hx
        exact ⟨_, tm', σ', Ψ, G', S', k1, ⟨K, fun k hk => by simp only [evCode, cond_true, k2 k hk]⟩, k3, k4, k4.mlen hm⟩
      · exact hx.elim
  | .seq a b, Φ, G, S, tm, σ, hc, h, hm, Q, hx => by
    simp only [codeOk, Bool.and_eq_true] at hc
    obtain ⟨o, tm1, σ1, Ψ, G1, S1, k1, ⟨K1, k2⟩, k3, k4, k5⟩ := wpC_ok hX a hc.1 h hm hx
    cases o with
    | normal =>
      obtain ⟨o2, tm2, σ2, Ω, G2, S2, q1, ⟨K2, q2⟩, q3, q4, q5⟩ := wpC_ok hX b hc.2 k3 k5 k1
      exact ⟨o2, tm2, σ2, Ω, G2, S2, q1, ⟨max K1 K2, fun k hk => by simp only [evCode, k2 k (by omega)]; exact q2 k (by omega)⟩, q3, k4.trans q4, q5⟩
    | exit id => exact ⟨_, tm1, σ1, Ψ, G1, S1, k1, ⟨K1, fun k hk => by simp only [evCode, k2 k hk]⟩, k3, k4, k5⟩
    | ret => exact ⟨_, tm1, σ1, Ψ, G1, S1, k1, ⟨K1, fun k hk => by simp only [evCode, k2 k hk]⟩, k3, k4, k5⟩
  | .cond c x y, Φ, G, S, tm, σ, hc, h, hm, Q, hx => by
    simp only [codeOk, Bool.and_eq_true] at hc
    obtain ⟨v, w, hx, h2, h3⟩ := xo_ok h hx
    split at hx
    · rename_i b
      rw [h3.bool_inv] at h2
      rcases ifB_ok hx with ⟨rfl, hx⟩ | ⟨rfl, hx⟩
      · obtain ⟨o2, tm2, σ2, Ω, G2, S2, q1, ⟨K2, q2⟩, q3, q4, q5⟩ := wpC_ok hX x hc.1 h hm hx
        exact ⟨o2, tm2, σ2, Ω, G2, S2, q1, ⟨K2, fun k hk => by simp only [evCode, h2]; exact q2 k hk⟩, q3, q4, q5⟩
      · obtain ⟨o2, tm2, σ2, Ω, G2, S2, q1, ⟨K2, q2⟩, q3, q4, q5⟩ := wpC_ok hX y hc.2 h hm hx
        exact ⟨o2, tm2, σ2, Ω, G2, S2, q1, ⟨K2, fun k hk => by simp only [evCode, h2]; exact q2 k hk⟩, q3, q4, q5⟩
    · exact hx.elim
  | .block id b, Φ, G, S, tm, σ, hc, h, hm, Q, hx => by
    obtain ⟨o, tm1, σ1, Ψ, G1, S1, k1, ⟨K1, k2⟩, k3, k4, k5⟩ := wpC_ok hX b hc h hm hx
    cases o with
    | normal => exact ⟨_, tm1, σ1, Ψ, G1, S1, k1, ⟨K1, fun k hk => by simp only [evCode, k2 k hk]⟩, k3, k4, k5⟩
    | exit id' =>
      unfold blkQ at k1
      simp only at k1
      split at k1
      · rename_i hb
        exact ⟨_, tm1, σ1, Ψ, G1, S1, k1, ⟨K1, fun k hk => by simp only [evCode, k2 k hk, hb, cond_true]⟩, k3, k4, k5⟩
      · rename_i hb
        exact ⟨_, tm1, σ1, Ψ, G1, S1, k1, ⟨K1, fun k hk => by simp only [evCode, k2 k hk, hb, cond_false]⟩, k3, k4, k5⟩
    | ret => exact ⟨_, tm1, σ1, Ψ, G1, S1, k1, ⟨K1, fun k hk => by simp only [evCode, k2 k hk]⟩, k3, k4, k5⟩
  | .loop b, Φ, G, S, tm, σ, hc, h, hm, Q, hx => by
    have res : ∀ (n : Nat) {Φ : Fz} {G : List GB} {S : SS} {tm : Tr Value} {σ : St}, SR X C.T Φ G S tm σ → m ≤ S.M.length → UnrG m (wpC (PC C X) X m pl b) n S Q →
        ∃ out tm' σ' Ψ G' S', Q out S' ∧ (∃ K, ∀ k, K ≤ k → ∀ r, K ≤ r → evLoop (evCode C (evFn C k) N k b) r tm σ = some (out, tm', σ')) ∧ SR X C.T Ψ G' S' tm' σ' ∧ Stp m Φ S.M G σ Ψ S'.M G' σ' ∧ m ≤ S'.M.length := by
     intro n
     induction n with
     | succ n ih =>
      intro Φ G S tm σ h hm hx
      obtain ⟨o, tm1, σ1, Ψ, G1, S1, k1, ⟨K1, k2⟩, k3, k4, k5⟩ := wpC_ok hX b hc h hm hx
      cases o with
      | normal =>
        obtain ⟨o2, tm2, σ2, Ω, G3, S2, r1, ⟨K2, r2⟩, r3, r4, r5⟩ := ih k3 k5 k1
        refine ⟨o2, tm2, σ2, Ω, G3, S2, r1, ⟨max K1 K2 + 1, fun k hk r hr => ?_⟩, r3, k4.trans r4, r5⟩
        obtain ⟨r, rfl⟩ : ∃ r', r = r' + 1 := ⟨r - 1, by omega⟩
        simp only [evLoop, k2 k (by omega)]
        exact r2 k (by omega) r (by omega)
      | exit id =>
        refine ⟨_, tm1, σ1, Ψ, G1, S1, k1, ⟨K1 + 1, fun k hk r hr => ?_⟩, k3, k4, k5⟩
        obtain ⟨r, rfl⟩ : ∃ r', r = r' + 1 := ⟨r - 1, by omega⟩
        simp only [evLoop, k2 k (by omega)]
      | ret =>
        refine ⟨_, tm1, σ1, Ψ, G1, S1, k1, ⟨K1 + 1, fun k hk r hr => ?_⟩, k3, k4, k5⟩
        obtain ⟨r, rfl⟩ : ∃ r', r = r' + 1 := ⟨r - 1, by omega⟩
        simp only [evLoop, k2 k (by omega)]
     | zero =>
      intro Φ G S tm σ h hm hx
      obtain ⟨α, I, P, μ, a0, p0, hw, hb⟩ := hx
      have key : ∀ (n : Nat) (a : α), μ a = n → P a → ∀ {Φ : Fz} {G : List GB} {tm : Tr Value} {σ : St}, SR X C.T Φ G (I a) tm σ → m ≤ (I a).M.length →
          ∃ out tm' σ' Ψ G' S', Q out S' ∧ (∃ K, ∀ k, K ≤ k → ∀ r, K ≤ r → evLoop (evCode C (evFn C k) N k b) r tm σ = some (out, tm', σ')) ∧ SR X C.T Ψ G' S' tm' σ' ∧ Stp m Φ (I a).M G σ Ψ S'.M G' σ' ∧ m ≤ S'.M.length := by
        intro n
        induction n using Nat.strongRecOn with
        | _ n ih =>
          intro a ha pa Φ G tm σ h hm
          obtain ⟨o, tm1, σ1, Ψ, G1, S1, k1, ⟨K1, k2⟩, k3, k4, k5⟩ := wpC_ok hX b hc h hm (hb a pa)
          cases o with
          | normal =>
            obtain ⟨a', pa', hlt, hwk⟩ := k1
            obtain ⟨G2, q1, q2, q3⟩ := Wk_ok k3 hwk
            obtain ⟨o2, tm2, σ2, Ω, G3, S2, r1, ⟨K2, r2⟩, r3, r4, r5⟩ := ih (μ a') (by omega) a' rfl pa' q1 q3
            refine ⟨o2, tm2, σ2, Ω, G3, S2, r1, ⟨max K1 K2 + 1, fun k hk r hr => ?_⟩, r3, (k4.trans q2).trans r4, r5⟩
            obtain ⟨r, rfl⟩ : ∃ r', r = r' + 1 := ⟨r - 1, by omega⟩
            simp only [evLoop, k2 k (by omega)]
            exact r2 k (by omega) r (by omega)
          | exit id =>
            refine ⟨_, tm1, σ1, Ψ, G1, S1, k1, ⟨K1 + 1, fun k hk r hr => ?_⟩, k3, k4, k5⟩
            obtain ⟨r, rfl⟩ : ∃ r', r = r' + 1 := ⟨r - 1, by omega⟩
            simp only [evLoop, k2 k (by omega)]
          | ret =>
            refine ⟨_, tm1, σ1, Ψ, G1, S1, k1, ⟨K1 + 1, fun k hk r hr => ?_⟩, k3, k4, k5⟩
            obtain ⟨r, rfl⟩ : ∃ r', r = r' + 1 := ⟨r - 1, by omega⟩
            simp only [evLoop, k2 k (by omega)]
      obtain ⟨G2, q1, q2, q3⟩ := Wk_ok h hw
      obtain ⟨o2, tm2, σ2, Ω, G3, S2, r1, r2, r3, r4, r5⟩ := key (μ a0) a0 rfl p0 q1 q3
      exact ⟨o2, tm2, σ2, Ω, G3, S2, r1, r2, r3, q2.trans r4, r5⟩
    obtain ⟨n, hx⟩ := hx
    obtain ⟨o2, tm2, σ2, Ω, G3, S2, r1, ⟨K2, r2⟩, r3, r4, r5⟩ := res n h hm hx
    exact ⟨o2, tm2, σ2, Ω, G3, S2, r1, ⟨K2, fun k hk => by simp only [evCode]; exact r2 k hk k hk⟩, r3, r4, r5⟩
  | .rangeFunc _ _ _ _, _, _, _, _, _, _, _, _, _, hx => by cases hx
  | .scope _, _, _, _, _, _, _, _, _, _, hx => by cases hx
  | .label _, _, _, _, _, _, _, _, _, _, hx => by cases hx
  | .goto _, _, _, _, _, _, _, _, _, _, hx => by cases hx
  | .refuse _, _, _, _, _, _, _, _, _, _, hx => by cases hx
end Go.Sx
end
section
namespace Go.Sx
open Go.Ev Go.RowKit
variable {C : Cx} {X : Sc} {Φ Ψ : Fz} {G H : List GB} {S : SS} {M : List Blk} {tm tm' : Tr Value} {σ σ' : St} {m : Nat}
theorem xres_ok (hX : X.Good C.T) (h : SR X C.T Φ G S tm σ) : ∀ {rs : List ResultVar} {K : List SV → Prop}, xres X S rs K → ∃ l ws, K l ∧ evRes C.T tm σ rs = some ws ∧ LVR C.T Φ G l ws
  | [], K, hx => ⟨[], [], hx, rfl, .nil⟩
  | .tmp t :: r, K, hx => by
    simp only [xres] at hx
    split at hx
    · rename_i v hv
      obtain ⟨w, a, b⟩ := h.tmp t v hv
      obtain ⟨l, ws, k1, k2, k3⟩ := xres_ok hX h hx
      exact ⟨_, _, k1, by simp only [evRes, k2, a]; rfl, .cons b k3⟩
    · exact hx.elim
  | .cell c t :: r, K, hx => by
    simp only [xres] at hx
    split at hx
    · rename_i p hp
      obtain ⟨w, a, b⟩ := h.tmp c p hp
      split at hx
      · rename_i i hi
        obtain ⟨v, u, q1, q2, q3⟩ := xload_ok h (hX _ _ hi) b hx
        obtain ⟨l, ws, k1, k2, k3⟩ := xres_ok hX h q1
        exact ⟨_, _, k1, by simp only [evRes, a, Option.getD_some, q2, k2], .cons q3 k3⟩
      · exact hx.elim
    · exact hx.elim
theorem oneS_ok {T : Tabs} {l : List SV} {ws : List Value} (h : LVR T Φ G l ws) : VR T Φ G (oneS l) (oneOf ws) := by
  cases h with
  | nil => exact .tu .nil
  | cons a b => cases b with
    | nil => exact a
    | cons c d => exact .tu (.cons a (.cons c d))
def argT : Nat → List SV → List (Nat × SV)
  | _, [] => []
  | i, v :: r => (i, v) :: argT (i + 1) r
theorem argT_look : ∀ {l : List SV} {i t : Nat} {v : SV}, look (argT i l) t = some v → ∃ k, t = i + k ∧ l[k]? = some v
  | [], i, t, v, h => by simp [argT, look] at h
  | x :: r, i, t, v, h => by
    rw [argT, look_put] at h
    split at h
    · rename_i e; cases h; exact ⟨0, by omega, rfl⟩
    · obtain ⟨k, a, b⟩ := argT_look h
      exact ⟨k + 1, by omega, by simpa using b⟩
theorem LVR.get {T : Tabs} {l : List SV} {ws : List Value} (h : LVR T Φ G l ws) {i : Nat} {v : SV} (hv : l[i]? = some v) : ∃ w, ws[i]? = some w ∧ VR T Φ G v w := h.nth (by rw [nth_eq]; exact hv)
structure FnOk (C : Cx) (f : FuncId) (F : Func) (c : Code) (pl : Nat → Option Pl) (n : Nat) : Prop where
  sum : C.sum f = none
  ext : C.ext f = none
  fn : C.T.fn f = some F
  body : F.body = some c
  len : n ≤ F.ntmps
  code : codeOk F.ntmps pl c = true
theorem evFn_eq {f : FuncId} {F : Func} {c : Code} {pl : Nat → Option Pl} {n : Nat} (hf : FnOk C f F c pl n) {k : Nat} {ws : List Value} {σ σ' : St} (hl : ws.length = n) {o : Out} {tm' : Tr Value} {l : List Value} (ho : o = .normal ∨ o = .ret)
    (h : evCode C (evFn C k) F.ntmps k c (Tr.ofList ws) σ = some (o, tm', σ')) (hr : evRes C.T tm' σ' F.results.toList = some l) : evFn C (k + 1) f ws σ = some (oneOf l, σ') := by
  simp only [evFn, hf.sum, hf.fn, hf.body]
  rw [show Nat.ble ws.length F.ntmps = true from ble_of (by rw [hl]; exact hf.len)]
  simp only [cond_true, h]
  rcases ho with rfl | rfl <;> simp only [hr]
theorem SR.start (hw : WS X C.T Φ σ) (hm : MR C.T Φ M G σ) {as : List SV} {ws : List Value} (ha : LVR C.T Φ G as ws) : SR X C.T Φ G ⟨argT 0 as, M⟩ (Tr.ofList ws) σ :=
  ⟨fun t v hv => by
    obtain ⟨k, h1, h2⟩ := argT_look hv
    rw [Nat.zero_add] at h1
    subst h1
    obtain ⟨w, a, b⟩ := ha.get h2
    exact ⟨w, by rw [Tr.get_ofList]; exact a, b⟩, hm, hw⟩
theorem PC.of_wp (hX : X.Good C.T) {f : FuncId} {F : Func} {c : Code} {pl : Nat → Option Pl} {n : Nat} (hf : FnOk C f F c pl n) {M : List Blk} {as : List SV} (hn : as.length = n) {R : List Blk → SV → Prop}
    (h : wpC (PC C X) X M.length pl c ⟨argT 0 as, M⟩ (retM X M.length F.results.toList R)) : PC C X f M as R := by
  refine ⟨hf.ext, fun Φ G σ ws hw hm ha => ?_⟩
  obtain ⟨o, tm', σ', Ψ, G', S', q1, ⟨K, q2⟩, q3, q4, q5⟩ := wpC_ok hX c hf.code (SR.start hw hm ha) (Nat.le_refl _) h
  have fin : ∀ {l : List SV} {ws' : List Value}, (o = .normal ∨ o = .ret) → (∃ M' r, Wk M.length ⟨[(0, oneS l)], S'.M⟩ ⟨[(0, r)], M'⟩ ∧ R M' r) → evRes C.T tm' σ' F.results.toList = some ws' → LVR C.T Ψ G' l ws' →
      ∃ w σ' Ψ G' M' r, R M' r ∧ Stp M.length Φ M G σ Ψ M' G' σ' ∧ WS X C.T Ψ σ' ∧ MR C.T Ψ M' G' σ' ∧ VR C.T Ψ G' r w ∧ Evt C f ws σ w σ' := by
    intro l ws' ho ⟨M', r, hwk, hR⟩ hres hl
    have h1 : SR X C.T Ψ G' ⟨[(0, oneS l)], S'.M⟩ (Tr.ofList [oneOf ws']) σ' := ⟨fun t v hv => by
      rw [look_put] at hv
      split at hv
      · rename_i e; cases hv; subst e
        exact ⟨oneOf ws', by rw [Tr.get_ofList]; rfl, oneS_ok hl⟩
      · simp [look] at hv, q3.mr, q3.ws⟩
    obtain ⟨G2, k1, k2, k3⟩ := Wk_ok h1 hwk
    obtain ⟨w, a, b⟩ := k1.tmp 0 r (by rw [look_put, if_pos rfl])
    rw [Tr.get_ofList] at a
    cases a
    refine ⟨oneOf ws', σ', Ψ, G2, M', r, hR, q4.trans k2, k1.ws, k1.mr, b, K + 1, fun k hk => ?_⟩
    obtain ⟨k, rfl⟩ : ∃ k', k = k' + 1 := ⟨k - 1, by omega⟩
    exact evFn_eq hf (by rw [← ha.length, hn]) ho (q2 k (by omega)) hres
  cases o with
  | exit id => exact q1.elim
  | normal =>
    obtain ⟨l, ws', k1, k2, k3⟩ := xres_ok hX q3 q1
    exact fin (.inl rfl) k1 k2 k3
  | ret =>
    obtain ⟨l, ws', k1, k2, k3⟩ := xres_ok hX q3 q1
    exact fin (.inr rfl) k1 k2 k3
theorem PC.of_pure (hX : X.Good C.T) {f : FuncId} {F : Func} {c : Code} {pl : Nat → Option Pl} {n : Nat} (hf : FnOk C f F c pl n) {as : List SV} (hn : as.length = n) {R : SV → Prop}
    (h : wpC (PC C X) X 0 pl c ⟨argT 0 as, []⟩ (retQ X F.results.toList R)) : PC C X f [] as (fun _ r => R r) := by
  refine ⟨hf.ext, fun Φ G σ ws hw hm ha => ?_⟩
  obtain ⟨o, tm', σ', Ψ, G', S', q1, ⟨K, q2⟩, q3, q4, q5⟩ := wpC_ok hX c hf.code (SR.start hw hm ha) (Nat.zero_le _) h
  have fin : ∀ {l : List SV} {ws' : List Value}, (o = .normal ∨ o = .ret) → (frzAll S' l fun _ v => closed v = true ∧ R v) → evRes C.T tm' σ' F.results.toList = some ws' → LVR C.T Ψ G' l ws' →
      ∃ w σ' Ψ G' M' r, R r ∧ Stp 0 Φ [] G σ Ψ M' G' σ' ∧ WS X C.T Ψ σ' ∧ MR C.T Ψ M' G' σ' ∧ VR C.T Ψ G' r w ∧ Evt C f ws σ w σ' := by
    intro l ws' ho hfr hres hl
    obtain ⟨Ω, S2, cs, ⟨k1, k2⟩, k3, k4⟩ := frzVs_ok (m := 0) q3 hl hfr
    have hst := q4.trans k3.st
    refine ⟨oneOf ws', σ', Ω, [], [], _, k2, ?_, k3.sr.ws, MR.none, (oneS_ok k4).toClosed k1, K + 1, fun k hk => ?_⟩
    · exact ⟨hst.fz, fun j hj => absurd hj (Nat.not_lt_zero _), hst.next, hst.frame, hst.newF, fun j i hi => absurd hi no_own, fun i hi => absurd hi no_par, fun i hi => absurd hi no_lent, fun _ => Nat.zero_le _⟩
    · obtain ⟨k, rfl⟩ : ∃ k', k = k' + 1 := ⟨k - 1, by omega⟩
      exact evFn_eq hf (by rw [← ha.length, hn]) ho (q2 k (by omega)) hres
  cases o with
  | exit id => exact q1.elim
  | normal =>
    obtain ⟨l, ws', k1, k2, k3⟩ := xres_ok hX q3 q1
    exact fin (.inl rfl) k1 k2 k3
  | ret =>
    obtain ⟨l, ws', k1, k2, k3⟩ := xres_ok hX q3 q1
    exact fin (.inr rfl) k1 k2 k3
theorem PC.mono {f : FuncId} {M : List Blk} {as : List SV} {R R' : List Blk → SV → Prop} (h : PC C X f M as R) (hr : ∀ M r, R M r → R' M r) : PC C X f M as R' :=
  ⟨h.1, fun Φ G σ ws a b c => let ⟨w, σ', Ψ, G', M', r, k1, k2⟩ := h.2 Φ G σ ws a b c; ⟨w, σ', Ψ, G', M', r, hr _ _ k1, k2⟩⟩
end Go.Sx
end
section
namespace Go.Sx
open Go.Ev Go.RowKit
variable {C : Cx} {X : Sc} {T : Tabs} {Φ Ψ : Fz} {G H : List GB} {S : SS} {M M' : List Blk} {tm tm' : Tr Value} {σ σ' : St} {m : Nat} {A B : Nat → Prop}
inductive All2 {α β : Type} (R : α → β → Prop) : List α → List β → Prop
  | nil : All2 R [] []
  | cons {a : α} {b : β} {l : List α} {r : List β} : R a b → All2 R l r → All2 R (a :: l) (b :: r)
structure NB where
  e : TypeId
  rows : List (List PV)
  a : Option Addr
  n : Nat
  c : Nat
variable {L : List NB}
def NB.val (b : NB) : Value := .slice b.a b.n b.c
def NB.pv (b : NB) : PV := .raw b.a b.n b.c
def NB.own (b : NB) : Option Nat := match b.a with
  | some a => some a.block
  | none => none
def blank : NB := ⟨0, [], none, 0, 0⟩
structure NOk (T : Tabs) (Φ : Fz) (M : List Blk) (G : List GB) (σ : St) (A B : Nat → Prop) (L : List NB) : Prop where
  arr : ∀ (k : Nat) (b : NB), L[k]? = some b → ArrR T Φ σ b.e b.rows b.val
  inj : ∀ (k l : Nat) (b d : NB) (x : Nat), L[k]? = some b → L[l]? = some d → b.own = some x → d.own = some x → k = l
  own : ∀ (k : Nat) (b : NB) (x : Nat), L[k]? = some b → b.own = some x → A x ∧ x < σ.next ∧ Φ x = none ∧ (∀ j, ¬ Own M G j x) ∧ ¬ Lent M G x ∧ ¬ Par M G σ x
  par : ∀ (k : Nat) (b : NB) (x : Nat) (e : TypeId) (cs : List Value) (ro l : Bool) (y : Nat) (kd : Option Nat), L[k]? = some b → b.own = some x → σ.get x = some (.cells e cs ro l (some y) kd) → B y ∧ y < σ.next ∧ Φ y = none ∧ (∀ j, ¬ Own M G j y) ∧ ¬ Lent M G y ∧ ∀ (l : Nat) (d : NB), L[l]? = some d → d.own ≠ some y
theorem NOk.nil : NOk T Φ M G σ A B [] := ⟨fun k b h => by simp at h, fun k l b d x h => by simp at h, fun k b x h => by simp at h, fun k b x e cs ro l y kd h => by simp at h⟩
theorem arr_own {T : Tabs} {b : NB} (h : ArrR T Φ σ b.e b.rows b.val) (hs : ∀ x, b.own = some x → σ'.get x = σ.get x) (hf : Φ.le Ψ) : ArrR T Ψ σ' b.e b.rows b.val := by
  rcases h with h | ⟨i, s, c, cs, p, h1, h2, h3, h4, h5⟩
  · exact .inl h
  · have ha : b.a = some ⟨i, 0, s⟩ := by unfold NB.val at h1; injection h1
    have ho : b.own = some i := by unfold NB.own; rw [ha]
    exact .inr ⟨i, s, c, cs, p, h1, h2, h3, by rw [hs i ho]; exact h4, h5.mono hf⟩
theorem NOk.keep (h : NOk T Φ M G σ A B L) {G' : List GB} (s : Stp m Φ M G σ Ψ M' G' σ') : NOk T Ψ M' G' σ' A B L := by
  have hg : ∀ (k : Nat) (b : NB) (x : Nat), L[k]? = some b → b.own = some x → σ'.get x = σ.get x := fun k b x hk hx => by
    obtain ⟨_, a, _, b, _, c⟩ := h.own k b x hk hx
    exact s.frame x a b c
  have off : ∀ x, x < σ.next → Φ x = none → (∀ j, ¬ Own M G j x) → ¬ Lent M G x → Ψ x = none ∧ (∀ j, ¬ Own M' G' j x) ∧ ¬ Lent M' G' x := fun x a b c d => by
    refine ⟨?_, fun j q => ?_, fun q => d (s.newL x q)⟩
    · cases hq : Ψ x with
      | none => rfl
      | some o =>
        rcases s.newF x o hq b with ⟨j, q⟩ | q
        · exact absurd q (c j)
        · omega
    · rcases s.newO j x q with ⟨j', q⟩ | q
      · exact c j' q
      · omega
  refine ⟨fun k b hk => arr_own (h.arr k b hk) (fun x hx => hg k b x hk hx) s.fz, h.inj, fun k b x hk hx => ?_, fun k b x e cs ro l y kd hk hx hy => ?_⟩
  · obtain ⟨a1, a2, a3, a4, a5, a6⟩ := h.own k b x hk hx
    obtain ⟨b1, b2, b3⟩ := off x a2 a3 a4 a5
    refine ⟨a1, Nat.lt_of_lt_of_le a2 s.next, b1, b2, b3, fun q => ?_⟩
    rcases s.newP x q with q | ⟨j, q⟩ | q
    · exact a6 q
    · exact a4 j q
    · omega
  · rw [hg k b x hk hx] at hy
    obtain ⟨a1, a2, a3, a4, a5, a6⟩ := h.par k b x e cs ro l y kd hk hx hy
    obtain ⟨b1, b2, b3⟩ := off y a2 a3 a4 a5
    exact ⟨a1, Nat.lt_of_lt_of_le a2 s.next, b1, b2, b3, a6⟩
theorem set_get {k l : Nat} {b d : NB} (h : (L.set k b)[l]? = some d) : (l = k ∧ d = b) ∨ (l ≠ k ∧ L[l]? = some d) := by
  rw [List.getElem?_set] at h
  by_cases e : k = l
  · rw [if_pos e] at h
    split at h
    · cases h; exact .inl ⟨e.symm, rfl⟩
    · cases h
  · rw [if_neg e] at h
    exact .inr ⟨fun q => e q.symm, h⟩
theorem blank_own {x : Nat} : blank.own ≠ some x := fun h => by cases h
theorem NOk.out (h : NOk T Φ M G σ A B L) (k : Nat) : NOk T Φ M G σ A B (L.set k blank) := by
  have hs : ∀ (l : Nat) (d : NB) (x : Nat), (L.set k blank)[l]? = some d → d.own = some x → L[l]? = some d := fun l d x hl hx => by
    rcases set_get hl with ⟨_, rfl⟩ | ⟨_, q⟩
    · exact absurd hx blank_own
    · exact q
  refine ⟨fun l b hl => ?_, fun l l' b d x a b' c d' => h.inj l l' b d x (hs _ _ _ a c) (hs _ _ _ b' d') c d', fun l b x a c => h.own l b x (hs _ _ _ a c) c, fun l b x e cs ro lv y kd a c q => ?_⟩
  · rcases set_get hl with ⟨_, rfl⟩ | ⟨_, q⟩
    · exact .inl ⟨rfl, rfl⟩
    · exact h.arr l b q
  · obtain ⟨a1, a2, a3, a4, a5, a6⟩ := h.par l b x e cs ro lv y kd (hs _ _ _ a c) c q
    exact ⟨a1, a2, a3, a4, a5, fun l d hl hd => a6 l d (hs _ _ _ hl hd) hd⟩
theorem NOk.more (h : NOk T Φ M G σ A B L) : NOk T Φ M G σ A B (L ++ [blank]) := by
  have hs : ∀ (l : Nat) (d : NB), (L ++ [blank])[l]? = some d → d = blank ∨ L[l]? = some d := fun l d hl => by
    rw [List.getElem?_append] at hl
    split at hl
    · exact .inr hl
    · have := List.mem_of_getElem? hl
      simp at this
      exact .inl this
  have ho : ∀ (l : Nat) (d : NB) (x : Nat), (L ++ [blank])[l]? = some d → d.own = some x → L[l]? = some d := fun l d x hl hx => by
    rcases hs l d hl with rfl | q
    · exact absurd hx blank_own
    · exact q
  refine ⟨fun l b hl => ?_, fun l l' b d x a b' c d' => h.inj l l' b d x (ho _ _ _ a c) (ho _ _ _ b' d') c d', fun l b x a c => h.own l b x (ho _ _ _ a c) c, fun l b x e cs ro lv y kd a c q => ?_⟩
  · rcases hs l b hl with rfl | q
    · exact .inl ⟨rfl, rfl⟩
    · exact h.arr l b q
  · obtain ⟨a1, a2, a3, a4, a5, a6⟩ := h.par l b x e cs ro lv y kd (ho _ _ _ a c) c q
    exact ⟨a1, a2, a3, a4, a5, fun l d hl hd => a6 l d (ho _ _ _ hl hd) hd⟩
theorem NOk.tail {b : NB} (h : NOk T Φ M G σ A B (b :: L)) : NOk T Φ M G σ A B L := by
  refine ⟨fun k d hk => h.arr (k + 1) d (by simpa using hk), fun k l b' d x a c e f => ?_, fun k d x hk => h.own (k + 1) d x (by simpa using hk), fun k d x e cs ro lv y kd hk hx hy => ?_⟩
  · have := h.inj (k + 1) (l + 1) b' d x (by simpa using a) (by simpa using c) e f
    omega
  · obtain ⟨a1, a2, a3, a4, a5, a6⟩ := h.par (k + 1) d x e cs ro lv y kd (by simpa using hk) hx hy
    exact ⟨a1, a2, a3, a4, a5, fun l d hl => a6 (l + 1) d (by simpa using hl)⟩
theorem arr_lent {e : TypeId} {rows : List (List PV)} (g : GB) : lentN (.arr e rows) g = none := by cases g <;> rfl
theorem nb_ownN {b : NB} : ownN (.arr b.e b.rows) (.sl b.val) = b.own := by
  unfold NB.val NB.own
  cases b.a <;> rfl
theorem NOk.take (h : NOk T Φ M G σ A B L) (hm : MR T Φ M G σ) {k : Nat} {b : NB} (hk : L[k]? = some b) :
    MR T Φ (snoc M (.arr b.e b.rows)) (snoc G (.sl b.val)) σ ∧ NOk T Φ (snoc M (.arr b.e b.rows)) (snoc G (.sl b.val)) σ A B (L.set k blank) ∧
    (∀ j x, Own (snoc M (.arr b.e b.rows)) (snoc G (.sl b.val)) j x → Own M G j x ∨ A x) ∧
    (∀ y, Par (snoc M (.arr b.e b.rows)) (snoc G (.sl b.val)) σ y → Par M G σ y ∨ B y) ∧
    (∀ x, Lent (snoc M (.arr b.e b.rows)) (snoc G (.sl b.val)) x → Lent M G x) := by
  have hown : ∀ {j x}, Own (snoc M (.arr b.e b.rows)) (snoc G (.sl b.val)) j x → Own M G j x ∨ b.own = some x := fun q => by
    rcases own_snoc hm.len q with q | ⟨_, q⟩
    · exact .inl q
    · rw [nb_ownN] at q; exact .inr q
  have hlent : ∀ {x}, Lent (snoc M (.arr b.e b.rows)) (snoc G (.sl b.val)) x → Lent M G x := fun q => lent_snoc hm.len arr_lent q
  have hpar : ∀ {y}, Par (snoc M (.arr b.e b.rows)) (snoc G (.sl b.val)) σ y → Par M G σ y ∨ ∃ x e cs ro l kd, b.own = some x ∧ σ.get x = some (.cells e cs ro l (some y) kd) := fun ⟨j, x, e, cs, ro, l, kd, q1, q2⟩ => by
    rcases hown q1 with q | q
    · exact .inl ⟨j, x, e, cs, ro, l, kd, q, q2⟩
    · exact .inr ⟨x, e, cs, ro, l, kd, q, q2⟩
  have h0 := h.out k
  have hne : ∀ {l : Nat} {d : NB} {x : Nat}, (L.set k blank)[l]? = some d → d.own = some x → b.own ≠ some x ∧ L[l]? = some d := fun {l d x} hl hx => by
    rcases set_get hl with ⟨_, rfl⟩ | ⟨hlk, q⟩
    · exact absurd hx blank_own
    · exact ⟨fun q' => hlk (h.inj l k d b x q hk hx q'), q⟩
  refine ⟨?_, ⟨fun l d hl => h0.arr l d hl, h0.inj, fun l d x hl hx => ?_, fun l d x e cs ro lv y kd hl hx hy => ?_⟩, fun j x q => ?_, fun y q => ?_, fun x q => hlent q⟩
  · refine hm.add (b := .arr b.e b.rows) (g := .sl b.val) (h.arr k b hk) arr_lent fun x hx => ?_
    rw [nb_ownN] at hx
    obtain ⟨a1, a2, a3, a4, a5, a6⟩ := h.own k b x hk hx
    refine ⟨a3, a2, a4, a5, a6, fun e cs ro l y kd hy => ?_⟩
    obtain ⟨b1, b2, b3, b4, b5, b6⟩ := h.par k b x e cs ro l y kd hk hx hy
    exact ⟨b3, b4, b5, fun q => b6 k b hk (q ▸ hx), b2⟩
  · obtain ⟨hn, q⟩ := hne hl hx
    obtain ⟨a1, a2, a3, a4, a5, a6⟩ := h.own l d x q hx
    refine ⟨a1, a2, a3, fun j r => ?_, fun r => a5 (hlent r), fun r => ?_⟩
    · rcases hown r with r | r
      · exact a4 j r
      · exact hn r
    · rcases hpar r with r | ⟨x', e, cs, ro, lv, kd, r1, r2⟩
      · exact a6 r
      · exact (h.par k b x' e cs ro lv x kd hk r1 r2).2.2.2.2.2 l d q hx
  · obtain ⟨hn, q⟩ := hne hl hx
    obtain ⟨a1, a2, a3, a4, a5, a6⟩ := h.par l d x e cs ro lv y kd q hx hy
    refine ⟨a1, a2, a3, fun j r => ?_, fun r => a5 (hlent r), fun l' d' hl' hd' => a6 l' d' (hne hl' hd').2 hd'⟩
    rcases hown r with r | r
    · exact a4 j r
    · exact a6 k b hk r
  · rcases hown q with q | q
    · exact .inl q
    · exact .inr (h.own k b x hk q).1
  · rcases hpar q with q | ⟨x, e, cs, ro, lv, kd, r1, r2⟩
    · exact .inl q
    · exact .inr (h.par k b x e cs ro lv y kd hk r1 r2).1
theorem NOk.give (h : NOk T Φ M G σ A B L) (hm : MR T Φ M G σ) {j k : Nat} {b : NB} (hj : nth M j = some (.arr b.e b.rows)) (hg : nth G j = some (.sl b.val)) (hk : ∀ (d : NB) (x : Nat), L[k]? = some d → d.own ≠ some x)
    (hA : ∀ x, Own M G j x → A x) (hB : ∀ y, Par M G σ y → B y) : NOk T Φ (setAt M j .dd) G σ A B (L.set k b) := by
  have hlent : ∀ {x}, Lent (setAt M j .dd) G x → Lent M G x := fun q => lent_set (fun g => by cases g <;> rfl) q
  have hbo : ∀ {x}, b.own = some x → Own M G j x := fun q => ⟨_, _, hj, hg, by rw [nb_ownN]; exact q⟩
  refine ⟨fun l d hl => ?_, fun l l' d d' x a c e f => ?_, fun l d x hl hx => ?_, fun l d x e cs ro lv y kd hl hx hy => ?_⟩
  · rcases set_get hl with ⟨_, rfl⟩ | ⟨_, q⟩
    · exact hm.at_ hj hg
    · exact h.arr l d q
  · rcases set_get a with ⟨rfl, rfl⟩ | ⟨_, q⟩
    · rcases set_get c with ⟨rfl, rfl⟩ | ⟨_, q'⟩
      · rfl
      · exact absurd (hbo e) ((h.own l' d' x q' f).2.2.2.1 j)
    · rcases set_get c with ⟨rfl, rfl⟩ | ⟨_, q'⟩
      · exact absurd (hbo f) ((h.own l d x q e).2.2.2.1 j)
      · exact h.inj l l' d d' x q q' e f
  · rcases set_get hl with ⟨_, rfl⟩ | ⟨_, q⟩
    · have ho := hbo hx
      obtain ⟨a1, a2⟩ := hm.own j x ho
      refine ⟨hA x ho, a2, a1, fun j' r => ?_, fun r => (hm.lent x (hlent r)).1 j ho, fun r => (hm.par x (par_dd r)).2.1 j ho⟩
      obtain ⟨r1, r2⟩ := own_dd r
      exact r1 (hm.inj _ _ x r2 ho)
    · obtain ⟨a1, a2, a3, a4, a5, a6⟩ := h.own l d x q hx
      exact ⟨a1, a2, a3, fun j' r => a4 j' (own_dd r).2, fun r => a5 (hlent r), fun r => a6 (par_dd r)⟩
  · rcases set_get hl with ⟨_, rfl⟩ | ⟨_, q⟩
    · have hp : Par M G σ y := ⟨j, x, e, cs, ro, lv, kd, hbo hx, hy⟩
      obtain ⟨a1, a2, a3, a4⟩ := hm.par y hp
      refine ⟨hB y hp, a4, a1, fun j' r => a2 j' (own_dd r).2, fun r => a3 (hlent r), fun l' d' hl' hd' => ?_⟩
      rcases set_get hl' with ⟨_, rfl⟩ | ⟨_, q'⟩
      · exact a2 j (hbo hd')
      · exact (h.own l' d' y q' hd').2.2.2.2.2 hp
    · obtain ⟨a1, a2, a3, a4, a5, a6⟩ := h.par l d x e cs ro lv y kd q hx hy
      refine ⟨a1, a2, a3, fun j' r => a4 j' (own_dd r).2, fun r => a5 (hlent r), fun l' d' hl' hd' => ?_⟩
      rcases set_get hl' with ⟨_, rfl⟩ | ⟨_, q'⟩
      · exact a4 j (hbo hd')
      · exact a6 l' d' q' hd'
theorem own_re {b b' : Blk} {j k x : Nat} (hj : nth M j = some b) (ho : ∀ g, ownN b' g = ownN b g) (h : Own (setAt M j b') G k x) : Own M G k x := by
  rcases own_set h with ⟨_, h⟩ | ⟨rfl, g, h1, h2⟩
  · exact h
  · exact ⟨b, g, hj, h1, by rw [← ho]; exact h2⟩
theorem lent_re {b b' : Blk} {j x : Nat} (hj : nth M j = some b) (hl : ∀ g, lentN b' g = lentN b g) (h : Lent (setAt M j b') G x) : Lent M G x := by
  obtain ⟨k, c, g, hb, hg, ho⟩ := h
  rw [nth_set] at hb
  split at hb
  · rename_i hk
    cases hb
    exact ⟨k, b, g, hk.1 ▸ hj, hg, by rw [← hl]; exact ho⟩
  · exact ⟨k, c, g, hb, hg, ho⟩
theorem MR.re (h : MR T Φ M G σ) {b b' : Blk} {j : Nat} (hj : nth M j = some b) (ho : ∀ g, ownN b' g = ownN b g) (hl : ∀ g, lentN b' g = lentN b g) (hb : ∀ g, nth G j = some g → BR T Φ G σ b g → BR T Φ G σ b' g) :
    MR T Φ (setAt M j b') G σ ∧ Stp m Φ M G σ Φ (setAt M j b') G σ := by
  have hO : ∀ {k x}, Own (setAt M j b') G k x → Own M G k x := fun q => own_re hj ho q
  have hL : ∀ {x}, Lent (setAt M j b') G x → Lent M G x := fun q => lent_re hj hl q
  have hP : ∀ {y}, Par (setAt M j b') G σ y → Par M G σ y := fun ⟨k, x, e, cs, ro, l, kd, q1, q2⟩ => ⟨k, x, e, cs, ro, l, kd, hO q1, q2⟩
  refine ⟨⟨by rw [setAt_eq]; simpa using h.len, fun k c hc => ?_, fun k k' x a b => h.inj _ _ x (hO a) (hO b), fun k x a => h.own k x (hO a), fun x hx => ?_, fun y hy => ?_⟩, ?_⟩
  · rw [nth_set] at hc
    split at hc
    · rename_i hk
      cases hc
      obtain ⟨g, a, r⟩ := h.blk j b hj
      exact ⟨g, hk.1 ▸ a, hb g a r⟩
    · exact h.blk k c hc
  · exact ⟨fun k a => (h.lent x (hL hx)).1 k (hO a), (h.lent x (hL hx)).2⟩
  · obtain ⟨a, b, c, d⟩ := h.par y (hP hy)
    exact ⟨a, fun k q => b k (hO q), fun q => c (hL q), d⟩
  · exact ⟨Fz.le.refl Φ, fun _ _ => rfl, Nat.le_refl _, fun _ _ _ _ => rfl, fun i o a b => (by rw [b] at a; cases a), fun j i hi => .inl ⟨j, hO hi⟩, fun i hi => .inl (hP hi), fun i hi => hL hi, fun hm => by rw [setAt_eq]; simpa using hm⟩
structure Beg where
  Φ : Fz
  M : List Blk
  G : List GB
  σ : St
structure NS (X : Sc) (T : Tabs) (m : Nat) (b : Beg) (Φ : Fz) (G : List GB) (S : SS) (tm : Tr Value) (σ : St) (L : List NB) : Prop where
  sr : SR X T Φ G S tm σ
  nok : NOk T Φ S.M G σ (fun x => (∃ j, Own b.M b.G j x) ∨ b.σ.next ≤ x) (fun y => Par b.M b.G b.σ y ∨ (∃ j, Own b.M b.G j y) ∨ b.σ.next ≤ y) L
  st : Stp m b.Φ b.M b.G b.σ Φ S.M G σ
  len : m ≤ S.M.length
structure Se where
  C : Cx
  X : Sc
  N : Nat
  pl : Nat → Option Pl
  m : Nat
  b : Beg
def TN (e : Se) (c : Code) (S : SS) (L : List NB) (Q : Out → SS → List NB → Prop) : Prop :=
  ∀ Φ G tm σ, NS e.X e.C.T e.m e.b Φ G S tm σ L → ∃ out tm' σ' Ψ G' S' L', Q out S' L' ∧ (∃ K, ∀ k, K ≤ k → evCode e.C (evFn e.C k) e.N k c tm σ = some (out, tm', σ')) ∧ NS e.X e.C.T e.m e.b Ψ G' S' tm' σ' L'
def ON (e : Se) (ops l : List Oper) (S : SS) (L : List NB) (Q : SS → List NB → Prop) : Prop :=
  ∀ Φ G tm σ, NS e.X e.C.T e.m e.b Φ G S tm σ L → ∃ tm' σ' Ψ G' S' L', Q S' L' ∧ (∃ K, ∀ k, K ≤ k → evOps e.C (evFn e.C k) e.N ops l tm σ = some (tm', σ')) ∧ NS e.X e.C.T e.m e.b Ψ G' S' tm' σ' L'
theorem Stp.less {m' : Nat} {M' : List Blk} {G' : List GB} (h : Stp m' Φ M G σ Ψ M' G' σ') (hm : m ≤ m') (hm' : m' ≤ M.length) : Stp m Φ M G σ Ψ M' G' σ' :=
  ⟨h.fz, fun j hj => h.gh j (by omega), h.next, h.frame, h.newF, h.newO, h.newP, h.newL, fun _ => Nat.le_trans hm (h.mlen hm')⟩
theorem NS.step {b : Beg} (h : NS X T m b Φ G S tm σ L) {G' : List GB} {S' : SS} (hs : SR X T Ψ G' S' tm' σ') (st : Stp m Φ S.M G σ Ψ S'.M G' σ') : NS X T m b Ψ G' S' tm' σ' L :=
  ⟨hs, h.nok.keep st, h.st.trans st, st.mlen h.len⟩
theorem NS.lift (hX : X.Good C.T) {N : Nat} {pl : Nat → Option Pl} {c : Code} (hc : codeOk N pl c = true) {b : Beg} (h : NS X C.T m b Φ G S tm σ L) {m' : Nat} (hm : m ≤ m') (hm' : m' ≤ S.M.length) {Q : Out → SS → Prop}
    (hx : wpC (PC C X) X m' pl c S Q) : ∃ out tm' σ' Ψ G' S', Q out S' ∧ (∃ K, ∀ k, K ≤ k → evCode C (evFn C k) N k c tm σ = some (out, tm', σ')) ∧ NS X C.T m b Ψ G' S' tm' σ' L ∧ (∀ j, j < m' → nth G' j = nth G j) ∧ m' ≤ S'.M.length := by
  obtain ⟨out, tm', σ', Ψ, G', S', k1, k2, k3, k4, k5⟩ := wpC_ok hX c hc h.sr hm' hx
  exact ⟨out, tm', σ', Ψ, G', S', k1, k2, h.step k3 (k4.less hm hm'), k4.gh, k5⟩
section
variable {e : Se} {Q : Out → SS → List NB → Prop}
theorem TN.lift (hX : e.X.Good e.C.T) {c : Code} (hc : codeOk e.N e.pl c = true) (hx : wpC (PC e.C e.X) e.X e.m e.pl c S fun o S' => Q o S' L) : TN e c S L Q := by
  intro Φ G tm σ h
  obtain ⟨out, tm', σ', Ψ, G', S', k1, k2, k3, _⟩ := h.lift hX hc (Nat.le_refl _) h.len hx
  exact ⟨out, tm', σ', Ψ, G', S', L, k1, k2, k3⟩
def seqN (k : SS → List NB → Prop) (Q : Out → SS → List NB → Prop) (o : Out) (S : SS) (L : List NB) : Prop := match o with
  | .normal => k S L
  | .exit id => Q (.exit id) S L
  | .ret => Q .ret S L
theorem TN.seq {a c x : Code} (hx : x = .seq a c) (h : TN e a S L (seqN (fun S L => TN e c S L Q) Q)) : TN e x S L Q := by
  subst hx
  intro Φ G tm σ hn
  obtain ⟨o, tm1, σ1, Ψ, G1, S1, L1, k1, ⟨K1, k2⟩, k3⟩ := h Φ G tm σ hn
  cases o with
  | normal =>
    obtain ⟨o2, tm2, σ2, Ω, G2, S2, L2, q1, ⟨K2, q2⟩, q3⟩ := k1 _ _ _ _ k3
    exact ⟨o2, tm2, σ2, Ω, G2, S2, L2, q1, ⟨max K1 K2, fun k hk => by simp only [evCode, k2 k (by omega)]; exact q2 k (by omega)⟩, q3⟩
  | exit id => exact ⟨_, tm1, σ1, Ψ, G1, S1, L1, k1, ⟨K1, fun k hk => by simp only [evCode, k2 k hk]⟩, k3⟩
  | ret => exact ⟨_, tm1, σ1, Ψ, G1, S1, L1, k1, ⟨K1, fun k hk => by simp only [evCode, k2 k hk]⟩, k3⟩
def blkN (id : Nat) (Q : Out → SS → List NB → Prop) (o : Out) (S : SS) (L : List NB) : Prop := match o with
  | .normal => Q .normal S L
  | .exit id' => match Nat.beq id' id with
    | true => Q .normal S L
    | false => Q (.exit id') S L
  | .ret => Q .ret S L
theorem TN.block {id : Nat} {c x : Code} (hx : x = .block id c) (h : TN e c S L (blkN id Q)) : TN e x S L Q := by
  subst hx
  intro Φ G tm σ hn
  obtain ⟨o, tm1, σ1, Ψ, G1, S1, L1, k1, ⟨K1, k2⟩, k3⟩ := h Φ G tm σ hn
  cases o with
  | normal => exact ⟨_, tm1, σ1, Ψ, G1, S1, L1, k1, ⟨K1, fun k hk => by simp only [evCode, k2 k hk]⟩, k3⟩
  | exit id' =>
    unfold blkN at k1
    simp only at k1
    split at k1
    · rename_i hb
      exact ⟨_, tm1, σ1, Ψ, G1, S1, L1, k1, ⟨K1, fun k hk => by simp only [evCode, k2 k hk, hb, cond_true]⟩, k3⟩
    · rename_i hb
      exact ⟨_, tm1, σ1, Ψ, G1, S1, L1, k1, ⟨K1, fun k hk => by simp only [evCode, k2 k hk, hb, cond_false]⟩, k3⟩
  | ret => exact ⟨_, tm1, σ1, Ψ, G1, S1, L1, k1, ⟨K1, fun k hk => by simp only [evCode, k2 k hk]⟩, k3⟩
theorem TN.loop {α : Type} (I : α → SS) (J : α → List NB) (P : α → Prop) (μ : α → Nat) (a0 : α) (p0 : P a0) (h0 : Wk e.m S (I a0)) (hL : L = J a0) {c x : Code} (hx : x = .loop c)
    (hb : ∀ a, P a → TN e c (I a) (J a) (seqN (fun S' L' => ∃ a', P a' ∧ μ a' < μ a ∧ Wk e.m S' (I a') ∧ L' = J a') Q)) : TN e x S L Q := by
  subst hx; subst hL
  intro Φ G tm σ hn
  have key : ∀ (n : Nat) (a : α), μ a = n → P a → ∀ {Φ : Fz} {G : List GB} {tm : Tr Value} {σ : St}, NS e.X e.C.T e.m e.b Φ G (I a) tm σ (J a) →
      ∃ out tm' σ' Ψ G' S' L', Q out S' L' ∧ (∃ K, ∀ k, K ≤ k → ∀ r, K ≤ r → evLoop (evCode e.C (evFn e.C k) e.N k c) r tm σ = some (out, tm', σ')) ∧ NS e.X e.C.T e.m e.b Ψ G' S' tm' σ' L' := by
    intro n
    induction n using Nat.strongRecOn with
    | _ n ih =>
      intro a ha pa Φ G tm σ h
      obtain ⟨o, tm1, σ1, Ψ, G1, S1, L1, k1, ⟨K1, k2⟩, k3⟩ := hb a pa _ _ _ _ h
      cases o with
      | normal =>
        obtain ⟨a', pa', hlt, hwk, rfl⟩ := k1
        obtain ⟨G2, q1, q2, q3⟩ := Wk_ok k3.sr hwk
        obtain ⟨o2, tm2, σ2, Ω, G3, S2, L2, r1, ⟨K2, r2⟩, r3⟩ := ih (μ a') (by omega) a' rfl pa' (k3.step q1 q2)
        refine ⟨o2, tm2, σ2, Ω, G3, S2, L2, r1, ⟨max K1 K2 + 1, fun k hk r hr => ?_⟩, r3⟩
        obtain ⟨r, rfl⟩ : ∃ r', r = r' + 1 := ⟨r - 1, by omega⟩
        simp only [evLoop, k2 k (by omega)]
        exact r2 k (by omega) r (by omega)
      | exit id =>
        refine ⟨_, tm1, σ1, Ψ, G1, S1, L1, k1, ⟨K1 + 1, fun k hk r hr => ?_⟩, k3⟩
        obtain ⟨r, rfl⟩ : ∃ r', r = r' + 1 := ⟨r - 1, by omega⟩
        simp only [evLoop, k2 k (by omega)]
      | ret =>
        refine ⟨_, tm1, σ1, Ψ, G1, S1, L1, k1, ⟨K1 + 1, fun k hk r hr => ?_⟩, k3⟩
        obtain ⟨r, rfl⟩ : ∃ r', r = r' + 1 := ⟨r - 1, by omega⟩
        simp only [evLoop, k2 k (by omega)]
  obtain ⟨G2, q1, q2, q3⟩ := Wk_ok hn.sr h0
  obtain ⟨o2, tm2, σ2, Ω, G3, S2, L2, r1, ⟨K2, r2⟩, r3⟩ := key (μ a0) a0 rfl p0 (hn.step q1 q2)
  exact ⟨o2, tm2, σ2, Ω, G3, S2, L2, r1, ⟨K2, fun k hk => by simp only [evCode]; exact r2 k hk k hk⟩, r3⟩
theorem TN.region {id : Nat} {ops : Array Oper} {x : Code} (hx : x = .region id ops false) (h : ON e ops.toList ops.toList S L (Q .normal)) : TN e x S L Q := by
  subst hx
  intro Φ G tm σ hn
  obtain ⟨tm', σ', Ψ, G', S', L', k1, ⟨K, k2⟩, k3⟩ := h Φ G tm σ hn
  exact ⟨_, tm', σ', Ψ, G', S', L', k1, ⟨K, fun k hk => by simp only [evCode, cond_false, k2 k hk]⟩, k3⟩
theorem evOps_app {C : Cx} {cf : FuncId → List Value → St → Option (Value × St)} {N : Nat} {ops : List Oper} : ∀ {l1 l2 : List Oper} {tm tm1 : Tr Value} {σ σ1 : St}, evOps C cf N ops l1 tm σ = some (tm1, σ1) → evOps C cf N ops (l1 ++ l2) tm σ = evOps C cf N ops l2 tm1 σ1
  | [], _, _, _, _, _, h => by simp only [evOps] at h; cases h; rfl
  | o :: r, l2, tm, tm1, σ, σ1, h => by
    simp only [List.cons_append, evOps] at h ⊢
    split at h
    · rename_i t s hs
      exact evOps_app h
    · cases h
variable {K : SS → List NB → Prop} {ops : List Oper}
theorem ON.app {l l1 l2 : List Oper} (hl : l = l1 ++ l2) (h : ON e ops l1 S L fun S L => ON e ops l2 S L K) : ON e ops l S L K := by
  subst hl
  intro Φ G tm σ hn
  obtain ⟨tm1, σ1, Ψ, G1, S1, L1, k1, ⟨K1, k2⟩, k3⟩ := h Φ G tm σ hn
  obtain ⟨tm2, σ2, Ω, G2, S2, L2, q1, ⟨K2, q2⟩, q3⟩ := k1 _ _ _ _ k3
  exact ⟨tm2, σ2, Ω, G2, S2, L2, q1, ⟨max K1 K2, fun k hk => by rw [evOps_app (k2 k (by omega))]; exact q2 k (by omega)⟩, q3⟩
theorem ON.lift (hX : e.X.Good e.C.T) {l : List Oper} (hd : dstOk e.N l = true) (hx : wpOps (PC e.C e.X) e.X ops l S fun S => K S L) : ON e ops l S L K := by
  intro Φ G tm σ h
  obtain ⟨tm', σ', Ψ, G', S', k1, k2, k3, k4⟩ := wpOps_ok hX h.sr h.len (dstOk_get hd) hx
  exact ⟨tm', σ', Ψ, G', S', L, k1, k2, h.step k3 k4⟩
theorem NS.more {b : Beg} (h : NS X T m b Φ G S tm σ L) : NS X T m b Φ G S tm σ (L ++ [blank]) := ⟨h.sr, h.nok.more, h.st, h.len⟩
theorem ON.nil {l : List Oper} (h : ON e ops l S (L ++ [blank]) K) : ON e ops l S L K := fun Φ G tm σ hn => h Φ G tm σ hn.more
theorem all2_VR {jn : Nat} {g : List GB} : ∀ {cs cs' : List SV} {ws : List Value} {a : Option Addr} {n c : Nat}, nth g jn = some (.sl (.slice a n c)) → All2 (fun v' v => v' = v ∨ (v = .os jn ∧ v' = .p (.raw a n c))) cs' cs → LVR T Φ g cs ws → LVR T Φ g cs' ws
  | _, _, _, _, _, _, _, .nil, .nil => .nil
  | _, _, _, _, _, _, hg, .cons h r, .cons a b => by
    refine .cons ?_ (all2_VR hg r b)
    rcases h with rfl | ⟨rfl, rfl⟩
    · exact a
    · cases a with
      | os h => rw [hg] at h; cases h; exact .p (.raw _ _ _)
theorem all2_VRb {jn : Nat} {g : List GB} : ∀ {cs cs' : List SV} {ws : List Value} {a : Option Addr} {n c : Nat}, nth g jn = some (.sl (.slice a n c)) → All2 (fun v' v => v' = v ∨ (v = .p (.raw a n c) ∧ v' = .os jn)) cs' cs → LVR T Φ g cs ws → LVR T Φ g cs' ws
  | _, _, _, _, _, _, _, .nil, .nil => .nil
  | _, _, _, _, _, _, hg, .cons h r, .cons a b => by
    refine .cons ?_ (all2_VRb hg r b)
    rcases h with rfl | ⟨rfl, rfl⟩
    · exact a
    · cases a with
      | p h => cases h; exact .os hg
theorem arr_slice {e : TypeId} {rows : List (List PV)} {w : Value} (h : ArrR T Φ σ e rows w) : ∃ a c, w = .slice a rows.length c := by
  rcases h with ⟨rfl, rfl⟩ | ⟨i, s, c, cs, p, rfl, _⟩
  · exact ⟨_, _, rfl⟩
  · exact ⟨_, _, rfl⟩
theorem MR.g_of (h : MR T Φ M G σ) {j : Nat} {e : TypeId} {rows : List (List PV)} (hj : nth M j = some (.arr e rows)) : ∃ a c, nth G j = some (.sl (.slice a rows.length c)) := by
  obtain ⟨g, hg, r⟩ := h.blk j _ hj
  cases g with
  | nm b => exact r.elim
  | sl w =>
    obtain ⟨a, c, rfl⟩ := arr_slice r
    exact ⟨a, c, hg⟩
theorem NS.give {b : Beg} (h : NS X T m b Φ G S tm σ L) {j k : Nat} {d : NB} (hj : nth S.M j = some (.arr d.e d.rows)) (hg : nth G j = some (.sl d.val)) (hk : ∀ (d : NB) (x : Nat), L[k]? = some d → d.own ≠ some x) :
    NS X T m b Φ G ⟨S.t, setAt S.M j .dd⟩ tm σ (L.set k d) := by
  have hd := Stp.drop m Φ S.M G σ j
  refine ⟨h.sr.drop j, h.nok.give h.sr.mr hj hg hk (fun x hx => ?_) (fun y hy => ?_), h.st.trans hd, hd.mlen h.len⟩
  · exact h.st.newO j x hx
  · exact h.st.newP y hy
theorem ON.give {l : List Oper} {j t : Nat} {cs : List SV} {e' : TypeId} {rows : List (List PV)} (ht : look S.t t = some (.ag cs)) (hj : nth S.M j = some (.arr e' rows))
    (h : ∀ a c, ∃ cs', All2 (fun v' v => v' = v ∨ (v = .os j ∧ v' = .p (.raw a rows.length c))) cs' cs ∧ ON e ops l ⟨(t, .ag cs') :: S.t, setAt S.M j .dd⟩ (L ++ [⟨e', rows, a, rows.length, c⟩]) K) : ON e ops l S L K := by
  intro Φ G tm σ hn
  obtain ⟨a, c, hg⟩ := hn.sr.mr.g_of hj
  obtain ⟨cs', h1, h2⟩ := h a c
  have hn2 := hn.more.give (k := L.length) (d := ⟨e', rows, a, rows.length, c⟩) hj hg fun d x hd => by
    rw [List.getElem?_append_right (Nat.le_refl _), Nat.sub_self] at hd
    cases hd
    exact blank_own
  rw [List.set_append_right _ _ (Nat.le_refl _), Nat.sub_self] at hn2
  refine h2 Φ G tm σ ⟨⟨fun t' v hv => ?_, hn2.sr.mr, hn2.sr.ws⟩, hn2.nok, hn2.st, hn2.len⟩
  rw [look_put] at hv
  split at hv
  · rename_i ht'
    cases hv; subst ht'
    obtain ⟨w, a1, a2⟩ := hn.sr.tmp _ _ ht
    refine ⟨w, a1, ?_⟩
    cases a2 with
    | ag a2 => exact .ag (all2_VR hg h1 a2)
  · exact hn.sr.tmp t' v hv
theorem TN.focus (hX : e.X.Good e.C.T) {c : Code} (hc : codeOk e.N e.pl c = true) {k jb : Nat} {b : NB} {cb cb' : List SV} (hk : L[k]? = some b) (hb : nth S.M jb = some (.box cb))
    (hcb : All2 (fun v' v => v' = v ∨ (v = .p (.raw b.a b.n b.c) ∧ v' = .os (len S.M))) cb' cb)
    (hx : wpC (PC e.C e.X) e.X (len S.M + 1) e.pl c ⟨S.t, setAt (snoc S.M (.arr b.e b.rows)) jb (.box cb')⟩ fun o S' => ∃ rows', nth S'.M (len S.M) = some (.arr b.e rows') ∧ Q o ⟨S'.t, setAt S'.M (len S.M) .dd⟩ (L.set k ⟨b.e, rows', b.a, b.n, b.c⟩)) :
    TN e c S L Q := by
  intro Φ G tm σ hn
  obtain ⟨n1, n2, n3, n4, n5⟩ := hn.nok.take hn.sr.mr hk
  have hgl : nth (snoc G (.sl b.val)) (len S.M) = some (.sl b.val) := by rw [nth_snoc, if_pos (by rw [len_eq]; exact hn.sr.mr.len)]
  have hlt : jb < S.M.length := nth_lt hb
  have hb' : nth (snoc S.M (.arr b.e b.rows)) jb = some (.box cb) := by rw [nth_snoc, if_neg (by omega)]; exact hb
  obtain ⟨m1, m2⟩ := n1.re (m := e.m) (b' := .box cb') hb' (fun g => by cases g <;> rfl) (fun g => by cases g <;> rfl) (fun g hg r => by
    cases g with
    | nm x =>
      obtain ⟨e', ws, r1, r2⟩ := r
      exact ⟨e', ws, r1, all2_VRb hgl hcb r2⟩
    | sl w => exact r.elim)
  have st1 : Stp e.m e.b.Φ e.b.M e.b.G e.b.σ Φ (snoc S.M (.arr b.e b.rows)) (snoc G (.sl b.val)) σ := by
    have s := hn.st
    refine ⟨s.fz, fun j hj => ?_, s.next, s.frame, s.newF, fun j i q => ?_, fun i q => ?_, fun i q => s.newL i (n5 i q), fun hm => ?_⟩
    · rw [gh_snoc (m := e.m) _ (by rw [← hn.sr.mr.len]; exact hn.len) j hj]; exact s.gh j hj
    · rcases n3 j i q with q | q
      · exact s.newO j i q
      · exact q
    · rcases n4 i q with q | q
      · exact s.newP i q
      · exact q
    · rw [snoc_eq]; simp; exact Nat.le_succ_of_le (s.mlen hm)
  have sr1 : SR e.X e.C.T Φ (snoc G (.sl b.val)) ⟨S.t, setAt (snoc S.M (.arr b.e b.rows)) jb (.box cb')⟩ tm σ := ⟨hn.sr.tmono (Fz.le.refl Φ) (Gle.snoc G _), m1, hn.sr.ws⟩
  have hlen : (setAt (snoc S.M (.arr b.e b.rows)) jb (.box cb')).length = S.M.length + 1 := by rw [setAt_eq, snoc_eq]; simp
  have ns1 : NS e.X e.C.T e.m e.b Φ (snoc G (.sl b.val)) ⟨S.t, setAt (snoc S.M (.arr b.e b.rows)) jb (.box cb')⟩ tm σ (L.set k blank) :=
    ⟨sr1, n2.keep m2, st1.trans m2, by show _ ≤ _; rw [hlen]; exact Nat.le_succ_of_le hn.len⟩
  obtain ⟨out, tm', σ', Ψ, G', S', ⟨rows', q1, q2⟩, k2, k3, k4, k5⟩ := ns1.lift hX hc (m' := len S.M + 1) (by rw [len_eq]; exact Nat.le_succ_of_le hn.len) (by show _ ≤ _; rw [hlen, len_eq]; exact Nat.le_refl _) hx
  have hg' : nth G' (len S.M) = some (.sl (.slice b.a b.n b.c)) := by rw [k4 _ (Nat.lt_succ_self _)]; exact hgl
  have := k3.give (k := k) (d := ⟨b.e, rows', b.a, b.n, b.c⟩) q1 hg' fun d x hd => by
    rcases set_get hd with ⟨_, rfl⟩ | ⟨q, _⟩
    · exact blank_own
    · exact absurd rfl q
  rw [List.set_set] at this
  exact ⟨out, tm', σ', Ψ, G', ⟨S'.t, setAt S'.M (len S.M) .dd⟩, _, q2, k2, this⟩
end
theorem NS.freeze1 {b : Beg} {d : NB} (h : NS X T m b Φ G S tm σ (d :: L)) :
    ∃ Ψ G' S', NS X T m b Ψ G' S' tm σ L ∧ Φ.le Ψ ∧ PRel T Ψ (.sl d.e d.rows) d.val := by
  obtain ⟨n1, n2, n3, n4, n5⟩ := h.nok.take (k := 0) h.sr.mr rfl
  have hj : nth (snoc S.M (.arr d.e d.rows)) S.M.length = some (.arr d.e d.rows) := by rw [nth_snoc, if_pos rfl]
  have hg : nth (snoc G (.sl d.val)) S.M.length = some (.sl d.val) := by rw [nth_snoc, if_pos h.sr.mr.len]
  have st1 : Stp m b.Φ b.M b.G b.σ Φ (snoc S.M (.arr d.e d.rows)) (snoc G (.sl d.val)) σ := by
    have s := h.st
    refine ⟨s.fz, fun j hj => ?_, s.next, s.frame, s.newF, fun j i q => ?_, fun i q => ?_, fun i q => s.newL i (n5 i q), fun hm => ?_⟩
    · rw [gh_snoc (m := m) _ (by rw [← h.sr.mr.len]; exact h.len) j hj]; exact s.gh j hj
    · rcases n3 j i q with q | q
      · exact s.newO j i q
      · exact q
    · rcases n4 i q with q | q
      · exact s.newP i q
      · exact q
    · rw [snoc_eq]; simp; exact Nat.le_succ_of_le (s.mlen hm)
  have ns1 : NS X T m b Φ (snoc G (.sl d.val)) ⟨S.t, snoc S.M (.arr d.e d.rows)⟩ tm σ (blank :: L) :=
    ⟨⟨h.sr.tmono (Fz.le.refl Φ) (Gle.snoc G _), n1, h.sr.ws⟩, n2, st1, by show _ ≤ (snoc _ _).length; rw [snoc_eq]; simp; exact Nat.le_succ_of_le h.len⟩
  obtain ⟨Ψ, k1, k2, k3, _⟩ := ns1.sr.freeze (m := m) hj hg
  have := ns1.step k1 k3
  exact ⟨Ψ, _, _, ⟨this.sr, this.nok.tail, this.st, this.len⟩, k3.fz, k2⟩
theorem NS.freezeAll {b : Beg} : ∀ {L : List NB} {Φ : Fz} {G : List GB} {S : SS}, NS X T m b Φ G S tm σ L → ∃ Ψ G' S', NS X T m b Ψ G' S' tm σ [] ∧ Φ.le Ψ ∧ ∀ d, d ∈ L → PRel T Ψ (.sl d.e d.rows) d.val
  | [], Φ, G, S, h => ⟨Φ, G, S, h, Fz.le.refl Φ, fun d hd => by cases hd⟩
  | d :: L, Φ, G, S, h => by
    obtain ⟨Ψ, G1, S1, k1, k2, k3⟩ := h.freeze1
    obtain ⟨Ω, G2, S2, q1, q2, q3⟩ := k1.freezeAll
    refine ⟨Ω, G2, S2, q1, k2.trans q2, fun d' hd' => ?_⟩
    cases hd' with
    | head => exact k3.mono q2
    | tail _ hd' => exact q3 d' hd'
def Same (L : List NB) (v v' : SV) : Prop := ∀ (T : Tabs) (Ψ : Fz) (w : Value), (∀ d, d ∈ L → PRel T Ψ (.sl d.e d.rows) d.val) → VR T Ψ [] v w → VR T Ψ [] v' w
def retN (X : Sc) (rs : List ResultVar) (R : SV → Prop) (o : Out) (S : SS) (L : List NB) : Prop := match o with
  | .exit _ => False
  | _ => xres X S rs fun l => frzAll S l fun _ v => closed v = true ∧ ∃ v', Same L v v' ∧ R v'
theorem PC.of_TN (hX : X.Good C.T) {f : FuncId} {F : Func} {c : Code} {pl : Nat → Option Pl} {n : Nat} (hf : FnOk C f F c pl n) {as : List SV} (hn : as.length = n) {R : SV → Prop}
    (h : ∀ b, TN ⟨C, X, F.ntmps, pl, 0, b⟩ c ⟨argT 0 as, []⟩ [] (retN X F.results.toList R)) : PC C X f [] as (fun _ r => R r) := by
  refine ⟨hf.ext, fun Φ G σ ws hw hm ha => ?_⟩
  obtain ⟨o, tm', σ', Ψ, G', S', L', q1, ⟨K, q2⟩, q3⟩ := h ⟨Φ, [], G, σ⟩ Φ G (Tr.ofList ws) σ ⟨SR.start hw hm ha, .nil, Stp.refl _ _ _ _ _, Nat.zero_le _⟩
  have fin : ∀ {l : List SV} {ws' : List Value}, (o = .normal ∨ o = .ret) → (frzAll S' l fun _ v => closed v = true ∧ ∃ v', Same L' v v' ∧ R v') → evRes C.T tm' σ' F.results.toList = some ws' → LVR C.T Ψ G' l ws' →
      ∃ w σ' Ψ G' M' r, R r ∧ Stp 0 Φ [] G σ Ψ M' G' σ' ∧ WS X C.T Ψ σ' ∧ MR C.T Ψ M' G' σ' ∧ VR C.T Ψ G' r w ∧ Evt C f ws σ w σ' := by
    intro l ws' ho hfr hres hl
    obtain ⟨Ω, S2, cs, ⟨k1, v', k2, k3⟩, k4, k5⟩ := frzVs_ok (m := 0) q3.sr hl hfr
    obtain ⟨Υ, G3, S3, j1, j2, j3⟩ := (q3.step k4.sr k4.st).freezeAll
    have hst := j1.st
    have hv := k2 C.T Υ _ j3 (((oneS_ok k5).toClosed k1).mono j2 (Gle.refl []))
    refine ⟨oneOf ws', σ', Υ, [], [], v', k3, ?_, j1.sr.ws, MR.none, hv, K + 1, fun k hk => ?_⟩
    · exact ⟨hst.fz, fun j hj => absurd hj (Nat.not_lt_zero _), hst.next, hst.frame, hst.newF, fun j i hi => absurd hi no_own, fun i hi => absurd hi no_par, fun i hi => absurd hi no_lent, fun _ => Nat.zero_le _⟩
    · obtain ⟨k, rfl⟩ : ∃ k', k = k' + 1 := ⟨k - 1, by omega⟩
      exact evFn_eq hf (by rw [← ha.length, hn]) ho (q2 k (by omega)) hres
  cases o with
  | exit id => exact q1.elim
  | normal =>
    obtain ⟨l, ws', k1, k2, k3⟩ := xres_ok hX q3.sr q1
    exact fin (.inl rfl) k1 k2 k3
  | ret =>
    obtain ⟨l, ws', k1, k2, k3⟩ := xres_ok hX q3.sr q1
    exact fin (.inr rfl) k1 k2 k3
def RC (L : List NB) (a b : PV) : Prop := a = b ∨ ∃ d, d ∈ L ∧ a = .raw d.a d.n d.c ∧ b = .sl d.e d.rows
theorem RC.ok {T : Tabs} (hL : ∀ d, d ∈ L → PRel T Φ (.sl d.e d.rows) d.val) {a b : PV} {w : Value} (h : RC L a b) (hv : PRel T Φ a w) : PRel T Φ b w := by
  rcases h with rfl | ⟨d, hd, rfl, rfl⟩
  · exact hv
  · cases hv; exact hL d hd
theorem LPRel.all2 {T : Tabs} (hL : ∀ d, d ∈ L → PRel T Φ (.sl d.e d.rows) d.val) : ∀ {a b : List PV} {w : List Value}, All2 (RC L) a b → LPRel T Φ a w → LPRel T Φ b w
  | _, _, _, .nil, .nil => .nil
  | _, _, _, .cons h r, .cons p q => .cons (h.ok hL p) (LPRel.all2 hL r q)
theorem All2.app {α β : Type} {R : α → β → Prop} {a c : List α} {b d : List β} (h : All2 R a b) (k : All2 R c d) : All2 R (a ++ c) (b ++ d) := by
  induction h with
  | nil => exact k
  | cons x _ ih => exact .cons x ih
theorem All2.length {α β : Type} {R : α → β → Prop} {a : List α} {b : List β} (h : All2 R a b) : a.length = b.length := by
  induction h with
  | nil => rfl
  | cons x _ ih => simp [ih]
theorem All2.flat {α β : Type} {R : α → β → Prop} {a : List (List α)} {b : List (List β)} (h : All2 (All2 R) a b) : All2 R a.flatten b.flatten := by
  induction h with
  | nil => exact .nil
  | cons x _ ih => simpa using x.app ih
theorem All2.mem {α β : Type} {R : α → β → Prop} {a : List α} {b : List β} (h : All2 R a b) {y : β} (hy : y ∈ b) : ∃ x, x ∈ a ∧ R x y := by
  induction h with
  | nil => cases hy
  | cons r _ ih =>
    cases hy with
    | head => exact ⟨_, .head _, r⟩
    | tail _ hy => obtain ⟨x, h1, h2⟩ := ih hy; exact ⟨x, .tail _ h1, h2⟩
theorem All2.ofMap {ι α β : Type} {R : α → β → Prop} {f : ι → α} {g : ι → β} : ∀ {l : List ι}, (∀ i, i ∈ l → R (f i) (g i)) → All2 R (l.map f) (l.map g)
  | [], _ => .nil
  | x :: l, h => .cons (h x (.head _)) (All2.ofMap fun i hi => h i (.tail _ hi))
theorem PRel.rows {T : Tabs} (hL : ∀ d, d ∈ L → PRel T Φ (.sl d.e d.rows) d.val) {e : TypeId} {rows rows' : List (List PV)} (h : All2 (All2 (RC L)) rows rows') {w : Value} (hv : PRel T Φ (.sl e rows) w) : PRel T Φ (.sl e rows') w := by
  cases hv with
  | nil => cases h; exact .nil e
  | emp _ b o => cases h; exact .emp e b o
  | sl a b c d f g k =>
    refine .sl a b c (fun r hr => ?_) ?_ (by rw [← h.length]; exact g) k
    · obtain ⟨x, h1, h2⟩ := h.mem hr
      rw [← h2.length]; exact d x h1
    · rw [← h.length]
      exact LPRel.all2 hL h.flat f
end Go.Sx
end
section
namespace Go.Sx
open Go.Ev Go.RowKit Go.ChangeShapes Go.WideShapes
section
variable {P : Program} {T : Tabs} {X : Sc} {W : World} {E : Env} {σ : St} {Φ : Fz}
theorem cell_lt {w : World} {a : Addr} {v : Value} (h : w.cell? a = some v) : a.block < w.heap.size := by
  unfold World.cell? at h
  split at h
  · rename_i h'; exact (Array.getElem?_eq_some_iff.1 h').1
  · cases h
def AllRo (σ : St) : Prop := ∀ i o, σ.get i = some o → ∃ e cs l p k, o = .cells e cs true l p k
structure Ar (P : Program) (T : Tabs) (X : Sc) (W : World) (E : Env) (σ : St) (Φ : Fz) : Prop where
  rel : Rel P W.heap.size W E σ W
  ro : AllRo σ
  ws : WS X T Φ σ
  glob : GlobRel T E
theorem Ar.push (h : Ar P T X W E σ Φ) {b d : Nat} (hb : b < W.heap.size) {e : TypeId} {cs : List Value} (hc : ∀ x v, cs[x]? = some v → ∃ v', W.cell? ⟨b, x + d, none⟩ = some v' ∧ VRel P E v v') :
    ∃ E' Φ', Ar P T X W E' (σ.push (.cells e cs true true none none)) Φ' ∧ E.le E' ∧ Φ.le Φ' ∧ E'.ι σ.next = some ⟨b, d, false⟩ ∧ Φ' σ.next = some (.cells e cs true true none none) := by
  obtain ⟨n1, n2⟩ := h.ws.off (Nat.le_refl σ.next)
  have hE : ∀ i l, E.ι i = some l → i < σ.next := fun i l q => (h.rel.dom i l q).1
  have hle : E.le ⟨fun i => if i = σ.next then some ⟨b, d, false⟩ else E.ι i, E.K⟩ := ⟨fun i l q => by
    show (if i = σ.next then _ else _) = _
    rw [if_neg (by have := hE i l q; omega)]; exact q, fun _ _ q => q⟩
  have hfle : Φ.le (fun i => if i = σ.next then some (.cells e cs true true none none) else Φ i) := fun i o q => by
    show (if i = σ.next then _ else _) = _
    rw [if_neg (fun c => by subst c; rw [n2] at q; cases q)]; exact q
  refine ⟨_, _, ⟨?_, ?_, ?_, h.glob.mono hle⟩, hle, hfle, if_pos rfl, if_pos rfl⟩
  · refine ⟨h.rel.below, h.rel.base, fun i l q => ?_, h.rel.shp, fun i l o q g => ?_, fun i j l m e' cs' p k hi hj hn hbm hg => ?_, fun i j l m o hi hj hn hg hc' => ?_⟩
    · change (if i = σ.next then some (⟨b, d, false⟩ : Ev.Loc) else E.ι i) = some l at q
      split at q
      · rename_i hin
        cases q; subst hin
        exact ⟨Nat.lt_succ_self _, hb, fun c => by cases c⟩
      · obtain ⟨a1, a2, a3⟩ := h.rel.dom i l q
        exact ⟨Nat.lt_succ_of_lt a1, a2, a3⟩
    · change (if i = σ.next then some (⟨b, d, false⟩ : Ev.Loc) else E.ι i) = some l at q
      rw [St.get_push] at g
      split at q
      · rename_i hin
        rw [if_pos hin] at g
        cases q; cases g
        intro _
        refine ⟨fun x v hx => ?_, fun c => (by cases c), fun _ => rfl⟩
        obtain ⟨v', c1, c2⟩ := hc x v hx
        exact ⟨v', c1, c2.mono hle⟩
      · rename_i hin
        rw [if_neg hin] at g
        exact (h.rel.obj i l o q g).mono hle
    · rw [St.get_push] at hg
      split at hg
      · cases hg
      · obtain ⟨_, _, _, _, _, q⟩ := h.ro _ _ hg
        cases q
    · rw [St.get_push] at hg
      split at hg
      · cases hg; cases hc'
      · obtain ⟨_, _, _, _, _, rfl⟩ := h.ro _ _ hg
        cases hc'
  · intro i o g
    rw [St.get_push] at g
    split at g
    · cases g; exact ⟨_, _, _, _, _, rfl⟩
    · exact h.ro i o g
  · refine ⟨fun i o q => ?_, fun i o q => ?_, fun g row q => ?_⟩
    · change (if i = σ.next then some (AObj.cells e cs true true none none) else Φ i) = some o at q
      rw [St.get_push]
      split at q
      · rename_i hin; rw [if_pos hin]; exact q
      · rename_i hin; rw [if_neg hin]; exact h.ws.phi i o q
    · rw [St.get_push] at q
      split at q
      · rename_i hin; rw [hin]; exact Nat.lt_succ_self _
      · exact Nat.lt_succ_of_lt (h.ws.dom i o q)
    · obtain ⟨a1, a2⟩ := h.ws.glob g row q
      exact ⟨a1, a2.mono hfle (Gle.refl _)⟩
def fldsOk (P : Program) : Nat → List Field → Nat → Bool
  | o, [], n => Nat.beq o n
  | o, f :: r, n => Nat.beq f.offset o && fldsOk P (o + P.cellsOf f.type) r n
def okTy (P : Program) : Nat → TypeId → Bool
  | 0, _ => false
  | n + 1, t => match P.underlying t with
    | some .bool => true
    | some (.int _) => true
    | some .string => true
    | some (.slice e) => Nat.blt 0 (P.cellsOf e) && okTy P n e
    | some (.struct fs) => fldsOk P 0 fs.toList (P.cellsOf t) && fs.toList.all fun f => okTy P n f.type
    | _ => false
def Shp (P : Program) : Nat → TypeId → List PV → Prop
  | 0, _, _ => False
  | n + 1, t, pvs => match P.underlying t with
    | some .bool => ∃ b, pvs = [.bool b]
    | some (.int k) => ∃ i, pvs = [.int k i] ∧ (Lit.int k i).wf = true
    | some .string => ∃ s : ByteArray, pvs = [.str s] ∧ s.size ≤ maxLen
    | some (.slice e) => ∃ rows : List (List PV), pvs = [.sl e rows] ∧ rows.length ≤ maxLen ∧ ∀ r, r ∈ rows → Shp P n e r
    | some (.struct fs) => ∃ l, All2 (fun (f : Field) r => Shp P n f.type r) fs.toList l ∧ pvs = l.flatten
    | _ => False
def Told (P : Program) (T : Tabs) (X : Sc) (W : World) (E : Env) (Φ : Fz) (cs : List Value) (Q : List PV → Prop) : Prop :=
  ∃ E' σ' Φ' vs pvs, Ar P T X W E' σ' Φ' ∧ E.le E' ∧ Φ.le Φ' ∧ LRel P E' vs cs ∧ LPRel T Φ' pvs vs ∧ Q pvs
variable {H : Type} {enc : TypeId × Value → H} {spare : Nat → Bool} {held : Bool}
theorem LRel.mono' {E F : Env} (h : E.le F) {xs ys : List Value} (r : LRel P E xs ys) : LRel P F xs ys := r.mono h
theorem argflds_ok {n : Nat} (ih : ∀ (fuel : Nat) (t : TypeId) (cs : List Value) (x : DataW H × List MemPlace), DataW.trod enc P W 0 spare held fuel t cs = some x → okTy P n t = true → ∀ {E σ Φ}, Ar P T X W E σ Φ → Told P T X W E Φ cs (Shp P n t)) {cs : List Value} :
    ∀ (fs : List Field) (o : Nat), fldsOk P o fs cs.length = true → fs.all (fun f => okTy P n f.type) = true → (∀ f, f ∈ fs → ∃ m x, DataW.trod enc P W 0 spare held m f.type ((cs.drop f.offset).take (P.cellsOf f.type)) = some x) →
      ∀ {E σ Φ}, Ar P T X W E σ Φ → ∃ E' σ' Φ' vs l, Ar P T X W E' σ' Φ' ∧ E.le E' ∧ Φ.le Φ' ∧ LRel P E' vs (cs.drop o) ∧ LPRel T Φ' (List.flatten l) vs ∧ All2 (fun (f : Field) r => Shp P n f.type r) fs l
  | [], o, h1, _, _, E, σ, Φ, h => by
    have : cs.length = o := (Nat.eq_of_beq_eq_true h1).symm
    exact ⟨E, σ, Φ, [], [], h, Env.le.refl E, Fz.le.refl Φ, by rw [List.drop_of_length_le (by omega)]; exact .nil, .nil, .nil⟩
  | f :: r, o, h1, h2, h3, E, σ, Φ, h => by
    simp only [fldsOk, Bool.and_eq_true] at h1
    simp only [List.all_cons, Bool.and_eq_true] at h2
    have ho : f.offset = o := Nat.eq_of_beq_eq_true h1.1
    obtain ⟨m, x, hx⟩ := h3 f (.head _)
    obtain ⟨E1, σ1, Φ1, vs, pvs, k1, k2, k3, k4, k5, k6⟩ := ih m f.type _ x hx h2.1 h
    obtain ⟨E2, σ2, Φ2, vs2, l, q1, q2, q3, q4, q5, q6⟩ := argflds_ok ih r _ h1.2 h2.2 (fun g hg => h3 g (.tail _ hg)) k1
    refine ⟨E2, σ2, Φ2, vs ++ vs2, pvs :: l, q1, k2.trans q2, k3.trans q3, ?_, (k5.mono q3).append q5, .cons k6 q6⟩
    have := (LRel.mono q2 k4).append q4
    rw [ho, ← List.drop_drop, List.take_append_drop] at this
    exact this
theorem arg_ok (hT : T.Good P) : ∀ (n fuel : Nat) (t : TypeId) (cs : List Value) (x : DataW H × List MemPlace), DataW.trod enc P W 0 spare held fuel t cs = some x → okTy P n t = true → ∀ {E σ Φ}, Ar P T X W E σ Φ → Told P T X W E Φ cs (Shp P n t)
  | 0, _, _, _, _, _, hk, _, _, _, _ => by cases hk
  | n + 1, fuel, t, cs, x, hx, hk, E, σ, Φ, h => by
    unfold okTy at hk
    unfold Told
    simp only [Shp]
    split at hk
    · rename_i ht
      obtain ⟨b, rfl, _⟩ := DataW.trod_bool ht hx
      exact ⟨E, σ, Φ, [.bool b], [.bool b], h, Env.le.refl E, Fz.le.refl Φ, .cons (.bool b) .nil, .cons (.bool b) .nil, by simp⟩
    · rename_i k ht
      obtain ⟨i, rfl, _, hw⟩ := DataW.trod_int ht hx
      exact ⟨E, σ, Φ, [.int k i], [.int k i], h, Env.le.refl E, Fz.le.refl Φ, .cons (.int k i) .nil, .cons (.int k i) .nil, by simp [hw]⟩
    · rename_i ht
      obtain ⟨s, rfl, _, hs⟩ := DataW.trod_string ht hx
      exact ⟨E, σ, Φ, [.string s], [.str s], h, Env.le.refl E, Fz.le.refl Φ, .cons (.string s) .nil, .cons (.str s) .nil, by simp; exact hs⟩
    · rename_i e ht
      simp only [Bool.and_eq_true] at hk
      have hsz : 0 < P.cellsOf e := Nat.le_of_ble_eq_true hk.1
      obtain ⟨inf, hinf, hin⟩ : ∃ inf, P.info? e = some inf ∧ inf.size = P.cellsOf e := by
        unfold Program.cellsOf at hsz ⊢
        cases hq : P.info? e with
        | none => rw [hq] at hsz; simp at hsz
        | some inf => exact ⟨inf, rfl, by simp⟩
      rcases Go.Deep.open_slice ht hx with ⟨rfl, _⟩ | ⟨a, len, cap, m, n', D, Pl, rfl, _, hl, hmax, hm, _, hel⟩
      · exact ⟨E, σ, Φ, [.slice none 0 0], [.sl e []], h, Env.le.refl E, Fz.le.refl Φ, .cons .nilSlice .nil, .cons (.nil e) .nil, by simp⟩
      have hlm : len ≤ m := by rw [hm]; split <;> omega
      cases len with
      | zero => exact ⟨E, σ, Φ, [.slice (some ⟨0, 0, some 1⟩) 0 0], [.sl e []], h, Env.le.refl E, Fz.le.refl Φ, .cons .empty .nil, .cons (.emp e 0 0) .nil, by simp⟩
      | succ len =>
        obtain ⟨c0, g0, _⟩ := hel 0 (by omega)
        obtain ⟨_, g2, g3⟩ := World.cells?_some g0
        have g4 : ∃ v, W.cell? a = some v := by
          have g5 := g3 0 hsz
          rw [Nat.zero_mul] at g5
          have : (a.add 0).add 0 = a := by simp [Addr.add]
          rw [this, List.getElem?_eq_getElem (by omega)] at g5
          exact ⟨_, g5⟩
        obtain ⟨v0, g4⟩ := g4
        have hspot : a.spot = none := World.cell?_spot g4
        have hblk : a.block < W.heap.size := cell_lt g4
        obtain ⟨b, off, sp⟩ := a
        simp only at hspot hblk
        subst hspot
        have hadd : ∀ k, (⟨b, off, none⟩ : Addr).add k = ⟨b, off + k, none⟩ := fun k => by
          unfold Addr.add
          by_cases hk : k = 0
          · subst hk; rfl
          · rw [if_neg hk]
        have rows_ok : ∀ k, k ≤ len + 1 → ∃ E' σ' Φ' vs, ∃ rows : List (List PV), Ar P T X W E' σ' Φ' ∧ E.le E' ∧ Φ.le Φ' ∧ rows.length = k ∧ vs.length = k * P.cellsOf e ∧ (∀ x v, vs[x]? = some v → ∃ v', W.cell? ⟨b, x + off, none⟩ = some v' ∧ VRel P E' v v') ∧
            LPRel T Φ' rows.flatten vs ∧ ∀ r, r ∈ rows → r.length = P.cellsOf e ∧ Shp P n e r := by
          intro k
          induction k with
          | zero => exact fun _ => ⟨E, σ, Φ, [], [], h, Env.le.refl E, Fz.le.refl Φ, rfl, by simp, fun x v q => by simp at q, .nil, fun r hr => by cases hr⟩
          | succ k ih =>
            intro hk'
            obtain ⟨E1, σ1, Φ1, vs, rows, k1, k2, k3, k4, k5, k6, k7, k8⟩ := ih (by omega)
            obtain ⟨cs', q1, q2⟩ := hel k (by omega)
            obtain ⟨_, q3, q4⟩ := World.cells?_some q1
            obtain ⟨E2, σ2, Φ2, vs2, pvs, j1, j2, j3, j4, j5, j6⟩ := arg_ok hT n n' e cs' _ q2 hk.2 k1
            have hl2 := j4.length
            refine ⟨E2, σ2, Φ2, vs ++ vs2, rows ++ [pvs], j1, k2.trans j2, k3.trans j3, by simp [k4], by rw [List.length_append, k5, hl2, q3, Nat.succ_mul], fun x v hx => ?_, by rw [List.flatten_append]; simpa using (k7.mono j3).append j5, fun r hr => ?_⟩
            · rw [List.getElem?_append] at hx
              split at hx
              · obtain ⟨v', a1, a2⟩ := k6 x v hx
                exact ⟨v', a1, a2.mono j2⟩
              · rename_i hge
                obtain ⟨v', a1, a2⟩ := j4.get _ v hx
                refine ⟨v', ?_, a2⟩
                have hxl := (List.getElem?_eq_some_iff.1 a1).1
                have := q4 (x - vs.length) (by omega)
                rw [hadd, show (⟨b, off + k * P.cellsOf e, none⟩ : Addr).add (x - vs.length) = ⟨b, x + off, none⟩ by
                  unfold Addr.add
                  by_cases hz : x - vs.length = 0
                  · rw [if_pos hz]; congr 1; omega
                  · rw [if_neg hz]; congr 1; simp only; omega] at this
                rw [this]; exact a1
            · rcases List.mem_append.1 hr with hr | hr
              · exact k8 r hr
              · have := List.mem_singleton.1 hr
                subst this
                exact ⟨by rw [j5.length, hl2, q3], j6⟩
        obtain ⟨E1, σ1, Φ1, vs, rows, k1, k2, k3, k4, k5, k6, k7, k8⟩ := rows_ok (len + 1) (Nat.le_refl _)
        obtain ⟨E2, Φ2, j1, j2, j3, j4, j5⟩ := k1.push (e := e) hblk k6
        refine ⟨E2, _, Φ2, [.slice (some ⟨σ1.next, 0, none⟩) (len + 1) cap], [.sl e rows], j1, k2.trans j2, k3.trans j3, .cons ?_ .nil, .cons ?_ .nil, ?_⟩
        · have := VRel.slice (P := P) (E := E2) (i := σ1.next) (o := 0) (n := len + 1) (c := cap) (c' := cap) (s := none) j4 (fun _ => rfl) hl (Nat.le_refl _) (fun q => by cases q)
          simpa using this
        · refine .sl j5 rfl (by rw [hT.info]; exact hinf) (fun r hr => by rw [hin]; exact (k8 r hr).1) ?_ k4.symm hl
          rw [List.drop_zero, List.take_of_length_le (by rw [k5, k4, hin]; exact Nat.le_refl _)]
          exact k7.mono j3
        · exact ⟨rows, rfl, by omega, fun r hr => (k8 r hr).2⟩
    · rename_i fs ht
      simp only [Bool.and_eq_true] at hk
      obtain ⟨xs, n', _, _, hlen, hxl, hf⟩ := DataW.trod_struct ht hx
      obtain ⟨E1, σ1, Φ1, vs, l, q1, q2, q3, q4, q5, q6⟩ := argflds_ok (T := T) (X := X) (W := W) (P := P) (enc := enc) (spare := spare) (held := held) (n := n) (fun fuel t cs x hx hk _ _ _ h => arg_ok hT n fuel t cs x hx hk h) (cs := cs) fs.toList 0 (by rw [hlen]; exact hk.1) hk.2 (fun f hf' => by
        obtain ⟨i, hi, rfl⟩ := List.getElem_of_mem hf'
        have hi' : i < fs.size := by simpa using hi
        have := hf i fs[i] (by simp [hi'])
        rw [List.getElem?_eq_getElem (by omega)] at this
        exact ⟨n', _, by simpa using this⟩) h
      refine ⟨E1, σ1, Φ1, vs, l.flatten, q1, q2, q3, by simpa using q4, q5, ?_⟩
      exact ⟨l, q6, rfl⟩
    · cases hk
end
theorem PC.calls {C : Cx} {X : Sc} {P : Program} (hC : C.Good P) (hm : P.follows .mixedOrders = true) {W : World} (hS : Sums P W.heap.size W C) {f : FuncId} {as : List SV} (h : PC C X f [] as (fun _ r => r = .p (.bool true)))
    {E : Env} {σ : St} {Φ : Fz} (hA : Ar P C.T X W E σ Φ) {vs args : List Value} (hv : LRel P E vs args) (ha : LVR C.T Φ [] as vs) :
    Calls P f ⟨args⟩ W fun e W' => e = .returned (.bool true) ∧ Below W.heap.size W W' := by
  obtain ⟨w, σ', Ψ, G', M', r, rfl, _, _, _, hr, K, hK⟩ := h.2 Φ [] σ vs hA.ws MR.none ha
  cases hr with
  | p hp =>
    cases hp with
    | bool =>
      refine (evFn_runs W.heap.size W hm hC hS K f vs σ _ _ (hK K (Nat.le_refl _))).2 E W args hA.rel hA.glob hv _ fun v' w' F _ _ f3 f4 => ?_
      cases f4
      exact ⟨rfl, f3.below⟩
section
variable {H : Type} {enc : TypeId × Value → H} {P : Program}
theorem trodAll_below (hl : laidOutB P = true) {W W' : World} (hb : Below W.heap.size W W') {sp : Nat → Bool} : ∀ {ts : List TypeId} {vs : List Value} {ds : List (DataW H)} {ps : List MemPlace}, (∀ t, t ∈ ts → P.readableRec t = true ∧ t < P.types.size) →
    DataW.TrodAll enc P W 0 (fun _ => true) true ts vs ds ps → (∀ p, p ∈ ps → p.block < W.heap.size) → (∀ p, p ∈ ps → sp p.block = true) → DataW.TrodAll enc P W' 0 sp true ts vs ds ps
  | [], [], [], ps, _, h, _, _ => h
  | t :: ts, v :: vs, d :: ds, ps, ht, ⟨p, q, h1, h2, h3⟩, hlt, hs => by
    subst h3
    exact ⟨p, q, WideElems.Trod_stays hl (ht t (.head _)).1 (ht t (.head _)).2 h1 (fun x hx => hb.same (hlt x (List.mem_append_left _ hx))) (fun x hx => hs x (List.mem_append_left _ hx)),
      trodAll_below hl hb (fun t' h' => ht t' (.tail _ h')) h2 (fun x hx => hlt x (List.mem_append_right _ hx)) (fun x hx => hs x (List.mem_append_right _ hx)), rfl⟩
theorem post_below {f : Func} {s : ChangeSpec} {apart fresh handsOn again : Bool} {W W' : World} {args : Array Value} {v : Value} {ds : List (DataW H)} {before : List MemPlace} (hl : laidOutB P = true)
    (hrd : ∀ t, t ∈ f.params.toList → P.readableRec t = true ∧ t < P.types.size) (hsv : s.vars = []) (hW : DataW.Whole enc P f.params.toList s.vars apart W args.toList ds [] before) (hb : Below W.heap.size W W')
    (hres : ∀ (b : Nat) (sp : Nat → Bool) (hd : Bool), DataW.TrodAll enc P W' b sp hd f.resultTypes.toList (v.resultList f.resultTypes.size) (s.fn H (ds ++ [])).results [])
    (hargs : (s.fn H (ds ++ [])).args = ds) (hvars : (s.fn H (ds ++ [])).vars = [])
    (hok : ∀ (j : Nat) (t : TypeId) (r : Value), f.resultTypes[j]? = some t → (v.resultList f.resultTypes.size)[j]? = some r → Value.okWide P W' .any 0 t r) :
    s.post enc P f apart fresh handsOn again W args v W' := by
  have hlt := hW.lt
  have hold : ∀ p, p ∈ before → (fun b => decide (b < W.heap.size)) p.block = true := fun p hp => by simpa using hlt p hp
  have hW0 := hW
  obtain ⟨pa, pv, hA, hV, hps, hz, hn⟩ := hW
  rw [hsv] at hV
  have hpv : pv = [] := hV
  subst hpv
  rw [List.append_nil] at hps
  subst hps
  have hA' : ∀ sp : Nat → Bool, (∀ p, p ∈ before → sp p.block = true) → DataW.TrodAll enc P W' 0 sp true f.params.toList args.toList (s.fn H (ds ++ [])).args before := fun sp hs => by
    rw [hargs]; exact trodAll_below hl hb hrd hA hlt hs
  have hV' : ∀ sp : Nat → Bool, DataW.TrodVars enc P W' sp s.vars (s.fn H (ds ++ [])).vars [] := fun sp => by
    rw [hsv, hvars]; exact rfl
  refine ⟨ds, [], before, [], before, [], hW0, hres _ _ _, hA' _ hold, hV' _, World.keptBut_mono (fun p hp => ⟨hp, Or.inr ?_⟩) (hb.frame (· ∈ before)), fun _ => ?_⟩
  · exact .inl hp
  · refine ⟨hok, _, _, ([] ++ before) ++ [], ⟨[] ++ before, [], trodAll_append (hA' _ (fun _ _ => rfl)) (hres _ _ _), hV' _, rfl, ?_, ?_⟩, ?_⟩
    · intro b off hp
      have hp : MemPlace.cell b off ∈ before := by simpa using hp
      rw [hb.frozen (p := ⟨b, off, none⟩) (hlt _ hp)]
      exact hz b off hp
    · intro ha
      simpa using hn ha
    · intro p hp _
      simpa using hp
end
end Go.Sx
end
section
namespace Go.Sx
open Go.Ev Go.RowKit Go.ChangeShapes Go.WideShapes
mutual
def flatD {H : Type} : DataW H → List Value
  | .lit (.bool b) => [.bool b]
  | .lit (.int k n) => [.int k n]
  | .lit (.string l) => [.string ⟨l.toArray⟩]
  | .agg ds => flatL ds
  | _ => []
def flatL {H : Type} : List (DataW H) → List Value
  | [] => []
  | d :: r => flatD d ++ flatL r
end
def okTyA (P : Program) : Nat → TypeId → Bool
  | 0, _ => false
  | n + 1, t => match P.underlying t with
    | some .bool => true
    | some (.int _) => true
    | some .string => true
    | some (.array k e) => Nat.beq (P.cellsOf t) (k * P.cellsOf e) && okTyA P n e
    | some (.struct fs) => fldsOk P 0 fs.toList (P.cellsOf t) && fs.toList.all fun f => okTyA P n f.type
    | _ => false
section
variable {H : Type} {enc : TypeId × Value → H} {P : Program} {w : World} {base : Nat} {spare : Nat → Bool} {held : Bool}
theorem flat_flds {n m : Nat} (ih : ∀ (fuel : Nat) (t : TypeId) (cs : List Value) (x : DataW H × List MemPlace), DataW.trod enc P w base spare held fuel t cs = some x → okTyA P n t = true → cs = flatD x.1) {cs : List Value} :
    ∀ (fs : List Field) (xs : List (DataW H × List MemPlace)) (o : Nat), fldsOk P o fs cs.length = true → fs.all (fun f => okTyA P n f.type) = true → fs.length = xs.length →
      (∀ (i : Nat) (f : Field), fs[i]? = some f → DataW.trod enc P w base spare held m f.type ((cs.drop f.offset).take (P.cellsOf f.type)) = xs[i]?) → cs.drop o = flatL (xs.map (·.1))
  | [], [], o, h1, _, _, _ => by
    have : cs.length = o := (Nat.eq_of_beq_eq_true h1).symm
    rw [List.drop_of_length_le (by omega)]; simp [flatL]
  | f :: r, x :: xs, o, h1, h2, hl, h3 => by
    simp only [fldsOk, Bool.and_eq_true] at h1
    simp only [List.all_cons, Bool.and_eq_true] at h2
    have ho : f.offset = o := Nat.eq_of_beq_eq_true h1.1
    have h0 := ih m f.type _ x (by simpa using h3 0 f rfl) h2.1
    have hr := flat_flds ih r xs _ h1.2 h2.2 (by simpa using hl) (fun i g hg => by simpa using h3 (i + 1) g (by simpa using hg))
    rw [ho] at h0
    rw [List.map_cons, flatL, ← h0, ← hr, ← List.drop_drop, List.take_append_drop]
  | [], _ :: _, _, _, _, hl, _ => by simp at hl
  | _ :: _, [], _, _, _, hl, _ => by simp at hl
theorem flat_arr {n m : Nat} {e : TypeId} (ih : ∀ (fuel : Nat) (t : TypeId) (cs : List Value) (x : DataW H × List MemPlace), DataW.trod enc P w base spare held fuel t cs = some x → okTyA P n t = true → cs = flatD x.1) (he : okTyA P n e = true) {cs : List Value} :
    ∀ (xs : List (DataW H × List MemPlace)) (i : Nat), cs.length = (i + xs.length) * P.cellsOf e →
      (∀ j, j < xs.length → DataW.trod enc P w base spare held m e ((cs.drop ((i + j) * P.cellsOf e)).take (P.cellsOf e)) = xs[j]?) → cs.drop (i * P.cellsOf e) = flatL (xs.map (·.1))
  | [], i, hl, _ => by
    rw [List.drop_of_length_le (by rw [hl]; simp)]; simp [flatL]
  | x :: xs, i, hl, h => by
    have h0 := ih m e _ x (by simpa using h 0 (by simp)) he
    have hr := flat_arr ih he xs (i + 1) (by rw [hl, List.length_cons]; congr 1; omega) (fun j hj => by
      have := h (j + 1) (by simp; omega)
      rw [show i + 1 + j = i + (j + 1) by omega]
      simpa using this)
    rw [List.map_cons, flatL, ← h0, ← hr, Nat.succ_mul, ← List.drop_drop, List.take_append_drop]
theorem flat_ok : ∀ (n fuel : Nat) (t : TypeId) (cs : List Value) (x : DataW H × List MemPlace), DataW.trod enc P w base spare held fuel t cs = some x → okTyA P n t = true → cs = flatD x.1
  | 0, _, _, _, _, _, hk => by cases hk
  | n + 1, fuel, t, cs, x, hx, hk => by
    unfold okTyA at hk
    split at hk
    · rename_i ht
      obtain ⟨b, rfl, rfl⟩ := DataW.trod_bool ht hx
      simp [flatD]
    · rename_i k ht
      obtain ⟨i, rfl, rfl, _⟩ := DataW.trod_int ht hx
      simp [flatD]
    · rename_i ht
      obtain ⟨s, rfl, rfl, _⟩ := DataW.trod_string ht hx
      simp [flatD]
    · rename_i k e ht
      simp only [Bool.and_eq_true] at hk
      obtain ⟨xs, m, _, rfl, hlen, hxl, hf⟩ := DataW.trod_array ht hx
      have := flat_arr (w := w) (enc := enc) (base := base) (spare := spare) (held := held) (n := n) (m := m) (fun f t cs x => flat_ok n f t cs x) hk.2 (cs := cs) xs 0 (by rw [hlen, Nat.eq_of_beq_eq_true hk.1, hxl, Nat.zero_add]) (fun j hj => by
        rw [Nat.zero_add]; exact hf j (by omega))
      simpa [flatD] using this
    · rename_i fs ht
      simp only [Bool.and_eq_true] at hk
      obtain ⟨xs, m, _, rfl, hlen, hxl, hf⟩ := DataW.trod_struct ht hx
      have := flat_flds (w := w) (enc := enc) (base := base) (spare := spare) (held := held) (n := n) (m := m) (fun f t cs x => flat_ok n f t cs x) (cs := cs) fs.toList xs 0 (by rw [hlen]; exact hk.1) hk.2 (by simpa using hxl.symm) (fun i f hi => hf i f (by simpa using hi))
      simpa [flatD] using this
    · cases hk
end
theorem laid_cell {P : Program} {w : World} : ∀ {l : List (String × DataW Unit)} {ps : List MemPlace}, DataW.LaidVars P w l ps → ∀ {n : String} {d : DataW Unit}, (n, d) ∈ l → ∀ {g : Nat} {t : TypeId}, P.globalNamed n = some g → (P.globals[g]?).map (·.type) = some t →
    okTyA P 5 t = true → ∀ x, w.cell? ⟨g, x, none⟩ = (flatD d)[x]?
  | (n', d') :: r, ps, ⟨g', t', cs, fuel, p, q, h1, h2, h3, h4, h5, _⟩, n, d, hm, g, t, hg, ht, hk => by
    rcases List.mem_cons.1 hm with he | he
    · cases he
      rw [hg] at h1; cases h1
      rw [ht] at h2; cases h2
      intro x
      have := flat_ok 5 _ _ _ _ h4 hk
      rw [World.var?_cell hg h3 x, ← this]
      simp
    · exact laid_cell h5 he hg ht hk
end Go.Sx
end
section
namespace Go.Sx
open Go.Ev Go.RowKit
inductive Bt where
  | leaf (t : Nat) (i : TI)
  | node (k : Nat) (l r : Bt)
def Bt.get : Bt → Nat → Option TI
  | .leaf t i, x => cond (Nat.beq x t) (some i) none
  | .node k l r, x => cond (Nat.ble x k) (l.get x) (r.get x)
def Bt.all (p : Nat → TI → Bool) : Bt → Bool
  | .leaf t i => p t i
  | .node _ l r => l.all p && r.all p
theorem Bt.all_get {p : Nat → TI → Bool} : ∀ {b : Bt} {x : Nat} {i : TI}, b.all p = true → b.get x = some i → p x i = true
  | .leaf t i', x, i, h, g => by
    simp only [Bt.get] at g
    cases hb : Nat.beq x t with
    | false => rw [hb] at g; cases g
    | true => rw [hb] at g; cases g; rw [Nat.eq_of_beq_eq_true hb]; exact h
  | .node k l r, x, i, h, g => by
    simp only [Bt.all, Bool.and_eq_true] at h
    simp only [Bt.get] at g
    cases hb : Nat.ble x k with
    | false => rw [hb] at g; exact Bt.all_get h.2 g
    | true => rw [hb] at g; exact Bt.all_get h.1 g
def zmatch : List SV → List Value → Bool
  | [], [] => true
  | .p (.int k n) :: r, .int k' n' :: s => decide (k = k') && decide (n = n') && zmatch r s
  | .p (.bool b) :: r, .bool b' :: s => b == b' && zmatch r s
  | .p (.str b) :: r, .string b' :: s => decide (b = b') && zmatch r s
  | .nl _ :: r, .slice none 0 0 :: s => zmatch r s
  | _, _ => false
theorem zmatch_ok {T : Tabs} {Φ : Fz} {G : List GB} {z : List SV} {ws : List Value} (h : zmatch z ws = true) : LVR T Φ G z ws := by
  fun_induction zmatch z ws with
  | case1 => exact .nil
  | case2 k n r k' n' s ih =>
    simp only [Bool.and_eq_true, decide_eq_true_eq] at h
    obtain ⟨⟨rfl, rfl⟩, h3⟩ := h
    exact .cons (.p (.int _ _)) (ih h3)
  | case3 b r b' s ih =>
    simp only [Bool.and_eq_true, beq_iff_eq] at h
    obtain ⟨rfl, h3⟩ := h
    exact .cons (.p (.bool _)) (ih h3)
  | case4 b r b' s ih =>
    simp only [Bool.and_eq_true, decide_eq_true_eq] at h
    obtain ⟨rfl, h3⟩ := h
    exact .cons (.p (.str _)) (ih h3)
  | case5 e r s ih => exact .cons (.nl _) (ih h)
  | case6 => cases h
def oeq : Option Nat → Option Nat → Bool
  | none, none => true
  | some a, some b => Nat.beq a b
  | _, _ => false
def oeq2 : Option (Nat × Nat) → Option (Nat × Nat) → Bool
  | none, none => true
  | some (a, b), some (c, d) => Nat.beq a c && Nat.beq b d
  | _, _ => false
def fldB : List (Nat × Nat) → List Field → Bool
  | [], [] => true
  | (o, t) :: r, f :: s => Nat.beq o f.offset && Nat.beq t f.type && fldB r s
  | _, _ => false
theorem oeq_ok {a b : Option Nat} (h : oeq a b = true) : a = b := by
  unfold oeq at h
  split at h
  · rfl
  · rw [Nat.eq_of_beq_eq_true h]
  · cases h
theorem oeq2_ok {a b : Option (Nat × Nat)} (h : oeq2 a b = true) : a = b := by
  unfold oeq2 at h
  split at h
  · rfl
  · simp only [Bool.and_eq_true] at h; rw [Nat.eq_of_beq_eq_true h.1, Nat.eq_of_beq_eq_true h.2]
  · cases h
theorem fldB_ok : ∀ {l : List (Nat × Nat)} {fs : List Field}, fldB l fs = true → l = fs.map fun f => (f.offset, f.type)
  | [], [], _ => rfl
  | (o, t) :: r, f :: s, h => by
    simp only [fldB, Bool.and_eq_true] at h
    rw [List.map_cons, ← fldB_ok h.2, Nat.eq_of_beq_eq_true h.1.1, Nat.eq_of_beq_eq_true h.1.2]
  | [], _ :: _, h => by simp [fldB] at h
  | _ :: _, [], h => by simp [fldB] at h
def structB (T : Tabs) (i : TI) : TypeDesc → Bool
  | .struct fs => fldB i.flds fs.toList && (placesOf T fs.toList).isSome
  | _ => false
theorem structB_ok {T : Tabs} {i : TI} {d : TypeDesc} (h : structB T i d = true) : ∃ fs pl, d = .struct fs ∧ i.flds = fs.toList.map (fun f => (f.offset, f.type)) ∧ placesOf T fs.toList = some pl := by
  unfold structB at h
  split at h
  · rename_i fs
    simp only [Bool.and_eq_true] at h
    obtain ⟨pl, hpl⟩ := Option.isSome_iff_exists.1 h.2
    exact ⟨fs, pl, rfl, fldB_ok h.1, hpl⟩
  · cases h
def isNil {α : Type} : List α → Bool
  | [] => true
  | _ => false
def isBool : TypeDesc → Bool
  | .bool => true
  | _ => false
def tiB (T : Tabs) (t : TypeId) (i : TI) : Bool := match T.info t, T.und t with
  | some inf, some d => Nat.beq inf.size i.size && Nat.beq inf.bytes i.bytes && (match i.zero with
      | none => true
      | some z => match zeroOk inf with
        | some zv => zmatch z (cellsL zv)
        | none => false) &&
      (aggD d == i.agg && oeq (sliceElem (some d)) i.elem && oeq2 (arrayElem (some d)) i.arr && decide (intK (some d) = i.ik) && isStr (some d) == i.str && (!i.bl || isBool d) && (isNil i.flds || structB T i d) && (!i.agg || i.arr.isSome || structB T i d)) && (i.agg || Nat.beq i.size 1) && (!i.ib || T.ib t)
  | _, _ => false
theorem tiB_ok {T : Tabs} {t : TypeId} {i : TI} (h : tiB T t i = true) : TIok T t i := by
  unfold tiB at h
  split at h
  · rename_i inf d hinf hd
    simp only [Bool.and_eq_true, Bool.or_eq_true, beq_iff_eq, decide_eq_true_eq, Bool.not_eq_true'] at h
    obtain ⟨⟨⟨⟨⟨h1, h2⟩, h3⟩, ⟨⟨⟨⟨⟨⟨h4, h5⟩, h6⟩, h7⟩, h8⟩, h9⟩, h10⟩, h11⟩, h12⟩, h13⟩ := h
    refine ⟨⟨inf, hinf, Nat.eq_of_beq_eq_true h1, Nat.eq_of_beq_eq_true h2, fun z hz => ?_⟩, ⟨d, hd, h4, oeq_ok h5, oeq2_ok h6, h7, h8, fun hb => ?_, ?_, fun ha har => ?_⟩, fun ha => ?_, fun ha => ?_⟩
    · rw [hz] at h3
      simp only at h3
      split at h3
      · rename_i zv hzv; exact ⟨zv, hzv, fun Φ G => zmatch_ok h3⟩
      · cases h3
    · rcases h9 with h9 | h9
      · rw [hb] at h9; cases h9
      · unfold isBool at h9; split at h9
        · rfl
        · cases h9
    · rcases h10 with h10 | h10
      · left; cases hf : i.flds with
        | nil => rfl
        | cons => rw [hf] at h10; cases h10
      · exact .inr (structB_ok h10)
    · rcases h11 with (h11 | h11) | h11
      · rw [ha] at h11; cases h11
      · rw [har] at h11; cases h11
      · exact structB_ok h11
    · rcases h12 with h12 | h12
      · rw [ha] at h12; cases h12
      · exact Nat.eq_of_beq_eq_true h12
    · rcases h13 with h13 | h13
      · rw [ha] at h13; cases h13
      · exact h13
  · cases h
theorem good_of {X : Sc} {T : Tabs} {b : Bt} (hx : X.ti = b.get) (h : b.all (tiB T) = true) : X.Good T := fun t i hi => tiB_ok (Bt.all_get h (by rw [← hx]; exact hi))
end Go.Sx
end
section
namespace Go.Sx.Tz
open Go Go.Ev Go.Sx
def t0 : TI := ⟨1, 0, false, none, none, [], none, none, false, false, false⟩
def t3 : TI := ⟨1, 8, false, none, none, [], (some [.p (.int .i64 0)]), (some .i64), false, false, false⟩
def t4 : TI := ⟨1, 1, false, none, none, [], (some [.p (.bool false)]), none, false, true, false⟩
def t5 : TI := ⟨1, 1, false, none, none, [], (some [.p (.int .u8 0)]), (some .u8), false, false, false⟩
def t9 : TI := ⟨1, 16, false, none, none, [], (some [.p (.str ⟨#[]⟩)]), none, true, false, false⟩
def t22 : TI := ⟨1, 24, false, (some 29), none, [], (some [.nl 29]), none, false, false, false⟩
def t24 : TI := ⟨1, 8, false, none, none, [], (some [.p (.int .i64 0)]), (some .i64), false, false, false⟩
def t26 : TI := ⟨1, 8, false, none, none, [], (some [.p (.int .i64 0)]), (some .i64), false, false, false⟩
def t27 : TI := ⟨1, 24, false, (some 3), none, [], (some [.nl 3]), none, false, false, false⟩
def t29 : TI := ⟨2, 32, true, none, none, [(0, 26), (1, 27)], (some [.p (.int .i64 0), .nl 3]), none, false, false, false⟩
def t30 : TI := ⟨1, 8, false, none, none, [], none, none, false, false, false⟩
def t32 : TI := ⟨1, 24, false, (some 36), none, [], (some [.nl 36]), none, false, false, false⟩
def t33 : TI := ⟨1, 0, false, none, none, [], none, none, false, false, false⟩
def t36 : TI := ⟨1, 24, false, (some 77), none, [], (some [.nl 77]), none, false, false, false⟩
def t38 : TI := ⟨1, 24, false, (some 51), none, [], (some [.nl 51]), none, false, false, false⟩
def t42 : TI := ⟨1, 0, false, none, none, [], none, none, false, false, false⟩
def t49 : TI := ⟨1, 24, false, (some 112), none, [], (some [.nl 112]), none, false, false, false⟩
def t51 : TI := ⟨4, 64, true, none, none, [(0, 24), (1, 4), (2, 49), (3, 49)], (some [.p (.int .i64 0), .p (.bool false), .nl 112, .nl 112]), none, false, false, false⟩
def t53 : TI := ⟨1, 0, false, none, none, [], none, none, false, false, false⟩
def t58 : TI := ⟨1, 8, false, none, none, [], none, none, false, false, false⟩
def t62 : TI := ⟨3, 72, true, none, (some (3, 38)), [], (some [.nl 51, .nl 51, .nl 51]), none, false, false, false⟩
def t75 : TI := ⟨1, 24, false, (some 154), none, [], (some [.nl 154]), none, false, false, false⟩
def t77 : TI := ⟨4, 80, true, none, none, [(0, 29), (2, 38), (3, 75)], (some [.p (.int .i64 0), .nl 3, .nl 51, .nl 154]), none, false, false, false⟩
def t79 : TI := ⟨1, 0, false, none, none, [], none, none, false, false, false⟩
def t81 : TI := ⟨1, 24, false, (some 38), none, [], (some [.nl 38]), none, false, false, false⟩
def t85 : TI := ⟨1, 0, false, none, none, [], none, none, false, false, false⟩
def t92 : TI := ⟨1, 24, false, (some 51), none, [], (some [.nl 51]), none, false, false, false⟩
def t94 : TI := ⟨1, 8, false, none, none, [], none, none, false, false, false⟩
def t100 : TI := ⟨1, 8, false, none, none, [], none, none, false, false, false⟩
def t103 : TI := ⟨1, 8, false, none, none, [], none, none, false, false, false⟩
def t104 : TI := ⟨1, 8, false, none, none, [], none, none, false, false, false⟩
def t106 : TI := ⟨1, 0, false, none, none, [], none, none, false, false, false⟩
def t112 : TI := ⟨1, 4, false, none, none, [], (some [.p (.int .u32 0)]), (some .u32), false, false, false⟩
def t116 : TI := ⟨1, 8, false, none, none, [], (some [.p (.int .u64 0)]), (some .u64), false, false, false⟩
def t154 : TI := ⟨2, 16, true, none, none, [(0, 24), (1, 4)], (some [.p (.int .i64 0), .p (.bool false)]), none, false, false, true⟩
def t168 : TI := ⟨1, 0, false, none, none, [], none, none, false, false, false⟩
def t171 : TI := ⟨1, 8, false, none, none, [], none, none, false, false, false⟩
def t173 : TI := ⟨1, 0, false, none, none, [], none, none, false, false, false⟩
def t178 : TI := ⟨2, 32, true, none, none, [(0, 4), (1, 49)], (some [.p (.bool false), .nl 112]), none, false, false, false⟩
def t212 : TI := ⟨1, 8, false, none, none, [], none, none, false, false, false⟩
def t238 : TI := ⟨1, 0, false, none, none, [], none, none, false, false, false⟩
def t243 : TI := ⟨1, 0, false, none, none, [], none, none, false, false, false⟩
def t289 : TI := ⟨1, 24, false, (some 24), none, [], (some [.nl 24]), none, false, false, false⟩
def t305 : TI := ⟨1, 24, false, (some 49), none, [], (some [.nl 49]), none, false, false, false⟩
def t339 : TI := ⟨1, 0, false, none, none, [], none, none, false, false, false⟩
def tiT : Bt := (.node 75 (.node 30 (.node 9 (.node 3 (.node 0 (.leaf 0 t0) (.leaf 3 t3)) (.node 4 (.leaf 4 t4) (.node 5 (.leaf 5 t5) (.leaf 9 t9)))) (.node 26 (.node 22 (.leaf 22 t22) (.node 24 (.leaf 24 t24) (.leaf 26 t26))) (.node 27 (.leaf 27 t27) (.node 29 (.leaf 29 t29) (.leaf 30 t30))))) (.node 42 (.node 33 (.node 32 (.leaf 32 t32) (.leaf 33 t33)) (.node 36 (.leaf 36 t36) (.node 38 (.leaf 38 t38) (.leaf 42 t42)))) (.node 53 (.node 49 (.leaf 49 t49) (.node 51 (.leaf 51 t51) (.leaf 53 t53))) (.node 58 (.leaf 58 t58) (.node 62 (.leaf 62 t62) (.leaf 75 t75)))))) (.node 112 (.node 92 (.node 79 (.node 77 (.leaf 77 t77) (.leaf 79 t79)) (.node 81 (.leaf 81 t81) (.node 85 (.leaf 85 t85) (.leaf 92 t92)))) (.node 103 (.node 94 (.leaf 94 t94) (.node 100 (.leaf 100 t100) (.leaf 103 t103))) (.node 104 (.leaf 104 t104) (.node 106 (.leaf 106 t106) (.leaf 112 t112))))) (.node 178 (.node 168 (.node 116 (.leaf 116 t116) (.node 154 (.leaf 154 t154) (.leaf 168 t168))) (.node 171 (.leaf 171 t171) (.node 173 (.leaf 173 t173) (.leaf 178 t178)))) (.node 243 (.node 212 (.leaf 212 t212) (.node 238 (.leaf 238 t238) (.leaf 243 t243))) (.node 289 (.leaf 289 t289) (.node 305 (.leaf 305 t305) (.leaf 339 t339)))))))
end Go.Sx.Tz
end
end

/- Part of the proof that whatever the two series: JetSums answers true -/
import Derived.Test.YtcnmkdpnbaidgaaGreatDoorT1
import Derived.IntWalk
set_option linter.all false
noncomputable section
section
namespace Go.Ev
open Go.RowKit
variable {P : Program} {B : Nat} {w0 : World}
structure Fix (P : Program) (B : Nat) (w0 : World) where
  C : Cx
  N : Nat
  ops : Array Oper
  M : Tr Nat
  wr : Tr Nat
  tm0 : Tr Value
  E0 : Env
  s0 : Nat
structure Fix.Good (X : Fix P B w0) : Prop where
  C : X.C.Good P
  mask : ∀ (i : Nat) (o : Oper), X.ops[i]? = some o → ∀ k, bit (maskAt X.M i) k = true → ∃ e ∈ o.after, Region.binds .any e = true ∧ (e.on = k ∨ bit (maskAt X.M e.on) k = true)
  acyc : ∀ (i : Nat) (o : Oper), X.ops[i]? = some o → ∀ e ∈ o.after, Region.binds .any e = true → e.on < i
  wr : ∀ (i : Nat) (o : Oper) d, X.ops[i]? = some o → o.dst = some d → X.wr.get d = some i
  wr' : ∀ d w, X.wr.get d = some w → ∃ o, X.ops[w]? = some o ∧ o.dst = some d
structure SI (X : Fix P B w0) (L : Array Bool) (a : Act) (w : World) (E : Env) (tmc tm : Tr Value) (σ : St) (ids : Tr Nat) (ex : Nat → Prop) : Prop where
  inv : Inv P B w0 X.C X.N E tmc σ a w
  view : ∀ t, (∀ v, X.wr.get t = some v → L.getD v false = true) → X.wr.get t ≠ none → tmc.get t = tm.get t
  view0 : ∀ t, (∀ v, X.wr.get t = some v → L.getD v false = false) → tmc.get t = X.tm0.get t
  canon : ∀ t, (∀ v, X.wr.get t = some v → ¬ ex v) → tm.get t = X.tm0.get t
  sub : ∀ i, L.getD i false = true → ex i
  down : ∀ (i : Nat) (o : Oper), X.ops[i]? = some o → L.getD i false = true → ∀ e ∈ o.after, Region.binds .any e = true → L.getD e.on false = true
  ghost : ∀ i id, ids.get i = some id → id < σ.next ∧ X.s0 ≤ id ∧ (L.getD i false = false → E.ι id = none)
  inj : ∀ i j id, ids.get i = some id → ids.get j = some id → i = j
  ext : X.E0.ext X.s0 E
  next : X.s0 ≤ σ.next
  size : L.size = X.ops.size
variable {X : Fix P B w0} {L : Array Bool} {a : Act} {w : World} {E : Env} {tmc tm : Tr Value} {σ : St} {ids : Tr Nat} {ex : Nat → Prop}
theorem getD_lt {L : Array Bool} {i : Nat} (h : L.getD i false = true) : i < L.size := by
  rcases Nat.lt_or_ge i L.size with h' | h'
  · exact h'
  · simp [Array.getElem?_eq_none h'] at h
theorem getD_set {L : Array Bool} {i : Nat} (hi : i < L.size) (j : Nat) : (L.setIfInBounds i true).getD j false = true ↔ (L.getD j false = true ∨ j = i) := by
  by_cases hj : j = i
  · subst hj; simp [hi]
  · simp [Array.getElem?_setIfInBounds_ne (Ne.symm hj), hj]
theorem getD_false {L : Array Bool} {i : Nat} (h : ¬ L.getD i false = true) : L.getD i false = false := by simpa using h
theorem SI.closed (hX : X.Good) (h : SI X L a w E tmc tm σ ids ex) : ∀ (i : Nat) (o : Oper), X.ops[i]? = some o → (∀ e ∈ o.after, Region.binds .any e = true → L.getD e.on false = true) →
    ∀ k, bit (maskAt X.M i) k = true → L.getD k false = true := by
  intro i
  induction i using Nat.strongRecOn with
  | _ i ih =>
    intro o ho hr k hk
    obtain ⟨e, he, hb, h1⟩ := hX.mask i o ho k hk
    have hL := hr e he hb
    rcases h1 with h1 | h1
    · exact h1 ▸ hL
    · have hlt := hX.acyc i o ho e he hb
      have hsz : e.on < X.ops.size := h.size ▸ getD_lt hL
      exact ih e.on hlt _ (Array.getElem?_eq_getElem hsz) (h.down _ _ (Array.getElem?_eq_getElem hsz) hL) k h1
theorem SI.full (hX : X.Good) (h : SI X L a w E tmc tm σ ids ex) (hr : Region.ready .any X.ops L = []) : ∀ i, i < X.ops.size → L.getD i false = true := by
  intro i
  induction i using Nat.strongRecOn with
  | _ i ih =>
    intro hi
    by_cases hl : L.getD i false = true
    · exact hl
    · exfalso
      have ho : X.ops[i]? = some X.ops[i] := Array.getElem?_eq_getElem hi
      have : i ∈ Region.ready .any X.ops L := by
        rw [mem_ready]
        refine ⟨?_, _, ho, fun e he hb => ?_⟩
        · have : i < L.size := by rw [h.size]; exact hi
          simp [this] at hl ⊢; exact hl
        · have hlt := hX.acyc i _ ho e he hb
          exact ih e.on hlt (by omega)
      rw [hr] at this
      cases this
theorem SI.reads (hX : X.Good) (h : SI X L a w E tmc tm σ ids ex) {i : Nat} {o : Oper} (ho : X.ops[i]? = some o) (hr : ∀ e ∈ o.after, Region.binds .any e = true → L.getD e.on false = true) {exm : Nat}
    (hex : ∀ i, ex i ↔ bit exm i = true) (hro : readsOk X.ops.toList X.M X.wr exm i = true) : ∀ t ∈ readsOf X.ops.toList o, tmc.get t = tm.get t := by
  intro t ht
  unfold readsOk at hro
  have ho' : X.ops.toList[i]? = some o := by simpa using ho
  rw [ho'] at hro
  have := List.all_eq_true.1 hro t ht
  cases hw : X.wr.get t with
  | none =>
    rw [h.view0 t (fun v hv => by rw [hw] at hv; cases hv), h.canon t (fun v hv => by rw [hw] at hv; cases hv)]
  | some v =>
    rw [hw] at this
    simp only [Bool.or_eq_true, Bool.not_eq_true'] at this
    rcases this with h1 | h1
    · exact h.view t (fun v' hv' => by rw [hw] at hv'; cases hv'; exact h.closed hX i o ho hr _ h1) (by rw [hw]; simp)
    · have hnex : ¬ ex v := by rw [hex]; simp [h1]
      rw [h.canon t (fun v' hv' => by rw [hw] at hv'; cases hv'; exact hnex), h.view0 t (fun v' hv' => by
        rw [hw] at hv'; cases hv'
        exact getD_false fun hl => hnex (h.sub _ hl))]
theorem wanted_congr {ops : List Oper} {o : Oper} (h : ∀ t ∈ readsOf ops o, tmc.get t = tm.get t) : wantedT ops tmc o.guard = wantedT ops tm o.guard := by
  unfold wantedT
  unfold readsOf at h
  split
  · rfl
  · rename_i g want hg
    rw [hg] at h
    simp only at h
    split
    · rename_i og hog
      rw [hog] at h
      simp only at h
      split
      · rename_i t ht
        rw [h t (by simp [ht])]
      · rfl
    · rfl
theorem ops_congr {ops : List Oper} {o : Oper} (h : ∀ t ∈ readsOf ops o, tmc.get t = tm.get t) {T : Tabs} : ∀ x ∈ o.op.operands, opd T tmc x = opd T tm x :=
  operands_congr fun t ht => h t (List.mem_append_left _ ht)
theorem SI.put (hX : X.Good) (h : SI X L a w E tmc tm σ ids ex) {f : Nat} {o : Oper} (ho : X.ops[f]? = some o) (hf : ¬ ex f) {tm' : Tr Value} (ht : ∀ t, o.dst ≠ some t → tm'.get t = tm.get t) :
    SI X L a w E tmc tm' σ ids (fun i => ex i ∨ i = f) := by
  refine ⟨h.inv, fun t h1 h2 => ?_, h.view0, fun t h1 => ?_, fun i hi => .inl (h.sub i hi), h.down, h.ghost, h.inj, h.ext, h.next, h.size⟩
  · rw [h.view t h1 h2, ht t]
    intro hd
    have := hX.wr f o t ho hd
    exact hf (h.sub _ (h1 _ this))
  · rw [ht t, h.canon t fun v hv he => h1 v hv (.inl he)]
    intro hd
    exact h1 _ (hX.wr f o t ho hd) (.inr rfl)
theorem SI.push (h : SI X L a w E tmc tm σ ids ex) (f : Nat) (ob : AObj) : SI X L a w E tmc tm (σ.push ob) (ids.set f σ.next) ex := by
  refine ⟨⟨h.inv.rel.ghost ob, h.inv.tm, h.inv.glob, h.inv.size, h.inv.nops⟩, h.view, h.view0, h.canon, h.sub, h.down, fun i id hi => ?_, fun i j id hi hj => ?_, h.ext, Nat.le_succ_of_le h.next, h.size⟩
  · rw [Tr.get_set] at hi
    rw [St.next_push]
    by_cases hif : i = f
    · rw [if_pos hif] at hi; cases hi
      exact ⟨Nat.lt_succ_self _, h.next, fun _ => h.inv.rel.fresh⟩
    · rw [if_neg hif] at hi
      obtain ⟨x, y, z⟩ := h.ghost i id hi
      exact ⟨Nat.lt_succ_of_lt x, y, z⟩
  · rw [Tr.get_set] at hi hj
    by_cases hif : i = f
    · by_cases hjf : j = f
      · rw [hif, hjf]
      · rw [if_pos hif] at hi; rw [if_neg hjf] at hj; cases hi
        have := (h.ghost j _ hj).1
        omega
    · by_cases hjf : j = f
      · rw [if_neg hif] at hi; rw [if_pos hjf] at hj; cases hj
        have := (h.ghost i _ hi).1
        omega
      · rw [if_neg hif] at hi; rw [if_neg hjf] at hj
        exact h.inj i j id hi hj
theorem SI.fl (hX : X.Good) (h : SI X L a w E tmc tm σ ids ex) {f : Nat} (hf : ¬ ex f) {tm' : Tr Value} {σ' : St} {ids' : Tr Nat} (he : evFl X.C X.N X.ops.toList tm σ ids f = some (tm', σ', ids')) :
    SI X L a w E tmc tm' σ' ids' (fun i => ex i ∨ i = f) := by
  unfold evFl at he
  split at he
  · cases he
  · rename_i o ho
    have ho : X.ops[f]? = some o := by simpa using ho
    have hput : ∀ {v : Value} {t1 : Tr Value}, putT X.N tm o.dst v = some t1 → SI X L a w E tmc t1 σ ids (fun i => ex i ∨ i = f) := by
      intro v t1 hp
      exact h.put hX ho hf fun t ht => by rw [(putT_get hp).2 t, if_neg ht]
    split at he
    · cases he
    · split at he
      · rename_i t1 hp; cases he; exact hput hp
      · cases he
    · split at he
      · split at he
        · rename_i t1 hp; cases he; exact hput hp
        · cases he
      · split at he
        · split at he
          · rename_i t1 hp; cases he; exact (hput hp).push f _
          · cases he
        · cases he
theorem SI.iff (h : SI X L a w E tmc tm σ ids ex) {ex' : Nat → Prop} (he : ∀ i, ex i ↔ ex' i) : SI X L a w E tmc tm σ ids ex' :=
  ⟨h.inv, h.view, h.view0, fun t ht => h.canon t fun v hv hx => ht v hv ((he v).1 hx), fun i hi => (he i).1 (h.sub i hi), h.down, h.ghost, h.inj, h.ext, h.next, h.size⟩
theorem SI.fls (hX : X.Good) : ∀ (fl : List Nat) {tm : Tr Value} {σ : St} {ids : Tr Nat} {ex : Nat → Prop}, SI X L a w E tmc tm σ ids ex → fl.Nodup → (∀ f ∈ fl, ¬ ex f) → ∀ {tm' : Tr Value} {σ' : St} {ids' : Tr Nat},
    evFls X.C X.N X.ops.toList fl tm σ ids = some (tm', σ', ids') → SI X L a w E tmc tm' σ' ids' (fun i => ex i ∨ i ∈ fl)
  | [], tm, σ, ids, ex, h, _, _, tm', σ', ids', he => by
    simp only [evFls] at he; cases he
    exact h.iff fun i => by simp
  | f :: r, tm, σ, ids, ex, h, hn, hf, tm', σ', ids', he => by
    simp only [evFls] at he
    split at he
    · rename_i t1 σ1 ids1 h1
      have h2 := h.fl hX (hf f (List.mem_cons_self ..)) h1
      rw [List.nodup_cons] at hn
      have h3 := SI.fls hX r h2 hn.2 (fun g hg hx => by
        rcases hx with hx | hx
        · exact hf g (List.mem_cons_of_mem _ hg) hx
        · exact hn.1 (hx ▸ hg)) he
      exact h3.iff fun i => by rw [List.mem_cons, or_assoc]
    · cases he
theorem SI.done (hX : X.Good) (h : SI X L a w E tmc tm σ ids ex) {i : Nat} {o : Oper} (ho : X.ops[i]? = some o) (hr : ∀ e ∈ o.after, Region.binds .any e = true → L.getD e.on false = true)
    {v : Value} {tmc' tm' : Tr Value} {σ' : St} {a' : Act} {w' : World} {F : Env} {ex' : Nat → Prop}
    (hI : Inv P B w0 X.C X.N F tmc' σ' a' w') (h1 : ∀ t, tmc'.get t = if o.dst = some t then some v else tmc.get t) (h2 : ∀ t, tm'.get t = if o.dst = some t then some v else tm.get t)
    (hex : ∀ k, ex' k ↔ (ex k ∨ k = i)) (hg : ∀ k id, ids.get k = some id → k ≠ i → E.ι id = none → F.ι id = none) (hext : X.E0.ext X.s0 F) (hn : σ.next ≤ σ'.next) :
    SI X (L.setIfInBounds i true) a' w' F tmc' tm' σ' ids ex' := by
  have hi : i < L.size := h.size ▸ (Array.getElem?_eq_some_iff.1 ho).1
  have hset := getD_set (L := L) hi
  refine ⟨hI, fun t g1 g2 => ?_, fun t g1 => ?_, fun t g1 => ?_, fun k hk => ?_, fun k o' hk hL e he hb => ?_, fun k id hk => ?_, h.inj, hext, Nat.le_trans h.next hn, by rw [Array.size_setIfInBounds]; exact h.size⟩
  · rw [h1, h2]
    by_cases hd : o.dst = some t
    · rw [if_pos hd, if_pos hd]
    · rw [if_neg hd, if_neg hd]
      refine h.view t (fun v' hv' => ?_) g2
      rcases (hset v').1 (g1 v' hv') with hq | hq
      · exact hq
      · subst hq
        obtain ⟨o', ho', hd'⟩ := hX.wr' t _ hv'
        rw [ho] at ho'; cases ho'
        exact absurd hd' hd
  · rw [h1]
    have hd : o.dst ≠ some t := fun hd => by
      have := g1 i (hX.wr i o t ho hd)
      rw [(hset i).2 (.inr rfl)] at this; cases this
    rw [if_neg hd]
    refine h.view0 t fun v' hv' => getD_false fun hL => ?_
    have := g1 v' hv'
    rw [(hset v').2 (.inl hL)] at this; cases this
  · rw [h2]
    have hd : o.dst ≠ some t := fun hd => g1 i (hX.wr i o t ho hd) ((hex i).2 (.inr rfl))
    rw [if_neg hd]
    exact h.canon t fun v' hv' hx => g1 v' hv' ((hex v').2 (.inl hx))
  · rcases (hset k).1 hk with hq | hq
    · exact (hex k).2 (.inl (h.sub k hq))
    · exact (hex k).2 (.inr hq)
  · rcases (hset k).1 hL with hq | hq
    · exact (hset _).2 (.inl (h.down k o' hk hq e he hb))
    · subst hq
      rw [ho] at hk; cases hk
      exact (hset _).2 (.inl (hr e he hb))
  · obtain ⟨x, y, z⟩ := h.ghost k id hk
    refine ⟨Nat.lt_of_lt_of_le x hn, y, fun hL => ?_⟩
    have hki : k ≠ i := fun hki => by
      rw [hki, (hset i).2 (.inr rfl)] at hL; cases hL
    refine hg k id hk hki (z (getD_false fun hl => ?_))
    rw [(hset k).2 (.inl hl)] at hL; cases hL
theorem sameT_ok {N : Nat} {dst : Option Tmp} {v : Value} (h : sameT N tm dst v = true) : (∀ d, dst = some d → d < N) ∧ ∀ t, tm.get t = if dst = some t then some v else tm.get t := by
  cases dst with
  | none => exact ⟨fun d hd => (by cases hd), fun t => by simp⟩
  | some d =>
    simp only [sameT, Bool.and_eq_true] at h
    obtain ⟨h1, h2⟩ := h
    refine ⟨fun d' hd => by cases hd; exact Nat.le_of_ble_eq_true h1, fun t => ?_⟩
    by_cases ht : d = t
    · subst ht
      rw [if_pos rfl]
      split at h2
      · rename_i v' hv'
        rw [hv', veq_eq h2]
      · cases h2
    · rw [if_neg (by simpa using ht)]
theorem SI.float (hX : X.Good) {exm : Nat} (h : SI X L a w E tmc tm σ ids (fun i => bit exm i = true)) {i : Nat} {o : Oper} (ho : X.ops[i]? = some o) (hr : ∀ e ∈ o.after, Region.binds .any e = true → L.getD e.on false = true)
    (hnl : L.getD i false = false) (hex : bit exm i = true) (hro : readsOk X.ops.toList X.M X.wr exm i = true) (hp : evPd X.C X.N X.ops.toList tm σ ids i = true) {K : Act → World → Prop} {Q : Exit → Act → World → Prop}
    (hK : ∀ a' w' F tmc', SI X (L.setIfInBounds i true) a' w' F tmc' tm σ ids (fun i => bit exm i = true) → K a' w') : wpOp P X.ops Q i K a w := by
  have ho' : X.ops.toList[i]? = some o := by simpa using ho
  have hread := h.reads hX ho hr (fun _ => Iff.rfl) hro
  unfold evPd at hp
  rw [ho'] at hp
  simp only at hp
  unfold wpOp
  rw [ho]
  simp only
  have hexk : ∀ k, bit exm k = true ↔ (bit exm k = true ∨ k = i) := fun k => ⟨.inl, fun hk => hk.elim id fun hk => hk ▸ hex⟩
  split at hp
  · cases hp
  · rename_i hw
    rw [← wanted_congr hread] at hw
    rw [wantedT_ok h.inv.tm hw]
    simp only [Bool.false_eq_true, if_false]
    obtain ⟨s1, s2⟩ := sameT_ok hp
    obtain ⟨tmc', hput⟩ := putT_of (tm := tmc) (v := undef) s1
    exact hK _ w E tmc' (h.done hX ho hr (v := undef) (h.inv.put hput (Env.le.refl E) h.inv.rel undef_rel) (putT_get hput).2 s2 hexk (fun _ _ _ _ h => h) h.ext (Nat.le_refl _))
  · rename_i hw
    rw [← wanted_congr hread] at hw
    rw [wantedT_ok h.inv.tm hw]
    simp only [if_true]
    refine .inl ?_
    split at hp
    · rename_i hid
      split at hp
      · rename_i v hv
        rw [← evL_congr (ops_congr hread)] at hv
        obtain ⟨v', e1, e2⟩ := evL_ok hX.C.T hX.C.lies h.inv.rel h.inv.tm h.inv.glob hv
        obtain ⟨s1, s2⟩ := sameT_ok hp
        obtain ⟨tmc', hput⟩ := putT_of (tm := tmc) (v := v) s1
        unfold Oper.wp
        rw [e1, Oper.upon_value]
        exact hK _ w E tmc' (h.done hX ho hr (v := v) (h.inv.put hput (Env.le.refl E) h.inv.rel e2) (putT_get hput).2 s2 hexk (fun _ _ _ _ h => h) h.ext (Nat.le_refl _))
      · cases hp
    · rename_i id hid
      split at hp
      · rename_i ob mk hA
        rw [← evA_congr (ops_congr hread)] at hA
        simp only [Bool.and_eq_true] at hp
        obtain ⟨p1, p2⟩ := hp
        split at p1
        · rename_i ob' hob
          obtain rfl := aeq_eq p1
          obtain ⟨g1, g2, g3⟩ := h.ghost i id hid
          obtain ⟨s, e1, e2⟩ := evA_ok hX.C.T h.inv.tm h.inv.glob hA w
          obtain ⟨F, v', w', e3, e4, e5, e6, e7⟩ := h.inv.rel.made (g3 hnl) g1 hob e2
          obtain ⟨s1, s2⟩ := sameT_ok p2
          obtain ⟨tmc', hput⟩ := putT_of (tm := tmc) (v := mk id) s1
          unfold Oper.wp
          have e8 : (execOp a.eval o).run P w = .ok (.value v') w' := by rw [e1]; simp [e3]
          rw [e8, Oper.upon_value]
          refine hK _ w' F tmc' (h.done hX ho hr (v := mk id) (h.inv.put hput e4 e6 e7) (putT_get hput).2 s2 hexk (fun k id' hk hki hn => ?_) ⟨h.ext.le.trans e4, fun j hj => ?_⟩ (Nat.le_refl _))
          · rw [e5 id' fun hh => hki (h.inj k i id' hk (hh ▸ hid))]; exact hn
          · rw [e5 j (by omega)]; exact h.ext.old j hj
        · cases p1
      · cases hp
theorem SI.effect (hX : X.Good) {callF : FuncId → List Value → St → Option (Value × St)} (hR : Runs P B w0 X.C.T callF) {exm : Nat} (h : SI X L a w E tmc tm σ ids (fun i => bit exm i = true)) {i : Nat} {o : Oper} (ho : X.ops[i]? = some o)
    (hr : ∀ e ∈ o.after, Region.binds .any e = true → L.getD e.on false = true) (hro : readsOk X.ops.toList X.M X.wr exm i = true) {b : Bool} (hw : wantedT X.ops.toList tm o.guard = some b) {v : Value} {σ1 : St}
    (he : cond b (evXL X.C callF tm σ o.op) (some (undef, σ)) = some (v, σ1)) {tm1 : Tr Value} (hp : putT X.N tm o.dst v = some tm1) {K : Act → World → Prop} {Q : Exit → Act → World → Prop}
    (hK : ∀ a' w' F tmc', SI X (L.setIfInBounds i true) a' w' F tmc' tm1 σ1 ids (fun k => bit exm k = true ∨ k = i) → K a' w') : wpOp P X.ops Q i K a w := by
  have hread := h.reads hX ho hr (fun _ => Iff.rfl) hro
  unfold wpOp
  rw [ho]
  simp only
  rw [← wanted_congr hread] at hw
  rw [wantedT_ok h.inv.tm hw]
  obtain ⟨s1, s2⟩ := putT_get hp
  obtain ⟨tmc', hput⟩ := putT_of (tm := tmc) (v := v) s1
  cases b with
  | false =>
    simp only [Bool.false_eq_true, if_false]
    cases he
    exact hK _ w E tmc' (h.done hX ho hr (v := undef) (h.inv.put hput (Env.le.refl E) h.inv.rel undef_rel) (putT_get hput).2 s2 (fun _ => Iff.rfl) (fun _ _ _ _ h => h) h.ext (Nat.le_refl _))
  | true =>
    simp only [if_true]
    refine .inl ?_
    simp only [cond_true] at he
    unfold evXL at he
    split at he
    · rename_i v1 hv
      cases he
      rw [← evL_congr (ops_congr hread)] at hv
      obtain ⟨v', e1, e2⟩ := evL_ok hX.C.T hX.C.lies h.inv.rel h.inv.tm h.inv.glob hv
      unfold Oper.wp
      rw [e1, Oper.upon_value]
      exact hK _ w E tmc' (h.done hX ho hr (v := v) (h.inv.put hput (Env.le.refl E) h.inv.rel e2) (putT_get hput).2 s2 (fun _ => Iff.rfl) (fun _ _ _ _ h => h) h.ext (Nat.le_refl _))
    · rw [← evX_congr (ops_congr hread)] at he
      exact evX_ok hX.C hR h.inv.rel h.inv.tm h.inv.glob he fun v' w' F f1 f2 f3 f4 =>
        hK _ w' F tmc' (h.done hX ho hr (v := v) (h.inv.put hput f1.le f3 f4) (putT_get hput).2 s2 (fun _ => Iff.rfl) (fun k id hk _ hn => by rw [f1.old id (h.ghost k id hk).1]; exact hn) (h.ext.trans f1 h.next) f2)
end Go.Ev
end
section
namespace Go.Ev
open Go.RowKit
variable {P : Program} {B : Nat} {w0 : World}
variable {X : Fix P B w0}
def unl (L : Array Bool) : Nat := L.toList.countP fun b => !b
theorem unl_set {L : Array Bool} {i : Nat} (h : L.getD i true = false) : unl (L.setIfInBounds i true) + 1 = unl L := by
  have hi : i < L.size := by
    rcases Nat.lt_or_ge i L.size with h' | h'
    · exact h'
    · simp [Array.getElem?_eq_none h'] at h
  have hv : L[i] = false := by simpa [hi] using h
  unfold unl
  rw [Array.toList_setIfInBounds]
  have gen : ∀ (l : List Bool) (i : Nat), l[i]? = some false → (l.set i true).countP (fun b => !b) + 1 = l.countP fun b => !b := by
    intro l
    induction l with
    | nil => intro i h; simp at h
    | cons x r ih =>
      intro i h
      cases i with
      | zero => simp at h; subst h; simp
      | succ i =>
        have := ih i (by simpa using h)
        simp only [List.set_cons_succ, List.countP_cons]
        omega
  exact gen _ _ (by simp [hi, hv])
theorem unl_zero {L : Array Bool} (h : unl L = 0) (i : Nat) (hi : i < L.size) : L.getD i true = true := by
  unfold unl at h
  rw [List.countP_eq_zero] at h
  have := h L[i] (by simp)
  simpa [hi] using this
theorem evStg_ok (hX : X.Good) {callF : FuncId → List Value → St → Option (Value × St)} (hR : Runs P B w0 X.C.T callF) {tmF : Tr Value} {σF : St} {Q : Exit → Act → World → Prop}
    (hQ : ∀ a' w' F, X.E0.ext X.s0 F → X.s0 ≤ σF.next → Inv P B w0 X.C X.N F tmF σF a' w' → Q .normal a' w') :
    ∀ (fuel : Nat) (L : Array Bool) (a : Act) (w : World) (E : Env) (tmc tm : Tr Value) (σ : St) (ids : Tr Nat) (exm dn bm : Nat) (pend : List Nat) (rest : List Stg),
      stOk X.ops.toList X.M X.wr X.ops.size exm dn bm pend rest = true → SI X L a w E tmc tm σ ids (fun i => bit exm i = true) → (∀ i, bit dn i = true → L.getD i false = true) →
      (∀ i, bit bm i = true → L.getD i false = true) → evStg X.C callF X.N X.ops.toList rest pend tm σ ids = some (tmF, σF) → unl L ≤ fuel → wpAny P .any X.ops Q fuel L a w := by
  have fin : ∀ (L : Array Bool) (a : Act) (w : World) (E : Env) (tmc tm : Tr Value) (σ : St) (ids : Tr Nat) (exm dn bm : Nat) (pend : List Nat) (rest : List Stg),
      stOk X.ops.toList X.M X.wr X.ops.size exm dn bm pend rest = true → SI X L a w E tmc tm σ ids (fun i => bit exm i = true) → evStg X.C callF X.N X.ops.toList rest pend tm σ ids = some (tmF, σF) →
      (∀ i, i < X.ops.size → L.getD i false = true) → Q .normal a w := by
    intro L a w E tmc tm σ ids exm dn bm pend rest hst h he hall
    cases rest with
    | nil =>
      unfold evStg at he
      obtain ⟨_, he⟩ := cond_inner he
      simp only [Option.some.injEq, Prod.mk.injEq] at he
      obtain ⟨rfl, rfl⟩ := he
      refine hQ a w E h.ext h.next ⟨h.inv.rel, fun t => ?_, h.inv.glob, h.inv.size, h.inv.nops⟩
      have htt : tmc.get t = tm.get t := by
        cases hw : X.wr.get t with
        | none => rw [h.view0 t (fun v hv => by rw [hw] at hv; cases hv), h.canon t (fun v hv => by rw [hw] at hv; cases hv)]
        | some v =>
          refine h.view t (fun v' hv' => ?_) (by rw [hw]; simp)
          obtain ⟨o, ho, _⟩ := hX.wr' t v' hv'
          exact hall v' (Array.getElem?_eq_some_iff.1 ho).1
      rw [← htt]
      exact h.inv.tm t
    | cons s r =>
      exfalso
      unfold stOk at hst
      simp only [Bool.and_eq_true, Bool.not_eq_true'] at hst
      obtain ⟨_, ⟨⟨⟨⟨h1, h2⟩, _⟩, _⟩, _⟩, _⟩ := hst
      unfold readsOk at h1
      split at h1
      · rename_i o ho
        have hlt : s.x < X.ops.size := by
          have := (List.getElem?_eq_some_iff.1 ho).1
          simpa using this
        have := h.sub _ (hall _ hlt)
        rw [h2] at this; cases this
      · cases h1
  intro fuel
  induction fuel with
  | zero =>
    intro L a w E tmc tm σ ids exm dn bm pend rest hst h hdn hbm he hf
    have hz : ∀ i, i < X.ops.size → L.getD i true = true := fun i hi => unl_zero (by omega) i (by rw [h.size]; exact hi)
    refine ⟨?_, fin L a w E tmc tm σ ids exm dn bm pend rest hst h he fun i hi => ?_⟩
    · apply List.eq_nil_iff_forall_not_mem.2
      intro i hi
      obtain ⟨h1, o, ho, _⟩ := mem_ready.1 hi
      rw [hz i (Array.getElem?_eq_some_iff.1 ho).1] at h1
      cases h1
    · have := hz i hi
      have hlt : i < L.size := by rw [h.size]; exact hi
      simpa [hlt] using this
  | succ fuel ih =>
    intro L a w E tmc tm σ ids exm dn bm pend rest hst h hdn hbm he hf
    refine ⟨fun hr => fin L a w E tmc tm σ ids exm dn bm pend rest hst h he (h.full hX hr), fun i hi => ?_⟩
    obtain ⟨hun, o, ho, hr⟩ := mem_ready.1 hi
    have hlt : i < X.ops.size := (Array.getElem?_eq_some_iff.1 ho).1
    have hnl : L.getD i false = false := by
      have : i < L.size := by rw [h.size]; exact hlt
      simpa [this] using hun
    have hfuel : unl (L.setIfInBounds i true) ≤ fuel := by have := unl_set hun; omega
    have hset := getD_set (L := L) (i := i) (by rw [h.size]; exact hlt)
    have hst0 := hst
    unfold stOk at hst
    simp only [Bool.and_eq_true] at hst
    obtain ⟨⟨c1, c2⟩, c3⟩ := hst
    have he0 := he
    unfold evStg at he
    obtain ⟨hpd, he⟩ := cond_inner he
    cases hex : bit exm i with
    | true =>
      have := List.all_eq_true.1 c1 i (List.mem_range.2 hlt)
      simp only [Bool.or_eq_true, Bool.not_eq_true', hex] at this
      rcases this with ((h1 | h1) | h1) | h1
      · cases h1
      · rw [hdn i h1] at hnl; cases hnl
      · rw [hbm i h1] at hnl; cases hnl
      · have hp := (bit_bitsOf pend i).1 h1
        exact h.float hX ho hr hnl hex (List.all_eq_true.1 c2 i hp) (List.all_eq_true.1 hpd i hp) fun a' w' F tmc' h' =>
          ih _ a' w' F tmc' tm σ ids exm dn bm pend rest hst0 h' (fun k hk => (hset k).2 (.inl (hdn k hk))) (fun k hk => (hset k).2 (.inl (hbm k hk))) he0 hfuel
    | false =>
      cases rest with
      | nil =>
        have := List.all_eq_true.1 c3 i (List.mem_range.2 hlt)
        rw [hex] at this; cases this
      | cons s r =>
        simp only [Bool.and_eq_true, Bool.not_eq_true'] at c3
        obtain ⟨⟨⟨⟨⟨d1, d2⟩, d3⟩, d4⟩, d4'⟩, d5⟩ := c3
        have := List.all_eq_true.1 d3 i (List.mem_range.2 hlt)
        simp only [Bool.or_eq_true, hex] at this
        rcases this with (h1 | h1) | h1
        · cases h1
        · obtain rfl := Nat.eq_of_beq_eq_true h1
          have ho' : X.ops.toList[s.x]? = some o := by simpa using ho
          simp only [ho'] at he
          split at he
          · cases he
          · rename_i b hw
            split at he
            · cases he
            · rename_i v σ1 hX1
              split at he
              · cases he
              · rename_i tm1 hput
                split at he
                · rename_i tm2 σ2 ids2 hfl
                  refine h.effect hX hR ho hr d1 hw hX1 hput fun a' w' F tmc' h' => ?_
                  have h2 := h'.fls hX s.fl (ndup_spec d4') (fun f hf hx => by
                    have := List.all_eq_true.1 d4 f hf
                    simp only [Bool.and_eq_true, Bool.not_eq_true'] at this
                    rcases hx with hx | hx
                    · rw [this.1] at hx; cases hx
                    · subst hx; rw [Nat.beq_refl] at this; cases this.2) hfl
                  have h3 := h2.iff (ex' := fun k => bit (Nat.lor (Nat.lor exm (2 ^ s.x)) (bitsOf s.fl)) k = true) fun k => by
                    rw [bit_lor, bit_lor, bit_pow, Bool.or_eq_true, Bool.or_eq_true, bit_bitsOf, decide_eq_true_eq, eq_comm (a := k)]
                  refine ih _ a' w' F tmc' tm2 σ2 ids2 _ _ _ s.pend r d5 h3 (fun k hk => ?_) (fun k hk => ?_) he hfuel
                  · rw [bit_lor, bit_pow, Bool.or_eq_true, decide_eq_true_eq] at hk
                    rcases hk with hk | hk
                    · exact (hset k).2 (.inl (hdn k hk))
                    · exact (hset k).2 (.inr hk.symm)
                  · rw [bit_lor, Bool.or_eq_true] at hk
                    rcases hk with hk | hk
                    · exact (hset k).2 (.inl (hbm k hk))
                    · exact (hset k).2 (.inl (h.closed hX s.x o ho hr k hk))
                · cases he
        · have hx := h.closed hX i o ho hr _ h1
          have := h.sub _ hx
          rw [d2] at this; cases this
def evDraw (C : Cx) (callF : FuncId → List Value → St → Option (Value × St)) (N : Nat) (ops : List Oper) (tm : Tr Value) (σ : St) : Option (Tr Value × St) :=
  cond (planOk ops (mkPlan ops)) (match evFls C N ops (mkPlan ops).fl tm σ .nil with
    | some (tm', σ', ids) => evStg C callF N ops (mkPlan ops).rest (mkPlan ops).fl tm' σ' ids
    | none => none) none
theorem evDraw_ok (hm : P.follows .mixedOrders = true) {C : Cx} (hC : C.Good P) {callF : FuncId → List Value → St → Option (Value × St)} (hR : Runs P B w0 C.T callF) {N : Nat} {E : Env} {tm tm' : Tr Value} {σ σ' : St} {a : Act} {w : World}
    (hI : Inv P B w0 C N E tm σ a w) {id : Nat} {ops : Array Oper} (he : evDraw C callF N ops.toList tm σ = some (tm', σ')) {Q : Exit → Act → World → Prop}
    (hK : ∀ a' w' F, E.ext σ.next F → σ.next ≤ σ'.next → Inv P B w0 C N F tm' σ' a' w' → Q .normal a' w') : (Code.region id ops true).wp P Q a w := by
  unfold evDraw at he
  obtain ⟨hpl, he⟩ := cond_inner he
  unfold planOk at hpl
  simp only [Bool.and_eq_true] at hpl
  obtain ⟨⟨p1, p2⟩, p3⟩ := hpl
  split at he
  · rename_i tm1 σ1 ids h1
    let X : Fix P B w0 := { C, N, ops, M := (mkPlan ops.toList).M, wr := (mkPlan ops.toList).wr, tm0 := tm, E0 := E, s0 := σ.next }
    have base : ∀ (i : Nat) (o : Oper), ops[i]? = some o → _ := fun i o ho => allIdx_spec _ 0 ops.toList p1 i o (by simpa using ho)
    have hX : X.Good := by
      refine ⟨hC, fun i o ho k hk => ?_, fun i o ho e hx hb => ?_, fun i o d ho hd => ?_, fun d v hv => ?_⟩
      · have := base i o ho
        simp only [Nat.zero_add, Bool.and_eq_true] at this
        rw [Nat.eq_of_beq_eq_true this.1.1] at hk
        obtain ⟨e, h1, h2, h3⟩ := maskAll_spec _ _ _ hk
        exact ⟨e, by simpa using h1, h2, h3⟩
      · have := base i o ho
        simp only [Nat.zero_add, Bool.and_eq_true] at this
        have := List.all_eq_true.1 this.1.2 e (by simpa using hx)
        rw [hb] at this
        simp only [Bool.not_true, Bool.false_or] at this
        exact Nat.le_of_ble_eq_true this
      · have := base i o ho
        simp only [Nat.zero_add, Bool.and_eq_true] at this
        have h2 := this.2
        rw [hd] at h2
        simp only at h2
        split at h2
        · rename_i w hw; rw [hw, Nat.eq_of_beq_eq_true h2]
        · cases h2
      · obtain ⟨o, ho, hd⟩ := wrOf_spec ops.toList ops.toList 0 .nil rfl (fun d w h => by rw [Tr.get_nil] at h; cases h) d v hv
        exact ⟨o, by simpa using ho, hd⟩
    have hrep : ∀ k, (Array.replicate ops.size false).getD k false = false := fun k => by
      by_cases hk : k < ops.size <;> simp [hk]
    have hS : SI X (Array.replicate ops.size false) a { w with drawn := w.drawn + 1 } E tm tm σ .nil (fun _ => False) :=
      { inv := ⟨hI.rel.drew, hI.tm, hI.glob, hI.size, hI.nops⟩
        view := fun _ _ _ => rfl
        view0 := fun _ _ => rfl
        canon := fun _ _ => rfl
        sub := fun i hi => by rw [hrep] at hi; cases hi
        down := fun i o ho hi => by rw [hrep] at hi; cases hi
        ghost := fun i id hi => by rw [Tr.get_nil] at hi; cases hi
        inj := fun i j id hi => by rw [Tr.get_nil] at hi; cases hi
        ext := Env.ext.refl _ _
        next := Nat.le_refl _
        size := by simp [X] }
    have hS1 := (hS.fls hX _ (ndup_spec p2) (fun f _ h => h) h1).iff (ex' := fun k => bit (bitsOf (mkPlan ops.toList).fl) k = true) fun k => by rw [bit_bitsOf]; simp
    refine wp_region_any hm ?_
    have hsz : ops.toList.length = ops.size := by simp
    rw [hsz] at p3
    exact evStg_ok hX hR (tmF := tm') (σF := σ') (fun a' w' F f1 f2 f3 => hK a' w' F f1 f2 f3) ops.size _ a _ E tm tm1 σ1 ids _ 0 0 _ _ p3 hS1 (fun i hi => by rw [bit_zero] at hi; cases hi)
      (fun i hi => by rw [bit_zero] at hi; cases hi) he (by unfold unl; exact Nat.le_trans List.countP_le_length (by simp))
  · cases he
end Go.Ev
end
section
namespace Go.Ev
open Go.RowKit
variable {P : Program} {B : Nat} {w0 : World}
inductive Out where
  | normal
  | exit (id : Nat)
  | ret
def Out.to : Out → Exit
  | .normal => .normal
  | .exit id => .exit id
  | .ret => .ret
abbrev Run := Option (Out × Tr Value × St)
def evLoop (body : Tr Value → St → Run) : Nat → Tr Value → St → Run
  | 0, _, _ => none
  | n + 1, tm, σ => match body tm σ with
    | some (.normal, tm', σ') => evLoop body n tm' σ'
    | some (.exit id, tm', σ') => some (.exit id, tm', σ')
    | some (.ret, tm', σ') => some (.ret, tm', σ')
    | none => none
def evCode (C : Cx) (callF : FuncId → List Value → St → Option (Value × St)) (N : Nat) (fuel : Nat) : Code → Tr Value → St → Run
  | .skip, tm, σ => some (.normal, tm, σ)
  | .region _ ops draw, tm, σ => match cond draw (evDraw C callF N ops.toList tm σ) (evOps C callF N ops.toList ops.toList tm σ) with
    | some (tm', σ') => some (.normal, tm', σ')
    | none => none
  | .seq a b, tm, σ => match evCode C callF N fuel a tm σ with
    | some (.normal, tm', σ') => evCode C callF N fuel b tm' σ'
    | some (.exit id, tm', σ') => some (.exit id, tm', σ')
    | some (.ret, tm', σ') => some (.ret, tm', σ')
    | none => none
  | .cond c x y, tm, σ => match opd C.T tm c with
    | some (.bool true) => evCode C callF N fuel x tm σ
    | some (.bool false) => evCode C callF N fuel y tm σ
    | _ => none
  | .block id b, tm, σ => match evCode C callF N fuel b tm σ with
    | some (.normal, tm', σ') => some (.normal, tm', σ')
    | some (.exit id', tm', σ') => cond (Nat.beq id' id) (some (.normal, tm', σ')) (some (.exit id', tm', σ'))
    | some (.ret, tm', σ') => some (.ret, tm', σ')
    | none => none
  | .loop b, tm, σ => evLoop (evCode C callF N fuel b) fuel tm σ
  | .exit id, tm, σ => some (.exit id, tm, σ)
  | .ret, tm, σ => some (.ret, tm, σ)
  | _, _, _ => none
def CodeOk (P : Program) (B : Nat) (w0 : World) (C : Cx) (N : Nat) (c : Code) (tm : Tr Value) (σ : St) (out : Out) (tm' : Tr Value) (σ' : St) : Prop :=
  ∀ (E : Env) (a : Act) (w : World) (Q : Exit → Act → World → Prop), Inv P B w0 C N E tm σ a w →
    (∀ a' w' F, E.ext σ.next F → σ.next ≤ σ'.next → Inv P B w0 C N F tm' σ' a' w' → Q out.to a' w') → c.wp P Q a w
def LoopWp (P : Program) (c : Code) (Q : Exit → Act → World → Prop) (a : Act) (w : World) : Prop :=
  ∀ (b : Frame) (k : List Item) (cs : List Frame), ∃ e a' w', Q e a' w' ∧ Arrives P (lone (b.at a (.code c :: .inLoop c :: k)) cs w) b k cs e a' w'
theorem loopWp {c : Code} {Q : Exit → Act → World → Prop} {a : Act} {w : World} (h : LoopWp P c Q a w) : (Code.loop c).wp P Q a w :=
  fun b k cs => let ⟨e, a', w', q, r⟩ := h b k cs; ⟨e, a', w', q, .of_steps (.one step_loop) r⟩
theorem loopWp_round {c : Code} {Q : Exit → Act → World → Prop} {a : Act} {w : World} (h : c.wp P (Exit.then (LoopWp P c Q) Q) a w) : LoopWp P c Q a w := by
  intro b k cs
  obtain ⟨e, a₁, w₁, hq, harr⟩ := h b (.inLoop c :: k) cs
  cases e with
  | normal =>
    obtain ⟨e₂, a₂, w₂, hq₂, harr₂⟩ := hq b k cs
    exact ⟨e₂, a₂, w₂, hq₂, .of_steps (Steps.trans harr (.one step_inLoop)) harr₂⟩
  | exit id => exact ⟨_, a₁, w₁, hq, .pass (x := .inLoop c) rfl (fun _ _ => .inl (by simp)) harr⟩
  | goto l => exact ⟨_, a₁, w₁, hq, .pass (x := .inLoop c) rfl (fun _ _ => .inl (by simp)) harr⟩
  | ret => exact ⟨_, a₁, w₁, hq, .pass (x := .inLoop c) rfl (fun _ _ => .inl (by simp)) harr⟩
  | panic ch => exact ⟨_, a₁, w₁, hq, .pass (x := .inLoop c) rfl (fun _ _ => .inl (by simp)) harr⟩
  | outgrown => exact ⟨_, a₁, w₁, hq, .pass (x := .inLoop c) rfl (fun _ _ => .inl (by simp)) harr⟩
theorem evLoop_ok {C : Cx} {N : Nat} {c : Code} {body : Tr Value → St → Run} (hb : ∀ tm σ out tm' σ', body tm σ = some (out, tm', σ') → CodeOk P B w0 C N c tm σ out tm' σ') :
    ∀ (n : Nat) (tm : Tr Value) (σ : St) (out : Out) (tm' : Tr Value) (σ' : St), evLoop body n tm σ = some (out, tm', σ') →
      ∀ (E : Env) (a : Act) (w : World) (Q : Exit → Act → World → Prop), Inv P B w0 C N E tm σ a w →
        (∀ a' w' F, E.ext σ.next F → σ.next ≤ σ'.next → Inv P B w0 C N F tm' σ' a' w' → Q out.to a' w') → LoopWp P c Q a w
  | 0, tm, σ, out, tm', σ', he => by simp [evLoop] at he
  | n + 1, tm, σ, out, tm', σ', he => by
    intro E a w Q hI hQ
    simp only [evLoop] at he
    split at he
    · rename_i t1 σ1 h1
      exact loopWp_round (hb _ _ _ _ _ h1 E a w _ hI fun a1 w1 F f1 f2 f3 =>
        evLoop_ok hb n t1 σ1 out tm' σ' he F a1 w1 Q f3 fun a2 w2 G g1 g2 g3 => hQ a2 w2 G (f1.trans g1 f2) (Nat.le_trans f2 g2) g3)
    · rename_i id t1 σ1 h1
      cases he
      exact loopWp_round (hb _ _ _ _ _ h1 E a w _ hI hQ)
    · rename_i t1 σ1 h1
      cases he
      exact loopWp_round (hb _ _ _ _ _ h1 E a w _ hI hQ)
    · cases he
theorem evCode_ok (hm : P.follows .mixedOrders = true) {C : Cx} (hC : C.Good P) {callF : FuncId → List Value → St → Option (Value × St)} (hR : Runs P B w0 C.T callF) {N fuel : Nat} :
    ∀ (c : Code) (tm : Tr Value) (σ : St) (out : Out) (tm' : Tr Value) (σ' : St), evCode C callF N fuel c tm σ = some (out, tm', σ') → CodeOk P B w0 C N c tm σ out tm' σ'
  | .skip, tm, σ, out, tm', σ', he => by
    simp only [evCode] at he; cases he
    exact fun E a w Q hI hQ => wp_skip (hQ a w E (Env.ext.refl _ _) (Nat.le_refl _) hI)
  | .region id ops draw, tm, σ, out, tm', σ', he => by
    simp only [evCode] at he
    split at he
    · rename_i t1 σ1 h1
      cases he
      intro E a w Q hI hQ
      cases draw with
      | true => exact evDraw_ok hm hC hR hI h1 hQ
      | false => exact evRegion_ok hC hR hI h1 hQ
    · cases he
  | .seq x y, tm, σ, out, tm', σ', he => by
    have ihx := evCode_ok hm hC hR (fuel := fuel) (N := N) x
    have ihy := evCode_ok hm hC hR (fuel := fuel) (N := N) y
    simp only [evCode] at he
    intro E a w Q hI hQ
    split at he
    · rename_i t1 σ1 h1
      exact wp_seq (ihx _ _ _ _ _ h1 E a w _ hI fun a1 w1 F f1 f2 f3 =>
        ihy _ _ _ _ _ he F a1 w1 Q f3 fun a2 w2 G g1 g2 g3 => hQ a2 w2 G (f1.trans g1 f2) (Nat.le_trans f2 g2) g3)
    · rename_i id t1 σ1 h1
      cases he
      exact wp_seq (ihx _ _ _ _ _ h1 E a w _ hI hQ)
    · rename_i t1 σ1 h1
      cases he
      exact wp_seq (ihx _ _ _ _ _ h1 E a w _ hI hQ)
    · cases he
  | .cond c x y, tm, σ, out, tm', σ', he => by
    have ihx := evCode_ok hm hC hR (fuel := fuel) (N := N) x
    have ihy := evCode_ok hm hC hR (fuel := fuel) (N := N) y
    simp only [evCode] at he
    intro E a w Q hI hQ
    split at he
    · rename_i h1
      have hr := opd_ok hI.tm hI.glob h1
      generalize hv : a.eval c = cv at hr
      cases hr
      exact wp_cond_true hv (ihx _ _ _ _ _ he E a w Q hI hQ)
    · rename_i h1
      have hr := opd_ok hI.tm hI.glob h1
      generalize hv : a.eval c = cv at hr
      cases hr
      exact wp_cond_false hv (ihy _ _ _ _ _ he E a w Q hI hQ)
    · cases he
  | .block id b, tm, σ, out, tm', σ', he => by
    have ih := evCode_ok hm hC hR (fuel := fuel) (N := N) b
    simp only [evCode] at he
    intro E a w Q hI hQ
    split at he
    · rename_i t1 σ1 h1
      cases he
      exact wp_block (ih _ _ _ _ _ h1 E a w _ hI hQ)
    · rename_i id' t1 σ1 h1
      refine wp_block (ih _ _ _ _ _ h1 E a w _ hI fun a1 w1 F f1 f2 f3 => ?_)
      show (if id' = id then Q .normal a1 w1 else Q (.exit id') a1 w1)
      cases hb : Nat.beq id' id with
      | true =>
        rw [hb] at he; cases he
        rw [if_pos (Nat.eq_of_beq_eq_true hb)]
        exact hQ a1 w1 F f1 f2 f3
      | false =>
        rw [hb] at he; cases he
        rw [if_neg fun hh => by rw [hh, Nat.beq_refl] at hb; cases hb]
        exact hQ a1 w1 F f1 f2 f3
    · rename_i t1 σ1 h1
      cases he
      exact wp_block (ih _ _ _ _ _ h1 E a w _ hI hQ)
    · cases he
  | .loop b, tm, σ, out, tm', σ', he => by
    have ih := evCode_ok hm hC hR (fuel := fuel) (N := N) b
    simp only [evCode] at he
    intro E a w Q hI hQ
    exact loopWp (evLoop_ok ih fuel tm σ out tm' σ' he E a w Q hI hQ)
  | .exit id, tm, σ, out, tm', σ', he => by
    simp only [evCode] at he; cases he
    exact fun E a w Q hI hQ => wp_exit (hQ a w E (Env.ext.refl _ _) (Nat.le_refl _) hI)
  | .ret, tm, σ, out, tm', σ', he => by
    simp only [evCode] at he; cases he
    exact fun E a w Q hI hQ => wp_ret (hQ a w E (Env.ext.refl _ _) (Nat.le_refl _) hI)
  | .rangeFunc _ _ _ _, _, _, _, _, _, he => by simp [evCode] at he
  | .scope _, _, _, _, _, _, he => by simp [evCode] at he
  | .label _, _, _, _, _, _, he => by simp [evCode] at he
  | .goto _, _, _, _, _, _, he => by simp [evCode] at he
  | .refuse _, _, _, _, _, _, he => by simp [evCode] at he
end Go.Ev
end
section
namespace Go.Ev
open Go.RowKit
variable {P : Program} {B : Nat} {w0 : World}
def evRes (T : Tabs) (tm : Tr Value) (σ : St) : List ResultVar → Option (List Value)
  | [] => some []
  | .tmp t :: r => match evRes T tm σ r with
    | some l => some ((tm.get t).getD undef :: l)
    | none => none
  | .cell a t :: r => match evLoad T σ t ((tm.get a).getD undef), evRes T tm σ r with
    | some v, some l => some (v :: l)
    | _, _ => none
def oneOf : List Value → Value
  | [v] => v
  | l => .tuple ⟨l⟩
def evFn (C : Cx) : Nat → FuncId → List Value → St → Option (Value × St)
  | 0, _, _, _ => none
  | k + 1, f, args, σ => match C.sum f with
    | some g => g args σ
    | none => match C.T.fn f with
    | some fn => match fn.body with
      | some c => cond (Nat.ble args.length fn.ntmps)
        (match evCode C (evFn C k) fn.ntmps k c (Tr.ofList args) σ with
        | some (.normal, tm, σ') => match evRes C.T tm σ' fn.results.toList with
          | some l => some (oneOf l, σ')
          | none => none
        | some (.ret, tm, σ') => match evRes C.T tm σ' fn.results.toList with
          | some l => some (oneOf l, σ')
          | none => none
        | _ => none) none
      | none => none
    | none => none
def Sums (P : Program) (B : Nat) (w0 : World) (C : Cx) : Prop := ∀ f g, C.sum f = some g → (∃ fn, P.funcs[f]? = some fn ∧ fn.body.isNone = false) ∧
  ∀ args σ v σ', g args σ = some (v, σ') → ∀ E w args', Rel P B w0 E σ w → GlobRel C.T E → LRel P E args args' → CallOk P B w0 f ⟨args'⟩ E σ w v σ'
theorem Rel.grow {E : Env} {σ : St} {w w' : World} (h : Rel P B w0 E σ w) (hb : Below w.heap.size w w') : Rel P B w0 E σ w' := by
  have hh : ∀ k, k < w.heap.size → w'.heap[k]? = w.heap[k]? := hb.block
  refine ⟨h.below.trans ⟨hb.os, hb.tape, hb.output, hb.size, fun k hk => hh k (Nat.lt_of_lt_of_le hk h.base)⟩, Nat.le_trans h.base hb.size, fun i l e => ?_, fun b s e => ?_, fun i l o e g => ?_, h.sep, h.sepm⟩
  · obtain ⟨a, b, c⟩ := h.dom i l e
    exact ⟨a, Nat.lt_of_lt_of_le b hb.size, c⟩
  · have hs := h.shp b s e
    unfold World.shape? at hs ⊢
    by_cases hk : b < w.heap.size
    · rw [hh b hk]; exact hs
    · rw [Array.getElem?_eq_none (by omega)] at hs; cases hs
  · obtain ⟨_, hl, _⟩ := h.dom i l e
    have r := h.obj i l o e g
    cases o with
    | cells elem cs ro live p k =>
      intro hv
      obtain ⟨a, b, c⟩ := r hv
      refine ⟨fun x v hx => ?_, fun q => ?_, c⟩
      · obtain ⟨v', e1, e2⟩ := a x v hx
        exact ⟨v', by rw [World.cell?_of_block (hh l.b hl)]; exact e1, e2⟩
      · obtain ⟨c1, c2, c3⟩ := b q
        exact ⟨c1, c2, by rw [hh l.b hl]; exact c3⟩
    | map es clock =>
      obtain ⟨a, es', b, c⟩ := r
      exact ⟨a, es', by rw [hh l.b hl]; exact b, c⟩
    | iter s pos => exact ⟨r.1, by rw [hh l.b hl]; exact r.2⟩
def resM (tmps : Array Value) (r : ResultVar) : Sem Value :=
  match r with
  | .tmp t => pure (tmps.getD t undef)
  | .cell a t => do loadVar t (← asAddr (tmps.getD a undef))
theorem evRes_ok {T : Tabs} (hT : T.Good P) {E : Env} {σ : St} {w : World} (h : Rel P B w0 E σ w) {tm : Tr Value} {a : Act} (ht : TmRel P E tm a) : ∀ (rs : List ResultVar) (l : List Value), evRes T tm σ rs = some l →
    ∃ l', LRel P E l l' ∧ (rs.mapM (resM a.tmps)).run P w = .ok l' w
  | [], l, he => by
    simp only [evRes] at he; cases he
    exact ⟨[], .nil, by simp⟩
  | .tmp t :: r, l, he => by
    simp only [evRes] at he
    split at he
    · rename_i l1 h1
      cases he
      obtain ⟨l', x, y⟩ := evRes_ok hT h ht r l1 h1
      have hx : (resM a.tmps (.tmp t)).run P w = .ok (a.tmps.getD t undef) w := rfl
      refine ⟨a.tmps.getD t undef :: l', .cons (ht t) x, ?_⟩
      generalize a.tmps.getD t undef = q at hx
      rw [List.mapM_cons]
      simp [y, hx]
    · cases he
  | .cell x t :: r, l, he => by
    simp only [evRes] at he
    split at he
    · rename_i v l1 hv h1
      cases he
      obtain ⟨l', y1, y2⟩ := evRes_ok hT h ht r l1 h1
      obtain ⟨v', z1, z2⟩ := evLoad_ok hT h (ht x) hv
      refine ⟨v' :: l', .cons z2 y1, ?_⟩
      have hr := ht x
      have z3 : (resM a.tmps (.cell x t)).run P w = .ok v' w := by
        unfold resM
        simp only
        generalize a.tmps.getD x undef = xv at hr z1
        generalize (tm.get x).getD undef = xa at hr hv
        cases hr <;> simp [evLoad] at hv
        rw [← z1]
        simp [Instr.loadAt, Instr.sureAddr, asAddr]
      rw [List.mapM_cons]
      simp [y2, z3]
    · cases he
theorem results_ok {T : Tabs} (hT : T.Good P) {E : Env} {σ : St} {w : World} (h : Rel P B w0 E σ w) {tm : Tr Value} {a : Act} (ht : TmRel P E tm a) {fn : Func} {l : List Value} (he : evRes T tm σ fn.results.toList = some l) :
    ∃ v', (results fn a.tmps).run P w = .ok v' w ∧ VRel P E (oneOf l) v' := by
  obtain ⟨l', h1, h2⟩ := evRes_ok hT h ht _ l he
  have h3 : (fn.results.mapM (resM a.tmps)).run P w = .ok ⟨l'⟩ w := by
    rw [Array.mapM_eq_mapM_toList]
    simp [h2]
  refine ⟨if h : (⟨l'⟩ : Array Value).size = 1 then (⟨l'⟩ : Array Value)[0] else .tuple ⟨l'⟩, ?_, ?_⟩
  · change Sem.run P (fn.results.mapM (resM a.tmps) >>= fun vs => pure (if h : vs.size = 1 then vs[0] else .tuple vs)) w = _
    rw [Sem.run_bind, h3]
    rfl
  · cases h1 with
    | nil => exact .tuple .nil
    | cons a b => cases b with
      | nil => exact a
      | cons c d => exact .tuple (.cons a (.cons c d))
theorem leaves_nops {C : Cx} (hC : C.Good P) {fn : Func} {tmps : Array Value} {R : Ending → World → Prop} {w : World} {v : Value} (hr : (results fn tmps).run P w = .ok v w) (hR : R (.returned v) w) :
    ∀ (ds : List Deferred), Nops C ds → Leaves P fn tmps R ds .returning w
  | [], _ => ⟨v, hr, hR⟩
  | d :: ds, hd => by
    obtain ⟨f, cap, ht, hn⟩ := hd d (List.mem_cons_self ..)
    obtain ⟨⟨fn1, h1, h2⟩, h3⟩ := hC.nop f hn
    obtain ⟨tg, args⟩ := d
    simp only at ht; subst ht
    refine leaves_cons (by simp) (f := f) (args := args ++ cap) ?_ ?_
    · have hb : fn1.body ≠ none := by intro hb; rw [hb] at h2; cases h2
      simp [invoke, callFunc, h1, hC.name f fn1 h1, hb]
    · exact h3 _ w _ fun v => leaves_nops hC hr hR ds fun d' hd' => hd d' (List.mem_cons_of_mem _ hd')
theorem evFn_runs (B : Nat) (w0 : World) (hm : P.follows .mixedOrders = true) {C : Cx} (hC : C.Good P) (hS : Sums P B w0 C) : ∀ k, Runs P B w0 C.T (evFn C k)
  | 0 => fun f args σ v σ' he => by simp [evFn] at he
  | k + 1 => fun f args σ v σ' he => by
    have ih := evFn_runs B w0 hm hC hS k
    simp only [evFn] at he
    split at he
    · rename_i g hg
      obtain ⟨s1, s2⟩ := hS f g hg
      exact ⟨s1, s2 args σ v σ' he⟩
    rw [hC.T.fn] at he
    split at he
    · rename_i fn hfn
      split at he
      · rename_i c hc
        refine ⟨⟨fn, hfn, by rw [hc]; rfl⟩, fun E w args' hr hg ha R hR => ?_⟩
        obtain ⟨hlen, he⟩ := cond_inner he
        have hlen := Nat.le_of_ble_eq_true hlen
        refine calls_of_wp_defers hfn hc ?_
        have hI : Inv P B w0 C fn.ntmps E (Tr.ofList args) σ { tmps := (⟨args'⟩ : Array Value) ++ Array.replicate (fn.ntmps - (⟨args'⟩ : Array Value).size) undef, defers := [] } w := by
          refine ⟨hr, fun t => ?_, hg, ?_, fun d hd => by cases hd⟩
          · rw [Tr.get_ofList]
            simp only [Array.getD_eq_getD_getElem?]
            cases hv : args[t]? with
            | some v =>
              obtain ⟨v', a1, a2⟩ := ha.get t v hv
              have hlt : t < args'.length := (List.getElem?_eq_some_iff.1 a1).1
              rw [Array.getElem?_append_left (by simpa using hlt)]
              simp only [List.getElem?_toArray, a1, Option.getD_some]
              exact a2
            | none =>
              have hge : args.length ≤ t := List.getElem?_eq_none_iff.1 hv
              have := ha.length
              rw [Array.getElem?_append_right (by simp; omega), Array.getElem?_replicate]
              split <;> exact undef_rel
          · have := ha.length
            simp; omega
        have fin : ∀ (out : Out) (tm : Tr Value) (σ1 : St) (l : List Value), (out = .normal ∨ out = .ret) → evCode C (evFn C k) fn.ntmps k c (Tr.ofList args) σ = some (out, tm, σ1) → evRes C.T tm σ1 fn.results.toList = some l →
            v = oneOf l → σ' = σ1 → c.wp P (bodyPostD P fn R) { tmps := (⟨args'⟩ : Array Value) ++ Array.replicate (fn.ntmps - (⟨args'⟩ : Array Value).size) undef, defers := [] } w := by
          intro out tm σ1 l hout h1 h2 hv hs
          subst hv; subst hs
          refine evCode_ok hm hC ih c _ _ _ _ _ h1 E _ w _ hI fun a' w' F f1 f2 f3 => ?_
          obtain ⟨v', r1, r2⟩ := results_ok hC.T f3.rel f3.tm h2
          have := leaves_nops hC (R := R) r1 (hR v' w' F f1 f2 f3.rel r2) a'.defers f3.nops
          rcases hout with rfl | rfl <;> exact this
        split at he
        · rename_i tm σ1 h1
          split at he
          · rename_i l h2
            cases he
            exact fin _ _ _ _ (.inl rfl) h1 h2 rfl rfl
          · cases he
        · rename_i tm σ1 h1
          split at he
          · rename_i l h2
            cases he
            exact fin _ _ _ _ (.inr rfl) h1 h2 rfl rfl
          · cases he
        · cases he
      · cases he
    · cases he
end Go.Ev
end
section
namespace Go.Sx
open Go.Ev Go.RowKit
inductive PV where
  | int (k : IntKind) (n : Int)
  | bool (b : Bool)
  | str (s : ByteArray)
  | sl (e : TypeId) (rows : List (List PV))
  | raw (a : Option Addr) (n c : Nat)
inductive SV where
  | p (v : PV)
  | agp (c : List PV)
  | ag (c : List SV)
  | tu (c : List SV)
  | loc (j o : Nat)
  | nl (e : TypeId)
  | os (j : Nat)
  | ss (e : TypeId) (j o n : Nat)
  | ep (e : TypeId) (j i o : Nat)
  | fp (row : List PV)
  | fn (f : FuncId) (caps : List SV)
  | un
inductive Blk where
  | box (c : List SV)
  | arr (e : TypeId) (rows : List (List PV))
  | fz (e : TypeId) (rows : List (List PV))
  | ro (e : TypeId) (rows : List (List PV))
  | dd
structure SS where
  t : List (Nat × SV)
  M : List Blk
structure TI where
  size : Nat
  bytes : Nat
  agg : Bool
  elem : Option Nat
  arr : Option (Nat × Nat)
  flds : List (Nat × Nat)
  zero : Option (List SV)
  ik : Option IntKind
  str : Bool
  bl : Bool
  ib : Bool
structure Sc where
  ti : TypeId → Option TI
  glob : Nat → Option (List PV)
def look : List (Nat × SV) → Nat → Option SV
  | [], _ => none
  | (k, v) :: r, t => cond (Nat.beq k t) (some v) (look r t)
def nth {α : Type} : List α → Nat → Option α
  | [], _ => none
  | x :: _, 0 => some x
  | _ :: r, n + 1 => nth r n
def setAt {α : Type} : List α → Nat → α → List α
  | [], _, _ => []
  | _ :: r, 0, y => y :: r
  | x :: r, n + 1, y => x :: setAt r n y
def snoc {α : Type} : List α → α → List α
  | [], y => [y]
  | x :: r, y => x :: snoc r y
def len {α : Type} : List α → Nat
  | [] => 0
  | _ :: r => len r + 1
def SS.setB (S : SS) (j : Nat) (b : Blk) : SS := match S with | ⟨t, M⟩ => ⟨t, setAt M j b⟩
def SS.addB (S : SS) (b : Blk) : SS := match S with | ⟨t, M⟩ => ⟨t, snoc M b⟩
def ifB (b : Bool) (x y : Prop) : Prop := match b with
  | true => x
  | false => y
def onB (b : Bool) (K : Bool → Prop) : Prop := match b with
  | true => K true
  | false => K false
def onD (P : Prop) (K : Bool → Prop) : Prop := (P → K true) ∧ (¬ P → K false)
section
variable (X : Sc) (S : SS)
def cSV (τ : TypeId) (v : Value) (K : SV → Prop) : Prop := match v with
  | .int k n => K (.p (.int k n))
  | .bool b => K (.p (.bool b))
  | .string s => K (.p (.str s))
  | .slice none 0 0 => match X.ti τ with
    | some i => match i.elem with
      | some e => K (.nl e)
      | none => False
    | none => False
  | _ => False
def xo (τ : TypeId) (x : Operand) (K : SV → Prop) : Prop := match x with
  | .tmp t => match look S.t t with
    | some v => K v
    | none => False
  | .const v => cSV X τ v K
  | .global g => match X.glob g with
    | some r => K (.fp r)
    | none => False
  | .func f => K (.fn f [])
def xos : List TypeId → List Operand → (List SV → Prop) → Prop
  | τ :: τs, x :: r, K => xo X S τ x fun v => xos τs r fun l => K (v :: l)
  | [], [], K => K []
  | _, _, _ => False
def frz1 (S : SS) (v : SV) (K : SS → PV → Prop) : Prop := match v with
  | .p v => K S v
  | .nl e => K S (.sl e [])
  | .os j => match nth S.M j with
    | some (.arr e rows) => K (S.setB j (.fz e rows)) (.sl e rows)
    | some (.fz e rows) => K S (.sl e rows)
    | _ => False
  | _ => False
def frzL : SS → List SV → (SS → List PV → Prop) → Prop
  | S, [], K => K S []
  | S, v :: r, K => frz1 S v fun S v => frzL S r fun S l => K S (v :: l)
def frzV (S : SS) (v : SV) (K : SS → SV → Prop) : Prop := match v with
  | .agp c => K S (.agp c)
  | .ag c => frzL S c fun S c => K S (.agp c)
  | .fn f c => K S (.fn f c)
  | .p v => K S (.p v)
  | .nl e => frz1 S (.nl e) fun S v => K S (.p v)
  | .os j => frz1 S (.os j) fun S v => K S (.p v)
  | _ => False
def frzVs : SS → List SV → (SS → List SV → Prop) → Prop
  | S, [], K => K S []
  | S, v :: r, K => frzV S v fun S v => frzVs S r fun S l => K S (v :: l)
def frzR (S : SS) (v : SV) (K : SS → List PV → Prop) : Prop := match v with
  | .agp c => K S c
  | .ag c => frzL S c K
  | v => frz1 S v fun S v => K S [v]
def frzRs : SS → List SV → (SS → List (List PV) → Prop) → Prop
  | S, [], K => K S []
  | S, v :: r, K => frzR S v fun S v => frzRs S r fun S l => K S (v :: l)
def cells (v : SV) : List SV := match v with
  | .agp c => c.map .p
  | .ag c => c
  | v => [v]
def leaf (v : SV) : Bool := match v with
  | .agp _ | .ag _ | .tu _ | .un => false
  | _ => true
def lfs : List SV → Bool
  | [] => true
  | v :: r => cond (leaf v) (lfs r) false
def storable (v : SV) : Bool := match v with
  | .agp _ => true
  | .ag c => lfs c
  | v => leaf v
def one (agg : Bool) (c : List SV) (K : SV → Prop) : Prop := match agg with
  | true => K (.ag c)
  | false => match c with
    | v :: _ => K v
    | [] => False
def oneP (agg : Bool) (c : List PV) (K : SV → Prop) : Prop := match agg with
  | true => K (.agp c)
  | false => match c with
    | v :: _ => K (.p v)
    | [] => False
def tk {α : Type} : Nat → List α → (List α → Prop) → Prop
  | 0, _, K => K []
  | n + 1, x :: r, K => tk n r fun l => K (x :: l)
  | _ + 1, [], _ => False
def drp {α : Type} : Nat → List α → List α
  | 0, l => l
  | n + 1, _ :: r => drp n r
  | _ + 1, [] => []
def rowsOf (b : Option Blk) (K : TypeId → List (List PV) → Prop) : Prop := match b with
  | some (.arr e rows) => K e rows
  | some (.fz e rows) => K e rows
  | some (.ro e rows) => K e rows
  | _ => False
def xload (n : Nat) (agg : Bool) (a : SV) (K : SV → Prop) : Prop := match a with
  | .loc j o => match nth S.M j with
    | some (.box c) => tk n (drp o c) fun c => one agg c K
    | _ => False
  | .fp row => tk n row fun c => oneP agg c K
  | .ep e j i o => rowsOf (nth S.M j) fun e' rows => e' = e ∧ ∃ row, rows[i]? = some row ∧ tk n (drp o row) fun c => oneP agg c K
  | _ => False
def putR {α : Type} (cs : List α) (o : Nat) (vs : List α) : List α := cs.take o ++ (vs ++ cs.drop (o + vs.length))
def putC {α : Type} : List α → Nat → List α → List α
  | cs, _, [] => cs
  | _ :: cs, 0, v :: vs => v :: putC cs 0 vs
  | c :: cs, o + 1, vs => c :: putC cs o vs
  | [], _, vs => vs
def xstore (n : Nat) (a v : SV) (K : SS → Prop) : Prop := match a with
  | .loc j o => match nth S.M j with
    | some (.box c) => cond (storable v) (cond (Nat.beq (len (cells v)) n) (cond (Nat.ble (o + n) (len c)) (K (S.setB j (.box (putC c o (cells v))))) False) False) False
    | _ => False
  | .ep e j i o => frzR S v fun S vs => match nth S.M j with
    | some (.arr e' rows) => e' = e ∧ ∃ row, rows[i]? = some row ∧ vs.length = n ∧ o + n ≤ row.length ∧ K (S.setB j (.arr e (rows.set i (putC row o vs))))
    | _ => False
  | _ => False
def xfieldAddr (t : TypeId) (f : Nat) (a : SV) (K : SV → Prop) : Prop := match X.ti t with
  | some i => match nth i.flds f with
    | some (o, ft) => match X.ti ft with
      | some fi => cond (Nat.beq fi.size 0) False (match a with
        | .loc j o' => K (.loc j (o' + o))
        | .fp row => cond (Nat.ble o (len row)) (K (.fp (drp o row))) False
        | .ep e j i o' => K (.ep e j i (o' + o))
        | _ => False)
      | none => False
    | none => False
  | none => False
def xfield (t : TypeId) (f : Nat) (a : SV) (K : SV → Prop) : Prop := match X.ti t with
  | some i => match nth i.flds f with
    | some (o, ft) => match X.ti ft with
      | some fi => match a with
        | .agp c => tk fi.size (drp o c) fun c => oneP fi.agg c K
        | .ag c => tk fi.size (drp o c) fun c => one fi.agg c K
        | _ => False
      | none => False
    | none => False
  | none => False
def elemIs (t e : TypeId) (x : Prop) : Prop := match X.ti t with
  | some i => match i.elem with
    | some e' => match Nat.beq e' e with
      | true => match X.ti e with
        | some _ => x
        | none => False
      | false => False
    | none => False
  | none => False
def xindexAddr (t : TypeId) (a i : SV) (K : SV → Prop) : Prop := match i with
  | .p (.int _ i) => match a with
    | .p (.sl e rows) => elemIs X t e (∃ (n : Nat) (row : List PV), i = n ∧ rows[n]? = some row ∧ K (.fp row))
    | .os j => rowsOf (nth S.M j) fun e rows => elemIs X t e (∃ n : Nat, i = n ∧ n < rows.length ∧ K (.ep e j n 0))
    | .ss e j o m => elemIs X t e (∃ n : Nat, i = n ∧ n < m ∧ K (.ep e j (o + n) 0))
    | .fp row => match X.ti t with
      | some ti => match ti.arr with
        | some (ln, e) => match X.ti e with
          | some ei => ∃ n : Nat, i = n ∧ n < ln ∧ n * ei.size ≤ row.length ∧ K (.fp (drp (n * ei.size) row))
          | none => False
        | none => False
      | none => False
    | _ => False
  | _ => False
def xindex (t : TypeId) (a i : SV) (K : SV → Prop) : Prop := match i with
  | .p (.int _ i) => match a with
    | .p (.str s) => match X.ti t with
      | some ti => match ti.str with
        | true => ∃ (n : Nat) (b : UInt8), i = n ∧ s.data.toList[n]? = some b ∧ K (.p (.int .u8 b.toNat))
        | false => False
      | none => False
    | .agp c => match X.ti t with
      | some ti => match ti.arr with
        | some (ln, e) => match X.ti e with
          | some ei => ∃ n : Nat, i = n ∧ n < ln ∧ tk ei.size (drp (n * ei.size) c) fun c => oneP ei.agg c K
          | none => False
        | none => False
      | none => False
    | _ => False
  | _ => False
def bdN (b : SV) (K : Nat → Prop) : Prop := match b with
  | .p (.int _ i) => ∃ n : Nat, i = n ∧ K n
  | _ => False
def xbd (b : Option Operand) (d : Nat) (K : Nat → Prop) : Prop := match b with
  | none => K d
  | some b => xo X S 0 b fun v => bdN v K
def xslice (t : TypeId) (a : SV) (lo hi mx : Option Operand) (K : SV → Prop) : Prop := match a with
  | .p (.str s) => match mx with
    | none => match X.ti t with
      | some i => match i.str with
        | true => xbd X S lo 0 fun l => xbd X S hi s.size fun h => l ≤ h ∧ h ≤ s.size ∧ K (.p (.str (s.extract l h)))
        | false => False
      | none => False
    | some _ => False
  | .p (.sl e rows) => elemIs X t e (xbd X S lo 0 fun l => xbd X S hi rows.length fun h => match mx with
    | none => l ≤ h ∧ h ≤ rows.length ∧ K (.p (.sl e ((rows.drop l).take (h - l))))
    | some m => match hi with
      | some _ => xo X S 0 m fun v => bdN v fun m => l ≤ h ∧ h ≤ m ∧ m ≤ rows.length ∧ 0 < m ∧ K (.p (.sl e ((rows.drop l).take (h - l))))
      | none => False)
  | .nl e => elemIs X t e (match mx with
    | none => xbd X S lo 0 fun l => xbd X S hi 0 fun h => l = 0 ∧ h = 0 ∧ K (.nl e)
    | some _ => False)
  | .os j => match mx with
    | none => rowsOf (nth S.M j) fun e rows => elemIs X t e (xbd X S lo 0 fun l => xbd X S hi rows.length fun h => l < h ∧ h ≤ rows.length ∧ K (.ss e j l (h - l)))
    | some _ => False
  | _ => False
def isSl (t : TypeId) (x : Prop) : Prop := match X.ti t with
  | some i => match i.elem with
    | some _ => x
    | none => False
  | none => False
def xlen (t : TypeId) (a : SV) (K : SV → Prop) : Prop := match a with
  | .p (.str s) => match X.ti t with
    | some i => match i.str with
      | true => K (.p (.int .i64 s.size))
      | false => False
    | none => False
  | .p (.sl _ rows) => isSl X t (K (.p (.int .i64 rows.length)))
  | .nl _ => isSl X t (K (.p (.int .i64 0)))
  | .os j => isSl X t (rowsOf (nth S.M j) fun _ rows => K (.p (.int .i64 rows.length)))
  | .ss _ _ _ n => isSl X t (K (.p (.int .i64 n)))
  | _ => False
def ari (k : IntKind) (n : Int) (K : SV → Prop) : Prop := match k with
  | .i64 => -9223372036854775808 ≤ n ∧ n ≤ 9223372036854775807 ∧ K (.p (.int .i64 n))
  | k => K (.p (.int k (k.wrap n)))
def xint (op : BinOp) (k : IntKind) (a b : Int) (K : SV → Prop) : Prop := match op with
  | .add => ari k (a + b) K
  | .sub => ari k (a - b) K
  | .mul => ari k (a * b) K
  | .quo => b ≠ 0 ∧ ari k (a.tdiv b) K
  | .rem => b ≠ 0 ∧ K (.p (.int k (a.tmod b)))
  | .and => K (.p (.int k (k.wrap (BitVec.ofInt k.bits a &&& BitVec.ofInt k.bits b).toNat)))
  | .or => K (.p (.int k (k.wrap (BitVec.ofInt k.bits a ||| BitVec.ofInt k.bits b).toNat)))
  | .xor => K (.p (.int k (k.wrap (BitVec.ofInt k.bits a ^^^ BitVec.ofInt k.bits b).toNat)))
  | .andNot => K (.p (.int k (k.wrap (BitVec.ofInt k.bits a &&& ~~~(BitVec.ofInt k.bits b)).toNat)))
  | .eql => onD (a = b) fun r => K (.p (.bool r))
  | .neq => onD (a = b) fun r => K (.p (.bool (!r)))
  | .lss => onD (a < b) fun r => K (.p (.bool r))
  | .leq => onD (a ≤ b) fun r => K (.p (.bool r))
  | .gtr => onD (b < a) fun r => K (.p (.bool r))
  | .geq => onD (b ≤ a) fun r => K (.p (.bool r))
  | _ => False
def ikEq (k l : IntKind) (x : Prop) : Prop := match decEq k l with
  | .isTrue _ => x
  | .isFalse _ => False
def xbin (t : TypeId) (op : BinOp) (x y : SV) (K : SV → Prop) : Prop := match x, y with
  | .p (.int k a), .p (.int k' b) => match op with
    | .shl => ∃ n : Nat, b = n ∧ K (.p (.int k (k.wrap (a * 2 ^ (min n k.bits)))))
    | .shr => ∃ n : Nat, b = n ∧ K (.p (.int k (a.fdiv (2 ^ (min n k.bits)))))
    | op => ikEq k k' (xint op k a b K)
  | .p (.bool a), .p (.bool b) => match X.ti t with
    | some i => match i.bl with
      | true => match op with
        | .eql => onB (a == b) fun r => K (.p (.bool r))
        | .neq => onB (a == b) fun r => K (.p (.bool (!r)))
        | _ => False
      | false => False
    | none => False
  | .agp (.int .i64 a :: .bool b :: []), .agp (.int .i64 c :: .bool d :: []) => match X.ti t with
    | some i => match i.ib with
      | true => match op with
        | .eql => onD (a = c) fun r => onB (b == d) fun q => K (.p (.bool (r && q)))
        | .neq => onD (a = c) fun r => onB (b == d) fun q => K (.p (.bool (!(r && q))))
        | _ => False
      | false => False
    | none => False
  | .p (.str a), .p (.str b) => match op with
    | .eql => onB (a.toList == b.toList) fun r => K (.p (.bool r))
    | .neq => onB (a.toList == b.toList) fun r => K (.p (.bool (!r)))
    | .add => a.size + b.size ≤ 140737488355328 ∧ K (.p (.str (a ++ b)))
    | _ => False
  | .nl _, .nl _ => isSl X t (match op with
    | .eql => K (.p (.bool true))
    | .neq => K (.p (.bool false))
    | _ => False)
  | .p (.sl _ rows), .nl _ => isSl X t (match op with
    | .eql => (rows = [] → K (.p (.bool true))) ∧ K (.p (.bool false))
    | .neq => (rows = [] → K (.p (.bool false))) ∧ K (.p (.bool true))
    | _ => False)
  | .os j, .nl _ => isSl X t (match op with
    | .eql => rowsOf (nth S.M j) fun _ rows => (rows = [] → K (.p (.bool true))) ∧ K (.p (.bool false))
    | .neq => rowsOf (nth S.M j) fun _ rows => (rows = [] → K (.p (.bool false))) ∧ K (.p (.bool true))
    | _ => False)
  | _, _ => False
def xun (op : UnOp) (x : SV) (K : SV → Prop) : Prop := match op, x with
  | .not, .p (.bool b) => K (.p (.bool (!b)))
  | .neg, .p (.int k n) => ari k (0 - n) K
  | _, _ => False
def xconv (s d : TypeId) (x : SV) (K : SV → Prop) : Prop := match x with
  | .p (.int _ n) => match X.ti d with
    | some di => match di.ik, X.ti s with
      | some k, some _ => K (.p (.int k (k.wrap n)))
      | _, _ => False
    | none => False
  | _ => False
def mxs (mx : Bool) (k : IntKind) (K : SV → Prop) : Int → List SV → Prop
  | a, [] => K (.p (.int k a))
  | a, .p (.int _ b) :: r => mxs mx k K (bif mx then (if b > a then b else a) else (if b < a then b else a)) r
  | _, _ => False
def xmin (mx : Bool) (l : List SV) (K : SV → Prop) : Prop := match l with
  | .p (.int k a) :: r => mxs mx k K a r
  | _ => False
def ptypes (i : TI) : List (Nat × Operand) → List TypeId
  | [] => []
  | (f, _) :: r => (match nth i.flds f with
    | some (_, t) => t
    | none => 0) :: ptypes i r
def fillS (X : Sc) (i : TI) : List SV → List (Nat × Operand) → List SV → (List SV → Prop) → Prop
  | c, [], [], K => K c
  | c, (f, _) :: r, v :: l, K => match nth i.flds f with
    | some (o, ft) => match X.ti ft with
      | some fi => cond (Nat.beq (len (cells v)) fi.size) (cond (Nat.ble (o + fi.size) (len c)) (fillS X i (putC c o (cells v)) r l K) False) False
      | none => False
    | none => False
  | _, _, _, _ => False
def pureL : List SV → Option (List PV)
  | [] => some []
  | .p v :: r => match pureL r with
    | some l => some (v :: l)
    | none => none
  | .nl e :: r => match pureL r with
    | some l => some (.sl e [] :: l)
    | none => none
  | _ => none
def noNl : List SV → Bool
  | [] => true
  | .nl _ :: _ => false
  | _ :: r => noNl r
def mkAg (c : List SV) : SV := match noNl c with
  | false => .ag c
  | true => match pureL c with
    | some c => .agp c
    | none => .ag c
def xbuild (t : TypeId) (parts : List (Nat × Operand)) (K : SV → Prop) : Prop := match X.ti t with
  | some i => match i.agg, i.arr, i.zero with
    | true, none, some z => xos X S (ptypes i parts) (parts.map (·.2)) fun vs => fillS X i z parts vs fun c => K (mkAg c)
    | _, _, _ => False
  | none => False
def slElem (t : TypeId) (K : TypeId → TI → Prop) : Prop := match X.ti t with
  | some i => match i.elem with
    | some e => match X.ti e with
      | some ei => K e ei
      | none => False
    | none => False
  | none => False
def xL (τ : TypeId) (op : Op) (K : SV → Prop) : Prop := match op with
  | .move x | .assign x => xo X S τ x K
  | .pick c a b => xo X S 0 c fun c => match c with
    | .p (.bool t) => ifB t (xo X S τ a K) (xo X S τ b K)
    | _ => False
  | .load t x => xo X S 0 x fun a => match X.ti t with
    | some i => xload S i.size i.agg a K
    | none => False
  | .binOp o t x y _ => xo X S t x fun a => xo X S t y fun b => xbin X S t o a b K
  | .unOp o _ x => xo X S 0 x fun a => xun o a K
  | .convert s d x => xo X S 0 x fun a => xconv X s d a K
  | .makeFunc fn first captured => match fn, first.toList with
    | .func f, [] => xos X S (captured.toList.map fun _ => 0) captured.toList fun l => K (.fn f l)
    | _, _ => False
  | .slice t x lo hi mx => xo X S t x fun a => xslice X S t a lo hi mx K
  | .fieldAddr t x f => xo X S 0 x fun a => xfieldAddr X t f a K
  | .field t x f => xo X S 0 x fun a => xfield X t f a K
  | .indexAddr t x i => xo X S t x fun a => xo X S 0 i fun i => xindexAddr X S t a i K
  | .index t x i => xo X S t x fun a => xo X S 0 i fun i => xindex X t a i K
  | .extract x i => xo X S 0 x fun a => match a with
    | .tu l => match nth l i with
      | some v => K v
      | none => False
    | _ => False
  | .build t parts => xbuild X S t parts.toList K
  | .call c => match c.callee with
    | .builtin .len => match c.argTypes.toList, c.args.toList with
      | [t], [x] => xo X S t x fun a => xlen X S t a K
      | _, _ => False
    | .builtin .max => xos X S c.argTypes.toList c.args.toList fun l => xmin true l K
    | .builtin .min => xos X S c.argTypes.toList c.args.toList fun l => xmin false l K
    | _ => False
  | _ => False
def isL (op : Op) : Bool := match op with
  | .move _ | .assign _ | .pick .. | .load .. | .binOp .. | .unOp .. | .convert .. | .makeFunc .. | .slice .. | .fieldAddr .. | .field .. | .indexAddr .. | .index .. | .extract .. | .build .. => true
  | .call c => match c.callee with
    | .builtin .len | .builtin .max | .builtin .min => true
    | _ => false
  | _ => false
def upto : Nat → List (Nat × Operand) → Bool
  | _, [] => true
  | k, (i, _) :: r => cond (Nat.beq i k) (upto (k + 1) r) false
def rowsB (n : Nat) : List (List PV) → Bool
  | [] => true
  | r :: s => cond (Nat.beq (len r) n) (rowsB n s) false
def xA (op : Op) (K : Blk → (Nat → SV) → SS → Prop) : Prop := match op with
  | .alloc t => match X.ti t with
    | some i => match i.zero with
      | some z => K (.box z) (fun j => .loc j 0) S
      | none => False
    | none => False
  | .box t x => xo X S t x fun v => K (.box (cells v)) (fun j => .loc j 0) S
  | .buildSlice t ln parts => slElem X t fun e ei => match ei.zero with
    | some _ => cond (upto 0 parts.toList && Nat.beq (len parts.toList) ln && Nat.ble (ln * ei.size) 16777216 && Nat.blt 0 ei.size)
        (xos X S (parts.toList.map fun _ => e) (parts.toList.map (·.2)) fun vs => frzRs S vs fun S rows => cond (rowsB ei.size rows) (K (.arr e rows) (fun j => .os j) S) False) False
    | none => False
  | .makeSlice t l c => slElem X t fun e ei => xo X S 0 l fun l => xo X S 0 c fun c => match l, c, ei.zero with
    | .p (.int .i64 l), .p (.int .i64 c), some z => match pureL z with
      | some z => cond (Nat.blt 0 ei.bytes) (∃ n m : Nat, l = n ∧ c = m ∧ n ≤ m ∧ m * ei.bytes ≤ 281474976710656 ∧ K (.arr e (List.replicate n z)) (fun j => .os j) S) False
      | none => False
    | _, _, _ => False
  | _ => False
def isA (op : Op) : Bool := match op with
  | .alloc _ | .box .. | .buildSlice .. | .makeSlice .. => true
  | _ => false
def srcRows (S : SS) (e : TypeId) (x : SV) (K : List (List PV) → Prop) : Prop := match x with
  | .p (.sl e' rows) => e' = e ∧ K rows
  | .nl _ => K []
  | .os j => rowsOf (nth S.M j) fun e' rows => e' = e ∧ K rows
  | .ss e' j o n => rowsOf (nth S.M j) fun e'' rows => e' = e ∧ e'' = e ∧ o + n ≤ rows.length ∧ K ((rows.drop o).take n)
  | _ => False
def goApp (S : SS) (s : SV) (e : TypeId) (ei : TI) (rows : List (List PV)) (K : SS → SV → Prop) : Prop := match s with
  | .nl _ => rows.length * ei.bytes ≤ 140737488355328 ∧ K (S.addB (.arr e rows)) (.os (len S.M))
  | .os j => match nth S.M j with
    | some (.arr e' old) => e' = e ∧ (old.length + rows.length) * ei.bytes ≤ 140737488355328 ∧ K ((S.setB j .dd).addB (.arr e (old ++ rows))) (.os (len S.M))
    | _ => False
  | _ => False
def xappend (t u : TypeId) (s x : SV) (K : SS → SV → Prop) : Prop := slElem X t fun e ei => match X.ti u, ei.zero with
  | some ui, some z => cond (Nat.blt 0 ei.bytes) (match ui.ik, ui.elem with
    | some _, _ => match pureL z, x with
      | some z, .p (.int .i64 n) => ∃ m : Nat, n = m ∧ m * ei.bytes ≤ 140737488355328 ∧ goApp S s e ei (List.replicate m z) K
      | _, _ => False
    | none, some e' => cond (Nat.beq e' e) (srcRows S e x fun rows => goApp S s e ei rows K) False
    | none, none => False) False
  | _, _ => False
end
end Go.Sx
end
section
namespace Go.Sx
open Go.Ev Go.RowKit
abbrev Ctr := FuncId → List Blk → List SV → (List Blk → SV → Prop) → Prop
inductive Src where
  | blk (j : Nat)
  | arg (k : Nat)
def renJ (srcs : List Src) (m base i : Nat) : Option Nat := match nth srcs i with
  | some (.blk j) => some j
  | some (.arg _) => none
  | none => some (base + (i - m))
mutual
def renV (f : Nat → Option Nat) : SV → Option SV
  | .p v => some (.p v)
  | .agp c => some (.agp c)
  | .ag c => match renL f c with
    | some c => some (.ag c)
    | none => none
  | .tu c => match renL f c with
    | some c => some (.tu c)
    | none => none
  | .loc j o => match f j with
    | some j => some (.loc j o)
    | none => none
  | .nl e => some (.nl e)
  | .os j => match f j with
    | some j => some (.os j)
    | none => none
  | .ss e j o n => match f j with
    | some j => some (.ss e j o n)
    | none => none
  | .ep e j i o => match f j with
    | some j => some (.ep e j i o)
    | none => none
  | .fp r => some (.fp r)
  | .fn g c => match renL f c with
    | some c => some (.fn g c)
    | none => none
  | .un => some .un
def renL (f : Nat → Option Nat) : List SV → Option (List SV)
  | [] => some []
  | v :: r => match renV f v, renL f r with
    | some v, some l => some (v :: l)
    | _, _ => none
end
def renB (f : Nat → Option Nat) : Blk → Option Blk
  | .box c => match renL f c with
    | some c => some (.box c)
    | none => none
  | b => some b
def renBs (f : Nat → Option Nat) : List Blk → Option (List Blk)
  | [] => some []
  | b :: r => match renB f b, renBs f r with
    | some b, some l => some (b :: l)
    | _, _ => none
def lent1 (S : SS) (args : List SV) (f : Nat → Option Nat) (c : Blk) (s : Src) : Prop := match c with
  | .ro e rows => (match s with
    | .arg k => (match nth args k with
      | some (.p (.sl e' rows')) => e = e' ∧ rows = rows'
      | some (.nl e') => e = e' ∧ rows = []
      | _ => False)
    | .blk j => match nth S.M j with
      | some (.arr e' rows') => e = e' ∧ rows = rows'
      | some (.ro e' rows') => e = e' ∧ rows = rows'
      | some (.fz e' rows') => e = e' ∧ rows = rows'
      | _ => False)
  | .arr e rows => (match s with
    | .arg _ => False
    | .blk j => match nth S.M j with
      | some (.arr e' rows') => e = e' ∧ rows = rows'
      | _ => False)
  | .box c => (match s with
    | .arg _ => False
    | .blk j => match nth S.M j with
      | some (.box c') => renL f c = some c'
      | _ => False)
  | _ => False
def lentOk (S : SS) (args : List SV) (f : Nat → Option Nat) : List Blk → List Src → Prop
  | [], [] => True
  | c :: r, s :: t => lent1 S args f c s ∧ lentOk S args f r t
  | _, _ => False
def argOk (srcs : List Src) (f : Nat → Option Nat) (k : Nat) (a v : SV) : Prop := match a with
  | .os i => match nth srcs i with
    | some (.arg k') => Nat.beq k' k = true
    | _ => renV f a = some v
  | a => renV f a = some v
def argsOk (srcs : List Src) (f : Nat → Option Nat) : Nat → List SV → List SV → Prop
  | _, [], [] => True
  | k, a :: r, v :: s => argOk srcs f k a v ∧ argsOk srcs f (k + 1) r s
  | _, _, _ => False
def isRo : Blk → Bool
  | .ro _ _ => true
  | _ => false
def noRo : List Blk → Bool
  | [] => true
  | b :: r => cond (isRo b) false (noRo r)
def uniqAt (i j : Nat) : Nat → List Src → Bool
  | _, [] => true
  | k, .blk j' :: r => cond (Nat.beq j' j) (cond (Nat.beq k i) (uniqAt i j (k + 1) r) false) (uniqAt i j (k + 1) r)
  | k, .arg _ :: r => uniqAt i j (k + 1) r
def sepOk (ok : Nat → Bool) (all : List Src) : Nat → List Blk → List Src → Bool
  | i, c :: r, .blk j :: s => cond (isRo c) (sepOk ok all (i + 1) r s) (cond (uniqAt i j 0 all) (cond (ok j) (sepOk ok all (i + 1) r s) false) false)
  | i, c :: r, .arg _ :: s => cond (isRo c) (sepOk ok all (i + 1) r s) false
  | _, _, _ => true
def backL : List Blk → List Src → List Blk → List Blk → Option (List Blk)
  | [], _, r, M => cond (noRo r) (some (M ++ r)) none
  | c :: a, s :: t, b :: r, M => match isRo c with
    | true => backL a t r M
    | false => match s with
      | .arg _ => none
      | .blk j => match isRo b with
        | true => none
        | false => backL a t r (setAt M j b)
  | _, _, _, _ => none
mutual
def closed : SV → Bool
  | .p _ => true
  | .agp _ => true
  | .ag c => closedL c
  | .tu c => closedL c
  | .loc .. => false
  | .nl _ => true
  | .os _ => false
  | .ss .. => false
  | .ep .. => false
  | .fp _ => true
  | .fn _ c => closedL c
  | .un => true
def closedL : List SV → Bool
  | [] => true
  | v :: r => cond (closed v) (closedL r) false
end
def CallP (PC : Ctr) (S : SS) (f : FuncId) (args : List SV) (K : SS → SV → Prop) : Prop :=
  ∃ R, frzVs S args fun S' as => closedL as = true ∧ PC f [] as R ∧ ∀ M' r, R M' r → closed r = true ∧ K S' r
def frzSel : SS → List Bool → List SV → (SS → List SV → Prop) → Prop
  | S, true :: s, v :: r, K => frzV S v fun S v => frzSel S s r fun S l => K S (v :: l)
  | S, false :: s, v :: r, K => frzSel S s r fun S l => K S (v :: l)
  | S, _, l, K => K S l
def afterL (S : SS) (srcs : List Src) (Mc M' : List Blk) (r : SV) (K : SS → SV → Prop) : Prop :=
  match renBs (renJ srcs (len srcs) (len S.M)) M' with
  | none => False
  | some Mr => match renV (renJ srcs (len srcs) (len S.M)) r with
    | none => False
    | some r => match backL Mc srcs Mr S.M with
      | none => False
      | some M2 => K ⟨S.t, M2⟩ r
def CallL (PC : Ctr) (S : SS) (f : FuncId) (args : List SV) (ok : Nat → Bool) (K : SS → SV → Prop) : Prop :=
  ∃ (sel : List Bool) (srcs : List Src) (Mc : List Blk) (as : List SV) (R : List Blk → SV → Prop), frzSel S sel args fun S args => PC f Mc as R ∧ lentOk S args (renJ srcs (len srcs) (len S.M)) Mc srcs ∧
    argsOk srcs (renJ srcs (len srcs) (len S.M)) 0 as args ∧ sepOk ok srcs 0 Mc srcs = true ∧ ∀ M' r, R M' r → afterL S srcs Mc M' r K
def CallG (PC : Ctr) (S : SS) (f : FuncId) (args : List SV) (ok : Nat → Bool) (K : SS → SV → Prop) : Prop := CallP PC S f args K ∨ CallL PC S f args ok K
theorem frz1_mono {S : SS} {v : SV} {K K' : SS → PV → Prop} (hk : ∀ S v, K S v → K' S v) (h : frz1 S v K) : frz1 S v K' := by
  cases v <;> simp only [frz1] at h ⊢ <;> (first | exact hk _ _ h | skip)
  rename_i j
  cases hb : nth S.M j with
  | none => rw [hb] at h; exact h
  | some b => rw [hb] at h; cases b <;> (first | exact hk _ _ h | exact h)
theorem frzL_mono : ∀ {l : List SV} {S : SS} {K K' : SS → List PV → Prop}, (∀ S v, K S v → K' S v) → frzL S l K → frzL S l K'
  | [], _, _, _, hk, h => hk _ _ h
  | _ :: _, _, _, _, hk, h => frz1_mono (fun _ _ h => frzL_mono (fun _ _ h => hk _ _ h) h) h
theorem frzV_mono {S : SS} {v : SV} {K K' : SS → SV → Prop} (hk : ∀ S v, K S v → K' S v) (h : frzV S v K) : frzV S v K' := by
  cases v <;> simp only [frzV] at h ⊢ <;> (first | exact hk _ _ h | exact frzL_mono (fun _ _ h => hk _ _ h) h | exact frz1_mono (fun _ _ h => hk _ _ h) h)
theorem frzVs_mono : ∀ {l : List SV} {S : SS} {K K' : SS → List SV → Prop}, (∀ S v, K S v → K' S v) → frzVs S l K → frzVs S l K'
  | [], _, _, _, hk, h => hk _ _ h
  | _ :: _, _, _, _, hk, h => frzV_mono (fun _ _ h => frzVs_mono (fun _ _ h => hk _ _ h) h) h
theorem CallG.pure {PC : Ctr} {S : SS} {f : FuncId} {args as : List SV} {q : Nat → Bool} {K : SS → SV → Prop} {R : List Blk → SV → Prop} (h : PC f [] as R) (hc : closedL as = true)
    (k : frzVs S args fun S' as' => as' = as ∧ ∀ M' r, R M' r → closed r = true ∧ K S' r) : CallG PC S f args q K :=
  .inl ⟨R, frzVs_mono (fun _ _ ⟨e, k⟩ => ⟨by rw [e]; exact hc, by rw [e]; exact h, k⟩) k⟩
theorem CallG.lend {PC : Ctr} {S : SS} {f : FuncId} {args : List SV} {ok : Nat → Bool} {K : SS → SV → Prop} (srcs : List Src) (Mc : List Blk) (as : List SV) (R : List Blk → SV → Prop) (h : PC f Mc as R) (h1 : lentOk S args (renJ srcs (len srcs) (len S.M)) Mc srcs)
    (h2 : argsOk srcs (renJ srcs (len srcs) (len S.M)) 0 as args) (h3 : sepOk ok srcs 0 Mc srcs = true) (k : ∀ M' r, R M' r → afterL S srcs Mc M' r K) : CallG PC S f args ok K :=
  .inr ⟨[], srcs, Mc, as, R, h, h1, h2, h3, k⟩
section
variable (PC : Ctr) (X : Sc)
def gd (S : SS) (ops : List Oper) (o : Oper) (K : Bool → Prop) : Prop := match o.guard with
  | none => K true
  | some (g, want) => match nth ops g with
    | some og => match og.dst with
      | some t => match look S.t t with
        | some (.p (.bool b)) => onB b fun b => K (b == want)
        | some .un => K false
        | _ => False
      | none => False
    | none => False
def frc (v : SV) (K : SV → Prop) : Prop := match v with
  | .p v => (match v with
    | .int k n => K (.p (.int k n))
    | .bool b => K (.p (.bool b))
    | .str s => K (.p (.str s))
    | .sl e rows => K (.p (.sl e rows))
    | .raw a n c => K (.p (.raw a n c)))
  | .agp c => K (.agp c)
  | .ag c => K (.ag c)
  | .tu c => K (.tu c)
  | .loc j o => K (.loc j o)
  | .nl e => K (.nl e)
  | .os j => K (.os j)
  | .ss e j o n => K (.ss e j o n)
  | .ep e j i o => K (.ep e j i o)
  | .fp r => K (.fp r)
  | .fn f c => K (.fn f c)
  | .un => K .un
def spn {α : Type} : List α → (List α → Prop) → Prop
  | [], K => K []
  | x :: r, K => spn r fun r => K (x :: r)
def spnM : List Blk → (List Blk → Prop) → Prop
  | [], K => K []
  | .box c :: r, K => spn c fun c => spnM r fun r => K (.box c :: r)
  | .arr e l :: r, K => spnM r fun r => K (.arr e l :: r)
  | .fz e l :: r, K => spnM r fun r => K (.fz e l :: r)
  | .ro e l :: r, K => spnM r fun r => K (.ro e l :: r)
  | .dd :: r, K => spnM r fun r => K (.dd :: r)
def litN : Nat → (Nat → Prop) → Prop
  | 0, K => K 0
  | n + 1, K => litN n fun m => K (m + 1)
def put (S : SS) (dst : Option Nat) (v : SV) (K : SS → Prop) : Prop := match dst with
  | none => match S with
    | ⟨t, M⟩ => spnM M fun M => K ⟨t, M⟩
  | some d => frc v fun v => match S with
    | ⟨t, M⟩ => spnM M fun M => K ⟨(d, v) :: t, M⟩
def tj (v : SV) : Option Nat := match v with
  | .loc j _ => some j
  | .ep _ j _ _ => some j
  | .os j => some j
  | _ => none
def okJ (ok : Nat → Bool) (v : SV) (x : Prop) : Prop := match tj v with
  | some j => match ok j with
    | true => x
    | false => False
  | none => x
def xX (S : SS) (op : Op) (ok : Nat → Bool) (K : SS → SV → Prop) : Prop := match op with
  | .store t a v => xo X S 0 a fun a => xo X S t v fun v => match X.ti t with
    | some i => okJ ok a (xstore S i.size a v fun S => K S .un)
    | none => False
  | .call c => match c.callee with
    | .builtin .append => match c.argTypes.toList, c.args.toList with
      | [t, u], [s, x] => xo X S t s fun s => xo X S u x fun x => okJ ok s (xappend X S t u s x K)
      | _, _ => False
    | .value f => xo X S 0 f fun f => match f with
      | .fn f caps => xos X S c.argTypes.toList c.args.toList fun l => CallG PC S f (l ++ caps) ok K
      | _ => False
    | _ => False
  | _ => False
def xOp (S : SS) (o : Oper) (K : SS → Prop) : Prop := match isL o.op with
  | true => xL X S o.type o.op fun v => put S o.dst v K
  | false => match isA o.op with
    | true => xA X S o.op fun b mk S => litN (len S.M) fun j => put (S.addB b) o.dst (mk j) K
    | false => xX PC X S o.op (fun _ => true) fun S v => put S o.dst v K
def wpOps (ops : List Oper) : List Oper → SS → (SS → Prop) → Prop
  | [], S, K => K S
  | o :: r, S, K => gd S ops o fun b => match b with
    | true => xOp PC X S o fun S => wpOps ops r S K
    | false => put S o.dst .un fun S => wpOps ops r S K
structure Pl where
  fl : List Nat
  rest : List Stg
def smp (v : SV) : Bool := match v with
  | .agp _ | .ag _ | .tu _ | .fn .. | .un => false
  | _ => true
def smpL : List SV → Bool
  | [] => true
  | v :: r => cond (smp v) (smpL r) false
def shal (v : SV) : Bool := match v with
  | .ag c => smpL c
  | .tu c => smpL c
  | .fn _ c => smpL c
  | _ => true
def shalB (b : Blk) : Bool := match b with
  | .box c => smpL c
  | _ => true
def wpFl (ops : List Oper) (i : Nat) (S : SS) (K : SS → Prop) : Prop := match nth ops i with
  | some o => gd S ops o fun b => match b with
    | true => (match isL o.op with
      | true => xL X S o.type o.op fun v => cond (shal v) (put S o.dst v K) False
      | false => match isA o.op with
        | true => xA X S o.op fun b mk S => cond (shalB b) (litN (len S.M) fun j => put (S.addB b) o.dst (mk j) K) False
        | false => False)
    | false => put S o.dst .un K
  | none => False
def wpFls (ops : List Oper) : List Nat → SS → (SS → Prop) → Prop
  | [], S, K => K S
  | i :: r, S, K => wpFl X ops i S fun S => wpFls ops r S K
def liveB (b : Option Blk) (j : Nat) : Option (List Nat) := match b with
  | some (.box _) => some [j]
  | some (.arr _ _) => some [j]
  | some (.fz _ _) => some [j]
  | some (.ro _ _) => some [j]
  | _ => none
def rds (S : SS) (ops : List Oper) (i : Nat) : Option (List Nat) := match nth ops i with
  | some o => match isA o.op with
    | true => match o.dst with
      | some d => match look S.t d with
        | some (.loc j o) => match nth S.M j with
          | some (.box _) => cond (Nat.beq o 0) (some [j]) none
          | _ => none
        | some (.os j) => match nth S.M j with
          | some (.arr _ _) => some [j]
          | some (.fz _ _) => some [j]
          | _ => none
        | _ => none
      | none => none
    | false => match o.op with
      | .load _ x => match x with
        | .tmp t => match look S.t t with
          | some (.fp _) => some []
          | some (.loc j _) => liveB (nth S.M j) j
          | some (.ep _ j _ _) => liveB (nth S.M j) j
          | _ => none
        | _ => none
      | .convert _ _ x => match x with
        | .tmp t => match look S.t t with
          | some (.p (.int _ _)) => some []
          | _ => none
        | _ => none
      | .slice _ x _ _ _ => match x with
        | .tmp t => match look S.t t with
          | some (.p (.raw _ _ _)) => none
          | some (.p _) => some []
          | some (.nl _) => some []
          | some (.os j) => liveB (nth S.M j) j
          | _ => none
        | _ => none
      | op => match isL op with
        | true => some []
        | false => none
  | none => none
def hasN (i : Nat) : List Nat → Bool
  | [] => false
  | k :: r => cond (Nat.beq k i) true (hasN i r)
def okOf (S : SS) (ops : List Oper) (fl : List Nat) (j : Nat) : List Nat → Bool
  | [] => true
  | i :: r => match hasN i fl with
    | true => okOf S ops fl j r
    | false => match rds S ops i with
      | some l => match hasN j l with
        | true => false
        | false => okOf S ops fl j r
      | none => false
def wpStg (ops : List Oper) : List Stg → SS → (SS → Prop) → Prop
  | [], S, K => K S
  | s :: r, S, K => match nth ops s.x with
    | some o => gd S ops o fun b => match b with
      | true => (match isL o.op with
        | true => xL X S o.type o.op fun v => put S o.dst v fun S => wpFls X ops s.fl S fun S => wpStg ops r S K
        | false => xX PC X S o.op (fun j => okOf S ops s.fl j s.pend) fun S v => put S o.dst v fun S => wpFls X ops s.fl S fun S => wpStg ops r S K)
      | false => put S o.dst .un fun S => wpFls X ops s.fl S fun S => wpStg ops r S K
    | none => False
def srcOk1 (S : SS) (f : Nat → Option Nat) : List (Option Nat) → List Blk → Prop
  | [], [] => True
  | some j :: s, b :: r => (∃ b', renB f b = some b' ∧ nth S.M j = some b') ∧ srcOk1 S f s r
  | none :: s, b :: r => (∃ e, b = .arr e []) ∧ srcOk1 S f s r
  | _, _ => False
def tmpOk (S : SS) (π : List (Option Nat)) (f : Nat → Option Nat) : List (Nat × SV) → Prop
  | [] => True
  | (t, v) :: r => (∃ u, look S.t t = some u ∧ (match v with
    | .os j => match nth π j with
      | some none => ∃ e, u = .nl e
      | _ => renV f v = some u
    | .p (.sl e rows) => renV f (.p (.sl e rows)) = some u ∨ (u = .nl e ∧ rows = [])
    | v => renV f v = some u)) ∧ tmpOk S π f r
def somes : List (Option Nat) → List Nat
  | [] => []
  | some j :: r => j :: somes r
  | none :: r => somes r
def keepOk : Nat → Nat → List (Option Nat) → Bool
  | 0, _, _ => true
  | n + 1, i, some j :: r => Nat.beq j i && keepOk n (i + 1) r
  | _ + 1, _, _ => false
def Wk (m : Nat) (S S' : SS) : Prop := ∃ π : List (Option Nat), (somes π).Nodup ∧ keepOk m 0 π = true ∧ srcOk1 S (fun j => (nth π j).join) π S'.M ∧ tmpOk S π (fun j => (nth π j).join) S'.t
def seqQ (k : SS → Prop) (Q : Out → SS → Prop) (o : Out) (S : SS) : Prop := match o with
  | .normal => k S
  | .exit id => Q (.exit id) S
  | .ret => Q .ret S
def blkQ (id : Nat) (Q : Out → SS → Prop) (o : Out) (S : SS) : Prop := match o with
  | .normal => Q .normal S
  | .exit id' => match Nat.beq id' id with
    | true => Q .normal S
    | false => Q (.exit id') S
  | .ret => Q .ret S
def LoopG (m : Nat) (body : SS → (Out → SS → Prop) → Prop) (S : SS) (Q : Out → SS → Prop) : Prop :=
  ∃ (α : Type) (I : α → SS) (P : α → Prop) (μ : α → Nat) (a0 : α), P a0 ∧ Wk m S (I a0) ∧ ∀ a, P a → body (I a) (seqQ (fun S' => ∃ a', P a' ∧ μ a' < μ a ∧ Wk m S' (I a')) Q)
def UnrG (m : Nat) (body : SS → (Out → SS → Prop) → Prop) : Nat → SS → (Out → SS → Prop) → Prop
  | 0, S, Q => LoopG m body S Q
  | n + 1, S, Q => body S (seqQ (fun S => UnrG m body n S Q) Q)
def wpC (m : Nat) (pl : Nat → Option Pl) : Code → SS → (Out → SS → Prop) → Prop
  | .skip, S, Q => Q .normal S
  | .region id ops draw, S, Q => match draw with
    | false => wpOps PC X ops.toList ops.toList S (Q .normal)
    | true => match pl id with
      | some p => wpFls X ops.toList p.fl S fun S => wpStg PC X ops.toList p.rest S (Q .normal)
      | none => False
  | .seq a b, S, Q => wpC m pl a S (seqQ (fun S => wpC m pl b S Q) Q)
  | .cond c x y, S, Q => xo X S 0 c fun c => match c with
    | .p (.bool b) => ifB b (wpC m pl x S Q) (wpC m pl y S Q)
    | _ => False
  | .block id b, S, Q => wpC m pl b S (blkQ id Q)
  | .loop b, S, Q => ∃ n, UnrG m (wpC m pl b) n S Q
  | .exit id, S, Q => Q (.exit id) S
  | .ret, S, Q => Q .ret S
  | _, _, _ => False
end
theorem LoopG.intro {m : Nat} {body : SS → (Out → SS → Prop) → Prop} {S : SS} {Q : Out → SS → Prop} {α : Type} (I : α → SS) (P : α → Prop) (μ : α → Nat) (a0 : α) (p0 : P a0) (h0 : Wk m S (I a0))
    (h : ∀ a, P a → body (I a) (seqQ (fun S' => ∃ a', P a' ∧ μ a' < μ a ∧ Wk m S' (I a')) Q)) : LoopG m body S Q := ⟨α, I, P, μ, a0, p0, h0, h⟩
section
variable (X : Sc)
def xres (S : SS) : List ResultVar → (List SV → Prop) → Prop
  | [], K => K []
  | .tmp t :: r, K => match look S.t t with
    | some v => xres S r fun l => K (v :: l)
    | none => False
  | .cell a t :: r, K => match look S.t a with
    | some p => match X.ti t with
      | some i => xload S i.size i.agg p fun v => xres S r fun l => K (v :: l)
      | none => False
    | none => False
def oneS : List SV → SV
  | [v] => v
  | l => .tu l
def frzAll (S : SS) (l : List SV) (K : SS → SV → Prop) : Prop := frzVs S l fun S l => K S (oneS l)
def retQ (rs : List ResultVar) (R : SV → Prop) (o : Out) (S : SS) : Prop := match o with
  | .exit _ => False
  | _ => xres X S rs fun l => frzAll S l fun _ v => closed v = true ∧ R v
def retM (m : Nat) (rs : List ResultVar) (R : List Blk → SV → Prop) (o : Out) (S : SS) : Prop := match o with
  | .exit _ => False
  | _ => xres X S rs fun l => ∃ M' r, Wk m ⟨[(0, oneS l)], S.M⟩ ⟨[(0, r)], M'⟩ ∧ R M' r
end
end Go.Sx
end
section
namespace Go.Sx
open Go.Ev Go.RowKit
abbrev Fz := Nat → Option AObj
def Fz.le (Φ Ψ : Fz) : Prop := ∀ i o, Φ i = some o → Ψ i = some o
theorem Fz.le.refl (Φ : Fz) : Φ.le Φ := fun _ _ h => h
theorem Fz.le.trans {Φ Ψ Ω : Fz} (h : Φ.le Ψ) (k : Ψ.le Ω) : Φ.le Ω := fun i o e => k i o (h i o e)
mutual
inductive PRel (T : Tabs) (Φ : Fz) : PV → Value → Prop
  | int (k : IntKind) (n : Int) : PRel T Φ (.int k n) (.int k n)
  | bool (b : Bool) : PRel T Φ (.bool b) (.bool b)
  | str (s : ByteArray) : PRel T Φ (.str s) (.string s)
  | nil (e : TypeId) : PRel T Φ (.sl e []) (.slice none 0 0)
  | emp (e : TypeId) (b o : Nat) : PRel T Φ (.sl e []) (.slice (some ⟨b, o, some 1⟩) 0 0)
  | sl {e : TypeId} {rows : List (List PV)} {i o n c : Nat} {s : Option Nat} {cs : List Value} {ro : Bool} {p k : Option Nat} {inf : TypeInfo} : Φ i = some (.cells e cs ro true p k) → markE s = false → T.info e = some inf →
      (∀ r ∈ rows, r.length = inf.size) → LPRel T Φ rows.flatten ((cs.drop o).take (rows.length * inf.size)) → n = rows.length → n ≤ c → PRel T Φ (.sl e rows) (.slice (some ⟨i, o, s⟩) n c)
  | raw (a : Option Addr) (n c : Nat) : PRel T Φ (.raw a n c) (.slice a n c)
inductive LPRel (T : Tabs) (Φ : Fz) : List PV → List Value → Prop
  | nil : LPRel T Φ [] []
  | cons {v : PV} {w : Value} {l : List PV} {r : List Value} : PRel T Φ v w → LPRel T Φ l r → LPRel T Φ (v :: l) (w :: r)
end
inductive GB where
  | nm (b : Nat)
  | sl (w : Value)
mutual
inductive VR (T : Tabs) (Φ : Fz) (G : List GB) : SV → Value → Prop
  | p {v : PV} {w : Value} : PRel T Φ v w → VR T Φ G (.p v) w
  | agp {c : List PV} {ws : List Value} : LPRel T Φ c ws → VR T Φ G (.agp c) (.agg ⟨ws⟩)
  | ag {c : List SV} {ws : List Value} : LVR T Φ G c ws → VR T Φ G (.ag c) (.agg ⟨ws⟩)
  | tu {c : List SV} {ws : List Value} : LVR T Φ G c ws → VR T Φ G (.tu c) (.tuple ⟨ws⟩)
  | loc {j b o : Nat} : nth G j = some (.nm b) → VR T Φ G (.loc j o) (.pointer (some ⟨b, o, none⟩))
  | nl (e : TypeId) : VR T Φ G (.nl e) (.slice none 0 0)
  | os {j n c : Nat} {a : Option Addr} : nth G j = some (.sl (.slice a n c)) → VR T Φ G (.os j) (.slice a n c)
  | ss {e : TypeId} {j o n c i o0 ln cp : Nat} {s : Option Nat} {inf : TypeInfo} : nth G j = some (.sl (.slice (some ⟨i, o0, s⟩) ln cp)) → markE s = false → T.info e = some inf → n ≤ c →
      VR T Φ G (.ss e j o n) (.slice (some ⟨i, o0 + o * inf.size, s⟩) n c)
  | ep {e : TypeId} {j i o b o0 ln cp : Nat} {s : Option Nat} {inf : TypeInfo} : nth G j = some (.sl (.slice (some ⟨b, o0, s⟩) ln cp)) → markE s = false → T.info e = some inf →
      VR T Φ G (.ep e j i o) (.pointer (some ⟨b, o0 + i * inf.size + o, none⟩))
  | fp {row : List PV} {i o : Nat} {e : TypeId} {cs : List Value} {ro : Bool} {p k : Option Nat} : Φ i = some (.cells e cs ro true p k) → LPRel T Φ row ((cs.drop o).take row.length) → VR T Φ G (.fp row) (.pointer (some ⟨i, o, none⟩))
  | fn {f : FuncId} {caps : List SV} {ws : List Value} : LVR T Φ G caps ws → VR T Φ G (.fn f caps) (.func (.func f) ⟨[]⟩ ⟨ws⟩)
  | un : VR T Φ G .un undef
inductive LVR (T : Tabs) (Φ : Fz) (G : List GB) : List SV → List Value → Prop
  | nil : LVR T Φ G [] []
  | cons {v : SV} {w : Value} {l : List SV} {r : List Value} : VR T Φ G v w → LVR T Φ G l r → LVR T Φ G (v :: l) (w :: r)
end
variable {T : Tabs} {Φ Ψ : Fz} {G H : List GB}
mutual
theorem PRel.mono (h : Φ.le Ψ) : ∀ {v : PV} {w : Value}, PRel T Φ v w → PRel T Ψ v w
  | _, _, .int k n => .int k n
  | _, _, .bool b => .bool b
  | _, _, .str s => .str s
  | _, _, .nil e => .nil e
  | _, _, .emp e b o => .emp e b o
  | _, _, .raw a n c => .raw a n c
  | _, _, .sl a b c d e f g => .sl (h _ _ a) b c d (LPRel.mono h e) f g
theorem LPRel.mono (h : Φ.le Ψ) : ∀ {v : List PV} {w : List Value}, LPRel T Φ v w → LPRel T Ψ v w
  | _, _, .nil => .nil
  | _, _, .cons a b => .cons (PRel.mono h a) (LPRel.mono h b)
end
def Gle (G H : List GB) : Prop := ∀ j g, nth G j = some g → nth H j = some g
theorem Gle.refl (G : List GB) : Gle G G := fun _ _ h => h
mutual
theorem VR.mono (h : Φ.le Ψ) (g : Gle G H) : ∀ {v : SV} {w : Value}, VR T Φ G v w → VR T Ψ H v w
  | _, _, .p a => .p (a.mono h)
  | _, _, .agp a => .agp (a.mono h)
  | _, _, .ag a => .ag (LVR.mono h g a)
  | _, _, .tu a => .tu (LVR.mono h g a)
  | _, _, .loc a => .loc (g _ _ a)
  | _, _, .nl e => .nl e
  | _, _, .os a => .os (g _ _ a)
  | _, _, .ss a b c d => .ss (g _ _ a) b c d
  | _, _, .ep a b c => .ep (g _ _ a) b c
  | _, _, .fp a b => .fp (h _ _ a) (b.mono h)
  | _, _, .fn a => .fn (LVR.mono h g a)
  | _, _, .un => .un
theorem LVR.mono (h : Φ.le Ψ) (g : Gle G H) : ∀ {v : List SV} {w : List Value}, LVR T Φ G v w → LVR T Ψ H v w
  | _, _, .nil => .nil
  | _, _, .cons a b => .cons (VR.mono h g a) (LVR.mono h g b)
end
theorem LPRel.length {l : List PV} {r : List Value} (h : LPRel T Φ l r) : l.length = r.length := by
  induction l generalizing r with
  | nil => cases h; rfl
  | cons v l ih => cases h with | cons a b => simp [ih b]
theorem LPRel.append {a b : List PV} {c d : List Value} (h : LPRel T Φ a c) (k : LPRel T Φ b d) : LPRel T Φ (a ++ b) (c ++ d) := by
  induction a generalizing c with
  | nil => cases h; exact k
  | cons v l ih => cases h with | cons x y => exact .cons x (ih y)
theorem LPRel.take {a : List PV} {c : List Value} (h : LPRel T Φ a c) (n : Nat) : LPRel T Φ (a.take n) (c.take n) := by
  induction n generalizing a c with
  | zero => exact .nil
  | succ n ih => cases h with
    | nil => exact .nil
    | cons x y => exact .cons x (ih y)
theorem LPRel.drop {a : List PV} {c : List Value} (h : LPRel T Φ a c) (n : Nat) : LPRel T Φ (a.drop n) (c.drop n) := by
  induction n generalizing a c with
  | zero => exact h
  | succ n ih => cases h with
    | nil => exact .nil
    | cons x y => exact ih y
theorem LVR.length {l : List SV} {r : List Value} (h : LVR T Φ G l r) : l.length = r.length := by
  induction l generalizing r with
  | nil => cases h; rfl
  | cons v l ih => cases h with | cons a b => simp [ih b]
theorem LVR.append {a b : List SV} {c d : List Value} (h : LVR T Φ G a c) (k : LVR T Φ G b d) : LVR T Φ G (a ++ b) (c ++ d) := by
  induction a generalizing c with
  | nil => cases h; exact k
  | cons v l ih => cases h with | cons x y => exact .cons x (ih y)
theorem LPRel.lift {l : List PV} {r : List Value} (h : LPRel T Φ l r) : LVR T Φ G (l.map .p) r := by
  induction l generalizing r with
  | nil => cases h; exact .nil
  | cons v l ih => cases h with | cons a b => exact .cons (.p a) (ih b)
theorem nth_eq {α : Type} : ∀ (l : List α) (n : Nat), nth l n = l[n]?
  | [], n => by simp [nth]
  | _ :: _, 0 => rfl
  | _ :: r, n + 1 => by simp [nth, nth_eq r n]
theorem len_eq {α : Type} : ∀ (l : List α), len l = l.length
  | [] => rfl
  | _ :: r => by simp [len, len_eq r]
theorem snoc_eq {α : Type} (y : α) : ∀ (l : List α), snoc l y = l ++ [y]
  | [] => rfl
  | _ :: r => by simp [snoc, snoc_eq y r]
theorem setAt_eq {α : Type} (y : α) : ∀ (l : List α) (n : Nat), setAt l n y = l.set n y
  | [], _ => rfl
  | _ :: _, 0 => rfl
  | _ :: r, n + 1 => by simp [setAt, setAt_eq y r n]
theorem drp_eq {α : Type} : ∀ (n : Nat) (l : List α), drp n l = l.drop n
  | 0, _ => rfl
  | n + 1, _ :: r => by simp [drp, drp_eq n r]
  | _ + 1, [] => rfl
theorem tk_ok {α : Type} : ∀ {n : Nat} {l : List α} {K : List α → Prop}, tk n l K → n ≤ l.length ∧ K (l.take n)
  | 0, _, _, h => ⟨Nat.zero_le _, h⟩
  | n + 1, x :: r, K, h => by
    obtain ⟨a, b⟩ := tk_ok (n := n) (l := r) h
    exact ⟨by simpa using a, b⟩
  | _ + 1, [], _, h => h.elim
theorem takeN_eq : ∀ {n : Nat} {l : List Value}, n ≤ l.length → takeN n l = some (l.take n)
  | 0, _, _ => rfl
  | n + 1, x :: r, h => by simp [takeN, takeN_eq (n := n) (l := r) (by simpa using h)]
  | n + 1, [], h => by simp at h
theorem putC_eq {α : Type} : ∀ (cs : List α) (o : Nat) (vs : List α), o + vs.length ≤ cs.length → putC cs o vs = cs.take o ++ (vs ++ cs.drop (o + vs.length))
  | cs, o, [], _ => by cases cs <;> simp [putC]
  | [], o, v :: vs, h => by simp at h
  | c :: cs, 0, v :: vs, h => by
    have := putC_eq cs 0 vs (by simp at h ⊢; omega)
    simp [putC, this]
  | c :: cs, o + 1, v :: vs, h => by
    have := putC_eq cs o (v :: vs) (by simp at h ⊢; omega)
    simp only [putC, this, List.take_succ_cons, List.cons_append, List.length_cons]
    rw [show o + 1 + (vs.length + 1) = (o + (vs.length + 1)) + 1 by omega, List.drop_succ_cons]
theorem look_put (l : List (Nat × SV)) (d : Nat) (v : SV) (t : Nat) : look ((d, v) :: l) t = if d = t then some v else look l t := by
  show cond (Nat.beq d t) (some v) (look l t) = _
  by_cases h : d = t
  · subst h; simp
  · rw [if_neg h, show Nat.beq d t = false by
      cases hb : Nat.beq d t with
      | false => rfl
      | true => exact absurd (Nat.eq_of_beq_eq_true hb) h]
    rfl
theorem nth_snoc {α : Type} (l : List α) (y : α) (n : Nat) : nth (snoc l y) n = if n = l.length then some y else nth l n := by
  rw [nth_eq, nth_eq, snoc_eq, List.getElem?_append]
  by_cases h : n = l.length
  · subst h; simp
  · rw [if_neg h]
    split
    · rfl
    · rw [List.getElem?_eq_none (by simp; omega), List.getElem?_eq_none (by omega)]
theorem nth_set {α : Type} (l : List α) (j : Nat) (y : α) (n : Nat) : nth (setAt l j y) n = if n = j ∧ j < l.length then some y else nth l n := by
  rw [nth_eq, nth_eq, setAt_eq, List.getElem?_set]
  by_cases h : j = n
  · subst h
    by_cases hl : j < l.length
    · simp [hl]
    · simp [hl]
  · rw [if_neg h, if_neg (by omega)]
theorem nth_lt {α : Type} {l : List α} {j : Nat} {x : α} (h : nth l j = some x) : j < l.length := by
  rw [nth_eq] at h
  exact (List.getElem?_eq_some_iff.1 h).1
theorem Gle.snoc (G : List GB) (g : GB) : Gle G (snoc G g) := fun j x h => by
  rw [nth_snoc, if_neg (by have := nth_lt h; omega)]; exact h
def RowsAt (T : Tabs) (Φ : Fz) (e : TypeId) (rows : List (List PV)) (cs : List Value) (o : Nat) : Prop :=
  ∃ inf, T.info e = some inf ∧ (∀ r ∈ rows, r.length = inf.size) ∧ LPRel T Φ rows.flatten ((cs.drop o).take (rows.length * inf.size))
def ArrR (T : Tabs) (Φ : Fz) (σ : St) (e : TypeId) (rows : List (List PV)) (w : Value) : Prop :=
  (w = .slice none 0 0 ∧ rows = []) ∨ ∃ i s c cs p, w = .slice (some ⟨i, 0, s⟩) rows.length c ∧ markE s = false ∧ rows.length ≤ c ∧ σ.get i = some (.cells e cs false true p none) ∧ RowsAt T Φ e rows cs 0
def RoR (T : Tabs) (Φ : Fz) (σ : St) (e : TypeId) (rows : List (List PV)) (w : Value) : Prop :=
  (w = .slice none 0 0 ∧ rows = []) ∨ (∃ b o, w = .slice (some ⟨b, o, some 1⟩) 0 0 ∧ rows = []) ∨
    ∃ i o s c cs ro p k, w = .slice (some ⟨i, o, s⟩) rows.length c ∧ markE s = false ∧ rows.length ≤ c ∧ σ.get i = some (.cells e cs ro true p k) ∧ RowsAt T Φ e rows cs o
def BR (T : Tabs) (Φ : Fz) (G : List GB) (σ : St) : Blk → GB → Prop
  | .box c, .nm b => ∃ e ws, σ.get b = some (.cells e ws false true none none) ∧ LVR T Φ G c ws
  | .arr e rows, .sl w => ArrR T Φ σ e rows w
  | .fz e rows, .sl w => PRel T Φ (.sl e rows) w
  | .ro e rows, .sl w => RoR T Φ σ e rows w
  | .dd, _ => True
  | _, _ => False
def ownN : Blk → GB → Option Nat
  | .box _, .nm b => some b
  | .arr _ _, .sl (.slice (some a) _ _) => some a.block
  | _, _ => none
def lentN : Blk → GB → Option Nat
  | .ro _ _, .sl (.slice (some a) _ _) => cond (markE a.spot) none (some a.block)
  | _, _ => none
def Own (M : List Blk) (G : List GB) (j x : Nat) : Prop := ∃ b g, nth M j = some b ∧ nth G j = some g ∧ ownN b g = some x
def Lent (M : List Blk) (G : List GB) (x : Nat) : Prop := ∃ j b g, nth M j = some b ∧ nth G j = some g ∧ lentN b g = some x
def Par (M : List Blk) (G : List GB) (σ : St) (y : Nat) : Prop := ∃ j x e cs ro l k, Own M G j x ∧ σ.get x = some (.cells e cs ro l (some y) k)
structure MR (T : Tabs) (Φ : Fz) (M : List Blk) (G : List GB) (σ : St) : Prop where
  len : M.length = G.length
  blk : ∀ j b, nth M j = some b → ∃ g, nth G j = some g ∧ BR T Φ G σ b g
  inj : ∀ j k x, Own M G j x → Own M G k x → j = k
  own : ∀ j x, Own M G j x → Φ x = none ∧ x < σ.next
  lent : ∀ x, Lent M G x → (∀ j, ¬ Own M G j x) ∧ x < σ.next
  par : ∀ y, Par M G σ y → Φ y = none ∧ (∀ j, ¬ Own M G j y) ∧ ¬ Lent M G y ∧ y < σ.next
structure WS (X : Sc) (T : Tabs) (Φ : Fz) (σ : St) : Prop where
  phi : ∀ i o, Φ i = some o → σ.get i = some o
  dom : ∀ i o, σ.get i = some o → i < σ.next
  glob : ∀ g row, X.glob g = some row → T.glob g = true ∧ VR T Φ [] (.fp row) (.pointer (some ⟨g, 0, none⟩))
structure SR (X : Sc) (T : Tabs) (Φ : Fz) (G : List GB) (S : SS) (tm : Tr Value) (σ : St) : Prop where
  tmp : ∀ t v, look S.t t = some v → ∃ w, tm.get t = some w ∧ VR T Φ G v w
  mr : MR T Φ S.M G σ
  ws : WS X T Φ σ
structure Stp (m : Nat) (Φ : Fz) (M : List Blk) (G : List GB) (σ : St) (Φ' : Fz) (M' : List Blk) (G' : List GB) (σ' : St) : Prop where
  fz : Φ.le Φ'
  gh : ∀ j, j < m → nth G' j = nth G j
  next : σ.next ≤ σ'.next
  frame : ∀ i, i < σ.next → (∀ j, ¬ Own M G j i) → ¬ Par M G σ i → σ'.get i = σ.get i
  newF : ∀ i o, Φ' i = some o → Φ i = none → (∃ j, Own M G j i) ∨ σ.next ≤ i
  newO : ∀ j i, Own M' G' j i → (∃ j, Own M G j i) ∨ σ.next ≤ i
  newP : ∀ i, Par M' G' σ' i → Par M G σ i ∨ (∃ j, Own M G j i) ∨ σ.next ≤ i
  newL : ∀ i, Lent M' G' i → Lent M G i
  mlen : m ≤ M.length → m ≤ M'.length
theorem Stp.refl (m : Nat) (Φ : Fz) (M : List Blk) (G : List GB) (σ : St) : Stp m Φ M G σ Φ M G σ :=
  ⟨Fz.le.refl Φ, fun _ _ => rfl, Nat.le_refl _, fun _ _ _ _ => rfl, fun i o h k => (by rw [k] at h; cases h), fun j _ h => .inl ⟨j, h⟩, fun _ h => .inl h, fun _ h => h, fun h => h⟩
theorem Stp.trans {m : Nat} {Φ Φ1 Φ2 : Fz} {M M1 M2 : List Blk} {G G1 G2 : List GB} {σ σ1 σ2 : St} (h : Stp m Φ M G σ Φ1 M1 G1 σ1) (k : Stp m Φ1 M1 G1 σ1 Φ2 M2 G2 σ2) : Stp m Φ M G σ Φ2 M2 G2 σ2 := by
  refine ⟨h.fz.trans k.fz, fun j hj => (k.gh j hj).trans (h.gh j hj), Nat.le_trans h.next k.next, ?_, ?_, ?_, ?_, fun i hi => h.newL i (k.newL i hi), fun hm => k.mlen (h.mlen hm)⟩
  · intro i hi ho hp
    rw [k.frame i (Nat.lt_of_lt_of_le hi h.next) ?_ ?_, h.frame i hi ho hp]
    · intro j hj
      rcases h.newO j i hj with ⟨j', h'⟩ | h'
      · exact ho j' h'
      · omega
    · intro hj
      rcases h.newP i hj with h' | ⟨j', h'⟩ | h'
      · exact hp h'
      · exact ho j' h'
      · omega
  · intro i o hi hn
    cases h1 : Φ1 i with
    | some o1 => exact h.newF i o1 h1 hn
    | none =>
      rcases k.newF i o hi h1 with ⟨j, hj⟩ | hj
      · exact h.newO j i hj
      · exact .inr (Nat.le_trans h.next hj)
  · intro j i hj
    rcases k.newO j i hj with ⟨j', h'⟩ | h'
    · exact h.newO j' i h'
    · exact .inr (Nat.le_trans h.next h')
  · intro i hi
    rcases k.newP i hi with h' | ⟨j', h'⟩ | h'
    · exact h.newP i h'
    · rcases h.newO j' i h' with h'' | h''
      · exact .inr (.inl h'')
      · exact .inr (.inr h'')
    · exact .inr (.inr (Nat.le_trans h.next h'))
end Go.Sx
end
section
namespace Go.Sx
open Go.Ev Go.RowKit
structure TIok (T : Tabs) (t : TypeId) (i : TI) : Prop where
  info : ∃ inf, T.info t = some inf ∧ inf.size = i.size ∧ inf.bytes = i.bytes ∧ ∀ z, i.zero = some z → ∃ zv, zeroOk inf = some zv ∧ ∀ Φ G, LVR T Φ G z (cellsL zv)
  und : ∃ d, T.und t = some d ∧ aggD d = i.agg ∧ sliceElem (some d) = i.elem ∧ arrayElem (some d) = i.arr ∧ intK (some d) = i.ik ∧ isStr (some d) = i.str ∧ (i.bl = true → d = .bool) ∧
    (i.flds = [] ∨ ∃ fs pl, d = .struct fs ∧ i.flds = fs.toList.map (fun f => (f.offset, f.type)) ∧ placesOf T fs.toList = some pl) ∧ (i.agg = true → i.arr = none → ∃ fs pl, d = .struct fs ∧ i.flds = fs.toList.map (fun f => (f.offset, f.type)) ∧ placesOf T fs.toList = some pl)
  sc : i.agg = false → i.size = 1
  ib : i.ib = true → T.ib t = true
def Sc.Good (X : Sc) (T : Tabs) : Prop := ∀ t i, X.ti t = some i → TIok T t i
variable {X : Sc} {T : Tabs} {Φ : Fz} {G : List GB} {S : SS} {tm : Tr Value} {σ : St}
theorem xo_ok (h : SR X T Φ G S tm σ) {τ : TypeId} {x : Operand} {K : SV → Prop} (hx : xo X S τ x K) : ∃ v w, K v ∧ opd T tm x = some w ∧ VR T Φ G v w := by
  cases x with
  | tmp t =>
    simp only [xo] at hx
    cases hl : look S.t t with
    | none => rw [hl] at hx; exact hx.elim
    | some v =>
      rw [hl] at hx
      obtain ⟨w, h1, h2⟩ := h.tmp t v hl
      exact ⟨v, w, hx, by simp [opd, h1], h2⟩
  | const v =>
    simp only [xo] at hx
    unfold cSV at hx
    split at hx
    · exact ⟨_, _, hx, rfl, .p (.int _ _)⟩
    · exact ⟨_, _, hx, rfl, .p (.bool _)⟩
    · exact ⟨_, _, hx, rfl, .p (.str _)⟩
    · split at hx
      · split at hx
        · exact ⟨_, _, hx, rfl, .nl _⟩
        · exact hx.elim
      · exact hx.elim
    · exact hx.elim
  | global g =>
    simp only [xo] at hx
    split at hx
    · rename_i r hr
      obtain ⟨a, b⟩ := h.ws.glob g r hr
      exact ⟨_, _, hx, by simp [opd, a], b.mono (Fz.le.refl Φ) (fun _ _ e => by simp [nth] at e)⟩
    · exact hx.elim
  | func f => exact ⟨_, _, hx, rfl, .fn .nil⟩
theorem xos_ok (h : SR X T Φ G S tm σ) : ∀ {τs : List TypeId} {xs : List Operand} {K : List SV → Prop}, xos X S τs xs K → ∃ vs ws, K vs ∧ opds T tm xs = some ws ∧ LVR T Φ G vs ws
  | τ :: τs, x :: r, K, hx => by
    simp only [xos] at hx
    obtain ⟨v, w, h1, h2, h3⟩ := xo_ok h hx
    obtain ⟨vs, ws, k1, k2, k3⟩ := xos_ok h h1
    exact ⟨_, _, k1, by simp [opds, h2, k2], .cons h3 k3⟩
  | [], [], K, hx => ⟨[], [], hx, rfl, .nil⟩
  | _ :: _, [], _, hx => by simp [xos] at hx
  | [], _ :: _, _, hx => by simp [xos] at hx
theorem MR.at_ {M : List Blk} (h : MR T Φ M G σ) {j : Nat} {b : Blk} {g : GB} (hb : nth M j = some b) (hg : nth G j = some g) : BR T Φ G σ b g := by
  obtain ⟨g', a, b'⟩ := h.blk j b hb
  rw [hg] at a; cases a; exact b'
theorem rows_ok (hw : WS X T Φ σ) (hm : MR T Φ S.M G σ) {j : Nat} {w : Value} (hg : nth G j = some (.sl w)) {K : TypeId → List (List PV) → Prop} (hr : rowsOf (nth S.M j) K) :
    ∃ e rows, K e rows ∧ RoR T Φ σ e rows w := by
  unfold rowsOf at hr
  split at hr
  · rename_i e rows hb
    refine ⟨e, rows, hr, ?_⟩
    have := hm.at_ hb hg
    rcases this with ⟨rfl, rfl⟩ | ⟨i, s, c, cs, p, rfl, a, b, c', d⟩
    · exact .inl ⟨rfl, rfl⟩
    · exact .inr (.inr ⟨i, 0, s, c, cs, false, p, none, rfl, a, b, c', d⟩)
  · rename_i e rows hb
    refine ⟨e, rows, hr, ?_⟩
    have h1 : PRel T Φ (.sl e rows) w := hm.at_ hb hg
    cases h1 with
    | nil => exact .inl ⟨rfl, rfl⟩
    | emp => exact .inr (.inl ⟨_, _, rfl, rfl⟩)
    | sl a b c d f g k =>
      subst g
      exact .inr (.inr ⟨_, _, _, _, _, _, _, _, rfl, b, k, hw.phi _ _ a, _, c, d, f⟩)
  · rename_i e rows hb
    exact ⟨e, rows, hr, hm.at_ hb hg⟩
  · exact hr.elim
theorem RoR.of_ptr {e : TypeId} {rows : List (List PV)} {a : Addr} {n c : Nat} (h : RoR T Φ σ e rows (.slice (some a) n c)) (hn : 0 < n) :
    ∃ i o s cs ro p k, a = ⟨i, o, s⟩ ∧ n = rows.length ∧ markE s = false ∧ rows.length ≤ c ∧ σ.get i = some (.cells e cs ro true p k) ∧ RowsAt T Φ e rows cs o := by
  rcases h with ⟨h, _⟩ | ⟨b, o, h, _⟩ | ⟨i, o, s, c', cs, ro, p, k, h, h1, h2, h3, h4⟩
  · cases h
  · cases h; omega
  · cases h; exact ⟨i, o, s, cs, ro, p, k, rfl, rfl, h1, h2, h3, h4⟩
theorem flat_row {z : Nat} : ∀ {rows : List (List PV)} {i : Nat} {row : List PV}, (∀ r ∈ rows, r.length = z) → rows[i]? = some row → (rows.flatten.drop (i * z)).take z = row
  | [], i, row, _, h => by simp at h
  | r :: rs, 0, row, hz, h => by
    simp at h; subst h
    have := hz r (List.mem_cons_self ..)
    simp [← this]
  | r :: rs, i + 1, row, hz, h => by
    have hr := hz r (List.mem_cons_self ..)
    have := flat_row (rows := rs) (i := i) (fun r' h' => hz r' (List.mem_cons_of_mem _ h')) (by simpa using h)
    rw [List.flatten_cons, List.drop_append, hr, Nat.succ_mul]
    rw [List.drop_of_length_le (by omega), List.nil_append, show i * z + z - z = i * z by omega]
    exact this
theorem len_flat {z : Nat} {rows : List (List PV)} (hz : ∀ r ∈ rows, r.length = z) : rows.flatten.length = rows.length * z := by
  induction rows with
  | nil => simp
  | cons r rs ih =>
    rw [List.flatten_cons, List.length_append, ih fun r' h' => hz r' (List.mem_cons_of_mem _ h'), hz r (List.mem_cons_self ..), List.length_cons, Nat.succ_mul, Nat.add_comm]
theorem RowsAt.row {e : TypeId} {rows : List (List PV)} {cs : List Value} {o : Nat} (h : RowsAt T Φ e rows cs o) {inf : TypeInfo} (hi : T.info e = some inf) {i : Nat} {row : List PV} (hr : rows[i]? = some row) :
    row.length = inf.size ∧ LPRel T Φ row ((cs.drop (o + i * inf.size)).take inf.size) ∧ rows.length * inf.size ≤ cs.length - o ∧ (i + 1) * inf.size ≤ rows.length * inf.size := by
  obtain ⟨inf', a, b, c⟩ := h
  rw [hi] at a; cases a
  have hlt : i < rows.length := (List.getElem?_eq_some_iff.1 hr).1
  have hmul : (i + 1) * inf.size ≤ rows.length * inf.size := Nat.mul_le_mul_right _ hlt
  have hmul' : i * inf.size + inf.size ≤ rows.length * inf.size := by rw [← Nat.succ_mul]; exact hmul
  have hl := c.length
  rw [len_flat b] at hl
  have hle : rows.length * inf.size ≤ cs.length - o := by simp at hl; omega
  refine ⟨b row (List.mem_of_getElem? hr), ?_, hle, hmul⟩
  have h1 := (c.drop (i * inf.size)).take inf.size
  rw [flat_row b hr] at h1
  rw [List.drop_take, List.take_take, List.drop_drop, Nat.min_eq_left (by omega)] at h1
  exact h1
theorem LPRel.part {l : List PV} {cs : List Value} {a n : Nat} (h : LPRel T Φ l ((cs.drop a).take n)) (hl : l.length = n) {b m : Nat} (hm : b + m ≤ n ∨ m = 0) :
    LPRel T Φ ((l.drop b).take m) ((cs.drop (a + b)).take m) ∧ a + b + m ≤ cs.length ∨ m = 0 := by
  by_cases h0 : m = 0
  · exact .inr h0
  · left
    have hlen := h.length
    have h1 := (h.drop b).take m
    rw [List.drop_take, List.take_take, List.drop_drop, Nat.min_eq_left (by omega)] at h1
    refine ⟨h1, ?_⟩
    simp at hlen; omega
theorem ld_of {i o n : Nat} {e : TypeId} {cs : List Value} {ro : Bool} {p k : Option Nat} (h : σ.get i = some (.cells e cs ro true p k)) (hn : o + n ≤ cs.length ∨ n = 0) : σ.ld i o n = some ((cs.drop o).take n) := by
  unfold St.ld
  rw [h]
  simp only
  rcases hn with hn | hn
  · exact takeN_eq (by simp; omega)
  · subst hn; simp [takeN]
end Go.Sx
end
section
namespace Go.Sx
open Go.Ev Go.RowKit
variable {X : Sc} {T : Tabs} {Φ : Fz} {G : List GB} {S : SS} {tm : Tr Value} {σ : St}
theorem ld_len {b o n : Nat} {ws : List Value} (h : σ.ld b o n = some ws) : ws.length = n := by
  unfold St.ld at h
  split at h
  · exact (takeN_spec _ _ _ h).1
  · cases h
theorem one_ok {t : TypeId} {i : TI} (hi : TIok T t i) {b o : Nat} {c : List SV} {ws : List Value} (hl : σ.ld b o i.size = some ws) (hr : LVR T Φ G c ws) {K : SV → Prop} (hk : one i.agg c K) :
    ∃ v u, K v ∧ evLoad T σ t (.pointer (some ⟨b, o, none⟩)) = some u ∧ VR T Φ G v u := by
  obtain ⟨inf, a1, a2, a3, a4⟩ := hi.info
  obtain ⟨d, b1, b2, _⟩ := hi.und
  simp only [evLoad, a1, b1, b2, a2]
  cases ha : i.agg with
  | true =>
    rw [ha] at hk
    exact ⟨_, _, hk, by simp [hl], .ag hr⟩
  | false =>
    rw [ha] at hk
    have h1 := hi.sc ha
    rw [h1] at hl
    have hlen := ld_len hl
    cases hr with
    | nil => exact hk.elim
    | cons x y =>
      rename_i w l r
      cases r with
      | nil => exact ⟨_, _, hk, by simp [hl], x⟩
      | cons => simp at hlen
theorem oneP_ok {t : TypeId} {i : TI} (hi : TIok T t i) {b o : Nat} {c : List PV} {ws : List Value} (hl : σ.ld b o i.size = some ws) (hr : LPRel T Φ c ws) {K : SV → Prop} (hk : oneP i.agg c K) :
    ∃ v u, K v ∧ evLoad T σ t (.pointer (some ⟨b, o, none⟩)) = some u ∧ VR T Φ G v u := by
  obtain ⟨inf, a1, a2, a3, a4⟩ := hi.info
  obtain ⟨d, b1, b2, _⟩ := hi.und
  simp only [evLoad, a1, b1, b2, a2]
  cases ha : i.agg with
  | true =>
    rw [ha] at hk
    exact ⟨_, _, hk, by simp [hl], .agp hr⟩
  | false =>
    rw [ha] at hk
    have h1 := hi.sc ha
    rw [h1] at hl
    have hlen := ld_len hl
    cases hr with
    | nil => exact hk.elim
    | cons x y =>
      rename_i w l r
      cases r with
      | nil => exact ⟨_, _, hk, by simp [hl], .p x⟩
      | cons => simp at hlen
theorem LVR.take {a : List SV} {c : List Value} (h : LVR T Φ G a c) (n : Nat) : LVR T Φ G (a.take n) (c.take n) := by
  induction n generalizing a c with
  | zero => exact .nil
  | succ n ih => cases h with
    | nil => exact .nil
    | cons x y => exact .cons x (ih y)
theorem LVR.drop {a : List SV} {c : List Value} (h : LVR T Φ G a c) (n : Nat) : LVR T Φ G (a.drop n) (c.drop n) := by
  induction n generalizing a c with
  | zero => exact h
  | succ n ih => cases h with
    | nil => exact .nil
    | cons x y => exact ih y
theorem xload_ok (h : SR X T Φ G S tm σ) {t : TypeId} {i : TI} (hi : TIok T t i) {a : SV} {w : Value} (hv : VR T Φ G a w) {K : SV → Prop} (hx : xload S i.size i.agg a K) :
    ∃ v u, K v ∧ evLoad T σ t w = some u ∧ VR T Φ G v u := by
  unfold xload at hx
  split at hx
  · rename_i j o
    split at hx
    · rename_i c hb
      obtain ⟨a1, a2⟩ := tk_ok hx
      cases hv with
      | loc hg =>
        have := h.mr.at_ hb hg
        obtain ⟨e, ws, b1, b2⟩ := this
        rw [drp_eq] at a1 a2
        have hl := b2.length
        refine one_ok hi (ld_of b1 ?_) ((b2.drop o).take i.size) a2
        simp at a1; omega
    · exact hx.elim
  · rename_i row
    obtain ⟨a1, a2⟩ := tk_ok hx
    cases hv with
    | fp b1 b2 =>
      have hl := b2.length
      have := (b2.take i.size)
      rw [List.take_take, Nat.min_eq_left a1] at this
      refine oneP_ok hi (ld_of (h.ws.phi _ _ b1) ?_) this a2
      simp at hl; omega
  · rename_i e j ix o
    cases hv with
    | ep hg hmk he =>
      rename_i b o0 ln cp s inf
      obtain ⟨e', rows, k1, k2⟩ := rows_ok h.ws h.mr hg hx
      obtain ⟨rfl, row, k3, k4⟩ := k1
      obtain ⟨a1, a2⟩ := tk_ok k4
      rw [drp_eq] at a1 a2
      have hlt : ix < rows.length := (List.getElem?_eq_some_iff.1 k3).1
      have hpos : 0 < ln := by
        rcases k2 with ⟨k2, _⟩ | ⟨_, _, k2, k5⟩ | ⟨_, _, _, _, _, _, _, _, k2, _⟩
        · cases k2
        · subst k5; simp at hlt
        · cases k2; omega
      obtain ⟨i', o', s', cs, ro, p, k, m1, m2, m3, m4, m5, m6⟩ := k2.of_ptr hpos
      cases m1
      obtain ⟨n1, n2, n3, n4⟩ := m6.row he k3
      rcases n2.part n1 (b := o) (m := i.size) (by simp at a1; omega) with ⟨q1, q2⟩ | q
      · exact oneP_ok hi (ld_of m5 (.inl q2)) q1 a2
      · refine oneP_ok hi (c := (row.drop o).take i.size) (ld_of m5 (.inr q)) ?_ a2
        rw [q]; exact .nil
  · exact hx.elim
theorem flds_ok {t : TypeId} {i : TI} (hi : TIok T t i) {f o ft : Nat} (hf : nth i.flds f = some (o, ft)) : ∃ fs fd, T.und t = some (.struct fs) ∧ fs[f]? = some fd ∧ fd.offset = o ∧ fd.type = ft := by
  obtain ⟨d, b1, b2, b3, b4, b5, b6, b7, b8, b9⟩ := hi.und
  rcases b8 with b8 | ⟨fs, pl, c1, c2, c3⟩
  · rw [b8] at hf; simp [nth] at hf
  · subst c1
    rw [c2, nth_eq, List.getElem?_map] at hf
    cases hq : fs.toList[f]? with
    | none => rw [hq] at hf; cases hf
    | some fd =>
      rw [hq] at hf; cases hf
      exact ⟨fs, fd, b1, by simpa using hq, rfl, rfl⟩
theorem xfieldAddr_ok (hX : X.Good T) {t : TypeId} {f : Nat} {a : SV} {w : Value} (hv : VR T Φ G a w) {K : SV → Prop} (hx : xfieldAddr X t f a K) :
    ∃ v u, K v ∧ evFieldAddr T t f w = some u ∧ VR T Φ G v u := by
  unfold xfieldAddr at hx
  split at hx
  · rename_i i hi
    split at hx
    · rename_i o ft hf
      split at hx
      · rename_i fi hfi
        obtain ⟨fs, fd, c1, c2, rfl, rfl⟩ := flds_ok (hX _ _ hi) hf
        obtain ⟨inf, d1, d2, _⟩ := (hX _ _ hfi).info
        cases hz : Nat.beq fi.size 0 with
        | true => rw [hz] at hx; exact hx.elim
        | false =>
          rw [hz] at hx
          rw [← d2] at hz
          simp only [cond_false] at hx
          split at hx
          · cases hv with
            | loc g => exact ⟨_, _, hx, by simp [evFieldAddr, c1, c2, d1, hz], .loc g⟩
          · rename_i row
            cases hv with
            | fp b1 b2 =>
              rename_i b' o' _ _ _ _ _
              cases hle : Nat.ble fd.offset (len row) with
              | false => rw [hle] at hx; exact hx.elim
              | true =>
                rw [hle] at hx
                have hle := Nat.le_of_ble_eq_true hle
                rw [len_eq] at hle
                rw [drp_eq] at hx
                refine ⟨_, .pointer (some ⟨b', o' + fd.offset, none⟩), hx, by simp [evFieldAddr, c1, c2, d1, hz], .fp b1 ?_⟩
                have := b2.drop fd.offset
                rw [List.drop_take, List.drop_drop] at this
                simpa using this
          · cases hv with
            | ep g hmk e =>
              rename_i b' o0 ln cp s inf'
              refine ⟨_, .pointer (some ⟨b', _ + _ + fd.offset, none⟩), hx, by simp [evFieldAddr, c1, c2, d1, hz]; rfl, ?_⟩
              rw [Nat.add_assoc]; exact .ep g hmk e
          · exact hx.elim
      · exact hx.elim
    · exact hx.elim
  · exact hx.elim
theorem evPart_one {t : TypeId} {i : TI} (hi : TIok T t i) {c : List SV} {ws : List Value} (hc : LVR T Φ G c ws) {o : Nat} (ho : i.size ≤ (c.drop o).length) {K : SV → Prop} (hk : one i.agg ((c.drop o).take i.size) K) :
    ∃ v u, K v ∧ evPart T t ws o = some u ∧ VR T Φ G v u := by
  obtain ⟨inf, a1, a2, a3, a4⟩ := hi.info
  obtain ⟨d, b1, b2, _⟩ := hi.und
  have hl := hc.length
  unfold evPart
  simp only [a1, b1, b2, a2]
  have h2 := (hc.drop o).take i.size
  cases ha : i.agg with
  | true =>
    rw [ha] at hk
    exact ⟨_, _, hk, rfl, .ag h2⟩
  | false =>
    rw [ha] at hk
    have h1 := hi.sc ha
    rw [h1] at h2 hk ho
    have h3 := hc.drop o
    cases hq : c.drop o with
    | nil => rw [hq] at ho; simp at ho
    | cons x l =>
      rw [hq] at h2 hk h3
      cases hq' : ws.drop o with
      | nil => rw [hq'] at h3; cases h3
      | cons y l' =>
        rw [hq'] at h2
        cases h2 with
        | cons p q =>
          refine ⟨_, _, hk, ?_, p⟩
          simp only [cond_false]
          have : (ws.drop o)[0]? = some y := by rw [hq']; rfl
          simpa using this
theorem evPart_oneP {t : TypeId} {i : TI} (hi : TIok T t i) {c : List PV} {ws : List Value} (hc : LPRel T Φ c ws) {o : Nat} (ho : i.size ≤ (c.drop o).length) {K : SV → Prop} (hk : oneP i.agg ((c.drop o).take i.size) K) :
    ∃ v u, K v ∧ evPart T t ws o = some u ∧ VR T Φ G v u := by
  obtain ⟨inf, a1, a2, a3, a4⟩ := hi.info
  obtain ⟨d, b1, b2, _⟩ := hi.und
  unfold evPart
  simp only [a1, b1, b2, a2]
  have h2 := (hc.drop o).take i.size
  cases ha : i.agg with
  | true =>
    rw [ha] at hk
    exact ⟨_, _, hk, rfl, .agp h2⟩
  | false =>
    rw [ha] at hk
    have h1 := hi.sc ha
    rw [h1] at h2 hk ho
    have h3 := hc.drop o
    cases hq : c.drop o with
    | nil => rw [hq] at ho; simp at ho
    | cons x l =>
      rw [hq] at h2 hk h3
      cases hq' : ws.drop o with
      | nil => rw [hq'] at h3; cases h3
      | cons y l' =>
        rw [hq'] at h2
        cases h2 with
        | cons p q =>
          refine ⟨_, _, hk, ?_, .p p⟩
          simp only [cond_false]
          have : (ws.drop o)[0]? = some y := by rw [hq']; rfl
          simpa using this
theorem xfield_ok (hX : X.Good T) {t : TypeId} {f : Nat} {a : SV} {w : Value} (hv : VR T Φ G a w) {K : SV → Prop} (hx : xfield X t f a K) : ∃ v u, K v ∧ evField T t f w = some u ∧ VR T Φ G v u := by
  unfold xfield at hx
  split at hx
  · rename_i i hi
    split at hx
    · rename_i o ft hf
      split at hx
      · rename_i fi hfi
        obtain ⟨fs, fd, c1, c2, rfl, rfl⟩ := flds_ok (hX _ _ hi) hf
        split at hx
        · obtain ⟨a1, a2⟩ := tk_ok hx
          rw [drp_eq] at a1 a2
          cases hv with
          | agp b =>
            obtain ⟨v, u, q1, q2, q3⟩ := evPart_oneP (G := G) (hX _ _ hfi) b a1 a2
            exact ⟨v, u, q1, by simp [evField, structF, c1, c2, q2], q3⟩
        · obtain ⟨a1, a2⟩ := tk_ok hx
          rw [drp_eq] at a1 a2
          cases hv with
          | ag b =>
            obtain ⟨v, u, q1, q2, q3⟩ := evPart_one (hX _ _ hfi) b a1 a2
            exact ⟨v, u, q1, by simp [evField, structF, c1, c2, q2], q3⟩
        · exact hx.elim
      · exact hx.elim
    · exact hx.elim
  · exact hx.elim
end Go.Sx
end
section
namespace Go.Sx
open Go.Ev Go.RowKit
variable {X : Sc} {T : Tabs} {Φ : Fz} {G : List GB} {S : SS} {tm : Tr Value} {σ : St}
theorem ble_of {n m : Nat} (h : n ≤ m) : Nat.ble n m = true := Nat.ble_eq_true_of_le h
theorem blt_of {n m : Nat} (h : n < m) : Nat.blt n m = true := Nat.ble_eq_true_of_le h
theorem VR.int_inv {k : IntKind} {n : Int} {w : Value} (h : VR T Φ G (.p (.int k n)) w) : w = .int k n := by
  cases h with | p h => cases h; rfl
theorem VR.bool_inv {b : Bool} {w : Value} (h : VR T Φ G (.p (.bool b)) w) : w = .bool b := by
  cases h with | p h => cases h; rfl
theorem VR.str_inv {s : ByteArray} {w : Value} (h : VR T Φ G (.p (.str s)) w) : w = .string s := by
  cases h with | p h => cases h; rfl
theorem elemIs_ok (hX : X.Good T) {t e : TypeId} {x : Prop} (h : elemIs X t e x) : x ∧ sliceElem (T.und t) = some e ∧ ∃ inf, T.info e = some inf := by
  unfold elemIs at h
  split at h
  · rename_i i hi
    split at h
    · rename_i e' he
      split at h
      · rename_i hb
        have := Nat.eq_of_beq_eq_true hb
        subst this
        split at h
        · rename_i ei hei
          obtain ⟨d, b1, b2, b3, _⟩ := (hX _ _ hi).und
          obtain ⟨inf, c1, _⟩ := (hX _ _ hei).info
          exact ⟨h, by rw [b1, b3, he], inf, c1⟩
        · exact h.elim
      · exact h.elim
    · exact h.elim
  · exact h.elim
theorem isSl_ok (hX : X.Good T) {t : TypeId} {x : Prop} (h : isSl X t x) : x ∧ ∃ e, T.und t = some (.slice e) := by
  unfold isSl at h
  split at h
  · rename_i i hi
    split at h
    · rename_i e he
      obtain ⟨d, b1, b2, b3, _⟩ := (hX _ _ hi).und
      rw [he] at b3
      refine ⟨h, e, ?_⟩
      rw [b1]
      unfold sliceElem at b3
      split at b3
      · rename_i heq; cases heq; cases b3; rfl
      · cases b3
    · exact h.elim
  · exact h.elim
theorem stepTo_ok {i o n ln : Nat} {e : TypeId} {inf : TypeInfo} (h : T.info e = some inf) (hn : n < ln) : stepTo T i o n ln e = some (.pointer (some ⟨i, o + n * inf.size, none⟩)) := by
  unfold stepTo
  rw [show Nat.blt n ln = true from blt_of hn, h]
  rfl
theorem xindexAddr_ok (hX : X.Good T) (h : SR X T Φ G S tm σ) {t : TypeId} {a i : SV} {w y : Value} (hv : VR T Φ G a w) (hy : VR T Φ G i y) {K : SV → Prop} (hx : xindexAddr X S t a i K) :
    ∃ v u, K v ∧ evIndexAddr T t w y = some u ∧ VR T Φ G v u := by
  unfold xindexAddr at hx
  split at hx
  · rename_i k n
    have := hy.int_inv
    subst this
    split at hx
    · rename_i e rows
      obtain ⟨⟨m, row, rfl, hr, hk⟩, he, inf, hi⟩ := elemIs_ok hX hx
      have hlt : m < rows.length := (List.getElem?_eq_some_iff.1 hr).1
      cases hv with
      | p hp =>
        cases hp with
        | nil => simp at hlt
        | emp => simp at hlt
        | sl a b c d f g k =>
          rename_i b' o' n' c' s' cs' ro' p' k' inf'
          obtain rfl : inf' = inf := by rw [c] at hi; exact Option.some.inj hi
          subst g
          obtain ⟨q1, q2, q3, q4⟩ := RowsAt.row (T := T) ⟨inf', c, d, f⟩ c hr
          refine ⟨_, .pointer (some ⟨b', o' + m * inf'.size, none⟩), hk, ?_, .fp a (by rw [q1]; exact q2)⟩
          simp only [evIndexAddr, he]
          exact stepTo_ok c hlt
    · rename_i j
      cases hv with
      | os hg =>
        rename_i n' c' a'
        obtain ⟨e, rows, k1, k2⟩ := rows_ok h.ws h.mr hg hx
        obtain ⟨⟨m, rfl, hlt, hk⟩, he, inf, hi⟩ := elemIs_ok hX k1
        rcases k2 with ⟨k2, rfl⟩ | ⟨_, _, k2, rfl⟩ | ⟨i', o', s', c'', cs, ro, p, k', k2, k3, k4, k5, k6⟩
        · simp at hlt
        · simp at hlt
        · cases k2
          refine ⟨_, .pointer (some ⟨i', o' + m * inf.size + 0, none⟩), hk, ?_, .ep hg k3 hi⟩
          simp only [evIndexAddr, he]
          exact stepTo_ok hi hlt
    · rename_i e j o m
      obtain ⟨⟨n', rfl, hlt, hk⟩, he, inf, hi⟩ := elemIs_ok hX hx
      cases hv with
      | ss hg h1 h2 h3 =>
        rename_i c' i' o0 ln cp s' inf'
        obtain rfl : inf' = inf := by rw [h2] at hi; exact Option.some.inj hi
        refine ⟨_, .pointer (some ⟨i', o0 + (o + n') * inf'.size + 0, none⟩), hk, ?_, .ep hg h1 h2⟩
        simp only [evIndexAddr, he]
        rw [stepTo_ok h2 hlt, Nat.add_mul]
        simp [Nat.add_assoc]
    · rename_i row
      split at hx
      · rename_i ti hti
        split at hx
        · rename_i ln e har
          split at hx
          · rename_i ei hei
            obtain ⟨n', rfl, hlt, hle, hk⟩ := hx
            obtain ⟨d, b1, b2, b3, b4, _⟩ := (hX _ _ hti).und
            obtain ⟨inf, c1, c2, _⟩ := (hX _ _ hei).info
            cases hv with
            | fp a b =>
              rename_i b' o' _ _ _ _ _
              rw [drp_eq] at hk
              refine ⟨_, .pointer (some ⟨b', o' + n' * inf.size, none⟩), hk, ?_, .fp a ?_⟩
              · simp only [evIndexAddr, b1, b4, har]
                exact stepTo_ok c1 hlt
              · have := b.drop (n' * ei.size)
                rw [List.drop_take, List.drop_drop] at this
                rw [c2]
                simpa using this
          · exact hx.elim
        · exact hx.elim
      · exact hx.elim
    · exact hx.elim
  · exact hx.elim
theorem xindex_ok (hX : X.Good T) {t : TypeId} {a i : SV} {w y : Value} (hv : VR T Φ G a w) (hy : VR T Φ G i y) {K : SV → Prop} (hx : xindex X t a i K) :
    ∃ v u, K v ∧ evIndex T t w y = some u ∧ VR T Φ G v u := by
  unfold xindex at hx
  split at hx
  · rename_i k n
    have := hy.int_inv
    subst this
    split at hx
    · rename_i s
      have := hv.str_inv
      subst this
      split at hx
      · rename_i ti hti
        split at hx
        · rename_i hst
          obtain ⟨m, b, rfl, hb, hk⟩ := hx
          obtain ⟨d, b1, b2, b3, b4, b5, b6, _⟩ := (hX _ _ hti).und
          exact ⟨_, _, hk, by simp [evIndex, b1, b6, hst, hb], .p (.int _ _)⟩
        · exact hx.elim
      · exact hx.elim
    · rename_i c
      split at hx
      · rename_i ti hti
        split at hx
        · rename_i ln e har
          split at hx
          · rename_i ei hei
            obtain ⟨m, rfl, hlt, hk⟩ := hx
            obtain ⟨d, b1, b2, b3, b4, _⟩ := (hX _ _ hti).und
            obtain ⟨inf, c1, c2, _⟩ := (hX _ _ hei).info
            obtain ⟨a1, a2⟩ := tk_ok hk
            rw [drp_eq] at a1 a2
            cases hv with
            | agp b =>
              obtain ⟨v, u, q1, q2, q3⟩ := evPart_oneP (G := G) (hX _ _ hei) b a1 a2
              refine ⟨v, u, q1, ?_, q3⟩
              simp only [evIndex, b1, b4, har, c1]
              rw [show Nat.blt m ln = true from blt_of hlt, c2]
              exact q2
          · exact hx.elim
        · exact hx.elim
      · exact hx.elim
    · exact hx.elim
  · exact hx.elim
theorem bdN_ok {b : SV} {w : Value} (h : VR T Φ G b w) {K : Nat → Prop} (hk : bdN b K) : ∃ n : Nat, K n ∧ ∃ k, w = .int k n := by
  unfold bdN at hk
  split at hk
  · obtain ⟨n, rfl, hn⟩ := hk
    exact ⟨n, hn, _, h.int_inv⟩
  · exact hk.elim
theorem xbd_ok (h : SR X T Φ G S tm σ) {b : Option Operand} {d : Nat} {K : Nat → Prop} (hk : xbd X S b d K) : ∃ bv n, opdOpt T tm b = some bv ∧ K n ∧ ((b = none ∧ bdOf bv = some .no ∧ n = d) ∨ (b.isSome = true ∧ bdOf bv = some (.at_ n))) := by
  cases b with
  | none => exact ⟨none, d, rfl, hk, .inl ⟨rfl, rfl, rfl⟩⟩
  | some b =>
    simp only [xbd] at hk
    obtain ⟨v, w, h1, h2, h3⟩ := xo_ok h hk
    obtain ⟨n, h4, k, rfl⟩ := bdN_ok h3 h1
    exact ⟨some (.int k n), n, by simp [opdOpt, h2], h4, .inr ⟨rfl, rfl⟩⟩
theorem bd_or {b : Option Operand} {bv : Option Value} {n d : Nat} (h : (b = none ∧ bdOf bv = some .no ∧ n = d) ∨ (b.isSome = true ∧ bdOf bv = some (.at_ n))) : ∃ bd, bdOf bv = some bd ∧ bd.or d = n := by
  rcases h with ⟨_, h, rfl⟩ | ⟨_, h⟩
  · exact ⟨_, h, rfl⟩
  · exact ⟨_, h, rfl⟩
theorem LPRel.rowsPart {rows : List (List PV)} {cs : List Value} {o : Nat} {inf : TypeInfo} (hz : ∀ r ∈ rows, r.length = inf.size) (h : LPRel T Φ rows.flatten ((cs.drop o).take (rows.length * inf.size))) {l n : Nat} (hn : l + n ≤ rows.length) :
    (∀ r ∈ (rows.drop l).take n, r.length = inf.size) ∧ ((rows.drop l).take n).length = n ∧ LPRel T Φ ((rows.drop l).take n).flatten ((cs.drop (o + l * inf.size)).take (n * inf.size)) := by
  have hm : ∀ r ∈ (rows.drop l).take n, r ∈ rows := fun r hr => List.mem_of_mem_drop (List.mem_of_mem_take hr)
  refine ⟨fun r hr => hz r (hm r hr), by simp; omega, ?_⟩
  have key : ((rows.drop l).take n).flatten = (rows.flatten.drop (l * inf.size)).take (n * inf.size) := by
    clear h hm
    induction rows generalizing l n with
    | nil => simp
    | cons r rs ih =>
      have hr := hz r (List.mem_cons_self ..)
      have hz' : ∀ r ∈ rs, r.length = inf.size := fun r' h' => hz r' (List.mem_cons_of_mem _ h')
      cases l with
      | zero =>
        cases n with
        | zero => simp
        | succ n =>
          have := ih (l := 0) (n := n) hz' (by simp at hn ⊢; omega)
          simp only [List.drop_zero, Nat.zero_mul] at this ⊢
          have e1 : (n + 1) * inf.size - r.length = n * inf.size := by rw [hr, Nat.succ_mul]; omega
          have e2 : r.length ≤ (n + 1) * inf.size := by rw [hr, Nat.succ_mul]; omega
          rw [List.take_succ_cons, List.flatten_cons, List.flatten_cons, this, List.take_append, e1, List.take_of_length_le e2]
      | succ l =>
        have := ih (l := l) (n := n) hz' (by simp at hn ⊢; omega)
        have e1 : (l + 1) * inf.size - r.length = l * inf.size := by rw [hr, Nat.succ_mul]; omega
        have e2 : r.length ≤ (l + 1) * inf.size := by rw [hr, Nat.succ_mul]; omega
        rw [List.drop_succ_cons, List.flatten_cons, this, List.drop_append, e1, List.drop_of_length_le e2, List.nil_append]
  rw [key]
  have h1 := (h.drop (l * inf.size)).take (n * inf.size)
  rw [List.drop_take, List.take_take, List.drop_drop] at h1
  have : (l + n) * inf.size ≤ rows.length * inf.size := Nat.mul_le_mul_right _ hn
  rw [Nat.add_mul] at this
  rw [Nat.min_eq_left (by omega)] at h1
  exact h1
theorem evSlice_eq {t : TypeId} {x : Value} {lo hi mx : Option Value} {a b c : Bd} (h1 : bdOf lo = some a) (h2 : bdOf hi = some b) (h3 : bdOf mx = some c) : evSlice T σ t x lo hi mx = sliceVal T σ t x a b c := by
  unfold evSlice; rw [h1, h2, h3]
theorem xslice_ok (hX : X.Good T) (h : SR X T Φ G S tm σ) {t : TypeId} {a : SV} {w : Value} (hv : VR T Φ G a w) {lo hi mx : Option Operand} {K : SV → Prop} (hx : xslice X S t a lo hi mx K) :
    ∃ lov hiv mxv v u, opdOpt T tm lo = some lov ∧ opdOpt T tm hi = some hiv ∧ opdOpt T tm mx = some mxv ∧ K v ∧ evSlice T σ t w lov hiv mxv = some u ∧ VR T Φ G v u := by
  unfold xslice at hx
  split at hx
  · rename_i s
    have := hv.str_inv
    subst this
    split at hx
    · split at hx
      · rename_i ti hti
        split at hx
        · rename_i hst
          obtain ⟨d, b1, b2, b3, b4, b5, b6, _⟩ := (hX _ _ hti).und
          obtain ⟨lov, l, p1, hx, p2⟩ := xbd_ok h hx
          obtain ⟨hiv, hh, q1, hx, q2⟩ := xbd_ok h hx
          obtain ⟨hlh, hhs, hk⟩ := hx
          obtain ⟨lb, p3, p4⟩ := bd_or p2
          obtain ⟨hb, q3, q4⟩ := bd_or q2
          refine ⟨lov, hiv, none, _, _, p1, q1, rfl, hk, ?_, .p (.str _)⟩
          rw [evSlice_eq p3 q3 (c := _) rfl]; simp only [sliceVal, sliceStr, b1, b6, hst, p4, q4]
          rw [show Nat.ble hh s.size = true from ble_of hhs, show Nat.ble l hh = true from ble_of hlh]
          rfl
        · exact hx.elim
      · exact hx.elim
    · exact hx.elim
  · rename_i e rows
    obtain ⟨hx, he, inf, hi'⟩ := elemIs_ok hX hx
    obtain ⟨lov, l, p1, hx, p2⟩ := xbd_ok h hx
    obtain ⟨hiv, hh, q1, hx, q2⟩ := xbd_ok h hx
    obtain ⟨lb, p3, p4⟩ := bd_or p2
    obtain ⟨hb, q3, q4⟩ := bd_or q2
    split at hx
    · obtain ⟨hlh, hhs, hk⟩ := hx
      cases hv with
      | p hp =>
        cases hp with
        | nil =>
          refine ⟨lov, hiv, none, _, .slice none 0 0, p1, q1, rfl, hk, ?_, ?_⟩
          · simp at hhs; subst hhs
            have : l = 0 := by omega
            subst this
            simp only [List.length_nil] at q4
            rw [evSlice_eq p3 q3 (c := _) rfl]; simp only [sliceVal, sliceNil, elemInfo, he, hi', p4, q4]
            rfl
          · simp; exact .p (.nil e)
        | emp _ b o =>
          refine ⟨lov, hiv, none, _, .slice (some ⟨b, o, some 1⟩) 0 0, p1, q1, rfl, hk, ?_, ?_⟩
          · simp at hhs; subst hhs
            have : l = 0 := by omega
            subst this
            simp only [List.length_nil] at q4
            rw [evSlice_eq p3 q3 (c := _) rfl]; simp only [sliceVal, sliceE, elemInfo, he, hi', p4, q4]
            rfl
          · simp; exact .p (.emp e b o)
        | sl a b c d f g k =>
          rename_i b' o' n' c' s' cs' ro' p' k' inf'
          obtain rfl : inf' = inf := by rw [c] at hi'; exact Option.some.inj hi'
          subst g
          obtain ⟨r1, r2, r3⟩ := LPRel.rowsPart d f (l := l) (n := hh - l) (by omega)
          have hget := h.ws.phi _ _ a
          refine ⟨lov, hiv, none, _, slicePart b' o' inf'.size s' l hh c', p1, q1, rfl, hk, ?_, ?_⟩
          · rw [evSlice_eq p3 q3 (c := _) rfl]; simp only [sliceVal, b, cond_false, sliceRow, he, hget, cellElem, c, p4, q4, Nat.beq_refl]
            rw [show Nat.ble hh c' = true from ble_of (by omega), show Nat.ble l hh = true from ble_of hlh]
            rfl
          · unfold slicePart
            cases hc : Nat.blt l c' with
            | true =>
              have hlc : l < c' := Nat.le_of_ble_eq_true hc
              refine .p (.sl a b c r1 ?_ (by rw [r2]) (by omega))
              rw [r2]; exact r3
            | false =>
              have hlc : ¬ l < c' := fun hh => by rw [show Nat.blt l c' = true from ble_of hh] at hc; cases hc
              have h0 : hh - l = 0 := by omega
              have hnil : (rows.drop l).take (hh - l) = [] := by rw [h0]; rfl
              rw [hnil]
              cases s' with
              | none => exact .p (.sl a (by rfl) c (fun r hr => by cases hr) (by simp; exact .nil) rfl (Nat.le_refl _))
              | some s' => exact .p (.emp _ _ _)
    · rename_i m
      split at hx
      · obtain ⟨v, wm, hx, m2, m3⟩ := xo_ok h hx
        obtain ⟨mm, hx, k, rfl⟩ := bdN_ok m3 hx
        obtain ⟨hlh, hhm, hms, hm0, hk⟩ := hx
        cases hv with
        | p hp =>
          cases hp with
          | nil => simp at hms; omega
          | emp _ b o => simp at hms; omega
          | sl a b c d f g k =>
            rename_i hop b' o' n' c' s' cs' ro' p' k' inf'
            obtain rfl : inf' = inf := by rw [c] at hi'; exact Option.some.inj hi'
            subst g
            obtain ⟨r1, r2, r3⟩ := LPRel.rowsPart d f (l := l) (n := hh - l) (by omega)
            have hget := h.ws.phi _ _ a
            have hb' : hb = .at_ hh := by
              rcases q2 with ⟨q2, _⟩ | ⟨_, q2⟩
              · cases q2
              · rw [q3] at q2; cases q2; rfl
            subst hb'
            refine ⟨lov, hiv, some (.int _ mm), _, slicePart b' o' inf'.size none l hh mm, p1, q1, by simp [opdOpt, m2]; rfl, hk, ?_, ?_⟩
            · rw [evSlice_eq p3 q3 (c := _) rfl]; simp only [sliceVal, b, cond_false, sliceRow, he, hget, cellElem, c, p4, Nat.beq_refl]
              rw [show Nat.ble mm c' = true from ble_of (by omega), show Nat.ble hh mm = true from ble_of hhm, show Nat.ble l hh = true from ble_of hlh]
              rfl
            · unfold slicePart
              cases hc : Nat.blt l mm with
              | true =>
                refine .p (.sl a (by rfl) c r1 ?_ (by rw [r2]) (by omega))
                rw [r2]; exact r3
              | false =>
                have hlc : ¬ l < mm := fun hh => by rw [show Nat.blt l mm = true from ble_of hh] at hc; cases hc
                have h0 : hh - l = 0 := by omega
                have hnil : (rows.drop l).take (hh - l) = [] := by rw [h0]; rfl
                rw [hnil]
                exact .p (.sl a (by rfl) c (fun r hr => by cases hr) (by simp; exact .nil) rfl (Nat.le_refl _))
      · exact hx.elim
  · rename_i e
    obtain ⟨hx, he, inf, hi'⟩ := elemIs_ok hX hx
    split at hx
    · obtain ⟨lov, l, p1, hx, p2⟩ := xbd_ok h hx
      obtain ⟨hiv, hh, q1, hx, q2⟩ := xbd_ok h hx
      obtain ⟨lb, p3, p4⟩ := bd_or p2
      obtain ⟨hb, q3, q4⟩ := bd_or q2
      obtain ⟨rfl, rfl, hk⟩ := hx
      cases hv
      refine ⟨lov, hiv, none, _, .slice none 0 0, p1, q1, rfl, hk, ?_, .nl e⟩
      rw [evSlice_eq p3 q3 (c := _) rfl]; simp only [sliceVal, sliceNil, elemInfo, he, hi', p4, q4]
      rfl
    · exact hx.elim
  · rename_i j
    split at hx
    · cases hv with
      | os hg =>
        rename_i n' c' a'
        obtain ⟨e, rows, k1, k2⟩ := rows_ok h.ws h.mr hg hx
        obtain ⟨hx, he, inf, hi'⟩ := elemIs_ok hX k1
        obtain ⟨lov, l, p1, hx, p2⟩ := xbd_ok h hx
        obtain ⟨hiv, hh, q1, hx, q2⟩ := xbd_ok h hx
        obtain ⟨lb, p3, p4⟩ := bd_or p2
        obtain ⟨hb, q3, q4⟩ := bd_or q2
        obtain ⟨hlh, hhs, hk⟩ := hx
        rcases k2 with ⟨k2, rfl⟩ | ⟨_, _, k2, rfl⟩ | ⟨i', o', s', c'', cs, ro, p, k', k2, k3, k4, k5, k6⟩
        · simp at hhs; omega
        · simp at hhs; omega
        · cases k2
          refine ⟨lov, hiv, none, _, .slice (some ⟨i', o' + l * inf.size, s'⟩) (hh - l) (c' - l), p1, q1, rfl, hk, ?_, .ss hg k3 hi' (by omega)⟩
          rw [evSlice_eq p3 q3 (c := _) rfl]; simp only [sliceVal, k3, cond_false, sliceRow, he, k5, cellElem, hi', p4, q4, Nat.beq_refl]
          rw [show Nat.ble hh c' = true from ble_of (by omega), show Nat.ble l hh = true from ble_of (by omega)]
          unfold slicePart
          rw [show Nat.blt l c' = true from ble_of (by omega)]
          rfl
    · exact hx.elim
  · exact hx.elim
theorem xlen_ok (hX : X.Good T) (h : SR X T Φ G S tm σ) {t : TypeId} {a : SV} {w : Value} (hv : VR T Φ G a w) {K : SV → Prop} (hx : xlen X S t a K) : ∃ v u, K v ∧ evLen T t w = some u ∧ VR T Φ G v u := by
  unfold xlen at hx
  split at hx
  · have := hv.str_inv
    subst this
    split at hx
    · rename_i ti hti
      split at hx
      · rename_i hst
        obtain ⟨d, b1, b2, b3, b4, b5, b6, _⟩ := (hX _ _ hti).und
        exact ⟨_, _, hx, by simp [evLen, b1, b6, hst], .p (.int _ _)⟩
      · exact hx.elim
    · exact hx.elim
  · obtain ⟨hk, e, he⟩ := isSl_ok hX hx
    cases hv with
    | p hp =>
      cases hp with
      | nil => exact ⟨_, _, hk, by simp [evLen, he, sliceElem], .p (.int _ _)⟩
      | emp => exact ⟨_, _, hk, by simp [evLen, he, sliceElem], .p (.int _ _)⟩
      | sl a b c d f g k => subst g; exact ⟨_, _, hk, by simp [evLen, he, sliceElem], .p (.int _ _)⟩
  · obtain ⟨hk, e, he⟩ := isSl_ok hX hx
    cases hv
    exact ⟨_, _, hk, by simp [evLen, he, sliceElem], .p (.int _ _)⟩
  · obtain ⟨hx, e, he⟩ := isSl_ok hX hx
    cases hv with
    | os hg =>
      obtain ⟨e', rows, hk, k2⟩ := rows_ok h.ws h.mr hg hx
      rcases k2 with ⟨k2, rfl⟩ | ⟨_, _, k2, rfl⟩ | ⟨i', o', s', c'', cs, ro, p, k', k2, k3, k4, k5, k6⟩ <;> cases k2 <;>
        exact ⟨_, _, hk, by simp [evLen, he, sliceElem], .p (.int _ _)⟩
  · obtain ⟨hk, e, he⟩ := isSl_ok hX hx
    cases hv
    exact ⟨_, _, hk, by simp [evLen, he, sliceElem], .p (.int _ _)⟩
  · exact hx.elim
end Go.Sx
end
end

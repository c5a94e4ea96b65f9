/- Part of the proof that whatever the two series: JetSums answers true -/
import Derived.Test.YtcnmkdpnbaidgaaGreatDoorT2
set_option linter.all false
noncomputable section
section
namespace Go.Sx
open Go.Ev Go.RowKit
variable {X : Sc} {T : Tabs} {Φ : Fz} {G : List GB} {S : SS} {tm : Tr Value} {σ : St}
theorem ari_ok {k : IntKind} {n : Int} {K : SV → Prop} (h : ari k n K) : K (.p (.int k (k.wrap n))) := by
  cases k <;> (try exact h)
  obtain ⟨a, b, c⟩ := h
  rw [IntWalk.i64_in n ⟨a, b⟩]
  exact c
theorem onD_ok {P : Prop} {K : Bool → Prop} (h : onD P K) [Decidable P] : K (decide P) := by
  by_cases hp : P
  · rw [decide_eq_true hp]; exact h.1 hp
  · rw [decide_eq_false hp]; exact h.2 hp
theorem onB_ok {b : Bool} {K : Bool → Prop} (h : onB b K) : K b := by cases b <;> exact h
theorem xint_ok {op : BinOp} {k : IntKind} {a b : Int} {K : SV → Prop} (h : xint op k a b K) : ∃ v u, K v ∧ intBin op k a b = some u ∧ VR T Φ G v u := by
  cases op <;> simp only [xint] at h <;> (try exact h.elim)
  · exact ⟨_, _, ari_ok h, rfl, .p (.int _ _)⟩
  · exact ⟨_, _, ari_ok h, rfl, .p (.int _ _)⟩
  · exact ⟨_, _, ari_ok h, rfl, .p (.int _ _)⟩
  · refine ⟨_, _, ari_ok h.2, ?_, .p (.int _ _)⟩
    unfold intBin
    simp only
    split
    · exact absurd rfl h.1
    · rfl
  · refine ⟨_, _, h.2, ?_, .p (.int _ _)⟩
    unfold intBin
    simp only
    split
    · exact absurd rfl h.1
    · rfl
  · exact ⟨_, _, h, rfl, .p (.int _ _)⟩
  · exact ⟨_, _, h, rfl, .p (.int _ _)⟩
  · exact ⟨_, _, h, rfl, .p (.int _ _)⟩
  · exact ⟨_, _, h, rfl, .p (.int _ _)⟩
  · refine ⟨_, _, onD_ok h, ?_, .p (.bool _)⟩
    simp only [intBin]; rfl
  · refine ⟨_, _, onD_ok h, ?_, .p (.bool _)⟩
    simp only [intBin]; rfl
  · exact ⟨_, _, onD_ok h, rfl, .p (.bool _)⟩
  · exact ⟨_, _, onD_ok h, rfl, .p (.bool _)⟩
  · exact ⟨_, _, onD_ok h, rfl, .p (.bool _)⟩
  · exact ⟨_, _, onD_ok h, rfl, .p (.bool _)⟩
theorem ikEq_ok {k l : IntKind} {x : Prop} (h : ikEq k l x) : ∃ e : k = l, decEq k l = .isTrue e ∧ x := by
  unfold ikEq at h
  split at h
  · rename_i e he; exact ⟨e, he, h⟩
  · exact h.elim
theorem xbin_ok (hX : X.Good T) (h : SR X T Φ G S tm σ) {t : TypeId} {op : BinOp} {lit : Bool} {x y : SV} {a b : Value} (ha : VR T Φ G x a) (hb : VR T Φ G y b) {K : SV → Prop} (hx : xbin X S t op x y K) :
    ∃ v u, K v ∧ evBin T op t lit a b = some u ∧ VR T Φ G v u := by
  unfold xbin at hx
  split at hx
  · rename_i k a' k' b'
    rw [ha.int_inv, hb.int_inv]
    split at hx
    · obtain ⟨n, rfl, hk⟩ := hx
      exact ⟨_, _, hk, rfl, .p (.int _ _)⟩
    · obtain ⟨n, rfl, hk⟩ := hx
      exact ⟨_, _, hk, rfl, .p (.int _ _)⟩
    · rename_i hn1 hn2
      obtain ⟨rfl, he, hk⟩ := ikEq_ok hx
      obtain ⟨v, u, q1, q2, q3⟩ := xint_ok (T := T) (Φ := Φ) (G := G) hk
      refine ⟨v, u, q1, ?_, q3⟩
      unfold evBin
      split
      · rename_i k1 a1 k2 b1 h1 h2
        cases h1; cases h2
        split
        · exact absurd rfl hn1
        · exact absurd rfl hn2
        · rw [he]; exact q2
      · rename_i h1 _; cases h1
      · rename_i hq _; exact (hq _ _ _ _ rfl rfl).elim
  · rename_i a' b'
    rw [ha.bool_inv, hb.bool_inv]
    split at hx
    · rename_i i hi
      split at hx
      · rename_i hbl
        obtain ⟨d, b1, b2, b3, b4, b5, b6, b7, _⟩ := (hX _ _ hi).und
        have := b7 hbl
        subst this
        split at hx
        · exact ⟨_, _, onB_ok hx, by simp [evBin, eqOp, eqBin, b1], .p (.bool _)⟩
        · exact ⟨_, _, onB_ok hx, by simp [evBin, eqOp, eqBin, b1], .p (.bool _)⟩
        · exact hx.elim
      · exact hx.elim
    · exact hx.elim
  · rename_i a' b' c' d'
    split at hx
    · rename_i i hi
      split at hx
      · rename_i hib
        have hT := (hX _ _ hi).ib hib
        cases ha with
        | agp p => cases p with
          | cons p1 q1 => cases p1; cases q1 with
            | cons p2 q2 => cases p2; cases q2; cases hb with
              | agp r => cases r with
                | cons r1 s1 => cases r1; cases s1 with
                  | cons r2 s2 =>
                    cases r2; cases s2
                    have e : ∀ (u v : Int), (u == v) = decide (u = v) := fun u v => by by_cases q : u = v <;> simp [q]
                    split at hx
                    · exact ⟨_, _, onB_ok (onD_ok hx), by simp [evBin, eqOp, eqBin, hT, e], .p (.bool _)⟩
                    · exact ⟨_, _, onB_ok (onD_ok hx), by simp [evBin, eqOp, eqBin, hT, e], .p (.bool _)⟩
                    · exact hx.elim
      · exact hx.elim
    · exact hx.elim
  · rename_i a' b'
    rw [ha.str_inv, hb.str_inv]
    split at hx
    · exact ⟨_, _, onB_ok hx, rfl, .p (.bool _)⟩
    · exact ⟨_, _, onB_ok hx, rfl, .p (.bool _)⟩
    · obtain ⟨q1, q2⟩ := hx
      exact ⟨_, _, q2, by simp only [evBin, strBin]; rw [ble_of q1]; rfl, .p (.str _)⟩
    · exact hx.elim
  · obtain ⟨hx, e, he⟩ := isSl_ok hX hx
    cases ha
    cases hb
    split at hx
    · exact ⟨_, _, hx, by simp [evBin, eqOp, eqBin, he], .p (.bool _)⟩
    · exact ⟨_, _, hx, by simp [evBin, eqOp, eqBin, he], .p (.bool _)⟩
    · exact hx.elim
  · obtain ⟨hx, e, he⟩ := isSl_ok hX hx
    cases hb
    cases ha with
    | p hp =>
      split at hx
      · cases hp with
        | nil => exact ⟨_, _, hx.1 rfl, by simp [evBin, eqOp, eqBin, he], .p (.bool _)⟩
        | emp => exact ⟨_, _, hx.2, by simp [evBin, eqOp, eqBin, he], .p (.bool _)⟩
        | sl => exact ⟨_, _, hx.2, by simp [evBin, eqOp, eqBin, he], .p (.bool _)⟩
      · cases hp with
        | nil => exact ⟨_, _, hx.1 rfl, by simp [evBin, eqOp, eqBin, he], .p (.bool _)⟩
        | emp => exact ⟨_, _, hx.2, by simp [evBin, eqOp, eqBin, he], .p (.bool _)⟩
        | sl => exact ⟨_, _, hx.2, by simp [evBin, eqOp, eqBin, he], .p (.bool _)⟩
      · exact hx.elim
  · obtain ⟨hx, e, he⟩ := isSl_ok hX hx
    cases hb
    cases ha with
    | os hg =>
      split at hx
      · obtain ⟨e', rows, hk, k2⟩ := rows_ok h.ws h.mr hg hx
        rcases k2 with ⟨k2, rfl⟩ | ⟨_, _, k2, rfl⟩ | ⟨i', o', s', c'', cs, ro, p, k', k2, k3, k4, k5, k6⟩ <;> cases k2
        · exact ⟨_, _, hk.1 rfl, by simp [evBin, eqOp, eqBin, he], .p (.bool _)⟩
        · exact ⟨_, _, hk.2, by simp [evBin, eqOp, eqBin, he], .p (.bool _)⟩
        · exact ⟨_, _, hk.2, by simp [evBin, eqOp, eqBin, he], .p (.bool _)⟩
      · obtain ⟨e', rows, hk, k2⟩ := rows_ok h.ws h.mr hg hx
        rcases k2 with ⟨k2, rfl⟩ | ⟨_, _, k2, rfl⟩ | ⟨i', o', s', c'', cs, ro, p, k', k2, k3, k4, k5, k6⟩ <;> cases k2
        · exact ⟨_, _, hk.1 rfl, by simp [evBin, eqOp, eqBin, he], .p (.bool _)⟩
        · exact ⟨_, _, hk.2, by simp [evBin, eqOp, eqBin, he], .p (.bool _)⟩
        · exact ⟨_, _, hk.2, by simp [evBin, eqOp, eqBin, he], .p (.bool _)⟩
      · exact hx.elim
  · exact hx.elim
theorem xun_ok {op : UnOp} {x : SV} {a : Value} (ha : VR T Φ G x a) {K : SV → Prop} (hx : xun op x K) : ∃ v u, K v ∧ evUn op a = some u ∧ VR T Φ G v u := by
  unfold xun at hx
  split at hx
  · rw [ha.bool_inv]; exact ⟨_, _, hx, rfl, .p (.bool _)⟩
  · rw [ha.int_inv]; exact ⟨_, _, ari_ok hx, rfl, .p (.int _ _)⟩
  · exact hx.elim
theorem xconv_ok (hX : X.Good T) {s d : TypeId} {x : SV} {a : Value} (ha : VR T Φ G x a) {K : SV → Prop} (hx : xconv X s d x K) : ∃ k n, a = .int k n ∧ ∃ v u, K v ∧ evConv T σ s d a = some u ∧ VR T Φ G v u := by
  unfold xconv at hx
  split at hx
  · rename_i k n
    refine ⟨k, n, ha.int_inv, ?_⟩
    split at hx
    · rename_i di hdi
      split at hx
      · rename_i k' si hk hsi
        obtain ⟨dd, b1, b2, b3, b4, b5, _⟩ := (hX _ _ hdi).und
        obtain ⟨ds, c1, _⟩ := (hX _ _ hsi).und
        rw [ha.int_inv]
        exact ⟨_, _, hx, by simp [evConv, b1, b5, c1, hk], .p (.int _ _)⟩
      · exact hx.elim
    · exact hx.elim
  · exact hx.elim
theorem mxs_ok {mx : Bool} {k : IntKind} {K : SV → Prop} : ∀ {l : List SV} {ws : List Value} {a : Int}, LVR T Φ G l ws → mxs mx k K a l → ∃ v u, K v ∧ minAcc mx k a ws = some u ∧ VR T Φ G v u
  | [], _, a, h, hx => by cases h; exact ⟨_, _, hx, rfl, .p (.int _ _)⟩
  | x :: r, _, a, h, hx => by
    cases h with
    | cons p q =>
      unfold mxs at hx
      split at hx
      · rename_i h; cases h
      · rename_i h; cases h
        rw [p.int_inv]
        obtain ⟨v, u, a, b, c⟩ := mxs_ok q hx
        exact ⟨v, u, a, b, c⟩
      · exact hx.elim
theorem xmin_ok {mx : Bool} {l : List SV} {ws : List Value} (h : LVR T Φ G l ws) {K : SV → Prop} (hx : xmin mx l K) : ∃ v u, K v ∧ evMin mx ws = some u ∧ VR T Φ G v u := by
  unfold xmin at hx
  split at hx
  · cases h with
    | cons p q => rw [p.int_inv]; exact mxs_ok q hx
  · exact hx.elim
theorem cells_ok {v : SV} {w : Value} (h : VR T Φ G v w) : LVR T Φ G (cells v) (cellsL w) := by
  cases h with
  | agp a => exact a.lift
  | ag a => exact a
  | p a => cases a <;> exact .cons (.p (by constructor <;> assumption)) .nil
  | tu a => exact .cons (.tu a) .nil
  | loc a => exact .cons (.loc a) .nil
  | nl e => exact .cons (.nl e) .nil
  | os a => exact .cons (.os a) .nil
  | ss a b c d => exact .cons (.ss a b c d) .nil
  | ep a b c => exact .cons (.ep a b c) .nil
  | fp a b => exact .cons (.fp a b) .nil
  | fn a => exact .cons (.fn a) .nil
  | un => exact .cons .un .nil
theorem LVR.put {c vs : List SV} {ws us : List Value} (h : LVR T Φ G c ws) (k : LVR T Φ G vs us) {o : Nat} (ho : o + vs.length ≤ c.length) : LVR T Φ G (putC c o vs) (setRange ws o us) := by
  rw [putC_eq _ _ _ ho]
  unfold setRange
  rw [← k.length]
  exact (h.take o).append (k.append (h.drop _))
theorem pureL_ok : ∀ {l : List SV} {c : List PV} {ws : List Value}, pureL l = some c → LVR T Φ G l ws → LPRel T Φ c ws
  | [], c, ws, h, k => by simp [pureL] at h; subst h; cases k; exact .nil
  | v :: r, c, ws, h, k => by
    unfold pureL at h
    split at h
    · rename_i he; cases he
    · rename_i he
      cases he
      split at h
      · rename_i l hl
        cases h
        cases k with
        | cons p q => cases p with | p p => exact .cons p (pureL_ok hl q)
      · cases h
    · rename_i he
      cases he
      split at h
      · rename_i l hl
        cases h
        cases k with
        | cons p q => cases p with | nl => exact .cons (.nil _) (pureL_ok hl q)
      · cases h
    · cases h
theorem mkAg_ok {c : List SV} {ws : List Value} (h : LVR T Φ G c ws) : VR T Φ G (mkAg c) (.agg ⟨ws⟩) := by
  unfold mkAg
  split
  · exact .ag h
  split
  · rename_i c' hc; exact .agp (pureL_ok hc h)
  · exact .ag h
theorem placesOf_get : ∀ {fs : List Field} {pl : List (Nat × Nat)} {f : Nat} {fd : Field} {inf : TypeInfo}, placesOf T fs = some pl → fs[f]? = some fd → T.info fd.type = some inf → pl[f]? = some (fd.offset, inf.size)
  | [], pl, f, fd, inf, h, hf, hi => by simp at hf
  | x :: r, pl, f, fd, inf, h, hf, hi => by
    unfold placesOf at h
    rw [List.mapM_cons] at h
    cases hx : T.info x.type with
    | none => rw [hx] at h; cases h
    | some ix =>
      rw [hx] at h
      cases hr : (r.mapM fun f => (T.info f.type).map fun i => (f.offset, i.size)) with
      | none => rw [hr] at h; cases h
      | some q =>
        rw [hr] at h
        cases h
        cases f with
        | zero => simp at hf; subst hf; rw [hx] at hi; cases hi; rfl
        | succ f => exact placesOf_get (fs := r) (pl := q) hr (by simpa using hf) hi
theorem beq_of {n m : Nat} (h : Nat.beq n m = true) : n = m := Nat.eq_of_beq_eq_true h
theorem fillS_ok (hX : X.Good T) {i : TI} {fs : List Field} {pl : List (Nat × Nat)} (hfl : i.flds = fs.map (fun f => (f.offset, f.type))) (hpl : placesOf T fs = some pl) :
    ∀ {ps : List (Nat × Operand)} {c vs : List SV} {ws us : List Value} {K : List SV → Prop}, LVR T Φ G c ws → LVR T Φ G vs us → fillS X i c ps vs K →
      ∃ c' ws' q, K c' ∧ withPlaces pl ((ps.map (·.1)).zip us) = some q ∧ fillL ws q = some ws' ∧ LVR T Φ G c' ws'
  | [], c, vs, ws, us, K, hc, hv, hx => by
    cases hv with
    | nil => exact ⟨c, ws, [], hx, rfl, rfl, hc⟩
    | cons => exact hx.elim
  | (f, x) :: r, c, vs, ws, us, K, hc, hv, hx => by
    cases hv with
    | nil => exact hx.elim
    | cons p q =>
      rename_i v w l us'
      unfold fillS at hx
      split at hx
      · rename_i o ft hf
        split at hx
        · rename_i fi hfi
          obtain ⟨inf, d1, d2, _⟩ := (hX _ _ hfi).info
          rw [hfl, nth_eq, List.getElem?_map] at hf
          cases hq : fs[f]? with
          | none => rw [hq] at hf; cases hf
          | some fd =>
            rw [hq] at hf; cases hf
            have hpf := placesOf_get hpl hq d1
            cases hb1 : Nat.beq (len (cells v)) fi.size with
            | false => rw [hb1] at hx; exact hx.elim
            | true =>
              rw [hb1] at hx
              cases hb2 : Nat.ble (fd.offset + fi.size) (len c) with
              | false => rw [hb2] at hx; exact hx.elim
              | true =>
                rw [hb2] at hx
                have hb1 := beq_of hb1
                have hb2 := Nat.le_of_ble_eq_true hb2
                rw [len_eq] at hb1 hb2
                have hcv := cells_ok p
                have hput := hc.put hcv (o := fd.offset) (by omega)
                obtain ⟨c', ws', q', r1, r2, r3, r4⟩ := fillS_ok hX hfl hpl hput q hx
                refine ⟨c', ws', (fd.offset, inf.size, w) :: q', r1, ?_, ?_, r4⟩
                · simp only [List.map_cons, List.zip_cons_cons, withPlaces, hpf, r2]
                · unfold fillL
                  rw [show Nat.beq (cellsL w).length inf.size = true by rw [← hcv.length, hb1, d2]; exact Nat.beq_refl _, show Nat.ble (fd.offset + (cellsL w).length) ws.length = true from ble_of (by rw [← hcv.length, ← hc.length]; omega)]
                  exact r3
        · exact hx.elim
      · exact hx.elim
theorem opdParts_eq (ps : List (Nat × Operand)) {us : List Value} (h : opds T tm (ps.map (·.2)) = some us) : opdParts T tm ps = some ((ps.map (·.1)).zip us) := by
  induction ps generalizing us with
  | nil => simp [opds] at h; subst h; rfl
  | cons p r ih =>
    obtain ⟨f, x⟩ := p
    simp only [List.map_cons, opds] at h
    split at h
    · rename_i v l h1 h2
      cases h
      simp [opdParts, h1, ih h2]
    · cases h
theorem xbuild_ok (hX : X.Good T) (h : SR X T Φ G S tm σ) {t : TypeId} {parts : List (Nat × Operand)} {K : SV → Prop} (hx : xbuild X S t parts K) :
    ∃ ps v u, opdParts T tm parts = some ps ∧ K v ∧ evBuild T t ps = some u ∧ VR T Φ G v u := by
  unfold xbuild at hx
  split at hx
  · rename_i i hi
    split at hx
    · rename_i z ha har hz
      obtain ⟨vs, us, hx, h2, h3⟩ := xos_ok h hx
      obtain ⟨inf, a1, a2, a3, a4⟩ := (hX _ _ hi).info
      obtain ⟨zv, z1, z2⟩ := a4 z hz
      obtain ⟨d, b1, b2, b3, b4, b5, b6, b7, b8, b9⟩ := (hX _ _ hi).und
      obtain ⟨fs, pl, rfl, c2, c3⟩ := b9 ha har
      obtain ⟨c', ws', q, r1, r2, r3, r4⟩ := fillS_ok hX c2 c3 (z2 Φ G) h3 hx
      refine ⟨_, _, _, opdParts_eq _ h2, r1, ?_, mkAg_ok r4⟩
      simp only [evBuild, a1, z1, b1, c3, r2, r3]
    · exact hx.elim
  · exact hx.elim
theorem ifB_ok {b : Bool} {x y : Prop} (h : ifB b x y) : (b = true ∧ x) ∨ (b = false ∧ y) := by
  cases b with
  | true => exact .inl ⟨rfl, h⟩
  | false => exact .inr ⟨rfl, h⟩
theorem LVR.nth {l : List SV} {ws : List Value} (h : LVR T Φ G l ws) {i : Nat} {v : SV} (hv : Go.Sx.nth l i = some v) : ∃ w, ws[i]? = some w ∧ VR T Φ G v w := by
  induction l generalizing ws i with
  | nil => simp [Go.Sx.nth] at hv
  | cons x r ih =>
    cases h with
    | cons p q =>
      cases i with
      | zero => simp [Go.Sx.nth] at hv; subst hv; exact ⟨_, rfl, p⟩
      | succ i => simp [Go.Sx.nth] at hv; obtain ⟨w, a, b⟩ := ih q hv; exact ⟨w, by simpa using a, b⟩
theorem xL_ok (hX : X.Good T) {lies : Lies} (h : SR X T Φ G S tm σ) {τ : TypeId} {op : Op} {K : SV → Prop} (hx : xL X S τ op K) : ∃ v u, K v ∧ evL T lies tm σ op = some u ∧ VR T Φ G v u := by
  unfold xL at hx
  split at hx
  · obtain ⟨v, w, h1, h2, h3⟩ := xo_ok h hx; exact ⟨v, w, h1, h2, h3⟩
  · obtain ⟨v, w, h1, h2, h3⟩ := xo_ok h hx; exact ⟨v, w, h1, h2, h3⟩
  · obtain ⟨v, w, h1, h2, h3⟩ := xo_ok h hx
    split at h1
    · rw [h3.bool_inv] at h2
      simp only [evL, h2]
      rcases ifB_ok h1 with ⟨rfl, h1⟩ | ⟨rfl, h1⟩
      · obtain ⟨v, w, k1, k2, k3⟩ := xo_ok h h1; exact ⟨v, w, k1, k2, k3⟩
      · obtain ⟨v, w, k1, k2, k3⟩ := xo_ok h h1; exact ⟨v, w, k1, k2, k3⟩
    · exact h1.elim
  · obtain ⟨v, w, h1, h2, h3⟩ := xo_ok h hx
    split at h1
    · rename_i i hi
      obtain ⟨v', u, k1, k2, k3⟩ := xload_ok h (hX _ _ hi) h3 h1
      exact ⟨v', u, k1, by simp only [evL, h2]; exact k2, k3⟩
    · exact h1.elim
  · obtain ⟨v, w, h1, h2, h3⟩ := xo_ok h hx
    obtain ⟨v', w', k1, k2, k3⟩ := xo_ok h h1
    obtain ⟨v'', u, q1, q2, q3⟩ := xbin_ok hX h h3 k3 k1
    exact ⟨v'', u, q1, by simp only [evL, h2, k2]; exact q2, q3⟩
  · obtain ⟨v, w, h1, h2, h3⟩ := xo_ok h hx
    obtain ⟨v', u, k1, k2, k3⟩ := xun_ok h3 h1
    exact ⟨v', u, k1, by simp only [evL, h2]; exact k2, k3⟩
  · obtain ⟨v, w, h1, h2, h3⟩ := xo_ok h hx
    obtain ⟨k, n, rfl, v', u, k1, k2, k3⟩ := xconv_ok (σ := σ) hX h3 h1
    exact ⟨v', u, k1, by simp only [evL, h2]; exact k2, k3⟩
  · split at hx
    · rename_i f hf
      obtain ⟨vs, ws, h1, h2, h3⟩ := xos_ok h hx
      exact ⟨_, _, h1, by simp only [evL, hf, opds, h2], .fn h3⟩
    · exact hx.elim
  · obtain ⟨v, w, h1, h2, h3⟩ := xo_ok h hx
    obtain ⟨lov, hiv, mxv, v', u, k1, k2, k3, k4, k5, k6⟩ := xslice_ok hX h h3 h1
    exact ⟨v', u, k4, by simp only [evL, h2, k1, k2, k3]; exact k5, k6⟩
  · obtain ⟨v, w, h1, h2, h3⟩ := xo_ok h hx
    obtain ⟨v', u, k1, k2, k3⟩ := xfieldAddr_ok hX h3 h1
    exact ⟨v', u, k1, by simp only [evL, h2]; exact k2, k3⟩
  · obtain ⟨v, w, h1, h2, h3⟩ := xo_ok h hx
    obtain ⟨v', u, k1, k2, k3⟩ := xfield_ok hX h3 h1
    exact ⟨v', u, k1, by simp only [evL, h2]; exact k2, k3⟩
  · obtain ⟨v, w, h1, h2, h3⟩ := xo_ok h hx
    obtain ⟨v', w', k1, k2, k3⟩ := xo_ok h h1
    obtain ⟨v'', u, q1, q2, q3⟩ := xindexAddr_ok hX h h3 k3 k1
    exact ⟨v'', u, q1, by simp only [evL, h2, k2]; exact q2, q3⟩
  · obtain ⟨v, w, h1, h2, h3⟩ := xo_ok h hx
    obtain ⟨v', w', k1, k2, k3⟩ := xo_ok h h1
    obtain ⟨v'', u, q1, q2, q3⟩ := xindex_ok hX h3 k3 k1
    exact ⟨v'', u, q1, by simp only [evL, h2, k2]; exact q2, q3⟩
  · obtain ⟨v, w, h1, h2, h3⟩ := xo_ok h hx
    split at h1
    · split at h1
      · rename_i l v hn
        cases h3 with
        | tu h3 =>
          obtain ⟨w', k1, k2⟩ := h3.nth hn
          exact ⟨_, w', h1, by simp only [evL, h2, evExtract]; exact k1, k2⟩
      · exact h1.elim
    · exact h1.elim
  · obtain ⟨ps, v, u, k1, k2, k3, k4⟩ := xbuild_ok hX h hx
    exact ⟨v, u, k2, by simp only [evL, k1]; exact k3, k4⟩
  · rename_i c
    split at hx
    · rename_i hcal
      split at hx
      · rename_i t x ht hxs
        obtain ⟨v, w, h1, h2, h3⟩ := xo_ok h hx
        obtain ⟨v', u, k1, k2, k3⟩ := xlen_ok hX h h3 h1
        exact ⟨v', u, k1, by simp only [evL, evBuiltinL, hcal, ht, hxs, opds, h2]; exact k2, k3⟩
      · exact hx.elim
    · rename_i hcal
      obtain ⟨vs, ws, h1, h2, h3⟩ := xos_ok h hx
      obtain ⟨v', u, k1, k2, k3⟩ := xmin_ok h3 h1
      exact ⟨v', u, k1, by simp only [evL, evBuiltinL, hcal, h2]; exact k2, k3⟩
    · rename_i hcal
      obtain ⟨vs, ws, h1, h2, h3⟩ := xos_ok h hx
      obtain ⟨v', u, k1, k2, k3⟩ := xmin_ok h3 h1
      exact ⟨v', u, k1, by simp only [evL, evBuiltinL, hcal, h2]; exact k2, k3⟩
    · exact hx.elim
  · exact hx.elim
end Go.Sx
end
section
namespace Go.Sx
open Go.Ev Go.RowKit
variable {X : Sc} {T : Tabs} {Φ Ψ : Fz} {G H : List GB} {S : SS} {M : List Blk} {tm : Tr Value} {σ σ' : St} {m : Nat}
theorem RowsAt.mono (h : Φ.le Ψ) {e : TypeId} {rows : List (List PV)} {cs : List Value} {o : Nat} (r : RowsAt T Φ e rows cs o) : RowsAt T Ψ e rows cs o :=
  let ⟨inf, a, b, c⟩ := r; ⟨inf, a, b, c.mono h⟩
theorem BR.mono (h : Φ.le Ψ) (hg : Gle G H) {b : Blk} {g : GB} (hs : ∀ x, ownN b g = some x ∨ lentN b g = some x → σ'.get x = σ.get x) (r : BR T Φ G σ b g) : BR T Ψ H σ' b g := by
  cases b with
  | box c =>
    cases g with
    | nm b =>
      obtain ⟨e, ws, a, b'⟩ := r
      exact ⟨e, ws, by rw [hs b (.inl rfl)]; exact a, b'.mono h hg⟩
    | sl w => exact r
  | arr e rows =>
    cases g with
    | nm b => exact r
    | sl w =>
      rcases r with r | ⟨i, s, c, cs, p, rfl, a, b, c', d⟩
      · exact .inl r
      · exact .inr ⟨i, s, c, cs, p, rfl, a, b, by rw [hs i (.inl rfl)]; exact c', d.mono h⟩
  | fz e rows =>
    cases g with
    | nm b => exact r
    | sl w => exact PRel.mono h r
  | ro e rows =>
    cases g with
    | nm b => exact r
    | sl w =>
      rcases r with r | r | ⟨i, o, s, c, cs, ro, p, k, rfl, a, b, c', d⟩
      · exact .inl r
      · exact .inr (.inl r)
      · exact .inr (.inr ⟨i, o, s, c, cs, ro, p, k, rfl, a, b, by rw [hs i (.inr (by simp [lentN, a]))]; exact c', d.mono h⟩)
  | dd => trivial
theorem Par.congr (h : ∀ j x, Own M G j x → σ'.get x = σ.get x) {y : Nat} : Par M G σ' y ↔ Par M G σ y :=
  ⟨fun ⟨j, x, e, cs, ro, l, k, a, b⟩ => ⟨j, x, e, cs, ro, l, k, a, by rw [← h j x a]; exact b⟩, fun ⟨j, x, e, cs, ro, l, k, a, b⟩ => ⟨j, x, e, cs, ro, l, k, a, by rw [h j x a]; exact b⟩⟩
theorem MR.change (h : MR T Φ M G σ) (hn : σ.next ≤ σ'.next) (hs : ∀ y, ((∃ j, Own M G j y) ∨ Lent M G y) → σ'.get y = σ.get y) : MR T Φ M G σ' := by
  have ho : ∀ j x, Own M G j x → σ'.get x = σ.get x := fun j x hx => hs x (.inl ⟨j, hx⟩)
  refine ⟨h.len, fun j b hb => ?_, h.inj, fun j x hx => ⟨(h.own j x hx).1, Nat.lt_of_lt_of_le (h.own j x hx).2 hn⟩, fun x hx => ⟨(h.lent x hx).1, Nat.lt_of_lt_of_le (h.lent x hx).2 hn⟩, fun y hy => ?_⟩
  · obtain ⟨g, hg, r⟩ := h.blk j b hb
    refine ⟨g, hg, r.mono (Fz.le.refl Φ) (Gle.refl G) fun x hx => hs x ?_⟩
    rcases hx with hx | hx
    · exact .inl ⟨j, b, g, hb, hg, hx⟩
    · exact .inr ⟨j, b, g, hb, hg, hx⟩
  · obtain ⟨a, b, c, d⟩ := h.par y ((Par.congr ho).1 hy)
    exact ⟨a, b, c, Nat.lt_of_lt_of_le d hn⟩
theorem WS.change (h : WS X T Φ σ) (hd : ∀ i o, σ'.get i = some o → i < σ'.next) (hs : ∀ i o, Φ i = some o → σ'.get i = σ.get i) : WS X T Φ σ' :=
  ⟨fun i o e => by rw [hs i o e]; exact h.phi i o e, hd, h.glob⟩
theorem own_set {b : Blk} {j k x : Nat} (h : Own (setAt M j b) G k x) : (k ≠ j ∧ Own M G k x) ∨ (k = j ∧ ∃ g, nth G j = some g ∧ ownN b g = some x) := by
  obtain ⟨b', g, hb, hg, ho⟩ := h
  rw [nth_set] at hb
  split at hb
  · rename_i hk
    cases hb
    exact .inr ⟨hk.1, g, hk.1 ▸ hg, ho⟩
  · rename_i hk
    by_cases hkj : k = j
    · subst hkj
      have := nth_lt hb
      exact absurd ⟨rfl, this⟩ hk
    · exact .inl ⟨hkj, b', g, hb, hg, ho⟩
theorem lent_set {b : Blk} {j x : Nat} (hb' : ∀ g, lentN b g = none) (h : Lent (setAt M j b) G x) : Lent M G x := by
  obtain ⟨k, b', g, hb, hg, ho⟩ := h
  rw [nth_set] at hb
  split at hb
  · cases hb; rw [hb'] at ho; cases ho
  · exact ⟨k, b', g, hb, hg, ho⟩
theorem own_dd {j k x : Nat} (h : Own (setAt M j .dd) G k x) : k ≠ j ∧ Own M G k x := by
  rcases own_set h with h | ⟨_, g, _, h⟩
  · exact h
  · cases g <;> cases h
theorem par_dd {j y : Nat} (h : Par (setAt M j .dd) G σ y) : Par M G σ y :=
  let ⟨k, x, e, cs, ro, l, k', a, b⟩ := h; ⟨k, x, e, cs, ro, l, k', (own_dd a).2, b⟩
theorem MR.drop (h : MR T Φ M G σ) (j : Nat) : MR T Φ (setAt M j .dd) G σ := by
  have hl : ∀ x, Lent (setAt M j .dd) G x → Lent M G x := fun x hx => lent_set (fun g => by cases g <;> rfl) hx
  refine ⟨by rw [setAt_eq]; simpa using h.len, fun k b hb => ?_, fun k k' x a b => h.inj _ _ x (own_dd a).2 (own_dd b).2, fun k x a => h.own k x (own_dd a).2, fun x hx => ?_, fun y hy => ?_⟩
  · rw [nth_set] at hb
    split at hb
    · rename_i hk
      cases hb
      have hlt := hk.2
      rw [h.len] at hlt
      exact ⟨G[j], by rw [hk.1, nth_eq]; simp [hlt], by cases hq : G[j] <;> trivial⟩
    · exact h.blk k b hb
  · exact ⟨fun k a => (h.lent x (hl x hx)).1 k (own_dd a).2, (h.lent x (hl x hx)).2⟩
  · obtain ⟨a, b, c, d⟩ := h.par y (par_dd hy)
    exact ⟨a, fun k q => b k (own_dd q).2, fun q => c (hl y q), d⟩
theorem own_put {b : Blk} {g : GB} {j k x : Nat} (hg : nth G j = some g) (h : Own (setAt M j b) G k x) : (k ≠ j ∧ Own M G k x) ∨ (k = j ∧ ownN b g = some x) := by
  rcases own_set h with h | ⟨h, g', h1, h2⟩
  · exact .inl h
  · rw [hg] at h1; cases h1; exact .inr ⟨h, h2⟩
theorem MR.take (h : MR T Φ M G σ) {j : Nat} (hj : nth M j = some .dd) {b : Blk} {g : GB} (hg : nth G j = some g) (hb : BR T Φ G σ b g) (hl : ∀ g, lentN b g = none)
    (hx : ∀ x, ownN b g = some x → Φ x = none ∧ x < σ.next ∧ (∀ k, ¬ Own M G k x) ∧ ¬ Lent M G x ∧ ¬ Par M G σ x ∧
      ∀ e cs ro l y k, σ.get x = some (.cells e cs ro l (some y) k) → Φ y = none ∧ (∀ k, ¬ Own M G k y) ∧ ¬ Lent M G y ∧ y ≠ x ∧ y < σ.next) : MR T Φ (setAt M j b) G σ := by
  have hlent : ∀ x, Lent (setAt M j b) G x → Lent M G x := fun x hx => lent_set hl hx
  refine ⟨by rw [setAt_eq]; simpa using h.len, fun k b' hb' => ?_, fun k k' x a b' => ?_, fun k x a => ?_, fun x hx' => ?_, fun y hy => ?_⟩
  · rw [nth_set] at hb'
    split at hb'
    · rename_i hk; cases hb'; exact ⟨g, hk.1 ▸ hg, hb⟩
    · exact h.blk k b' hb'
  · rcases own_put hg a with ⟨_, a1⟩ | ⟨e1, a1⟩
    · rcases own_put hg b' with ⟨_, b1⟩ | ⟨_, b1⟩
      · exact h.inj _ _ x a1 b1
      · exact absurd a1 ((hx x b1).2.2.1 k)
    · rcases own_put hg b' with ⟨_, b1⟩ | ⟨e2, b1⟩
      · exact absurd b1 ((hx x a1).2.2.1 k')
      · rw [e1, e2]
  · rcases own_put hg a with ⟨_, a1⟩ | ⟨_, a1⟩
    · exact h.own k x a1
    · exact ⟨(hx x a1).1, (hx x a1).2.1⟩
  · refine ⟨fun k a => ?_, (h.lent x (hlent x hx')).2⟩
    rcases own_put hg a with ⟨_, a1⟩ | ⟨_, a1⟩
    · exact (h.lent x (hlent x hx')).1 k a1
    · exact (hx x a1).2.2.2.1 (hlent x hx')
  · obtain ⟨k, x, e, cs, ro, l, k', a, q⟩ := hy
    have base : Φ y = none ∧ (∀ k, ¬ Own M G k y) ∧ ¬ Lent M G y ∧ (∀ x, ownN b g = some x → y ≠ x) ∧ y < σ.next := by
      rcases own_put hg a with ⟨_, a1⟩ | ⟨_, a1⟩
      · obtain ⟨r1, r2, r3, r4⟩ := h.par y ⟨k, x, e, cs, ro, l, k', a1, q⟩
        refine ⟨r1, r2, r3, fun z hz he => ?_, r4⟩
        subst he
        exact (hx y hz).2.2.2.2.1 ⟨k, x, e, cs, ro, l, k', a1, q⟩
      · obtain ⟨r1, r2, r3, r4, r5⟩ := (hx x a1).2.2.2.2.2 e cs ro l y k' q
        refine ⟨r1, r2, r3, fun z hz he => ?_, r5⟩
        rw [a1] at hz; cases hz
        exact r4 he
    refine ⟨base.1, fun k a => ?_, fun q => base.2.2.1 (hlent y q), base.2.2.2.2⟩
    rcases own_put hg a with ⟨_, a1⟩ | ⟨_, a1⟩
    · exact base.2.1 k a1
    · exact base.2.2.2.1 y a1 rfl
theorem own_snoc_dd {g : GB} (hl : M.length = G.length) {k x : Nat} (h : Own (snoc M .dd) (snoc G g) k x) : Own M G k x := by
  obtain ⟨b, g', hb, hg, ho⟩ := h
  rw [nth_snoc] at hb hg
  split at hb
  · cases hb; cases g' <;> cases ho
  · rename_i hk
    rw [if_neg (by omega)] at hg
    exact ⟨b, g', hb, hg, ho⟩
theorem own_snoc_mono {g : GB} {b0 : Blk} {k x : Nat} (h : Own M G k x) : Own (snoc M b0) (snoc G g) k x := by
  obtain ⟨b, g', hb, hg, ho⟩ := h
  refine ⟨b, g', ?_, ?_, ho⟩
  · rw [nth_snoc, if_neg (by have := nth_lt hb; omega)]; exact hb
  · rw [nth_snoc, if_neg (by have := nth_lt hg; omega)]; exact hg
theorem lent_snoc_dd {g : GB} (hl : M.length = G.length) {x : Nat} (h : Lent (snoc M .dd) (snoc G g) x) : Lent M G x := by
  obtain ⟨k, b, g', hb, hg, ho⟩ := h
  rw [nth_snoc] at hb hg
  split at hb
  · cases hb; cases g' <;> cases ho
  · rename_i hk
    rw [if_neg (by omega)] at hg
    exact ⟨k, b, g', hb, hg, ho⟩
theorem MR.more (h : MR T Φ M G σ) (g : GB) : MR T Φ (snoc M .dd) (snoc G g) σ := by
  refine ⟨by rw [snoc_eq, snoc_eq]; simp [h.len], fun k b hb => ?_, fun k k' x a b => h.inj _ _ x (own_snoc_dd h.len a) (own_snoc_dd h.len b), fun k x a => h.own k x (own_snoc_dd h.len a), fun x hx => ?_, fun y hy => ?_⟩
  · rw [nth_snoc] at hb
    split at hb
    · rename_i hk
      cases hb
      exact ⟨g, by rw [nth_snoc, if_pos (by rw [hk, h.len])], by cases g <;> trivial⟩
    · obtain ⟨g', a, r⟩ := h.blk k b hb
      exact ⟨g', Gle.snoc G g _ _ a, r.mono (Fz.le.refl Φ) (Gle.snoc G g) fun _ _ => rfl⟩
  · have := h.lent x (lent_snoc_dd h.len hx)
    exact ⟨fun k a => this.1 k (own_snoc_dd h.len a), this.2⟩
  · obtain ⟨k, x, e, cs, ro, l, k', a, q⟩ := hy
    obtain ⟨r1, r2, r3, r4⟩ := h.par y ⟨k, x, e, cs, ro, l, k', own_snoc_dd h.len a, q⟩
    exact ⟨r1, fun k a => r2 k (own_snoc_dd h.len a), fun q => r3 (lent_snoc_dd h.len q), r4⟩
theorem setAt_snoc {α : Type} (l : List α) (x y : α) : setAt (snoc l x) (len l) y = snoc l y := by
  rw [setAt_eq, snoc_eq, snoc_eq, len_eq]; simp
theorem MR.add (h : MR T Φ M G σ) {b : Blk} {g : GB} (hb : BR T Φ (snoc G g) σ b g) (hl : ∀ g, lentN b g = none)
    (hx : ∀ x, ownN b g = some x → Φ x = none ∧ x < σ.next ∧ (∀ k, ¬ Own M G k x) ∧ ¬ Lent M G x ∧ ¬ Par M G σ x ∧
      ∀ e cs ro l y k, σ.get x = some (.cells e cs ro l (some y) k) → Φ y = none ∧ (∀ k, ¬ Own M G k y) ∧ ¬ Lent M G y ∧ y ≠ x ∧ y < σ.next) : MR T Φ (snoc M b) (snoc G g) σ := by
  have h1 := h.more g
  have h2 := h1.take (j := Go.Sx.len M) (b := b) (g := g) (by rw [nth_snoc, if_pos (len_eq M)]) (by rw [nth_snoc, if_pos (by rw [len_eq, h.len])]) hb hl fun x q => by
    obtain ⟨a1, a2, a3, a4, a5, a6⟩ := hx x q
    refine ⟨a1, a2, fun k a => a3 k (own_snoc_dd h.len a), fun a => a4 (lent_snoc_dd h.len a), fun ⟨k, x, e, cs, ro, l, k', a, q⟩ => a5 ⟨k, x, e, cs, ro, l, k', own_snoc_dd h.len a, q⟩, fun e cs ro l y k q => ?_⟩
    obtain ⟨b1, b2, b3, b4⟩ := a6 e cs ro l y k q
    exact ⟨b1, fun k a => b2 k (own_snoc_dd h.len a), fun a => b3 (lent_snoc_dd h.len a), b4⟩
  rw [setAt_snoc] at h2
  exact h2
theorem own_snoc {b : Blk} {g : GB} (hl : M.length = G.length) {k x : Nat} (h : Own (snoc M b) (snoc G g) k x) : Own M G k x ∨ (k = M.length ∧ ownN b g = some x) := by
  obtain ⟨b', g', hb, hg, ho⟩ := h
  rw [nth_snoc] at hb hg
  split at hb
  · rename_i hk
    rw [if_pos (by omega)] at hg
    cases hb; cases hg
    exact .inr ⟨hk, ho⟩
  · rename_i hk
    rw [if_neg (by omega)] at hg
    exact .inl ⟨b', g', hb, hg, ho⟩
theorem lent_snoc {b : Blk} {g : GB} (hl : M.length = G.length) (hb' : ∀ g, lentN b g = none) {x : Nat} (h : Lent (snoc M b) (snoc G g) x) : Lent M G x := by
  obtain ⟨k, b', g', hb, hg, ho⟩ := h
  rw [nth_snoc] at hb hg
  split at hb
  · cases hb; rw [hb'] at ho; cases ho
  · rename_i hk
    rw [if_neg (by omega)] at hg
    exact ⟨k, b', g', hb, hg, ho⟩
theorem SR.tmono (h : SR X T Φ G S tm σ) (hf : Φ.le Ψ) (hg : Gle G H) : ∀ t v, look S.t t = some v → ∃ w, tm.get t = some w ∧ VR T Ψ H v w :=
  fun t v hv => let ⟨w, a, b⟩ := h.tmp t v hv; ⟨w, a, b.mono hf hg⟩
theorem WS.off (h : WS X T Φ σ) {i : Nat} (hi : σ.next ≤ i) : σ.get i = none ∧ Φ i = none := by
  have h1 : σ.get i = none := by
    cases hq : σ.get i with
    | none => rfl
    | some o => have := h.dom i o hq; omega
  refine ⟨h1, ?_⟩
  cases hq : Φ i with
  | none => rfl
  | some o => have := h.phi i o hq; rw [h1] at this; cases this
theorem gh_snoc (g : GB) (hm : m ≤ G.length) : ∀ j, j < m → nth (snoc G g) j = nth G j := fun j hj => by rw [nth_snoc, if_neg (by omega)]
theorem SR.push0 (h : SR X T Φ G S tm σ) {ob : AObj} {b : Blk} {g : GB} (ho : ∀ x, ownN b g = some x → x = σ.next) (hl : ∀ g, lentN b g = none)
    (hb : BR T Φ (snoc G g) (σ.push ob) b g) (hp : ∀ e cs ro l y k, ob = .cells e cs ro l (some y) k → Φ y = none ∧ (∀ j, ¬ Own S.M G j y) ∧ ¬ Lent S.M G y ∧ y < σ.next) :
    SR X T Φ (snoc G g) (S.addB b) tm (σ.push ob) ∧ (∀ y, Par (S.addB b).M (snoc G g) (σ.push ob) y → Par S.M G σ y ∨ ∃ e cs ro l k, ob = .cells e cs ro l (some y) k) := by
  obtain ⟨t, M⟩ := S
  have hold : ∀ y, y < σ.next → (σ.push ob).get y = σ.get y := fun y hy => by rw [St.get_push, if_neg (by omega)]
  have hown : ∀ j x, Own M G j x → (σ.push ob).get x = σ.get x := fun j x hx => hold x (h.mr.own j x hx).2
  have hm1 : MR T Φ M G (σ.push ob) := h.mr.change (Nat.le_succ _) fun y hy => hold y (by
    rcases hy with ⟨j, hy⟩ | hy
    · exact (h.mr.own j y hy).2
    · exact (h.mr.lent y hy).2)
  have hpo : ∀ y, Par M G (σ.push ob) y → Par M G σ y := fun y hy => (Par.congr hown).1 hy
  have hnew : ∀ e cs ro l y k, (σ.push ob).get σ.next = some (.cells e cs ro l (some y) k) → ob = .cells e cs ro l (some y) k := fun e cs ro l y k q => by
    rw [St.get_push, if_pos rfl] at q; cases q; rfl
  refine ⟨⟨h.tmono (Fz.le.refl Φ) (Gle.snoc G g), ?_, h.ws.change (fun i o e => ?_) fun i o e => hold i (h.ws.dom i o (h.ws.phi i o e))⟩, fun i hi => ?_⟩
  · refine MR.add (M := M) hm1 hb hl fun x hx => ?_
    have := ho x hx
    subst this
    refine ⟨(h.ws.off (Nat.le_refl _)).2, Nat.lt_succ_self _, fun k a => by have := (h.mr.own k _ a).2; omega, fun a => by have := (h.mr.lent _ a).2; omega,
      fun a => by have := (h.mr.par _ (hpo _ a)).2.2.2; omega, fun e cs ro l y k q => ?_⟩
    obtain ⟨a1, a2, a3, a4⟩ := hp e cs ro l y k (hnew e cs ro l y k q)
    exact ⟨a1, a2, a3, by omega, Nat.lt_succ_of_lt a4⟩
  · rw [St.get_push] at e
    split at e
    · rename_i hi; rw [hi]; exact Nat.lt_succ_self _
    · exact Nat.lt_succ_of_lt (h.ws.dom i o e)
  · obtain ⟨k, x, e, cs, ro, l, k', a, q⟩ := hi
    rcases own_snoc h.mr.len a with a | ⟨_, a⟩
    · exact .inl (hpo i ⟨k, x, e, cs, ro, l, k', a, q⟩)
    · rw [ho x a] at q; exact .inr ⟨e, cs, ro, l, k', hnew _ _ _ _ _ _ q⟩
theorem SR.push (h : SR X T Φ G S tm σ) {ob : AObj} {b : Blk} {g : GB} (ho : ∀ x, ownN b g = some x → x = σ.next) (hl : ∀ g, lentN b g = none)
    (hb : BR T Φ (snoc G g) (σ.push ob) b g) (hp : ∀ e cs ro l y k, ob ≠ .cells e cs ro l (some y) k) (hm : m ≤ S.M.length) :
    SR X T Φ (snoc G g) (S.addB b) tm (σ.push ob) ∧ Stp m Φ S.M G σ Φ (S.addB b).M (snoc G g) (σ.push ob) := by
  obtain ⟨h1, h2⟩ := h.push0 ho hl hb fun e cs ro l y k q => absurd q (hp e cs ro l y k)
  refine ⟨h1, ?_⟩
  have hold : ∀ y, y < σ.next → (σ.push ob).get y = σ.get y := fun y hy => by rw [St.get_push, if_neg (by omega)]
  obtain ⟨t, M⟩ := S
  refine ⟨Fz.le.refl Φ, gh_snoc g (by rw [← h.mr.len]; exact hm), Nat.le_succ _, fun i hi _ _ => hold i hi, fun i o a b => (by rw [b] at a; cases a), fun j i hj => ?_, fun i hi => ?_, fun i hi => lent_snoc h.mr.len hl hi, fun hm => by simp [SS.addB, snoc_eq]; exact Nat.le_succ_of_le hm⟩
  · rcases own_snoc h.mr.len hj with hj | ⟨_, hj⟩
    · exact .inl ⟨j, hj⟩
    · exact .inr (by rw [ho i hj]; exact Nat.le_refl _)
  · rcases h2 i hi with a | ⟨e, cs, ro, l, k, a⟩
    · exact .inl a
    · exact absurd a (hp _ _ _ _ _ _)
theorem SR.freeze (h : SR X T Φ G S tm σ) {j : Nat} {e : TypeId} {rows : List (List PV)} {w : Value} (hj : nth S.M j = some (.arr e rows)) (hg : nth G j = some (.sl w)) :
    ∃ Ψ, SR X T Ψ G (S.setB j (.fz e rows)) tm σ ∧ PRel T Ψ (.sl e rows) w ∧ Stp m Φ S.M G σ Ψ (S.setB j (.fz e rows)).M G σ ∧ (∀ k x, Own (S.setB j (.fz e rows)).M G k x → Own S.M G k x) := by
  obtain ⟨t, M⟩ := S
  have hbr : ArrR T Φ σ e rows w := h.mr.at_ hj hg
  have hown : ∀ k x, Own (setAt M j (.fz e rows)) G k x → k ≠ j ∧ Own M G k x := fun k x hx => by
    rcases own_set hx with hx | ⟨_, g, _, hx⟩
    · exact hx
    · cases g <;> cases hx
  have hlent : ∀ x, Lent (setAt M j (.fz e rows)) G x → Lent M G x := fun x hx => lent_set (fun g => by cases g <;> rfl) hx
  have hpar : ∀ y, Par (setAt M j (.fz e rows)) G σ y → Par M G σ y := fun y ⟨k, x, e, cs, ro, l, k', a, q⟩ => ⟨k, x, e, cs, ro, l, k', (hown k x a).2, q⟩
  have fin : ∀ Ψ : Fz, Φ.le Ψ → (∀ i o, Ψ i = some o → Φ i = some o ∨ (Own M G j i ∧ σ.get i = some o)) → PRel T Ψ (.sl e rows) w →
      SR X T Ψ G ⟨t, setAt M j (.fz e rows)⟩ tm σ ∧ Stp m Φ M G σ Ψ (setAt M j (.fz e rows)) G σ := by
    intro Ψ hle hnew hp
    have hnone : ∀ i, Φ i = none → ¬ Own M G j i → Ψ i = none := fun i h1 h2 => by
      cases hq : Ψ i with
      | none => rfl
      | some o =>
        rcases hnew i o hq with a | ⟨a, _⟩
        · rw [h1] at a; cases a
        · exact absurd a h2
    refine ⟨⟨h.tmono hle (Gle.refl G), ?_, ⟨fun i o e => ?_, h.ws.dom, fun g row e => let ⟨a, b⟩ := h.ws.glob g row e; ⟨a, b.mono hle (Gle.refl _)⟩⟩⟩, ?_⟩
    · refine ⟨by rw [setAt_eq]; simpa using h.mr.len, fun k b hb => ?_, fun k k' x a b => h.mr.inj _ _ x (hown k x a).2 (hown k' x b).2, fun k x a => ?_, fun x hx => ?_, fun y hy => ?_⟩
      · rw [nth_set] at hb
        split at hb
        · rename_i hk; cases hb; exact ⟨.sl w, hk.1 ▸ hg, hp⟩
        · obtain ⟨g, a, r⟩ := h.mr.blk k b hb
          exact ⟨g, a, r.mono hle (Gle.refl G) fun _ _ => rfl⟩
      · obtain ⟨h1, h2⟩ := hown k x a
        exact ⟨hnone x (h.mr.own k x h2).1 fun q => h1 (h.mr.inj _ _ x h2 q), (h.mr.own k x h2).2⟩
      · exact ⟨fun k a => (h.mr.lent x (hlent x hx)).1 k (hown k x a).2, (h.mr.lent x (hlent x hx)).2⟩
      · obtain ⟨a, b, c, d⟩ := h.mr.par y (hpar y hy)
        exact ⟨hnone y a (b j), fun k q => b k (hown k y q).2, fun q => c (hlent y q), d⟩
    · rcases hnew i o e with a | ⟨_, a⟩
      · exact h.ws.phi i o a
      · exact a
    · refine ⟨hle, fun _ _ => rfl, Nat.le_refl _, fun _ _ _ _ => rfl, fun i o a b => ?_, fun k i hk => .inl ⟨k, (hown k i hk).2⟩, fun i hi => .inl (hpar i hi), hlent, fun hm => by simp [setAt_eq]; exact hm⟩
      rcases hnew i o a with c | ⟨c, _⟩
      · rw [b] at c; cases c
      · exact .inl ⟨j, c⟩
  rcases hbr with ⟨rfl, rfl⟩ | ⟨i, s, c, cs, p, rfl, h1, h2, h3, inf, h4, h5, h6⟩
  · obtain ⟨a, b⟩ := fin Φ (Fz.le.refl Φ) (fun i o a => .inl a) (.nil e)
    exact ⟨Φ, a, .nil e, b, fun k x hk => (hown k x hk).2⟩
  · have hoi : Own M G j i := ⟨_, _, hj, hg, rfl⟩
    have hni := (h.mr.own j i hoi).1
    have hle : Φ.le (fun x => if x = i then σ.get i else Φ x) := fun x o e => by
      show (if x = i then _ else _) = _
      by_cases hx : x = i
      · subst hx; rw [hni] at e; cases e
      · rw [if_neg hx]; exact e
    have hp : PRel T (fun x => if x = i then σ.get i else Φ x) (.sl e rows) (.slice (some ⟨i, 0, s⟩) rows.length c) :=
      .sl (by show (if i = i then _ else _) = _; rw [if_pos rfl]; exact h3) h1 h4 h5 (h6.mono hle) rfl h2
    obtain ⟨a, b⟩ := fin _ hle (fun x o e => by
      change (if x = i then _ else _) = _ at e
      by_cases hx : x = i
      · subst hx; rw [if_pos rfl] at e; exact .inr ⟨hoi, e⟩
      · rw [if_neg hx] at e; exact .inl e) hp
    exact ⟨_, a, hp, b, fun k x hk => (hown k x hk).2⟩
end Go.Sx
end
section
namespace Go.Sx
open Go.Ev Go.RowKit
variable {X : Sc} {T : Tabs} {Φ Ψ : Fz} {G H : List GB} {S : SS} {M : List Blk} {tm : Tr Value} {σ σ' : St} {m : Nat}
structure Fr (X : Sc) (T : Tabs) (m : Nat) (Φ : Fz) (G : List GB) (S : SS) (tm : Tr Value) (σ : St) (Ψ : Fz) (S' : SS) : Prop where
  sr : SR X T Ψ G S' tm σ
  st : Stp m Φ S.M G σ Ψ S'.M G σ
  ow : ∀ k x, Own S'.M G k x → Own S.M G k x
theorem Fr.refl (h : SR X T Φ G S tm σ) : Fr X T m Φ G S tm σ Φ S := ⟨h, Stp.refl _ _ _ _ _, fun _ _ h => h⟩
theorem Fr.par {S' : SS} (h : Fr X T m Φ G S tm σ Ψ S') {y : Nat} (hy : Par S'.M G σ y) : Par S.M G σ y := let ⟨j, x, e, cs, ro, l, k, a, b⟩ := hy; ⟨j, x, e, cs, ro, l, k, h.ow j x a, b⟩
theorem Fr.trans {Ω : Fz} {S' S'' : SS} (h : Fr X T m Φ G S tm σ Ψ S') (k : Fr X T m Ψ G S' tm σ Ω S'') : Fr X T m Φ G S tm σ Ω S'' := ⟨k.sr, h.st.trans k.st, fun i x q => h.ow i x (k.ow i x q)⟩
theorem frz1_ok (h : SR X T Φ G S tm σ) {v : SV} {w : Value} (hv : VR T Φ G v w) {K : SS → PV → Prop} (hk : frz1 S v K) : ∃ Ψ S' pv, K S' pv ∧ Fr X T m Φ G S tm σ Ψ S' ∧ PRel T Ψ pv w := by
  unfold frz1 at hk
  split at hk
  · cases hv with | p hp => exact ⟨Φ, S, _, hk, .refl h, hp⟩
  · cases hv; exact ⟨Φ, S, _, hk, .refl h, .nil _⟩
  · cases hv with
    | os hg =>
      split at hk
      · rename_i hb
        obtain ⟨Ψ, a, b, c, d⟩ := h.freeze (m := m) hb hg
        exact ⟨Ψ, _, _, hk, ⟨a, c, d⟩, b⟩
      · rename_i hb
        exact ⟨Φ, S, _, hk, .refl h, h.mr.at_ hb hg⟩
      · exact hk.elim
  · exact hk.elim
theorem frzL_ok : ∀ {l : List SV} {Φ : Fz} {S : SS} {ws : List Value}, SR X T Φ G S tm σ → LVR T Φ G l ws → ∀ {K : SS → List PV → Prop}, frzL S l K → ∃ Ψ S' c, K S' c ∧ Fr X T m Φ G S tm σ Ψ S' ∧ LPRel T Ψ c ws
  | [], Φ, S, ws, h, hv, K, hk => by cases hv; exact ⟨Φ, S, _, hk, .refl h, .nil⟩
  | v :: r, Φ, S, ws, h, hv, K, hk => by
    cases hv with
    | cons p q =>
      obtain ⟨Ψ, S1, pv, k1, f1, r1⟩ := frz1_ok (m := m) h p hk
      obtain ⟨Ω, S2, c, k2, f2, r2⟩ := frzL_ok f1.sr (q.mono f1.st.fz (Gle.refl G)) k1
      exact ⟨Ω, S2, _, k2, f1.trans f2, .cons (r1.mono f2.st.fz) r2⟩
theorem frzV_ok (h : SR X T Φ G S tm σ) {v : SV} {w : Value} (hv : VR T Φ G v w) {K : SS → SV → Prop} (hk : frzV S v K) : ∃ Ψ S' v', K S' v' ∧ Fr X T m Φ G S tm σ Ψ S' ∧ VR T Ψ G v' w := by
  unfold frzV at hk
  split at hk
  · exact ⟨Φ, S, _, hk, .refl h, hv⟩
  · cases hv with
    | ag a =>
      obtain ⟨Ψ, S1, c, k1, f1, r1⟩ := frzL_ok (m := m) h a hk
      exact ⟨Ψ, S1, _, k1, f1, .agp r1⟩
  · exact ⟨Φ, S, _, hk, .refl h, hv⟩
  · exact ⟨Φ, S, _, hk, .refl h, hv⟩
  · obtain ⟨Ψ, S1, c, k1, f1, r1⟩ := frz1_ok (m := m) h hv hk
    exact ⟨Ψ, S1, _, k1, f1, .p r1⟩
  · obtain ⟨Ψ, S1, c, k1, f1, r1⟩ := frz1_ok (m := m) h hv hk
    exact ⟨Ψ, S1, _, k1, f1, .p r1⟩
  · exact hk.elim
theorem frzVs_ok : ∀ {l : List SV} {Φ : Fz} {S : SS} {ws : List Value}, SR X T Φ G S tm σ → LVR T Φ G l ws → ∀ {K : SS → List SV → Prop}, frzVs S l K → ∃ Ψ S' c, K S' c ∧ Fr X T m Φ G S tm σ Ψ S' ∧ LVR T Ψ G c ws
  | [], Φ, S, ws, h, hv, K, hk => by cases hv; exact ⟨Φ, S, _, hk, .refl h, .nil⟩
  | v :: r, Φ, S, ws, h, hv, K, hk => by
    cases hv with
    | cons p q =>
      obtain ⟨Ψ, S1, pv, k1, f1, r1⟩ := frzV_ok (m := m) h p hk
      obtain ⟨Ω, S2, c, k2, f2, r2⟩ := frzVs_ok f1.sr (q.mono f1.st.fz (Gle.refl G)) k1
      exact ⟨Ω, S2, _, k2, f1.trans f2, .cons (r1.mono f2.st.fz (Gle.refl G)) r2⟩
theorem PRel.cellsL {v : PV} {w : Value} (h : PRel T Φ v w) : Go.Ev.cellsL w = [w] := by cases h <;> rfl
theorem frzR_ok (h : SR X T Φ G S tm σ) {v : SV} {w : Value} (hv : VR T Φ G v w) {K : SS → List PV → Prop} (hk : frzR S v K) : ∃ Ψ S' c, K S' c ∧ Fr X T m Φ G S tm σ Ψ S' ∧ LPRel T Ψ c (cellsL w) := by
  unfold frzR at hk
  split at hk
  · cases hv with | agp a => exact ⟨Φ, S, _, hk, .refl h, a⟩
  · cases hv with
    | ag a =>
      obtain ⟨Ψ, S1, c, k1, f1, r1⟩ := frzL_ok (m := m) h a hk
      exact ⟨Ψ, S1, _, k1, f1, r1⟩
  · obtain ⟨Ψ, S1, c, k1, f1, r1⟩ := frz1_ok (m := m) h hv hk
    exact ⟨Ψ, S1, _, k1, f1, by rw [r1.cellsL]; exact .cons r1 .nil⟩
theorem frzRs_ok : ∀ {l : List SV} {Φ : Fz} {S : SS} {ws : List Value}, SR X T Φ G S tm σ → LVR T Φ G l ws → ∀ {K : SS → List (List PV) → Prop}, frzRs S l K →
    ∃ Ψ S' rows, K S' rows ∧ Fr X T m Φ G S tm σ Ψ S' ∧ LPRel T Ψ rows.flatten (ws.map cellsL).flatten ∧ rows.map List.length = ws.map fun w => (cellsL w).length
  | [], Φ, S, ws, h, hv, K, hk => by cases hv; exact ⟨Φ, S, _, hk, .refl h, .nil, rfl⟩
  | v :: r, Φ, S, ws, h, hv, K, hk => by
    cases hv with
    | cons p q =>
      obtain ⟨Ψ, S1, pv, k1, f1, r1⟩ := frzR_ok (m := m) h p hk
      obtain ⟨Ω, S2, c, k2, f2, r2, r3⟩ := frzRs_ok f1.sr (q.mono f1.st.fz (Gle.refl G)) k1
      exact ⟨Ω, S2, _, k2, f1.trans f2, (r1.mono f2.st.fz).append r2, by simp [r1.length, r3]⟩
theorem lent_none {b : Blk} (h : ∀ e rows, b ≠ .ro e rows) : ∀ g, lentN b g = none := fun g => by
  cases b <;> cases g <;> (first | rfl | exact absurd rfl (h _ _))
theorem slElem_ok (hX : X.Good T) {t : TypeId} {K : TypeId → TI → Prop} (h : slElem X t K) : ∃ e ei, K e ei ∧ sliceElem (T.und t) = some e ∧ TIok T e ei := by
  unfold slElem at h
  split at h
  · rename_i i hi
    split at h
    · rename_i e he
      split at h
      · rename_i ei hei
        obtain ⟨d, b1, b2, b3, _⟩ := (hX _ _ hi).und
        exact ⟨e, ei, h, by rw [b1, b3, he], hX _ _ hei⟩
      · exact h.elim
    · exact h.elim
  · exact h.elim
theorem push_box (h : SR X T Φ G S tm σ) (hm : m ≤ S.M.length) {e : TypeId} {c : List SV} {ws : List Value} (hc : LVR T Φ G c ws) :
    SR X T Φ (snoc G (.nm σ.next)) (S.addB (.box c)) tm (σ.push (.cells e ws false true none none)) ∧ Stp m Φ S.M G σ Φ (S.addB (.box c)).M (snoc G (.nm σ.next)) (σ.push (.cells e ws false true none none)) ∧
      VR T Φ (snoc G (.nm σ.next)) (.loc (len S.M) 0) (ptrTo σ.next) := by
  obtain ⟨a, b⟩ := h.push (m := m) (ob := .cells e ws false true none none) (b := .box c) (g := .nm σ.next) (fun x hx => by cases hx; rfl) (lent_none fun _ _ => by simp)
    ⟨e, ws, by rw [St.get_push, if_pos rfl], hc.mono (Fz.le.refl Φ) (Gle.snoc _ _)⟩ (fun e cs ro l y k hq => by cases hq) hm
  refine ⟨a, b, .loc ?_⟩
  rw [nth_snoc, if_pos (by rw [len_eq, h.mr.len])]
theorem push_arr (h : SR X T Φ G S tm σ) (hm : m ≤ S.M.length) {e : TypeId} {rows : List (List PV)} {cs : List Value} {s : Option Nat} {c : Nat} (hs : markE s = false) (hc : rows.length ≤ c) (hr : RowsAt T Φ e rows cs 0) :
    SR X T Φ (snoc G (.sl (.slice (some ⟨σ.next, 0, s⟩) rows.length c))) (S.addB (.arr e rows)) tm (σ.push (.cells e cs false true none none)) ∧
      Stp m Φ S.M G σ Φ (S.addB (.arr e rows)).M (snoc G (.sl (.slice (some ⟨σ.next, 0, s⟩) rows.length c))) (σ.push (.cells e cs false true none none)) ∧
      VR T Φ (snoc G (.sl (.slice (some ⟨σ.next, 0, s⟩) rows.length c))) (.os (len S.M)) (.slice (some ⟨σ.next, 0, s⟩) rows.length c) := by
  obtain ⟨a, b⟩ := h.push (m := m) (ob := .cells e cs false true none none) (b := .arr e rows) (g := .sl (.slice (some ⟨σ.next, 0, s⟩) rows.length c)) (fun x hx => by cases hx; rfl) (lent_none fun _ _ => by simp)
    (.inr ⟨σ.next, s, c, cs, none, rfl, hs, hc, by rw [St.get_push, if_pos rfl], hr⟩) (fun e cs ro l y k hq => by cases hq) hm
  refine ⟨a, b, .os ?_⟩
  rw [nth_snoc, if_pos (by rw [len_eq, h.mr.len])]
theorem upto_ok : ∀ {k : Nat} {ps : List (Nat × Operand)}, upto k ps = true → ps.map (·.1) = List.range' k ps.length
  | k, [], _ => rfl
  | k, (i, x) :: r, h => by
    unfold upto at h
    cases hb : Nat.beq i k with
    | false => rw [hb] at h; cases h
    | true =>
      rw [hb] at h
      have := beq_of hb
      subst this
      rw [List.map_cons, List.length_cons, List.range'_succ, upto_ok h]
theorem repL_length (l : List Value) : ∀ n, (repL n l).length = n * l.length
  | 0 => by simp [repL]
  | n + 1 => by rw [repL, List.length_append, repL_length l n, Nat.succ_mul, Nat.add_comm]
theorem fillL_upto {z : Nat} : ∀ {ws : List Value} {k : Nat} {done rest : List Value}, (∀ w ∈ ws, (cellsL w).length = z) → done.length = k * z → rest.length = ws.length * z →
    fillL (done ++ rest) (((List.range' k ws.length).zip ws).map fun x => (x.1 * z, z, x.2)) = some (done ++ (ws.map cellsL).flatten)
  | [], k, done, rest, _, _, hr => by
    have : rest = [] := List.length_eq_zero_iff.1 (by simpa using hr)
    subst this; simp [fillL]
  | w :: ws, k, done, rest, hz, hd, hr => by
    have hw := hz w (List.mem_cons_self ..)
    rw [List.length_cons, List.range'_succ, List.zip_cons_cons, List.map_cons]
    unfold fillL
    have hle : k * z + (cellsL w).length ≤ (done ++ rest).length := by
      rw [List.length_append, hd, hr, hw, List.length_cons, Nat.succ_mul]; omega
    rw [show Nat.beq (cellsL w).length z = true by rw [hw]; exact Nat.beq_refl _, show Nat.ble (k * z + (cellsL w).length) (done ++ rest).length = true from ble_of hle]
    simp only [Bool.and_self, cond_true]
    have hset : setRange (done ++ rest) (k * z) (cellsL w) = (done ++ cellsL w) ++ rest.drop z := by
      unfold setRange
      rw [hw, List.take_append, List.take_of_length_le (by omega), List.drop_append, List.drop_of_length_le (by omega)]
      rw [show k * z - done.length = 0 by omega, show k * z + z - done.length = z by omega]
      simp
    rw [hset, fillL_upto (fun w' h' => hz w' (List.mem_cons_of_mem _ h')) (by rw [List.length_append, hd, hw, Nat.succ_mul]) (by rw [List.length_drop, hr, List.length_cons, Nat.succ_mul]; omega)]
    simp
theorem repL_take (l : List Value) {n m : Nat} (h : n ≤ m) : (repL m l).take (n * l.length) = repL n l := by
  induction n generalizing m with
  | zero => simp [repL]
  | succ n ih =>
    obtain ⟨m, rfl⟩ : ∃ k, m = k + 1 := ⟨m - 1, by omega⟩
    rw [repL, repL, List.take_append, List.take_of_length_le (by rw [Nat.succ_mul]; omega), show (n + 1) * l.length - l.length = n * l.length by rw [Nat.succ_mul]; omega, ih (by omega)]
theorem LPRel.rep {z : List PV} {l : List Value} (h : LPRel T Φ z l) : ∀ n, LPRel T Φ (List.replicate n z).flatten (repL n l)
  | 0 => .nil
  | n + 1 => by rw [List.replicate_succ, List.flatten_cons, repL]; exact h.append (LPRel.rep h n)
theorem PRel.veq {v : PV} {w : Value} (h : PRel T Φ v w) (n : Nat) : veqF (n + 1) w w = true := by
  cases h with
  | raw a m c => cases a <;> simp [veqF]
  | _ => simp [veqF]
theorem smp_veq {v : SV} {w : Value} (h : VR T Φ G v w) (hs : smp v = true) (n : Nat) : veqF (n + 1) w w = true := by
  cases h with
  | p a => exact a.veq n
  | agp => cases hs
  | ag => cases hs
  | tu => cases hs
  | fn => cases hs
  | un => cases hs
  | loc a => simp [veqF]
  | nl e => simp [veqF]
  | @os j n' c a h =>
    cases a with
    | none => simp [veqF]
    | some a => simp [veqF]
  | ss a b c d => simp [veqF]
  | ep a b c => simp [veqF]
  | fp a b => simp [veqF]
theorem smpL_veq : ∀ {c : List SV} {ws : List Value}, LVR T Φ G c ws → smpL c = true → ∀ n, allEq (veqF (n + 1)) ws ws = true
  | [], _, h, _, n => by cases h; rfl
  | v :: r, _, h, hs, n => by
    cases h with
    | cons p q =>
      unfold smpL at hs
      cases hv : smp v with
      | false => rw [hv] at hs; cases hs
      | true =>
        rw [hv] at hs
        simp only [allEq, smp_veq p hv n, smpL_veq q hs n, Bool.and_self]
theorem LPRel.veq {c : List PV} {ws : List Value} (h : LPRel T Φ c ws) (n : Nat) : allEq (veqF (n + 1)) ws ws = true := by
  induction c generalizing ws with
  | nil => cases h; rfl
  | cons v r ih => cases h with | cons p q => simp only [allEq, p.veq n, ih q, Bool.and_self]
theorem shal_veq {v : SV} {w : Value} (h : VR T Φ G v w) (hs : shal v = true) : veq w w = true := by
  unfold Go.Ev.veq
  cases h with
  | p a => exact a.veq 7
  | agp a => simp only [veqF]; exact a.veq 6
  | ag a => simp only [veqF]; exact smpL_veq a hs 6
  | tu a => simp only [veqF]; exact smpL_veq a hs 6
  | fn a =>
    have h1 := smpL_veq a hs 6
    show (Nat.beq _ _ && allEq (veqF 7) _ _ && allEq (veqF 7) _ _) = true
    rw [h1]
    simp [allEq]
  | un => simp [undef, veqF, allEq]
  | loc a => exact smp_veq (T := T) (Φ := Φ) (.loc a) rfl 7
  | nl e => simp [veqF]
  | os a => exact smp_veq (T := T) (Φ := Φ) (.os a) rfl 7
  | ss a b c d => exact smp_veq (T := T) (Φ := Φ) (.ss a b c d) rfl 7
  | ep a b c => exact smp_veq (T := T) (Φ := Φ) (.ep a b c) rfl 7
  | fp a b => exact smp_veq (G := G) (.fp a b) rfl 7
theorem aeq_cells {e : TypeId} {ws : List Value} (h : allEq (veqF 8) ws ws = true) : aeq (.cells e ws false true none none) (.cells e ws false true none none) = true := by
  have h : allEq veq ws ws = true := h
  simp [aeq, h]
theorem rowsB_ok {n : Nat} : ∀ {rows : List (List PV)}, rowsB n rows = true → ∀ r ∈ rows, r.length = n
  | [], _, r, hr => by cases hr
  | x :: s, h, r, hr => by
    unfold rowsB at h
    cases hb : Nat.beq (len x) n with
    | false => rw [hb] at h; cases h
    | true =>
      rw [hb] at h
      rcases List.mem_cons.1 hr with rfl | hr
      · rw [← len_eq]; exact beq_of hb
      · exact rowsB_ok h r hr
theorem xA_ok (hX : X.Good T) (h : SR X T Φ G S tm σ) (hm : m ≤ S.M.length) {op : Op} {K : Blk → (Nat → SV) → SS → Prop} (hx : xA X S op K) :
    ∃ b mk S1 ob mkv Ψ G', K b mk S1 ∧ evA T tm op = some (ob, mkv) ∧ S1.M.length = S.M.length ∧ SR X T Ψ G' (S1.addB b) tm (σ.push ob) ∧ Stp m Φ S.M G σ Ψ (S1.addB b).M G' (σ.push ob) ∧ VR T Ψ G' (mk (len S1.M)) (mkv σ.next) ∧ (shalB b = true → aeq ob ob = true) ∧ shal (mk (len S1.M)) = true := by
  unfold xA at hx
  split at hx
  · rename_i t
    split at hx
    · rename_i i hi
      split at hx
      · rename_i z hz
        obtain ⟨inf, a1, a2, a3, a4⟩ := (hX _ _ hi).info
        obtain ⟨zv, z1, z2⟩ := a4 z hz
        obtain ⟨b1, b2, b3⟩ := push_box (e := t) h hm (z2 Φ G)
        exact ⟨_, _, S, _, _, Φ, _, hx, by simp only [evA, evAlloc, a1, z1], rfl, b1, b2, b3, fun hs => aeq_cells (smpL_veq (z2 Φ G) hs 7), rfl⟩
      · exact hx.elim
    · exact hx.elim
  · rename_i t x
    obtain ⟨v, w, h1, h2, h3⟩ := xo_ok h hx
    obtain ⟨b1, b2, b3⟩ := push_box (e := t) h hm (cells_ok h3)
    exact ⟨_, _, S, _, _, Φ, _, h1, by simp only [evA, h2, evBox], rfl, b1, b2, b3, fun hs => aeq_cells (smpL_veq (cells_ok h3) hs 7), rfl⟩
  · rename_i t ln parts
    obtain ⟨e, ei, hx, he, hei⟩ := slElem_ok hX hx
    obtain ⟨inf, a1, a2, a3, a4⟩ := hei.info
    split at hx
    · rename_i z hz
      obtain ⟨zv, z1, z2⟩ := a4 z hz
      cases hc : (upto 0 parts.toList && Nat.beq (len parts.toList) ln && Nat.ble (ln * ei.size) 16777216 && Nat.blt 0 ei.size) with
      | false => rw [hc] at hx; exact hx.elim
      | true =>
        rw [hc] at hx
        simp only [cond_true] at hx
        simp only [Bool.and_eq_true] at hc
        obtain ⟨⟨⟨c1, c2⟩, c3⟩, c4⟩ := hc
        have c2 := beq_of c2
        have c3 := Nat.le_of_ble_eq_true c3
        have c4 : 0 < ei.size := Nat.le_of_ble_eq_true c4
        have c1 := upto_ok c1
        rw [len_eq] at c2
        obtain ⟨vs, ws, hx, h2, h3⟩ := xos_ok h hx
        obtain ⟨Ψ, S1, rows, k2, f1, r1, r2⟩ := frzRs_ok (m := m) h h3 hx
        cases hrb : rowsB ei.size rows with
        | false => rw [hrb] at k2; exact k2.elim
        | true =>
        rw [hrb] at k2
        have k1 := rowsB_ok hrb
        have hps := opdParts_eq (tm := tm) (T := T) parts.toList h2
        have hwl : ws.length = ln := by
          have := h3.length
          have hl2 : ws.length = (parts.toList.map (·.2)).length := by
            have key : ∀ (xs : List Operand) (ws : List Value), opds T tm xs = some ws → ws.length = xs.length := by
              intro xs
              induction xs with
              | nil => intro ws h; simp [opds] at h; subst h; rfl
              | cons x r ih =>
                intro ws h
                simp only [opds] at h
                split at h
                · rename_i v l a b; cases h; simp [ih _ b]
                · cases h
            exact key _ _ h2
          rw [hl2, List.length_map, c2]
        have hrl : rows.length = ln := by
          have := congrArg List.length r2
          simpa [hwl] using this
        have hzw : ∀ w ∈ ws, (cellsL w).length = ei.size := by
          intro w hw
          have : (cellsL w).length ∈ ws.map fun w => (cellsL w).length := List.mem_map_of_mem hw
          rw [← r2] at this
          obtain ⟨r, hr, e⟩ := List.mem_map.1 this
          rw [← e]; exact k1 r hr
        have hob : evBuildSlice T t ln ((parts.toList.map (·.1)).zip ws) = some (.cells e (ws.map cellsL).flatten false true none none) := by
          cases ln with
          | zero =>
            have : ws = [] := List.length_eq_zero_iff.1 hwl
            subst this
            simp [evBuildSlice, he, a1]
          | succ ln =>
            have e1 : evBuildSlice T t (ln + 1) ((parts.toList.map (·.1)).zip ws) = evBuildSlice1 T t (ln + 1) ((parts.toList.map (·.1)).zip ws) := rfl
            rw [e1]
            simp only [evBuildSlice1, he, a1, z1, a2]
            have hlt : Nat.beq ((ln + 1) * ei.size) 0 = false := by
              cases hq : Nat.beq ((ln + 1) * ei.size) 0 with
              | false => rfl
              | true =>
                have hq := beq_of hq
                have : 0 < (ln + 1) * ei.size := Nat.mul_pos (by omega) c4
                omega
            rw [hlt, show Nat.ble ((ln + 1) * ei.size) 16777216 = true from ble_of c3]
            simp only [Bool.not_false, Bool.and_self, cond_true]
            have hzl : (cellsL zv).length = ei.size := by
              have := zeroOk_eq z1
              have h5 : zv.cells.toList = cellsL zv := by cases zv <;> rfl
              rw [← h5]; simp [this.2.1, a2]
            have := fillL_upto (z := ei.size) (ws := ws) (k := 0) (done := []) (rest := repL (ln + 1) (cellsL zv)) hzw (by simp) (by rw [repL_length, hzl, hwl])
            rw [c1, c2, ← hwl]
            simp only [List.nil_append] at this
            rw [← hwl] at this
            rw [this]
        have hmlen : m ≤ S1.M.length := f1.st.mlen hm
        have hS1 : S1.M.length = S.M.length := by rw [f1.sr.mr.len, h.mr.len]
        have hfl : RowsAt T Ψ e rows (ws.map cellsL).flatten 0 := by
          refine ⟨inf, a1, by rw [a2]; exact k1, ?_⟩
          have hlen := r1.length
          rw [len_flat k1] at hlen
          rw [List.drop_zero, a2, List.take_of_length_le (by omega)]
          exact r1
        obtain ⟨b1, b2, b3⟩ := push_arr (m := m) f1.sr hmlen (s := none) (c := rows.length) (by rfl) (Nat.le_refl _) hfl
        refine ⟨_, _, S1, _, rowOf ln ln, Ψ, _, k2, ?_, hS1, b1, f1.st.trans b2, ?_, fun _ => aeq_cells (r1.veq 7), rfl⟩
        · simp only [evA, hps, hob]
        · show VR T Ψ _ _ (rowOf ln ln σ.next)
          unfold rowOf
          rw [← hrl]
          exact b3
    · exact hx.elim
  · rename_i t l c
    obtain ⟨e, ei, hx, he, hei⟩ := slElem_ok hX hx
    obtain ⟨inf, a1, a2, a3, a4⟩ := hei.info
    obtain ⟨v, w, hx, h2, h3⟩ := xo_ok h hx
    obtain ⟨v', w', hx, k2, k3⟩ := xo_ok h hx
    split at hx
    · split at hx
      · rename_i z hpz
        cases hc : Nat.blt 0 ei.bytes with
        | false => rw [hc] at hx; exact hx.elim
        | true =>
          rw [hc] at hx
          obtain ⟨n, q, rfl, rfl, hle, hby, hk⟩ := hx
          obtain ⟨zv, z1, z2⟩ := a4 _ ‹ei.zero = some _›
          rw [h3.int_inv] at h2
          rw [k3.int_inv] at k2
          have hzr := pureL_ok hpz (z2 Φ G)
          have hzl : (cellsL zv).length = inf.size := by
            have := zeroOk_eq z1
            have h5 : zv.cells.toList = cellsL zv := by cases zv <;> rfl
            rw [← h5]; simp [this.2.1]
          have hrow : RowsAt T Φ e (List.replicate n z) (repL q (cellsL zv)) 0 := by
            refine ⟨inf, a1, fun r hr => ?_, ?_⟩
            · rw [List.eq_of_mem_replicate hr, hzr.length, hzl]
            · rw [List.drop_zero, List.length_replicate, ← hzl, repL_take _ hle]
              exact hzr.rep n
          obtain ⟨b1, b2, b3⟩ := push_arr (m := m) (s := none) (c := q) h hm (by rfl) (by simpa using hle) hrow
          refine ⟨_, _, S, _, rowOf n q, Φ, _, hk, ?_, rfl, b1, b2, ?_, fun _ => aeq_cells ((hzr.rep q).veq 7), rfl⟩
          · simp only [evA, h2, k2, evMakeSlice, he, a1, z1]
            rw [show Nat.ble n q = true from ble_of hle, show Nat.blt 0 inf.bytes = true by rw [a3]; exact hc, show Nat.ble (q * inf.bytes) 281474976710656 = true from ble_of (by rw [a3]; exact hby)]
            rfl
          · show VR T Φ _ _ (rowOf n q σ.next)
            simp only [List.length_replicate] at b3 ⊢
            exact b3
      · exact hx.elim
    · exact hx.elim
  · exact hx.elim
end Go.Sx
end
section
namespace Go.Sx
open Go.Ev Go.RowKit
variable {X : Sc} {T : Tabs} {Φ Ψ : Fz} {G H : List GB} {S : SS} {M : List Blk} {tm : Tr Value} {σ σ' : St} {m : Nat}
theorem kill_some {p : Option Nat} {i : Nat} {o : AObj} (h : (σ.kill p).get i = some o) : ∃ o', σ.get i = some o' := by
  cases p with
  | none => exact ⟨o, h⟩
  | some x =>
    change (σ.kill1 x).get i = some o at h
    unfold St.kill1 at h
    split at h
    · rename_i hx
      rw [St.get_put] at h
      split at h
      · rename_i hi; subst hi; exact ⟨_, hx⟩
      · exact ⟨o, h⟩
    · exact ⟨o, h⟩
theorem setAt_setAt {α : Type} (l : List α) (j : Nat) (x y : α) : setAt (setAt l j x) j y = setAt l j y := by
  rw [setAt_eq, setAt_eq, setAt_eq]; simp
theorem SR.modify (h : SR X T Φ G S tm σ) {j x : Nat} {b0 b' : Blk} {g : GB} {ob : AObj} {p : Option Nat} (hj : nth S.M j = some b0) (hg : nth G j = some g) (ho : ownN b0 g = some x) (ho' : ownN b' g = some x) (hl : ∀ g, lentN b' g = none)
    (hp : ∀ y, p = some y → Par S.M G σ y) (hob : ∀ e cs ro l y k, ob ≠ .cells e cs ro l (some y) k) (hb : BR T Φ G (((σ.kill p).kill none).put x ob) b' g) :
    SR X T Φ G (S.setB j b') tm (((σ.kill p).kill none).put x ob) ∧ Stp m Φ S.M G σ Φ (S.setB j b').M G (((σ.kill p).kill none).put x ob) ∧ (∀ y, ¬ Own S.M G j y → ¬ Par S.M G σ y → (((σ.kill p).kill none).put x ob).get y = σ.get y) := by
  obtain ⟨t, M⟩ := S
  generalize hσ : ((σ.kill p).kill none).put x ob = σ1 at hb ⊢
  have hown : Own M G j x := ⟨b0, g, hj, hg, ho⟩
  have hsame : ∀ y, y ≠ x → p ≠ some y → σ1.get y = σ.get y := fun y hy hpy => by
    rw [← hσ, St.get_put, if_neg hy]
    exact St.get_kill_ne σ p y hpy
  have hx1 : σ1.get x = some ob := by rw [← hσ, St.get_put, if_pos rfl]
  have hnext : σ1.next = σ.next := by rw [← hσ]; exact St.next_kill σ p
  have hkeep : ∀ y, ((∃ k, Own (setAt M j .dd) G k y) ∨ Lent (setAt M j .dd) G y) → σ1.get y = σ.get y := by
    intro y hy
    refine hsame y (fun e => ?_) (fun e => ?_)
    · subst e
      rcases hy with ⟨k, hy⟩ | hy
      · obtain ⟨a, b⟩ := own_dd hy
        exact a (h.mr.inj _ _ y b hown)
      · exact (h.mr.lent y (lent_set (fun g => by cases g <;> rfl) hy)).1 j hown
    · obtain ⟨a, b, c, d⟩ := h.mr.par y (hp y e)
      rcases hy with ⟨k, hy⟩ | hy
      · exact b k (own_dd hy).2
      · exact c (lent_set (fun g => by cases g <;> rfl) hy)
  have hm1 : MR T Φ (setAt M j .dd) G σ1 := (h.mr.drop j).change (by rw [hnext]; exact Nat.le_refl _) hkeep
  have hpar1 : ∀ y, Par (setAt M j .dd) G σ1 y → Par M G σ y := fun y hy => par_dd ((Par.congr fun k z hz => hkeep z (.inl ⟨k, hz⟩)).1 hy)
  have hno : ∀ e cs ro l y k, σ1.get x ≠ some (.cells e cs ro l (some y) k) := fun e cs ro l y k q => by
    rw [hx1] at q; cases q; exact hob e cs ro l y k rfl
  have hm2 := hm1.take (j := j) (b := b') (g := g) (by rw [nth_set, if_pos ⟨rfl, nth_lt hj⟩]) hg hb hl fun z hz => by
    rw [ho'] at hz; cases hz
    refine ⟨(h.mr.own j x hown).1, by rw [hnext]; exact (h.mr.own j x hown).2, fun k a => (own_dd a).1 (h.mr.inj _ _ x (own_dd a).2 hown), fun a => (h.mr.lent x (lent_set (fun g => by cases g <;> rfl) a)).1 j hown,
      fun a => (h.mr.par x (hpar1 x a)).2.1 j hown, fun e cs ro l y k q => absurd q (hno e cs ro l y k)⟩
  rw [setAt_setAt] at hm2
  have hlt : ∀ i o, σ1.get i = some o → i < σ1.next := fun i o e => by
    rw [hnext]
    by_cases hi : i = x
    · rw [hi]; exact (h.mr.own j x hown).2
    · rw [← hσ, St.get_put, if_neg hi] at e
      obtain ⟨o', e'⟩ := kill_some (p := p) e
      exact h.ws.dom i o' e'
  have hphi : ∀ i o, Φ i = some o → σ1.get i = σ.get i := fun i o e => hsame i (fun q => by subst q; rw [(h.mr.own j i hown).1] at e; cases e) (fun q => by rw [(h.mr.par i (hp i q)).1] at e; cases e)
  refine ⟨⟨h.tmp, hm2, h.ws.change hlt hphi⟩, ?_, fun y a b => hsame y (fun e => a (e ▸ hown)) (fun e => b (hp y e))⟩
  refine ⟨Fz.le.refl Φ, fun _ _ => rfl, by rw [hnext]; exact Nat.le_refl _, fun i _ a b => hsame i (fun q => by subst q; exact a j hown) (fun q => b (hp i q)), fun i o a b => (by rw [b] at a; cases a), fun k i hk => ?_, fun i hi => ?_, fun i hi => lent_set hl hi, fun hm => by simp [SS.setB, setAt_eq]; exact hm⟩
  · rcases own_put hg hk with ⟨_, a⟩ | ⟨_, a⟩
    · exact .inl ⟨k, a⟩
    · rw [ho'] at a; cases a; exact .inl ⟨j, hown⟩
  · obtain ⟨k, z, e, cs, ro, l, k', a, q⟩ := hi
    rcases own_put hg a with ⟨hk, a⟩ | ⟨_, a⟩
    · refine .inl ⟨k, z, e, cs, ro, l, k', a, ?_⟩
      rw [← hkeep z (.inl ⟨k, ?_⟩)]
      · exact q
      · obtain ⟨b, g', h1, h2, h3⟩ := a
        exact ⟨b, g', by rw [nth_set, if_neg (fun hh => hk hh.1)]; exact h1, h2, h3⟩
    · rw [ho'] at a; cases a; exact absurd q (hno _ _ _ _ _ _)
theorem leaf_one {v : SV} {w : Value} (h : VR T Φ G v w) (hl : leaf v = true) : oneV w = true := by
  cases h with
  | p a => cases a <;> rfl
  | agp => cases hl
  | ag => cases hl
  | tu => cases hl
  | un => cases hl
  | _ => rfl
theorem lfs_all : ∀ {c : List SV} {ws : List Value}, LVR T Φ G c ws → lfs c = true → ws.all oneV = true
  | [], _, h, _ => by cases h; rfl
  | v :: r, _, h, hl => by
    cases h with
    | cons p q =>
      unfold lfs at hl
      cases hv : leaf v with
      | false => rw [hv] at hl; cases hl
      | true =>
        rw [hv] at hl
        simp only [List.all_cons, leaf_one p hv, lfs_all q hl, Bool.and_self]
theorem LPRel.all_one {c : List PV} {ws : List Value} (h : LPRel T Φ c ws) : ws.all oneV = true := by
  induction c generalizing ws with
  | nil => cases h; rfl
  | cons v r ih =>
    cases h with
    | cons p q => cases p <;> simp [oneV, ih q]
theorem storable_all {v : SV} {w : Value} (h : VR T Φ G v w) (hs : storable v = true) : (cellsL w).all oneV = true := by
  cases h with
  | agp a => exact a.all_one
  | ag a => exact lfs_all a hs
  | p a => cases a <;> rfl
  | tu => cases hs
  | un => cases hs
  | loc a => rfl
  | nl e => rfl
  | os a => rfl
  | ss a b c d => rfl
  | ep a b c => rfl
  | fp a b => rfl
  | fn a => rfl
theorem flat_set {z : Nat} : ∀ {rows : List (List PV)} {i : Nat} {row row' : List PV}, (∀ r ∈ rows, r.length = z) → rows[i]? = some row → row'.length = z →
    (rows.set i row').flatten = rows.flatten.take (i * z) ++ (row' ++ rows.flatten.drop (i * z + z))
  | [], i, row, row', _, h, _ => by simp at h
  | r :: rs, 0, row, row', hz, h, hr => by
    have := hz r (List.mem_cons_self ..)
    simp [← this]
  | r :: rs, i + 1, row, row', hz, h, hr => by
    have hr' := hz r (List.mem_cons_self ..)
    have := flat_set (rows := rs) (i := i) (row' := row') (fun r' h' => hz r' (List.mem_cons_of_mem _ h')) (by simpa using h) hr
    have e1 : (i + 1) * z - r.length = i * z := by rw [hr', Nat.succ_mul]; omega
    have e2 : (i + 1) * z + z - r.length = i * z + z := by rw [hr', Nat.succ_mul]; omega
    have e3 : r.length ≤ (i + 1) * z := by rw [hr', Nat.succ_mul]; omega
    have e4 : r.length ≤ (i + 1) * z + z := by omega
    rw [List.set_cons_succ, List.flatten_cons, List.flatten_cons, this, List.take_append, List.drop_append, e1, e2, List.take_of_length_le e3, List.drop_of_length_le e4]
    simp
theorem setRange_at {cs vs : List Value} {o n a : Nat} (h : a + vs.length ≤ n) (hn : o + n ≤ cs.length) : ((setRange cs (o + a) vs).drop o).take n = ((cs.drop o).take n).take a ++ (vs ++ ((cs.drop o).take n).drop (a + vs.length)) := by
  unfold setRange
  rw [List.drop_append, List.drop_take, List.length_take, Nat.min_eq_left (by omega), show o + a - o = a by omega, show o - (o + a) = 0 by omega, List.drop_zero]
  rw [List.take_append, List.take_append, List.length_take, List.length_drop, Nat.min_eq_left (by omega)]
  rw [List.take_of_length_le (l := (cs.drop o).take a) (by rw [List.length_take]; omega), List.take_of_length_le (l := vs) (by omega)]
  rw [List.take_take, Nat.min_eq_left (by omega), List.drop_take, List.drop_drop, show n - a - vs.length = n - (a + vs.length) by omega, show o + (a + vs.length) = o + a + vs.length by omega]
theorem xstore_ok (h : SR X T Φ G S tm σ) {t : TypeId} {i : TI} (hi : TIok T t i) {a v : SV} {wa wv : Value} (ha : VR T Φ G a wa) (hv : VR T Φ G v wv) {K : SS → Prop} (hx : xstore S i.size a v K) :
    ∃ σ' Ψ S', K S' ∧ evStore T σ t wa wv = some σ' ∧ SR X T Ψ G S' tm σ' ∧ Stp m Φ S.M G σ Ψ S'.M G σ' ∧ (∀ y, (∀ j, tj a = some j → ¬ Own S.M G j y ∧ ¬ Par S.M G σ y) → σ'.get y = σ.get y) := by
  obtain ⟨inf, a1, a2, a3, a4⟩ := hi.info
  unfold xstore at hx
  split at hx
  · rename_i j o
    split at hx
    · rename_i c hb
      cases ha with
      | loc hg =>
        rename_i b
        obtain ⟨e, ws, b1, b2⟩ := h.mr.at_ hb hg
        cases hs : storable v with
        | false => rw [hs] at hx; exact hx.elim
        | true =>
          rw [hs] at hx
          cases hn : Nat.beq (len (cells v)) i.size with
          | false => rw [hn] at hx; exact hx.elim
          | true =>
            rw [hn] at hx
            cases hle : Nat.ble (o + i.size) (len c) with
            | false => rw [hle] at hx; exact hx.elim
            | true =>
              rw [hle] at hx
              have hn := beq_of hn
              have hle := Nat.le_of_ble_eq_true hle
              rw [len_eq] at hn hle
              have hcv := cells_ok hv
              have hcl := hcv.length
              have hl := b2.length
              have hput := b2.put hcv (o := o) (by omega)
              obtain ⟨r1, r2, r3⟩ := h.modify (m := m) (b' := .box (putC c o (cells v))) (p := none) (ob := .cells e (setRange ws o (cellsL wv)) false true none none) hb hg rfl rfl (lent_none fun _ _ => by simp) (fun y hy => by cases hy)
                (fun _ _ _ _ _ _ hq => by cases hq) ⟨e, _, by rw [St.get_put, if_pos rfl], hput⟩
              refine ⟨_, Φ, _, hx, ?_, r1, r2, fun y a => r3 y (a j rfl).1 (a j rfl).2⟩
              simp only [evStore, a1, St.stc, b1]
              rw [show Nat.beq (cellsL wv).length inf.size = true by rw [← hcl, hn, a2]; exact Nat.beq_refl _, show Nat.ble (o + (cellsL wv).length) ws.length = true from ble_of (by omega), storable_all hv hs]
              rfl
    · exact hx.elim
  · rename_i e j ix o
    obtain ⟨Ψ, S1, vs, k1, f1, r1⟩ := frzR_ok (m := m) h hv hx
    split at k1
    · rename_i e' rows hb
      obtain ⟨rfl, row, k2, k3, k4, k5⟩ := k1
      cases ha with
      | ep hg hmk he =>
        rename_i b o0 ln cp s inf'
        have hlt : ix < rows.length := (List.getElem?_eq_some_iff.1 k2).1
        have hbr : ArrR T Ψ σ e' rows _ := f1.sr.mr.at_ hb hg
        rcases hbr with ⟨q, rfl⟩ | ⟨i', s', c, cs, p, q, h1, h2, h3, h4⟩
        · simp at hlt
        · cases q
          obtain ⟨q1, q2, q3, q4⟩ := h4.row he k2
          obtain ⟨inf'', p1, p2, p3⟩ := h4
          obtain rfl : inf' = inf'' := by rw [he] at p1; exact Option.some.inj p1
          have hvl := r1.length
          have hrl : (putC row o vs).length = inf'.size := by
            rw [putC_eq _ _ _ (by omega)]
            simp; omega
          have hlen := p3.length
          rw [len_flat p2] at hlen
          have hcs : rows.length * inf'.size ≤ cs.length := by simp at hlen; omega
          have hmul : ix * inf'.size + inf'.size ≤ rows.length * inf'.size := by rw [← Nat.succ_mul]; exact q4
          have hnew : RowsAt T Ψ e' (rows.set ix (putC row o vs)) (setRange cs (ix * inf'.size + o) (cellsL wv)) 0 := by
            refine ⟨inf', p1, fun r hr => ?_, ?_⟩
            · rcases List.mem_or_eq_of_mem_set hr with hr | rfl
              · exact p2 r hr
              · exact hrl
            · rw [List.length_set]
              have := setRange_at (cs := cs) (vs := cellsL wv) (o := 0) (n := rows.length * inf'.size) (a := ix * inf'.size + o) (by omega) (by omega)
              rw [Nat.zero_add] at this
              rw [this, flat_set p2 k2 hrl, putC_eq _ _ _ (by omega)]
              have hA : LPRel T Ψ (rows.flatten.take (ix * inf'.size)) (((cs.drop 0).take (rows.length * inf'.size)).take (ix * inf'.size)) := p3.take _
              have hrow := flat_row p2 k2
              have hrel : LPRel T Ψ row ((((cs.drop 0).take (rows.length * inf'.size)).drop (ix * inf'.size)).take inf'.size) := by
                have := (p3.drop (ix * inf'.size)).take inf'.size
                rw [hrow] at this; exact this
              generalize hL : (cs.drop 0).take (rows.length * inf'.size) = L at hA hrel p3 ⊢
              have hLl : L.length = rows.length * inf'.size := by rw [← hL]; simp; omega
              have e1 : L.take (ix * inf'.size + o) = L.take (ix * inf'.size) ++ ((L.drop (ix * inf'.size)).take inf'.size).take o := by
                rw [List.take_take, Nat.min_eq_left (by omega), List.take_add]
              have e2 : L.drop (ix * inf'.size + o + (cellsL wv).length) = ((L.drop (ix * inf'.size)).take inf'.size).drop (o + vs.length) ++ L.drop (ix * inf'.size + inf'.size) := by
                rw [← hvl]
                have h5 : L.drop (ix * inf'.size) = (L.drop (ix * inf'.size)).take inf'.size ++ L.drop (ix * inf'.size + inf'.size) := by
                  rw [← List.drop_drop, List.take_append_drop]
                have h6 : L.drop (ix * inf'.size + o + vs.length) = (L.drop (ix * inf'.size)).drop (o + vs.length) := by rw [List.drop_drop, Nat.add_assoc]
                rw [h6, h5, List.drop_append]
                rw [show o + vs.length - ((L.drop (ix * inf'.size)).take inf'.size).length = 0 by simp [hLl]; omega, List.drop_zero]
                rw [← h5]
              rw [e1, e2]
              have := (hA.append ((hrel.take o).append (r1.append ((hrel.drop (o + vs.length)).append (p3.drop (ix * inf'.size + inf'.size))))))
              simp only [List.append_assoc] at this ⊢
              exact this
          obtain ⟨r1', r2', r3'⟩ := f1.sr.modify (m := m) (b' := .arr e' (rows.set ix (putC row o vs))) (p := p) (ob := .cells e' (setRange cs (ix * inf'.size + o) (cellsL wv)) false true none none) hb hg rfl rfl (lent_none fun _ _ => by simp)
            (fun y hy => by subst hy; exact ⟨j, b, _, _, _, _, _, ⟨_, _, hb, hg, rfl⟩, h3⟩) (fun _ _ _ _ _ _ hq => by cases hq)
            (.inr ⟨b, s, cp, _, none, by rw [List.length_set], h1, by rw [List.length_set]; exact h2, by rw [St.get_put, if_pos rfl], hnew⟩)
          refine ⟨_, Ψ, _, k5, ?_, r1', f1.st.trans r2', fun y a => r3' y (fun hq => (a j rfl).1 (f1.ow _ _ hq)) (fun hq => (a j rfl).2 (f1.par hq))⟩
          simp only [evStore, a1, St.stc, Nat.zero_add, h3]
          rw [show Nat.beq (cellsL wv).length inf.size = true by rw [← hvl, k3, a2]; exact Nat.beq_refl _, show Nat.ble (ix * inf'.size + o + (cellsL wv).length) cs.length = true from ble_of (by omega), r1.all_one]
          rfl
    · exact k1.elim
  · exact hx.elim
end Go.Sx
end
section
namespace Go.Sx
open Go.Ev Go.RowKit
variable {X : Sc} {T : Tabs} {Φ Ψ : Fz} {G H : List GB} {S : SS} {M : List Blk} {tm : Tr Value} {σ σ' : St} {m : Nat}
theorem SR.drop (h : SR X T Φ G S tm σ) (j : Nat) : SR X T Φ G ⟨S.t, setAt S.M j .dd⟩ tm σ := ⟨h.tmp, h.mr.drop j, h.ws⟩
theorem Stp.drop (m : Nat) (Φ : Fz) (M : List Blk) (G : List GB) (σ : St) (j : Nat) : Stp m Φ M G σ Φ (setAt M j .dd) G σ :=
  ⟨Fz.le.refl Φ, fun _ _ => rfl, Nat.le_refl _, fun _ _ _ _ => rfl, fun i o a b => (by rw [b] at a; cases a), fun k i hk => .inl ⟨k, (own_dd hk).2⟩, fun i hi => .inl (par_dd hi), fun i hi => lent_set (fun g => by cases g <;> rfl) hi, fun hm => by simp [setAt_eq]; exact hm⟩
theorem SR.mod0 (h : SR X T Φ G S tm σ) {j x : Nat} {b0 : Blk} {g : GB} {ob : AObj} {p : Option Nat} (hj : nth S.M j = some b0) (hg : nth G j = some g) (ho : ownN b0 g = some x) (hp : ∀ y, p = some y → Par S.M G σ y) :
    SR X T Φ G ⟨S.t, setAt S.M j .dd⟩ tm (((σ.kill p).kill none).put x ob) ∧ (((σ.kill p).kill none).put x ob).next = σ.next ∧ (∀ y, y ≠ x → p ≠ some y → (((σ.kill p).kill none).put x ob).get y = σ.get y) ∧
      (((σ.kill p).kill none).put x ob).get x = some ob ∧ (∀ y, Par (setAt S.M j .dd) G (((σ.kill p).kill none).put x ob) y → Par S.M G σ y) := by
  obtain ⟨t, M⟩ := S
  generalize hσ : ((σ.kill p).kill none).put x ob = σ1
  have hown : Own M G j x := ⟨b0, g, hj, hg, ho⟩
  have hsame : ∀ y, y ≠ x → p ≠ some y → σ1.get y = σ.get y := fun y hy hpy => by
    rw [← hσ, St.get_put, if_neg hy]
    exact St.get_kill_ne σ p y hpy
  have hx1 : σ1.get x = some ob := by rw [← hσ, St.get_put, if_pos rfl]
  have hnext : σ1.next = σ.next := by rw [← hσ]; exact St.next_kill σ p
  have hkeep : ∀ y, ((∃ k, Own (setAt M j .dd) G k y) ∨ Lent (setAt M j .dd) G y) → σ1.get y = σ.get y := by
    intro y hy
    refine hsame y (fun e => ?_) (fun e => ?_)
    · subst e
      rcases hy with ⟨k, hy⟩ | hy
      · obtain ⟨a, b⟩ := own_dd hy
        exact a (h.mr.inj _ _ y b hown)
      · exact (h.mr.lent y (lent_set (fun g => by cases g <;> rfl) hy)).1 j hown
    · obtain ⟨a, b, c, d⟩ := h.mr.par y (hp y e)
      rcases hy with ⟨k, hy⟩ | hy
      · exact b k (own_dd hy).2
      · exact c (lent_set (fun g => by cases g <;> rfl) hy)
  have hm1 : MR T Φ (setAt M j .dd) G σ1 := (h.mr.drop j).change (by rw [hnext]; exact Nat.le_refl _) hkeep
  refine ⟨⟨h.tmp, hm1, h.ws.change (fun i o e => ?_) fun i o e => hsame i (fun q => by subst q; rw [(h.mr.own j i hown).1] at e; cases e) (fun q => by rw [(h.mr.par i (hp i q)).1] at e; cases e)⟩, hnext, hsame, hx1,
    fun y hy => par_dd ((Par.congr fun k z hz => hkeep z (.inl ⟨k, hz⟩)).1 hy)⟩
  rw [hnext]
  by_cases hi : i = x
  · rw [hi]; exact (h.mr.own j x hown).2
  · rw [← hσ, St.get_put, if_neg hi] at e
    obtain ⟨o', e'⟩ := kill_some (p := p) e
    exact h.ws.dom i o' e'
theorem len_snoc {α : Type} (l : List α) (x : α) : (snoc l x).length = l.length + 1 := by rw [snoc_eq]; simp
theorem SR.readd (h : SR X T Φ G S tm σ) {j x : Nat} {b0 b' : Blk} {g g' : GB} {ob : AObj} {p : Option Nat} (hj : nth S.M j = some b0) (hg : nth G j = some g) (ho : ownN b0 g = some x) (hp : ∀ y, p = some y → Par S.M G σ y)
    (ho' : ownN b' g' = some x) (hl : ∀ g, lentN b' g = none) (hob : ∀ e cs ro l y k, ob = .cells e cs ro l (some y) k → Par S.M G σ y) (hb : BR T Φ (snoc G g') (((σ.kill p).kill none).put x ob) b' g') (hm : m ≤ S.M.length) :
    SR X T Φ (snoc G g') ((S.setB j .dd).addB b') tm (((σ.kill p).kill none).put x ob) ∧ Stp m Φ S.M G σ Φ ((S.setB j .dd).addB b').M (snoc G g') (((σ.kill p).kill none).put x ob) ∧ (∀ y, ¬ Own S.M G j y → ¬ Par S.M G σ y → (((σ.kill p).kill none).put x ob).get y = σ.get y) := by
  obtain ⟨h1, h2, h3, h4, h5⟩ := h.mod0 (ob := ob) hj hg ho hp
  obtain ⟨t, M⟩ := S
  generalize hσ : ((σ.kill p).kill none).put x ob = σ1 at h1 h2 h3 h4 h5 hb ⊢
  have hown : Own M G j x := ⟨b0, g, hj, hg, ho⟩
  have hlent : ∀ y, Lent (setAt M j .dd) G y → Lent M G y := fun y hy => lent_set (fun g => by cases g <;> rfl) hy
  have hadd := h1.mr.add (b := b') (g := g') hb hl fun z hz => by
    rw [ho'] at hz; cases hz
    refine ⟨(h.mr.own j x hown).1, by rw [h2]; exact (h.mr.own j x hown).2, fun k a => (own_dd a).1 (h.mr.inj _ _ x (own_dd a).2 hown), fun a => (h.mr.lent x (hlent x a)).1 j hown,
      fun a => (h.mr.par x (h5 x a)).2.1 j hown, fun e cs ro l y k q => ?_⟩
    rw [h4] at q
    cases q
    obtain ⟨a, b, c, d⟩ := h.mr.par y (hob _ _ _ _ _ _ rfl)
    exact ⟨a, fun k q => b k (own_dd q).2, fun q => c (hlent y q), fun e => by subst e; exact b j hown, by rw [h2]; exact d⟩
  refine ⟨⟨h1.tmono (Fz.le.refl Φ) (Gle.snoc G g'), hadd, h1.ws⟩, ?_, fun y a b => h3 y (fun e => a (e ▸ hown)) (fun e => b (hp y e))⟩
  refine ⟨Fz.le.refl Φ, gh_snoc g' (by rw [← h.mr.len]; exact hm), by rw [h2]; exact Nat.le_refl _, fun i _ a b => h3 i (fun q => by subst q; exact a j hown) (fun q => b (hp i q)), fun i o a b => (by rw [b] at a; cases a), fun k i hk => ?_, fun i hi => ?_,
    fun i hi => hlent i (lent_snoc h1.mr.len hl hi), fun hm => by have hm : m ≤ M.length := hm; simp only [SS.setB, SS.addB]; rw [len_snoc, setAt_eq]; simp; omega⟩
  · rcases own_snoc h1.mr.len hk with a | ⟨_, a⟩
    · exact .inl ⟨k, (own_dd a).2⟩
    · rw [ho'] at a; cases a; exact .inl ⟨j, hown⟩
  · obtain ⟨k, z, e, cs, ro, l, k', a, q⟩ := hi
    rcases own_snoc h1.mr.len a with a | ⟨_, a⟩
    · exact .inl (h5 i ⟨k, z, e, cs, ro, l, k', a, q⟩)
    · rw [ho'] at a; cases a
      rw [h4] at q
      cases q
      exact .inl (hob _ _ _ _ _ _ rfl)
theorem SR.addNil (h : SR X T Φ G S tm σ) (hm : m ≤ S.M.length) (e : TypeId) :
    SR X T Φ (snoc G (.sl (.slice none 0 0))) (S.addB (.arr e [])) tm σ ∧ Stp m Φ S.M G σ Φ (S.addB (.arr e [])).M (snoc G (.sl (.slice none 0 0))) σ := by
  obtain ⟨t, M⟩ := S
  have hl : ∀ g, lentN (.arr e []) g = none := lent_none fun _ _ => by simp
  have hadd := h.mr.add (b := .arr e []) (g := .sl (.slice none 0 0)) (.inl ⟨rfl, rfl⟩) hl fun z hz => by cases hz
  refine ⟨⟨h.tmono (Fz.le.refl Φ) (Gle.snoc G _), hadd, h.ws⟩, ?_⟩
  refine ⟨Fz.le.refl Φ, gh_snoc _ (by rw [← h.mr.len]; exact hm), Nat.le_refl _, fun i _ _ _ => rfl, fun i o a b => (by rw [b] at a; cases a), fun k i hk => ?_, fun i hi => ?_, fun i hi => lent_snoc h.mr.len hl hi, fun hm => by simp only [SS.addB]; rw [len_snoc]; exact Nat.le_succ_of_le hm⟩
  · rcases own_snoc h.mr.len hk with a | ⟨_, a⟩
    · exact .inl ⟨k, a⟩
    · cases a
  · obtain ⟨k, z, e, cs, ro, l, k', a, q⟩ := hi
    rcases own_snoc h.mr.len a with a | ⟨_, a⟩
    · exact .inl ⟨k, z, e, cs, ro, l, k', a, q⟩
    · cases a
theorem os_new (hl : S.M.length = G.length) {a : Option Addr} {n c : Nat} : VR T Φ (snoc G (.sl (.slice a n c))) (.os (len S.M)) (.slice a n c) := .os (by rw [nth_snoc, if_pos (by rw [len_eq, hl])])
theorem LPRel.all_oneV {c : List PV} {ws : List Value} (h : LPRel T Φ c ws) : ws.all oneV = true := h.all_one
theorem goApp_ok (h : SR X T Φ G S tm σ) (hm : m ≤ S.M.length) {e : TypeId} {ei : TI} {inf : TypeInfo} (he : T.info e = some inf) (hsz : inf.size = ei.size) (hby : inf.bytes = ei.bytes) {s : SV} {w : Value} (hv : VR T Φ G s w)
    {rows : List (List PV)} {news : List Value} (hz : ∀ r ∈ rows, r.length = inf.size) (hn : LPRel T Φ rows.flatten news) {K : SS → SV → Prop} (hx : goApp S s e ei rows K) :
    ∃ v' w' σ' G' S', K S' v' ∧ σ.app e inf.size inf.bytes w rows.length news = some (w', σ') ∧ SR X T Φ G' S' tm σ' ∧ VR T Φ G' v' w' ∧ Stp m Φ S.M G σ Φ S'.M G' σ' ∧ (∀ y, y < σ.next → (∀ j, tj s = some j → ¬ Own S.M G j y ∧ ¬ Par S.M G σ y) → σ'.get y = σ.get y) := by
  have hpush : ∀ (ob : AObj) (y : Nat), y < σ.next → (σ.push ob).get y = σ.get y := fun ob y hy => by rw [St.get_push, if_neg (by omega)]
  have hnl : news.length = rows.length * inf.size := by rw [← hn.length, len_flat hz]
  unfold goApp at hx
  split at hx
  · obtain ⟨hb, hk⟩ := hx
    cases hv
    cases hr : rows with
    | nil =>
      subst hr
      obtain ⟨a, b⟩ := h.addNil (m := m) hm e
      exact ⟨_, _, _, _, _, hk, rfl, a, os_new h.mr.len, b, fun _ _ _ => rfl⟩
    | cons r rs =>
      have hrow : RowsAt T Φ e rows news 0 := ⟨inf, he, hz, by rw [List.drop_zero, List.take_of_length_le (by omega)]; exact hn⟩
      obtain ⟨b1, b2, b3⟩ := push_arr (m := m) (s := some 0) (c := rows.length) h hm (by rfl) (Nat.le_refl _) hrow
      refine ⟨_, _, _, _, _, hk, ?_, b1, b3, b2, fun y hy _ => hpush _ y hy⟩
      have hl : rows.length = rs.length + 1 := by rw [hr]; rfl
      rw [← hr, hl]
      simp only [St.app]
      rw [show Nat.ble ((rs.length + 1) * inf.bytes) maxRoom = true from ble_of (by rw [← hl, hby]; exact hb)]
      rfl
  · rename_i j
    split at hx
    · rename_i e' old hb
      obtain ⟨rfl, hroom, hk⟩ := hx
      cases hv with
      | os hg =>
        rename_i n0 c0 a0
        have hbr : ArrR T Φ σ e' old _ := h.mr.at_ hb hg
        have hmd : m ≤ (setAt S.M j Blk.dd).length := by rw [setAt_eq]; simpa using hm
        rcases hbr with ⟨q, hold⟩ | ⟨i, sp, c, cs, p, q, h1, h2, h3, inf', h4, h5, h6⟩
        · cases q
          subst hold
          have hd := h.drop j
          cases hr : rows with
          | nil =>
            subst hr
            obtain ⟨a, b⟩ := hd.addNil (m := m) hmd e'
            refine ⟨_, _, _, _, _, hk, rfl, a, ?_, (Stp.drop m Φ S.M G σ j).trans b, fun _ _ _ => rfl⟩
            have := os_new (T := T) (Φ := Φ) (S := ⟨S.t, setAt S.M j .dd⟩) (G := G) hd.mr.len (a := none) (n := 0) (c := 0)
            simpa [setAt_eq, len_eq] using this
          | cons r rs =>
            have hrow : RowsAt T Φ e' rows news 0 := ⟨inf, he, hz, by rw [List.drop_zero, List.take_of_length_le (by omega)]; exact hn⟩
            obtain ⟨b1, b2, b3⟩ := push_arr (m := m) (s := some 0) (c := rows.length) hd hmd (by rfl) (Nat.le_refl _) hrow
            have hl : rows.length = rs.length + 1 := by rw [hr]; rfl
            refine ⟨_, .slice (some ⟨σ.next, 0, some 0⟩) rows.length rows.length, _, _, _, hk, ?_, b1, ?_, (Stp.drop m Φ S.M G σ j).trans b2, fun y hy _ => hpush _ y hy⟩
            · rw [← hr, hl]
              simp only [St.app]
              rw [show Nat.ble ((rs.length + 1) * inf.bytes) maxRoom = true from ble_of (by rw [← hl, hby]; have : rows.length * ei.bytes ≤ 140737488355328 := (by simpa using hroom); exact this)]
              rfl
            · simpa [setAt_eq, len_eq] using b3
        · cases q
          obtain rfl : inf = inf' := by rw [he] at h4; exact Option.some.inj h4
          have hown : Own S.M G j i := ⟨_, _, hb, hg, rfl⟩
          have hpar : ∀ y, p = some y → Par S.M G σ y := fun y hy => by subst hy; exact ⟨j, i, _, _, _, _, _, hown, h3⟩
          have hol := h6.length
          rw [len_flat h5] at hol
          have hcs : old.length * inf.size ≤ cs.length := by simp at hol; omega
          have hlM : len S.M = len (setAt S.M j Blk.dd) := by rw [len_eq, len_eq, setAt_eq]; simp
          have hall : ∀ r ∈ old ++ rows, r.length = inf.size := fun r hr => by
            rcases List.mem_append.1 hr with hr | hr
            · exact h5 r hr
            · exact hz r hr
          have hmul : (old.length + rows.length) * inf.size = old.length * inf.size + news.length := by rw [Nat.add_mul, hnl]
          cases hr : rows with
          | nil =>
            subst hr
            have hnews : news = [] := List.length_eq_zero_iff.1 (by simpa using hnl)
            subst hnews
            have hself : ((σ.kill none).kill none).put i (.cells e' cs false true p none) = σ.put i (.cells e' cs false true p none) := rfl
            obtain ⟨r1, r2⟩ : SR X T Φ (snoc G (.sl (.slice (some ⟨i, 0, sp⟩) old.length c0))) ((S.setB j .dd).addB (.arr e' (old ++ []))) tm σ ∧ Stp m Φ S.M G σ Φ ((S.setB j .dd).addB (.arr e' (old ++ []))).M (snoc G (.sl (.slice (some ⟨i, 0, sp⟩) old.length c0))) σ := by
              obtain ⟨t, M⟩ := S
              have hd := h.drop j
              have hlent : ∀ y, Lent (setAt M j .dd) G y → Lent M G y := fun y hy => lent_set (fun g => by cases g <;> rfl) hy
              have hl : ∀ g, lentN (.arr e' (old ++ [])) g = none := lent_none fun _ _ => by simp
              have hadd := hd.mr.add (b := .arr e' (old ++ [])) (g := .sl (.slice (some ⟨i, 0, sp⟩) old.length c0)) (.inr ⟨i, sp, c0, cs, p, by simp, h1, by simpa using h2, h3, inf, he, by simpa using h5, by simpa using h6⟩) hl fun z hz => by
                cases hz
                refine ⟨(h.mr.own j i hown).1, (h.mr.own j i hown).2, fun k a => (own_dd a).1 (h.mr.inj _ _ i (own_dd a).2 hown), fun a => (h.mr.lent i (hlent i a)).1 j hown, fun a => (h.mr.par i (par_dd a)).2.1 j hown, fun e cs ro l y k q => ?_⟩
                rw [h3] at q
                cases q
                obtain ⟨a, b, c, d⟩ := h.mr.par y (hpar y rfl)
                exact ⟨a, fun k q => b k (own_dd q).2, fun q => c (hlent y q), fun e => by subst e; exact b j hown, d⟩
              refine ⟨⟨hd.tmono (Fz.le.refl Φ) (Gle.snoc G _), hadd, h.ws⟩, ?_⟩
              refine ⟨Fz.le.refl Φ, gh_snoc _ (by rw [← h.mr.len]; exact hm), Nat.le_refl _, fun i _ _ _ => rfl, fun i o a b => (by rw [b] at a; cases a), fun k z hk => ?_, fun y hy => ?_, fun i hi => hlent i (lent_snoc hd.mr.len hl hi), fun hm => by have hm : m ≤ M.length := hm; simp only [SS.setB, SS.addB]; rw [len_snoc, setAt_eq]; simp; omega⟩
              · rcases own_snoc hd.mr.len hk with a | ⟨_, a⟩
                · exact .inl ⟨k, (own_dd a).2⟩
                · cases a; exact .inl ⟨j, hown⟩
              · obtain ⟨k, z, e, cs', ro, l, k', a, q⟩ := hy
                rcases own_snoc hd.mr.len a with a | ⟨_, a⟩
                · exact .inl (par_dd ⟨k, z, e, cs', ro, l, k', a, q⟩)
                · cases a
                  exact .inl ⟨j, i, e, cs', ro, l, k', hown, q⟩
            refine ⟨_, .slice (some ⟨i, 0, sp⟩) old.length c0, _, _, _, hk, rfl, r1, ?_, r2, fun _ _ _ => rfl⟩
            refine .os ?_
            rw [nth_snoc, if_pos (by rw [len_eq, h.mr.len])]
          | cons r rs =>
            have hl : rows.length = rs.length + 1 := by rw [hr]; rfl
            have hroomb : Nat.ble ((old.length + (rs.length + 1)) * inf.bytes) maxRoom = true := ble_of (by rw [← hl, hby]; exact hroom)
            have hld : σ.ld i 0 (old.length * inf.size) = some (cs.take (old.length * inf.size)) := by
              have := ld_of (o := 0) (n := old.length * inf.size) h3 (.inl (by omega))
              simpa using this
            have hrel : LPRel T Φ (old ++ rows).flatten (cs.take (old.length * inf.size) ++ news) := by
              rw [List.flatten_append]
              exact (by simpa using h6 : LPRel T Φ old.flatten (cs.take (old.length * inf.size))).append hn
            have hrowN : RowsAt T Φ e' (old ++ rows) (cs.take (old.length * inf.size) ++ news) 0 := by
              refine ⟨inf, he, hall, ?_⟩
              rw [List.drop_zero, List.length_append, List.take_of_length_le (by rw [List.length_append, List.length_take, hmul]; omega)]
              exact hrel
            cases hcase : (sp.isNone && Nat.blt c0 (old.length + (rs.length + 1))) with
            | true =>
              have hd := h.drop j
              obtain ⟨b1, b2, b3⟩ := push_arr (m := m) (s := some 0) (c := (old ++ rows).length) hd hmd (by rfl) (Nat.le_refl _) hrowN
              refine ⟨_, .slice (some ⟨σ.next, 0, some 0⟩) (old ++ rows).length (old ++ rows).length, _, _, _, hk, ?_, b1, ?_, (Stp.drop m Φ S.M G σ j).trans b2, fun y hy _ => hpush _ y hy⟩
              · rw [← hr, hl]
                simp only [St.app, h1, hroomb, hcase, hld]
                simp [hl]
              · rw [hlM]; exact b3
            | false =>
              have hbb : (Nat.beq 0 0 && Nat.beq e' e') = true := by simp
              cases hfit : (Nat.ble (old.length + (rs.length + 1)) c0 && Nat.ble (old.length * inf.size + news.length) cs.length) with
              | true =>
                simp only [Bool.and_eq_true] at hfit
                have hf1 := Nat.le_of_ble_eq_true hfit.1
                have hf2 := Nat.le_of_ble_eq_true hfit.2
                have hnew : RowsAt T Φ e' (old ++ rows) (setRange cs (old.length * inf.size) news) 0 := by
                  refine ⟨inf, he, hall, ?_⟩
                  have hset : setRange cs (old.length * inf.size) news = cs.take (old.length * inf.size) ++ (news ++ cs.drop (old.length * inf.size + news.length)) := rfl
                  rw [List.drop_zero, List.length_append, hmul, hset, ← List.append_assoc, List.take_append, List.take_of_length_le (by rw [List.length_append, List.length_take]; omega)]
                  rw [show old.length * inf.size + news.length - (cs.take (old.length * inf.size) ++ news).length = 0 by rw [List.length_append, List.length_take]; omega]
                  simpa using hrel
                obtain ⟨r1, r2, r3⟩ := h.readd (m := m) (b' := .arr e' (old ++ rows)) (g' := .sl (.slice (some ⟨i, 0, sp⟩) (old ++ rows).length c0)) (p := p) (ob := .cells e' (setRange cs (old.length * inf.size) news) false true none none) hb hg rfl hpar rfl (lent_none fun _ _ => by simp)
                  (fun _ _ _ _ _ _ hq => by cases hq) (.inr ⟨i, sp, c0, _, none, rfl, h1, by rw [List.length_append, hl]; exact hf1, by rw [St.get_put, if_pos rfl], hnew⟩) hm
                refine ⟨_, .slice (some ⟨i, 0, sp⟩) (old ++ rows).length c0, _, _, _, hk, ?_, r1, ?_, r2, fun y _ a => r3 y (a j rfl).1 (a j rfl).2⟩
                · rw [← hr, hl]
                  simp only [St.app, h1, hroomb, hcase, h3, hbb]
                  rw [show (Nat.ble (old.length + (rs.length + 1)) c0 && Nat.ble (old.length * inf.size + news.length) cs.length) = true by rw [hfit.1, hfit.2]; rfl]
                  simp only [St.stc, h3]
                  rw [hfit.2, hn.all_one]
                  simp [hl]
                · refine .os ?_
                  rw [nth_snoc, if_pos (by rw [len_eq, h.mr.len])]
              | false =>
                have htk : takeN (old.length * inf.size) cs = some (cs.take (old.length * inf.size)) := takeN_eq hcs
                have fin : ∀ (ob obn : AObj) , (∀ e cs ro l y k, ob ≠ .cells e cs ro l (some y) k) → (obn = .cells e' (cs.take (old.length * inf.size) ++ news) false true (some i) none ∨ obn = .cells e' (cs.take (old.length * inf.size) ++ news) false true none none) →
                    σ.fork i e' cs p none (cs.take (old.length * inf.size)) news = (((σ.kill p).kill none).put i ob).push obn →
                    ∃ v' w' σ' G' S', K S' v' ∧ σ.app e' inf.size inf.bytes (.slice (some ⟨i, 0, sp⟩) old.length c0) (r :: rs).length news = some (w', σ') ∧ SR X T Φ G' S' tm σ' ∧ VR T Φ G' v' w' ∧ Stp m Φ S.M G σ Φ S'.M G' σ' ∧ (∀ y, y < σ.next → (∀ k, tj (.os j) = some k → ¬ Own S.M G k y ∧ ¬ Par S.M G σ y) → σ'.get y = σ.get y) := by
                  intro ob obn hob hobn hfork
                  obtain ⟨q1, q2, q3, q4, q5⟩ := h.mod0 (ob := ob) hb hg rfl hpar
                  generalize hσ1 : ((σ.kill p).kill none).put i ob = σ1 at q1 q2 q3 q4 q5 hfork
                  have hlent : ∀ y, Lent (setAt S.M j .dd) G y → Lent S.M G y := fun y hy => lent_set (fun g => by cases g <;> rfl) hy
                  have hget : (σ1.push obn).get σ1.next = some obn := by rw [St.get_push, if_pos rfl]
                  have hbr' : BR T Φ (snoc G (.sl (.slice (some ⟨σ1.next, 0, some 0⟩) (old ++ rows).length (old ++ rows).length))) (σ1.push obn) (.arr e' (old ++ rows)) (.sl (.slice (some ⟨σ1.next, 0, some 0⟩) (old ++ rows).length (old ++ rows).length)) := by
                    rcases hobn with rfl | rfl
                    · exact .inr ⟨σ1.next, some 0, _, _, some i, rfl, rfl, Nat.le_refl _, hget, hrowN⟩
                    · exact .inr ⟨σ1.next, some 0, _, _, none, rfl, rfl, Nat.le_refl _, hget, hrowN⟩
                  obtain ⟨s1, s2⟩ := q1.push0 (b := .arr e' (old ++ rows)) (fun x hx => by cases hx; rfl) (lent_none fun _ _ => by simp) hbr' (fun e cs ro l y k hq => by
                    have : y = i := by
                      rcases hobn with rfl | rfl
                      · cases hq; rfl
                      · cases hq
                    subst this
                    exact ⟨(h.mr.own j y hown).1, fun k a => (own_dd a).1 (h.mr.inj _ _ y (own_dd a).2 hown), fun a => (h.mr.lent y (hlent y a)).1 j hown, by rw [q2]; exact (h.mr.own j y hown).2⟩)
                  refine ⟨_, .slice (some ⟨σ1.next, 0, some 0⟩) (old ++ rows).length (old ++ rows).length, _, _, _, hk, ?_, s1, ?_, ?_, fun y hy a => ?_⟩
                  · rw [← hr, hl]
                    simp only [St.app, h1, hroomb, hcase, h3, hbb]
                    rw [hfit]
                    simp only [Bool.not_false, Bool.and_self, cond_true, cond_false, htk, hn.all_one, hfork]
                    rw [← q2]
                    simp [hl]
                  · refine .os ?_
                    rw [nth_snoc, if_pos (by rw [len_eq, h.mr.len])]
                  · refine ⟨Fz.le.refl Φ, gh_snoc _ (by rw [← h.mr.len]; exact hm), by rw [St.next_push, q2]; exact Nat.le_succ _, fun x hx a b => ?_, fun i o a b => (by rw [b] at a; cases a), fun k x hx => ?_, fun x hx => ?_, fun x hx => hlent x (lent_snoc q1.mr.len (lent_none fun _ _ => by simp) hx), fun hm => by simp only [SS.setB, SS.addB]; rw [len_snoc, setAt_eq]; simp; omega⟩
                    · rw [St.get_push, if_neg (by omega)]
                      exact q3 x (fun q => by subst q; exact a j hown) (fun q => b (hpar x q))
                    · rcases own_snoc q1.mr.len hx with a | ⟨_, a⟩
                      · exact .inl ⟨k, (own_dd a).2⟩
                      · cases a; exact .inr (by rw [q2]; exact Nat.le_refl _)
                    · rcases s2 x hx with a | ⟨e, cs, ro, l, k, a⟩
                      · exact .inl (q5 x a)
                      · rcases hobn with rfl | rfl
                        · cases a; exact .inr (.inl ⟨j, hown⟩)
                        · cases a
                  · rw [St.get_push, if_neg (by omega)]
                    exact q3 y (fun e => (a j rfl).1 (e ▸ hown)) (fun e => (a j rfl).2 (hpar y e))
                unfold St.fork at fin
                cases hbl : Nat.beq (cs.take (old.length * inf.size)).length cs.length with
                | true => exact fin (.cells e' cs false true none (some σ.next)) _ (fun _ _ _ _ _ _ hq => by cases hq) (.inl rfl) (by rw [hbl]; rfl)
                | false => exact fin (.cells e' cs false false none none) _ (fun _ _ _ _ _ _ hq => by cases hq) (.inr rfl) (by rw [hbl]; rfl)
    · exact hx.elim
  · exact hx.elim
end Go.Sx
end
section
namespace Go.Sx
open Go.Ev Go.RowKit
variable {X : Sc} {T : Tabs} {Φ Ψ : Fz} {G H : List GB} {S : SS} {M : List Blk} {tm : Tr Value} {σ σ' : St} {m : Nat}
theorem src_of {i o n sz c : Nat} {s : Option Nat} {e : TypeId} {cs : List Value} {ro : Bool} {p k : Option Nat} (h : σ.get i = some (.cells e cs ro true p k)) (hn : o + n * sz ≤ cs.length ∨ n * sz = 0) :
    σ.src sz (.slice (some ⟨i, o, s⟩) n c) = some (n, (cs.drop o).take (n * sz)) := by
  cases n with
  | zero => simp [St.src]
  | succ n => simp only [St.src]; rw [ld_of h hn]
theorem srcRows_ok (h : SR X T Φ G S tm σ) {e : TypeId} {inf : TypeInfo} (he : T.info e = some inf) {x : SV} {w : Value} (hv : VR T Φ G x w) {K : List (List PV) → Prop} (hx : srcRows S e x K) :
    ∃ rows news, K rows ∧ σ.src inf.size w = some (rows.length, news) ∧ LPRel T Φ rows.flatten news ∧ ∀ r ∈ rows, r.length = inf.size := by
  have ofRo : ∀ {rows : List (List PV)} {w : Value}, RoR T Φ σ e rows w → ∃ news, σ.src inf.size w = some (rows.length, news) ∧ LPRel T Φ rows.flatten news ∧ ∀ r ∈ rows, r.length = inf.size := by
    intro rows w hr
    rcases hr with ⟨rfl, rfl⟩ | ⟨b, o, rfl, rfl⟩ | ⟨i, o, s, c, cs, ro, p, k, rfl, a1, a2, a3, inf', b1, b2, b3⟩
    · exact ⟨[], rfl, .nil, fun r hr => by cases hr⟩
    · exact ⟨[], by simp [St.src], .nil, fun r hr => by cases hr⟩
    · obtain rfl : inf' = inf := by rw [he] at b1; exact (Option.some.inj b1).symm
      have hl := b3.length
      rw [len_flat b2] at hl
      refine ⟨_, src_of a3 ?_, b3, b2⟩
      simp at hl; omega
  unfold srcRows at hx
  split at hx
  · rename_i e' rows
    obtain ⟨rfl, hk⟩ := hx
    cases hv with
    | p hp =>
      obtain ⟨news, q⟩ := ofRo (rows := rows) (w := w) (by
        cases hp with
        | nil => exact .inl ⟨rfl, rfl⟩
        | emp => exact .inr (.inl ⟨_, _, rfl, rfl⟩)
        | sl a b c d f g k => subst g; exact .inr (.inr ⟨_, _, _, _, _, _, _, _, rfl, b, k, h.ws.phi _ _ a, _, c, d, f⟩))
      exact ⟨rows, news, hk, q⟩
  · cases hv
    exact ⟨[], [], hx, rfl, .nil, fun r hr => by cases hr⟩
  · rename_i j
    cases hv with
    | os hg =>
      obtain ⟨e', rows, ⟨rfl, hk⟩, k2⟩ := rows_ok h.ws h.mr hg hx
      obtain ⟨news, q⟩ := ofRo k2
      exact ⟨rows, news, hk, q⟩
  · rename_i e' j o n
    cases hv with
    | ss hg h1 h2 h3 =>
      rename_i c i o0 ln cp s inf'
      obtain ⟨e'', rows, ⟨rfl, rfl, hle, hk⟩, k2⟩ := rows_ok h.ws h.mr hg hx
      obtain rfl : inf' = inf := by rw [he] at h2; exact (Option.some.inj h2).symm
      by_cases hn : n = 0
      · subst hn
        exact ⟨_, [], hk, by simp [St.src], by simp; exact .nil, fun r hr => by simp at hr⟩
      · rcases k2 with ⟨k2, rfl⟩ | ⟨_, _, k2, rfl⟩ | ⟨i', o', s', c'', cs, ro, p, k', k2, k3, k4, k5, inf'', k6, k7, k8⟩
        · simp at hle; omega
        · simp at hle; omega
        · cases k2
          obtain rfl : inf' = inf'' := by rw [he] at k6; exact Option.some.inj k6
          obtain ⟨q1, q2, q3⟩ := LPRel.rowsPart k7 k8 (l := o) (n := n) hle
          have hl := q3.length
          rw [len_flat q1, q2] at hl
          refine ⟨_, _, hk, ?_, q3, q1⟩
          rw [q2]
          refine src_of k5 ?_
          simp at hl; omega
  · exact hx.elim
theorem xappend_ok (hX : X.Good T) (h : SR X T Φ G S tm σ) (hm : m ≤ S.M.length) {t u : TypeId} {s x : SV} {ws wx : Value} (hs : VR T Φ G s ws) (hv : VR T Φ G x wx) {K : SS → SV → Prop} (hx : xappend X S t u s x K) :
    ∃ v' w' σ' G' S', K S' v' ∧ evAppend T σ t u ws wx = some (w', σ') ∧ SR X T Φ G' S' tm σ' ∧ VR T Φ G' v' w' ∧ Stp m Φ S.M G σ Φ S'.M G' σ' ∧ (∀ y, y < σ.next → (∀ j, tj s = some j → ¬ Own S.M G j y ∧ ¬ Par S.M G σ y) → σ'.get y = σ.get y) := by
  unfold xappend at hx
  obtain ⟨e, ei, hx, he, hei⟩ := slElem_ok hX hx
  obtain ⟨inf, a1, a2, a3, a4⟩ := hei.info
  split at hx
  · rename_i ui z hui hz
    obtain ⟨zv, z1, z2⟩ := a4 z hz
    obtain ⟨d, b1, b2, b3, b4, b5, _⟩ := (hX _ _ hui).und
    cases hby : Nat.blt 0 ei.bytes with
    | false => rw [hby] at hx; exact hx.elim
    | true =>
      rw [hby] at hx
      simp only [cond_true] at hx
      have hzl : (cellsL zv).length = inf.size := by
        have := zeroOk_eq z1
        have h5 : zv.cells.toList = cellsL zv := by cases zv <;> rfl
        rw [← h5]; simp [this.2.1]
      split at hx
      · rename_i ik' el' hik
        have hisI : isInt (T.und u) = true := by
          rw [b1]
          rw [hik] at b5
          unfold intK at b5
          split at b5
          · rename_i heq; rw [heq]; rfl
          · cases b5
        cases hpz : pureL z with
        | none =>
          rw [hpz] at hx
          split at hx
          · exact absurd ‹none = some _› (by simp)
          · exact hx.elim
        | some zz =>
        rw [hpz] at hx
        split at hx
        · obtain rfl := Option.some.inj ‹some zz = some _›
          obtain ⟨q, rfl, hroom, hx⟩ := hx
          have hzr := pureL_ok hpz (z2 Φ G)
          rw [hv.int_inv]
          obtain ⟨v', w', σ', G', S', k1, k2, k3, k4, k5, k6⟩ := goApp_ok h hm a1 a2 a3 hs (rows := List.replicate q zz) (news := repL q (cellsL zv)) (fun r hr => by rw [List.eq_of_mem_replicate hr, hzr.length, hzl]) (hzr.rep q) hx
          refine ⟨v', w', σ', G', S', k1, ?_, k3, k4, k5, k6⟩
          simp only [evAppend, he, a1, z1, hisI]
          rw [show Nat.blt 0 inf.bytes = true by rw [a3]; exact hby, show Nat.ble (q * inf.bytes) maxRoom = true from ble_of (by rw [a3]; exact hroom)]
          simp only [List.length_replicate] at k2
          exact k2
        · exact hx.elim
      · rename_i e' hik hel
        cases hee : Nat.beq e' e with
        | false => rw [hee] at hx; exact hx.elim
        | true =>
          rw [hee] at hx
          obtain rfl := beq_of hee
          obtain ⟨rows, news, hx, q1, q2, q3⟩ := srcRows_ok h a1 hv hx
          obtain ⟨v', w', σ', G', S', k1, k2, k3, k4, k5, k6⟩ := goApp_ok h hm a1 a2 a3 hs q3 q2 hx
          refine ⟨v', w', σ', G', S', k1, ?_, k3, k4, k5, k6⟩
          have hisI : isInt (T.und u) = false := by
            rw [b1]
            rw [hik] at b5
            unfold intK at b5
            split at b5
            · cases b5
            · rename_i hn
              unfold isInt
              split
              · rename_i heq; exact absurd heq (hn _)
              · rfl
          have hsrc : srcOk e' (T.und u) = true := by
            rw [b1]
            rw [hel] at b3
            unfold sliceElem at b3
            split at b3
            · rename_i heq; cases b3; rw [heq]; exact Nat.beq_refl _
            · cases b3
          simp only [evAppend, he, a1, z1, hisI, hsrc, q1]
          rw [show Nat.blt 0 inf.bytes = true by rw [a3]; exact hby]
          exact k2
      · exact hx.elim
  · exact hx.elim
def Evt (C : Cx) (f : FuncId) (ws : List Value) (σ : St) (w : Value) (σ' : St) : Prop := ∃ K, ∀ k, K ≤ k → evFn C k f ws σ = some (w, σ')
def PC (C : Cx) (X : Sc) : Ctr := fun f M as R => C.ext f = none ∧
  ∀ (Φ : Fz) (G : List GB) (σ : St) (ws : List Value), WS X C.T Φ σ → MR C.T Φ M G σ → LVR C.T Φ G as ws →
    ∃ w σ' Ψ G' M' r, R M' r ∧ Stp M.length Φ M G σ Ψ M' G' σ' ∧ WS X C.T Ψ σ' ∧ MR C.T Ψ M' G' σ' ∧ VR C.T Ψ G' r w ∧ Evt C f ws σ w σ'
mutual
theorem VR.toClosed : ∀ {v : SV} {w : Value}, closed v = true → VR T Φ G v w → VR T Φ H v w
  | _, _, _, .p a => .p a
  | _, _, _, .agp a => .agp a
  | _, _, hc, .ag a => .ag (LVR.toClosed hc a)
  | _, _, hc, .tu a => .tu (LVR.toClosed hc a)
  | _, _, hc, .loc _ => by cases hc
  | _, _, _, .nl e => .nl e
  | _, _, hc, .os _ => by cases hc
  | _, _, hc, .ss _ _ _ _ => by cases hc
  | _, _, hc, .ep _ _ _ => by cases hc
  | _, _, _, .fp a b => .fp a b
  | _, _, hc, .fn a => .fn (LVR.toClosed hc a)
  | _, _, _, .un => .un
theorem LVR.toClosed : ∀ {l : List SV} {ws : List Value}, closedL l = true → LVR T Φ G l ws → LVR T Φ H l ws
  | _, _, _, .nil => .nil
  | v :: _, _, hc, .cons a b => by
    unfold closedL at hc
    cases hv : closed v with
    | false => rw [hv] at hc; cases hc
    | true => rw [hv] at hc; exact .cons (VR.toClosed hv a) (LVR.toClosed hc b)
end
end Go.Sx
end
section
namespace Go.Sx
open Go.Ev Go.RowKit
variable {C : Cx} {X : Sc} {Φ Ψ : Fz} {G H : List GB} {S : SS} {M : List Blk} {tm : Tr Value} {σ σ' : St} {m : Nat}
section
variable {T : Tabs} {f : Nat → Option Nat}
mutual
theorem renVR (hf : ∀ i j g, f i = some j → nth G i = some g → nth H j = some g) : ∀ {a v : SV} {w : Value}, renV f a = some v → VR T Φ G a w → VR T Φ H v w
  | _, _, _, h, .p x => by simp only [renV] at h; cases h; exact .p x
  | _, _, _, h, .agp x => by simp only [renV] at h; cases h; exact .agp x
  | _, _, _, h, .ag x => by
    simp only [renV] at h
    split at h <;> cases h
    exact .ag (renLR hf ‹_› x)
  | _, _, _, h, .tu x => by
    simp only [renV] at h
    split at h <;> cases h
    exact .tu (renLR hf ‹_› x)
  | _, _, _, h, .loc x => by
    simp only [renV] at h
    split at h <;> cases h
    exact .loc (hf _ _ _ ‹_› x)
  | _, _, _, h, .nl _ => by simp only [renV] at h; cases h; exact .nl _
  | _, _, _, h, .os x => by
    simp only [renV] at h
    split at h <;> cases h
    exact .os (hf _ _ _ ‹_› x)
  | _, _, _, h, .ss x y z u => by
    simp only [renV] at h
    split at h <;> cases h
    exact .ss (hf _ _ _ ‹_› x) y z u
  | _, _, _, h, .ep x y z => by
    simp only [renV] at h
    split at h <;> cases h
    exact .ep (hf _ _ _ ‹_› x) y z
  | _, _, _, h, .fp x y => by simp only [renV] at h; cases h; exact .fp x y
  | _, _, _, h, .fn x => by
    simp only [renV] at h
    split at h <;> cases h
    exact .fn (renLR hf ‹_› x)
  | _, _, _, h, .un => by simp only [renV] at h; cases h; exact .un
theorem renLR (hf : ∀ i j g, f i = some j → nth G i = some g → nth H j = some g) : ∀ {a v : List SV} {w : List Value}, renL f a = some v → LVR T Φ G a w → LVR T Φ H v w
  | _, _, _, h, .nil => by simp only [renL] at h; cases h; exact .nil
  | _, _, _, h, .cons p q => by
    simp only [renL] at h
    split at h <;> cases h
    exact .cons (renVR hf ‹_› p) (renLR hf ‹_› q)
end
theorem renBR (hf : ∀ i j g, f i = some j → nth G i = some g → nth H j = some g) {b b' : Blk} {g : GB} (h : renB f b = some b') (r : BR T Φ G σ b g) : BR T Φ H σ b' g := by
  cases b with
  | box c =>
    simp only [renB] at h
    split at h <;> cases h
    rename_i c' hc
    cases g with
    | nm x =>
      obtain ⟨e, ws, a, b⟩ := r
      exact ⟨e, ws, a, renLR hf hc b⟩
    | sl w => exact r
  | arr e rows => cases h; cases g <;> exact r
  | fz e rows => cases h; cases g <;> exact r
  | ro e rows => cases h; cases g <;> exact r
  | dd => cases h; trivial
mutual
theorem unren (hf : ∀ i j g, f i = some j → nth G j = some g → nth H i = some g) : ∀ {a v : SV} {w : Value}, renV f a = some v → VR T Φ G v w → VR T Φ H a w
  | a, _, _, h, .p x => by
    cases a <;> simp only [renV] at h <;> (try (split at h <;> (try cases h))) <;> cases h
    exact .p x
  | a, _, _, h, .agp x => by
    cases a <;> simp only [renV] at h <;> (try (split at h <;> (try cases h))) <;> cases h
    exact .agp x
  | a, _, _, h, .ag x => by
    cases a <;> simp only [renV] at h <;> (try (split at h)) <;> cases h
    exact .ag (unrenL hf ‹_› x)
  | a, _, _, h, .tu x => by
    cases a <;> simp only [renV] at h <;> (try (split at h)) <;> cases h
    exact .tu (unrenL hf ‹_› x)
  | a, _, _, h, .loc x => by
    cases a <;> simp only [renV] at h <;> (try (split at h)) <;> cases h
    exact .loc (hf _ _ _ ‹_› x)
  | a, _, _, h, .nl _ => by
    cases a <;> simp only [renV] at h <;> (try (split at h)) <;> cases h
    exact .nl _
  | a, _, _, h, .os x => by
    cases a <;> simp only [renV] at h <;> (try (split at h)) <;> cases h
    exact .os (hf _ _ _ ‹_› x)
  | a, _, _, h, .ss x y z u => by
    cases a <;> simp only [renV] at h <;> (try (split at h)) <;> cases h
    exact .ss (hf _ _ _ ‹_› x) y z u
  | a, _, _, h, .ep x y z => by
    cases a <;> simp only [renV] at h <;> (try (split at h)) <;> cases h
    exact .ep (hf _ _ _ ‹_› x) y z
  | a, _, _, h, .fp x y => by
    cases a <;> simp only [renV] at h <;> (try (split at h)) <;> cases h
    exact .fp x y
  | a, _, _, h, .fn x => by
    cases a <;> simp only [renV] at h <;> (try (split at h)) <;> cases h
    exact .fn (unrenL hf ‹_› x)
  | a, _, _, h, .un => by
    cases a <;> simp only [renV] at h <;> (try (split at h)) <;> cases h
    exact .un
theorem unrenL (hf : ∀ i j g, f i = some j → nth G j = some g → nth H i = some g) : ∀ {a v : List SV} {w : List Value}, renL f a = some v → LVR T Φ G v w → LVR T Φ H a w
  | [], _, _, h, x => by
    simp only [renL] at h; cases h; cases x; exact .nil
  | a :: r, _, _, h, x => by
    simp only [renL] at h
    split at h
    · rename_i v l h1 h2
      cases h
      cases x with
      | cons p q => exact .cons (unren hf h1 p) (unrenL hf h2 q)
    · cases h
end
theorem unrenB (hf : ∀ i j g, f i = some j → nth G j = some g → nth H i = some g) {b b' : Blk} {g : GB} (h : renB f b = some b') (r : BR T Φ G σ b' g) : BR T Φ H σ b g := by
  cases b with
  | box c =>
    simp only [renB] at h
    split at h
    · rename_i c' hc
      cases h
      cases g with
      | nm x =>
        obtain ⟨e, ws, a, b⟩ := r
        exact ⟨e, ws, a, unrenL hf hc b⟩
      | sl w => exact r
    · cases h
  | arr e rows => cases h; cases g <;> exact r
  | fz e rows => cases h; cases g <;> exact r
  | ro e rows => cases h; cases g <;> exact r
  | dd => trivial
theorem renB_own {b b' : Blk} (h : renB f b = some b') (g : GB) : ownN b g = ownN b' g ∧ lentN b g = lentN b' g := by
  cases b with
  | box c =>
    simp only [renB] at h
    split at h
    · cases h; cases g <;> exact ⟨rfl, rfl⟩
    · cases h
  | _ => cases h; exact ⟨rfl, rfl⟩
end
theorem lentOk_get {args : List SV} {f : Nat → Option Nat} : ∀ {Mc : List Blk} {srcs : List Src}, lentOk S args f Mc srcs → Mc.length = srcs.length ∧ ∀ i c, nth Mc i = some c → ∃ s, nth srcs i = some s ∧ lent1 S args f c s
  | [], [], _ => ⟨rfl, fun i c h => by simp [nth] at h⟩
  | c :: r, s :: t, h => by
    obtain ⟨h1, h2⟩ := h
    obtain ⟨a, b⟩ := lentOk_get h2
    refine ⟨by simp [a], fun i x hx => ?_⟩
    cases i with
    | zero => simp [nth] at hx; subst hx; exact ⟨s, rfl, h1⟩
    | succ i => exact b i x hx
  | [], _ :: _, h => by cases h
  | _ :: _, [], h => by cases h
theorem uniqAt_get {i j : Nat} : ∀ {l : List Src} {k : Nat}, uniqAt i j k l = true → ∀ t, nth l t = some (.blk j) → k + t = i
  | [], k, _, t, h => by simp [nth] at h
  | .arg x :: r, k, hu, t, h => by
    simp only [uniqAt] at hu
    cases t with
    | zero => simp [nth] at h
    | succ t => have := uniqAt_get hu t h; omega
  | .blk x :: r, k, hu, t, h => by
    simp only [uniqAt] at hu
    cases hb : Nat.beq x j with
    | false =>
      rw [hb] at hu
      cases t with
      | zero => simp [nth] at h; subst h; rw [show Nat.beq x x = true from Nat.beq_refl x] at hb; cases hb
      | succ t => have := uniqAt_get (l := r) (k := k + 1) hu t h; omega
    | true =>
      rw [hb] at hu
      simp only [cond_true] at hu
      cases hc : Nat.beq k i with
      | false => rw [hc] at hu; cases hu
      | true =>
        rw [hc] at hu
        cases t with
        | zero => simpa using beq_of hc
        | succ t => have := uniqAt_get (l := r) (k := k + 1) hu t h; omega
theorem sepOk_get {ok : Nat → Bool} {all : List Src} : ∀ {Mc : List Blk} {srcs : List Src} {k : Nat}, sepOk ok all k Mc srcs = true → ∀ i c s, nth Mc i = some c → nth srcs i = some s → isRo c = false →
    ∃ j, s = .blk j ∧ ok j = true ∧ uniqAt (k + i) j 0 all = true
  | [], _, _, _, i, c, s, h, _, _ => by simp [nth] at h
  | _ :: _, [], _, _, i, c, s, _, h, _ => by simp [nth] at h
  | c0 :: r, .arg x :: t, k, hu, i, c, s, h1, h2, h3 => by
    simp only [sepOk] at hu
    cases hc : isRo c0 with
    | false => rw [hc] at hu; cases hu
    | true =>
      rw [hc] at hu
      cases i with
      | zero => simp [nth] at h1; subst h1; rw [hc] at h3; cases h3
      | succ i =>
        obtain ⟨j, a, b, d⟩ := sepOk_get (Mc := r) (srcs := t) hu i c s h1 h2 h3
        exact ⟨j, a, b, by rw [show k + (i + 1) = k + 1 + i by omega]; exact d⟩
  | c0 :: r, .blk x :: t, k, hu, i, c, s, h1, h2, h3 => by
    simp only [sepOk] at hu
    have step : sepOk ok all (k + 1) r t = true → ∀ i', i = i' + 1 → ∃ j, s = .blk j ∧ ok j = true ∧ uniqAt (k + i) j 0 all = true := by
      intro hr i' e
      subst e
      obtain ⟨j, a, b, d⟩ := sepOk_get (Mc := r) (srcs := t) hr i' c s h1 h2 h3
      exact ⟨j, a, b, by rw [show k + (i' + 1) = k + 1 + i' by omega]; exact d⟩
    cases hc : isRo c0 with
    | true =>
      rw [hc] at hu
      cases i with
      | zero => simp [nth] at h1; subst h1; rw [hc] at h3; cases h3
      | succ i => exact step hu i rfl
    | false =>
      rw [hc] at hu
      simp only [cond_false] at hu
      cases hq : uniqAt k x 0 all with
      | false => rw [hq] at hu; cases hu
      | true =>
        rw [hq] at hu
        cases ho : ok x with
        | false => rw [ho] at hu; cases hu
        | true =>
          rw [ho] at hu
          cases i with
          | zero => simp [nth] at h2; subst h2; exact ⟨x, rfl, ho, hq⟩
          | succ i => exact step hu i rfl
def dfl : GB := .sl (.slice none 0 0)
def gC (G : List GB) (ws : List Value) (srcs : List Src) : List GB := srcs.map fun s => match s with
  | .blk j => (nth G j).getD dfl
  | .arg k => match nth ws k with
    | some w => .sl w
    | none => dfl
theorem RoR.of_pv {T : Tabs} (hw : WS X T Φ σ) {e : TypeId} {rows : List (List PV)} {w : Value} (h : PRel T Φ (.sl e rows) w) : RoR T Φ σ e rows w := by
  cases h with
  | nil => exact .inl ⟨rfl, rfl⟩
  | emp => exact .inr (.inl ⟨_, _, rfl, rfl⟩)
  | sl a b c d f g k => subst g; exact .inr (.inr ⟨_, _, _, _, _, _, _, _, rfl, b, k, hw.phi _ _ a, _, c, d, f⟩)
theorem lent_pv {T : Tabs} {e : TypeId} {rows : List (List PV)} {w : Value} {x : Nat} (h : PRel T Φ (.sl e rows) w) (hl : lentN (.ro e rows) (.sl w) = some x) : ∃ o, Φ x = some o := by
  cases h with
  | nil => cases hl
  | emp => simp [lentN, markE] at hl
  | sl a b c d f g k =>
    simp only [lentN, b, cond_false, Option.some.injEq] at hl
    exact ⟨_, hl ▸ a⟩
section
variable {T : Tabs} {args as : List SV} {ws : List Value} {Mc : List Blk} {srcs : List Src} {ok : Nat → Bool}
theorem gC_blk {i j : Nat} {g : GB} (h : nth srcs i = some (.blk j)) (hg : nth G j = some g) : nth (gC G ws srcs) i = some g := by
  unfold gC; rw [nth_map', h]; simp [hg]
where nth_map' {α β : Type} (f : α → β) : ∀ (l : List α) (i : Nat), nth (l.map f) i = (nth l i).map f
  | [], i => by simp [nth]
  | x :: r, 0 => rfl
  | x :: r, i + 1 => by simp [nth, nth_map' f r i]
theorem gC_arg {i k : Nat} {w : Value} (h : nth srcs i = some (.arg k)) (hg : nth ws k = some w) : nth (gC G ws srcs) i = some (.sl w) := by
  unfold gC; rw [gC_blk.nth_map', h]; simp [hg]
theorem gC_len : (gC G ws srcs).length = srcs.length := by simp [gC]
theorem gC_none {i : Nat} (h : nth srcs i = none) : nth (gC G ws srcs) i = none := by
  unfold gC; rw [gC_blk.nth_map', h]; rfl
theorem nthLVR {l : List SV} {r : List Value} (h : LVR T Φ G l r) {i : Nat} {v : SV} (hv : nth l i = some v) : ∃ w, nth r i = some w ∧ VR T Φ G v w := by
  induction l generalizing r i with
  | nil => simp [nth] at hv
  | cons x l ih => cases h with
    | cons a b => cases i with
      | zero => simp [nth] at hv; subst hv; exact ⟨_, rfl, a⟩
      | succ i => exact ih b hv
theorem lend_ok (h : SR X T Φ G S tm σ) (ha : LVR T Φ G args ws) (hl : lentOk S args (renJ srcs (len srcs) (len S.M)) Mc srcs) (hs : sepOk ok srcs 0 Mc srcs = true) :
    MR T Φ Mc (gC G ws srcs) σ ∧ (∀ i x, Own Mc (gC G ws srcs) i x → ∃ j, nth srcs i = some (.blk j) ∧ Own S.M G j x ∧ ok j = true ∧ ∀ i', nth srcs i' = some (.blk j) → i' = i) ∧
      (∀ y, Par Mc (gC G ws srcs) σ y → Par S.M G σ y) ∧ (∀ i c, nth Mc i = some c → isRo c = false → ∃ j g, nth srcs i = some (.blk j) ∧ nth G j = some g ∧ nth (gC G ws srcs) i = some g) := by
  obtain ⟨hlen, hget⟩ := lentOk_get hl
  have hren : ∀ i j g, renJ srcs (len srcs) (len S.M) i = some j → nth G j = some g → nth (gC G ws srcs) i = some g := by
    intro i j g hi hg
    unfold renJ at hi
    split at hi
    · rename_i j' hj; cases hi; exact gC_blk hj hg
    · cases hi
    · rename_i hn
      cases hi
      have := nth_lt hg
      rw [← h.mr.len, len_eq] at this
      omega
  have hbr : ∀ i c, nth Mc i = some c → ∃ g, nth (gC G ws srcs) i = some g ∧ BR T Φ (gC G ws srcs) σ c g ∧
      (∀ x, ownN c g = some x → ∃ j, nth srcs i = some (.blk j) ∧ Own S.M G j x) ∧ (∀ x, lentN c g = some x → (∃ j, nth srcs i = some (.blk j) ∧ Own S.M G j x) ∨ Lent S.M G x ∨ ∃ o, Φ x = some o) ∧
      (isRo c = false → ∃ j, nth srcs i = some (.blk j) ∧ nth G j = some g) := by
    intro i c hc
    obtain ⟨s, hsi, h1⟩ := hget i c hc
    cases c with
    | ro e rows =>
      cases s with
      | arg k =>
        simp only [lent1] at h1
        cases hk : nth args k with
        | none => rw [hk] at h1; exact h1.elim
        | some v =>
          rw [hk] at h1
          obtain ⟨w, hw, hv⟩ := nthLVR ha hk
          have hp : PRel T Φ (.sl e rows) w := by
            split at h1
            · rename_i heq; obtain ⟨rfl, rfl⟩ := h1; cases heq; cases hv with | p a => exact a
            · rename_i heq; obtain ⟨rfl, rfl⟩ := h1; cases heq; cases hv; exact .nil _
            · exact h1.elim
          exact ⟨_, gC_arg hsi hw, .of_pv h.ws hp, fun x hx => (by cases hx), fun x hx => .inr (.inr (lent_pv hp hx)), fun hc => by cases hc⟩
      | blk j =>
        simp only [lent1] at h1
        cases hj : nth S.M j with
        | none => rw [hj] at h1; exact h1.elim
        | some b =>
          rw [hj] at h1
          obtain ⟨g, hg, hb⟩ := h.mr.blk j b hj
          refine ⟨g, gC_blk hsi hg, ?_⟩
          cases b with
          | arr e' rows' =>
            obtain ⟨rfl, rfl⟩ := h1
            cases g with
            | nm _ => exact hb.elim
            | sl w =>
              refine ⟨?_, fun x hx => (by cases hx), fun x hx => .inl ⟨j, hsi, _, _, hj, hg, ?_⟩, fun hc => by cases hc⟩
              · rcases hb with ⟨rfl, rfl⟩ | ⟨i, s, c, cs, p, rfl, b1, b2, b3, b4⟩
                · exact .inl ⟨rfl, rfl⟩
                · exact .inr (.inr ⟨_, _, _, _, _, _, _, _, rfl, b1, b2, b3, b4⟩)
              · rcases hb with ⟨rfl, rfl⟩ | ⟨i, s, c, cs, p, rfl, b1, b2, b3, b4⟩
                · cases hx
                · simp only [lentN, b1, cond_false] at hx; exact hx
          | ro e' rows' =>
            obtain ⟨rfl, rfl⟩ := h1
            cases g with
            | nm _ => exact hb.elim
            | sl w => exact ⟨hb, fun x hx => (by cases hx), fun x hx => .inr (.inl ⟨j, _, _, hj, hg, hx⟩), fun hc => by cases hc⟩
          | fz e' rows' =>
            obtain ⟨rfl, rfl⟩ := h1
            cases g with
            | nm _ => exact hb.elim
            | sl w => exact ⟨.of_pv h.ws hb, fun x hx => (by cases hx), fun x hx => .inr (.inr (lent_pv hb hx)), fun hc => by cases hc⟩
          | box _ => exact h1.elim
          | dd => exact h1.elim
    | arr e rows =>
      cases s with
      | arg k => exact h1.elim
      | blk j =>
        simp only [lent1] at h1
        cases hj : nth S.M j with
        | none => rw [hj] at h1; exact h1.elim
        | some b =>
          rw [hj] at h1
          obtain ⟨g, hg, hb⟩ := h.mr.blk j b hj
          cases b with
          | arr e' rows' =>
            obtain ⟨rfl, rfl⟩ := h1
            cases g with
            | nm _ => exact hb.elim
            | sl w => exact ⟨_, gC_blk hsi hg, hb, fun x hx => ⟨j, hsi, _, _, hj, hg, hx⟩, fun x hx => (by cases hx), fun _ => ⟨j, hsi, hg⟩⟩
          | _ => exact h1.elim
    | box c =>
      cases s with
      | arg k => exact h1.elim
      | blk j =>
        simp only [lent1] at h1
        cases hj : nth S.M j with
        | none => rw [hj] at h1; exact h1.elim
        | some b =>
          rw [hj] at h1
          obtain ⟨g, hg, hb⟩ := h.mr.blk j b hj
          cases b with
          | box c' =>
            have hrb : renB (renJ srcs (len srcs) (len S.M)) (.box c) = some (.box c') := by simp only [renB]; rw [h1]
            refine ⟨_, gC_blk hsi hg, unrenB hren hrb hb, fun x hx => ⟨j, hsi, _, _, hj, hg, by rw [← (renB_own hrb g).1]; exact hx⟩, fun x hx => ?_, fun _ => ⟨j, hsi, hg⟩⟩
            cases g <;> cases hx
          | _ => exact h1.elim
    | fz e rows => exact h1.elim
    | dd => exact h1.elim
  have hown : ∀ i x, Own Mc (gC G ws srcs) i x → ∃ j, nth srcs i = some (.blk j) ∧ Own S.M G j x ∧ ok j = true ∧ ∀ i', nth srcs i' = some (.blk j) → i' = i := by
    rintro i x ⟨c, g, hc, hg, hx⟩
    obtain ⟨g', hg', _, ho, _, _⟩ := hbr i c hc
    rw [hg] at hg'; cases hg'
    obtain ⟨j, hj, hj'⟩ := ho x hx
    have hro : isRo c = false := by cases c <;> first | rfl | cases hx
    obtain ⟨j', e, hok, hu⟩ := sepOk_get hs i c _ hc hj hro
    cases e
    exact ⟨j, hj, hj', hok, fun i' hi' => by have := uniqAt_get hu i' hi'; omega⟩
  have hpar : ∀ y, Par Mc (gC G ws srcs) σ y → Par S.M G σ y := fun y ⟨i, x, e, cs, ro, l, k, a, q⟩ => let ⟨j, _, b, _⟩ := hown i x a; ⟨j, x, e, cs, ro, l, k, b, q⟩
  have hlent : ∀ x, Lent Mc (gC G ws srcs) x → (∃ i j, nth srcs i = some (.blk j) ∧ Own S.M G j x ∧ ∃ c, nth Mc i = some c ∧ isRo c = true) ∨ Lent S.M G x ∨ ∃ o, Φ x = some o := by
    rintro x ⟨i, c, g, hc, hg, hx⟩
    obtain ⟨g', hg', _, _, ho, _⟩ := hbr i c hc
    rw [hg] at hg'; cases hg'
    have hro : isRo c = true := by cases c <;> first | rfl | (cases g <;> cases hx)
    rcases ho x hx with ⟨j, a, b⟩ | a
    · exact .inl ⟨i, j, a, b, c, hc, hro⟩
    · exact .inr a
  refine ⟨⟨by rw [hlen, gC_len], fun i c hc => let ⟨g, a, b, _⟩ := hbr i c hc; ⟨g, a, b⟩, fun i k x a b => ?_, fun i x a => ?_, fun x a => ?_, fun y a => ?_⟩, hown, hpar, fun i c hc hr => ?_⟩
  · obtain ⟨j, h1, h2, _, h3⟩ := hown i x a
    obtain ⟨j', h1', h2', _, h3'⟩ := hown k x b
    have := h.mr.inj j j' x h2 h2'
    subst this
    exact (h3 k h1').symm
  · obtain ⟨j, h1, h2, _⟩ := hown i x a
    exact h.mr.own j x h2
  · rcases hlent x a with ⟨i, j, h1, h2, c, hc, hro⟩ | h1 | ⟨o, ho⟩
    · refine ⟨fun k hk => ?_, (h.mr.own j x h2).2⟩
      obtain ⟨j', h1', h2', _, h3'⟩ := hown k x hk
      have := h.mr.inj j j' x h2 h2'
      subst this
      have := h3' i h1
      subst this
      obtain ⟨c', g, hc', hg, hx⟩ := hk
      rw [hc] at hc'; cases hc'
      cases c <;> first | (cases hro; done) | cases hx
    · refine ⟨fun k hk => ?_, (h.mr.lent x h1).2⟩
      obtain ⟨j', _, h2', _⟩ := hown k x hk
      exact (h.mr.lent x h1).1 j' h2'
    · refine ⟨fun k hk => ?_, h.ws.dom x o (h.ws.phi x o ho)⟩
      obtain ⟨j', _, h2', _⟩ := hown k x hk
      have := (h.mr.own j' x h2').1
      rw [ho] at this; cases this
  · obtain ⟨a1, a2, a3, a4⟩ := h.mr.par y (hpar y a)
    refine ⟨a1, fun i hi => ?_, fun hl => ?_, a4⟩
    · obtain ⟨j, _, h2, _⟩ := hown i y hi
      exact a2 j h2
    · rcases hlent y hl with ⟨i, j, h1, h2, _⟩ | h1 | ⟨o, ho⟩
      · exact a2 j h2
      · exact a3 h1
      · rw [ho] at a1; cases a1
  · obtain ⟨g, a, _, _, _, b⟩ := hbr i c hc
    obtain ⟨j, b1, b2⟩ := b hr
    exact ⟨j, g, b1, b2, a⟩
theorem args_ok (hren : ∀ i j g, renJ srcs (len srcs) (len S.M) i = some j → nth G j = some g → nth (gC G ws srcs) i = some g) :
    ∀ {as args' : List SV} {ws' : List Value} {k : Nat}, (∀ i w, nth ws' i = some w → nth ws (k + i) = some w) → argsOk srcs (renJ srcs (len srcs) (len S.M)) k as args' → LVR T Φ G args' ws' →
      (∀ i v, nth args' i = some v → (∃ e rows, v = .p (.sl e rows)) ∨ (∃ e, v = .nl e) ∨ ∀ i', nth srcs i' ≠ some (.arg (k + i))) → LVR T Φ (gC G ws srcs) as ws'
  | [], [], _, _, _, _, h, _ => by cases h; exact .nil
  | a :: r, v :: s, [], k, hk, h, hlv, hsl => by cases hlv
  | a :: r, v :: s, w :: t, k, hk, h, hlv, hsl => by
    obtain ⟨p, q⟩ : VR T Φ G v w ∧ LVR T Φ G s t := by cases hlv with | cons p q => exact ⟨p, q⟩
    obtain ⟨h1, h2⟩ := h
    refine .cons ?_ (args_ok hren (k := k + 1) (fun i x hx => by rw [show k + 1 + i = k + (i + 1) by omega]; exact hk (i + 1) x hx) h2 q (fun i x hx => by rw [show k + 1 + i = k + (i + 1) by omega]; exact hsl (i + 1) x hx))
    unfold argOk at h1
    split at h1
    · rename_i i
      split at h1
      · rename_i k' hk'
        obtain rfl := beq_of h1
        have hg : nth (gC G ws srcs) i = some (.sl w) := gC_arg hk' (hk 0 w rfl)
        rcases hsl 0 v rfl with ⟨e, rows, rfl⟩ | ⟨e, rfl⟩ | hno
        · cases p with
          | p p => cases p <;> exact .os hg
        · cases p; exact .os hg
        · exact absurd hk' (hno i)
      · exact unren hren h1 p
    · exact unren hren h1 p
  | [], _ :: _, _, _, _, h, _, _ => h.elim
  | _ :: _, [], _, _, _, h, _, _ => h.elim
end
section
variable {T : Tabs} {ws : List Value} {Mc M' Mr M2 : List Blk} {srcs : List Src} {f : Nat → Option Nat}
theorem renBs_get : ∀ {M' Mr : List Blk}, renBs f M' = some Mr → M'.length = Mr.length ∧ ∀ i b, nth M' i = some b → ∃ b', nth Mr i = some b' ∧ renB f b = some b'
  | [], Mr, h => by simp only [renBs] at h; cases h; exact ⟨rfl, fun i b h => by simp [nth] at h⟩
  | b :: r, Mr, h => by
    simp only [renBs] at h
    split at h <;> cases h
    rename_i h1 h2
    obtain ⟨a, c⟩ := renBs_get h2
    refine ⟨by simp [a], fun i x hx => ?_⟩
    cases i with
    | zero => simp [nth] at hx; subst hx; exact ⟨_, rfl, h1⟩
    | succ i => exact c i x hx
theorem noRo_get : ∀ {r : List Blk}, noRo r = true → ∀ i b, nth r i = some b → isRo b = false
  | [], _, i, b, h => by simp [nth] at h
  | x :: r, hn, i, b, h => by
    simp only [noRo] at hn
    cases hx : isRo x with
    | true => rw [hx] at hn; cases hn
    | false =>
      rw [hx] at hn
      cases i with
      | zero => simp [nth] at h; subst h; exact hx
      | succ i => exact noRo_get (r := r) hn i b h
theorem nth_app {α : Type} (a b : List α) (i : Nat) : nth (a ++ b) i = if i < a.length then nth a i else nth b (i - a.length) := by
  rw [nth_eq, nth_eq, nth_eq, List.getElem?_append]
theorem backL_get : ∀ {Mc : List Blk} {srcs : List Src} {Mr M M2 : List Blk}, backL Mc srcs Mr M = some M2 → Mc.length = srcs.length → (∀ i j, nth srcs i = some (.blk j) → j < M.length) →
    (∀ i c, nth Mc i = some c → isRo c = false → ∀ j, nth srcs i = some (.blk j) → ∀ i', nth srcs i' = some (.blk j) → i' = i) →
    M2.length = M.length + (Mr.length - Mc.length) ∧ Mc.length ≤ Mr.length ∧
    (∀ k b, nth M2 k = some b → (k < M.length ∧ nth M k = some b ∧ (∀ i c, nth Mc i = some c → isRo c = false → nth srcs i ≠ some (.blk k))) ∨
      (isRo b = false ∧ ∃ i c, nth Mc i = some c ∧ isRo c = false ∧ nth srcs i = some (.blk k) ∧ nth Mr i = some b) ∨
      (isRo b = false ∧ M.length ≤ k ∧ nth Mr (Mc.length + (k - M.length)) = some b))
  | [], srcs, Mr, M, M2, h, hl, _, _ => by
    simp only [backL] at h
    cases hn : noRo Mr with
    | false => rw [hn] at h; cases h
    | true =>
      rw [hn] at h; cases h
      refine ⟨by simp, by simp, fun k b hk => ?_⟩
      rw [nth_app] at hk
      split at hk
      · rename_i hlt
        exact .inl ⟨hlt, hk, fun i c hc => by simp [nth] at hc⟩
      · exact .inr (.inr ⟨noRo_get hn _ b hk, by omega, by simpa using hk⟩)
  | c0 :: a, [], Mr, M, M2, h, hl, _, _ => by simp at hl
  | c0 :: a, s0 :: t, [], M, M2, h, hl, _, _ => by simp [backL] at h
  | c0 :: a, s0 :: t, b0 :: r, M, M2, h, hl, hj, hu => by
    simp only [backL] at h
    have hl' : a.length = t.length := by simpa using hl
    have hu' : ∀ i c, nth a i = some c → isRo c = false → ∀ j, nth t i = some (.blk j) → ∀ i', nth t i' = some (.blk j) → i' = i := fun i c hc hr j hs i' hi' => by
      have := hu (i + 1) c hc hr j hs (i' + 1) hi'
      omega
    split at h
    · rename_i hro
      obtain ⟨k1, k2, k3⟩ := backL_get h hl' (fun i j hi => hj (i + 1) j hi) hu'
      refine ⟨by simp; omega, by simp; omega, fun k b hk => ?_⟩
      rcases k3 k b hk with ⟨q1, q2, q3⟩ | ⟨q0, i, c, q1, q2, q3, q4⟩ | ⟨q1, q2, q3⟩
      · refine .inl ⟨q1, q2, fun i c hc hr => ?_⟩
        cases i with
        | zero => simp [nth] at hc; subst hc; rw [hro] at hr; cases hr
        | succ i => exact q3 i c hc hr
      · exact .inr (.inl ⟨q0, i + 1, c, q1, q2, q3, q4⟩)
      · refine .inr (.inr ⟨q1, q2, ?_⟩)
        rw [show (c0 :: a).length + (k - M.length) = (a.length + (k - M.length)) + 1 by simp; omega]
        exact q3
    · rename_i hro
      split at h
      · cases h
      · rename_i j
        split at h
        · cases h
        · rename_i hrb
          have hjM : j < M.length := hj 0 j rfl
          have hlen : (setAt M j b0).length = M.length := by rw [setAt_eq]; simp
          obtain ⟨k1, k2, k3⟩ := backL_get h hl' (fun i j hi => by rw [hlen]; exact hj (i + 1) j hi) hu'
          rw [hlen] at k1 k3
          refine ⟨by simp; omega, by simp; omega, fun k b hk => ?_⟩
          rcases k3 k b hk with ⟨q1, q2, q3⟩ | ⟨q0, i, c, q1, q2, q3, q4⟩ | ⟨q1, q2, q3⟩
          · rw [nth_set] at q2
            split at q2
            · rename_i e
              obtain ⟨rfl, _⟩ := e
              cases q2
              exact .inr (.inl ⟨hrb, 0, c0, rfl, hro, rfl, rfl⟩)
            · rename_i e
              refine .inl ⟨q1, q2, fun i c hc hr => ?_⟩
              cases i with
              | zero => intro hq; simp [nth] at hq; exact e ⟨hq.symm, hjM⟩
              | succ i => exact q3 i c hc hr
          · exact .inr (.inl ⟨q0, i + 1, c, q1, q2, q3, q4⟩)
          · refine .inr (.inr ⟨q1, q2, ?_⟩)
            rw [show (c0 :: a).length + (k - M.length) = (a.length + (k - M.length)) + 1 by simp; omega]
            exact q3
end
theorem frzSel_ok {T : Tabs} : ∀ {sel : List Bool} {l : List SV} {Φ : Fz} {S : SS} {ws : List Value}, SR X T Φ G S tm σ → LVR T Φ G l ws → ∀ {K : SS → List SV → Prop}, frzSel S sel l K → ∃ Ψ S' c, K S' c ∧ Fr X T m Φ G S tm σ Ψ S' ∧ LVR T Ψ G c ws
  | [], l, Φ, S, ws, h, hv, K, hk => by cases l <;> exact ⟨Φ, S, _, hk, .refl h, hv⟩
  | true :: s, [], Φ, S, ws, h, hv, K, hk => ⟨Φ, S, _, hk, .refl h, hv⟩
  | false :: s, [], Φ, S, ws, h, hv, K, hk => ⟨Φ, S, _, hk, .refl h, hv⟩
  | true :: s, v :: r, Φ, S, ws, h, hv, K, hk => by
    cases hv with
    | cons p q =>
      obtain ⟨Ψ, S1, pv, k1, f1, r1⟩ := frzV_ok (m := m) h p hk
      obtain ⟨Ω, S2, c, k2, f2, r2⟩ := frzSel_ok f1.sr (q.mono f1.st.fz (Gle.refl G)) k1
      exact ⟨Ω, S2, _, k2, f1.trans f2, .cons (r1.mono f2.st.fz (Gle.refl G)) r2⟩
  | false :: s, v :: r, Φ, S, ws, h, hv, K, hk => by
    cases hv with
    | cons p q =>
      obtain ⟨Ω, S2, c, k2, f2, r2⟩ := frzSel_ok (sel := s) h q hk
      exact ⟨Ω, S2, _, k2, f2, .cons (p.mono f2.st.fz (Gle.refl G)) r2⟩
theorem CallL_ok (h : SR X C.T Φ G S tm σ) (hm : m ≤ S.M.length) {f : FuncId} {args : List SV} {ws : List Value} (ha : LVR C.T Φ G args ws) {ok : Nat → Bool} {K : SS → SV → Prop} (hx : CallL (PC C X) S f args ok K) :
    ∃ v w σ' Ψ G' S', K S' v ∧ C.ext f = none ∧ Evt C f ws σ w σ' ∧ SR X C.T Ψ G' S' tm σ' ∧ VR C.T Ψ G' v w ∧ Stp m Φ S.M G σ Ψ S'.M G' σ' ∧
      (∀ y, y < σ.next → (∀ j, ok j = true → ¬ Own S.M G j y ∧ ¬ Par S.M G σ y) → σ'.get y = σ.get y) := by
  obtain ⟨sel, srcs, Mc, as, R, hx⟩ := hx
  obtain ⟨Φ1, S1, args1, ⟨hp, hl, hargs, hs, hk⟩, f1, ha1⟩ := frzSel_ok (m := m) h ha hx
  have h1 := f1.sr
  obtain ⟨hext, hp⟩ := hp
  obtain ⟨c1, c2, c3, c4⟩ := lend_ok h1 ha1 hl hs
  obtain ⟨hlen, hget⟩ := lentOk_get hl
  have hGc0 : ∀ i j g, nth srcs i = some (.blk j) → nth G j = some g → nth (gC G ws srcs) i = some g := fun i j g => gC_blk
  have hren : ∀ i j g, renJ srcs (len srcs) (len S1.M) i = some j → nth G j = some g → nth (gC G ws srcs) i = some g := by
    intro i j g hi hg
    unfold renJ at hi
    split at hi
    · rename_i j' hj; cases hi; exact gC_blk hj hg
    · cases hi
    · rename_i hn
      cases hi
      have := nth_lt hg
      rw [← h1.mr.len, len_eq] at this
      omega
  have hlv : LVR C.T Φ1 (gC G ws srcs) as ws := args_ok hren (k := 0) (fun i w hw => by rw [Nat.zero_add]; exact hw) hargs ha1 (fun i v hv => by
    by_cases hq : ∃ i', nth srcs i' = some (.arg (0 + i))
    · obtain ⟨i', hi'⟩ := hq
      have hi'l : i' < Mc.length := by rw [hlen]; exact nth_lt hi'
      obtain ⟨s, hs', hl1⟩ := hget i' Mc[i'] (by rw [nth_eq]; simp [hi'l])
      rw [hi'] at hs'; cases hs'
      rw [Nat.zero_add] at hl1
      cases hc : Mc[i'] with
      | ro e rows =>
        rw [hc] at hl1
        simp only [lent1, hv] at hl1
        split at hl1
        · rename_i heq; cases heq; exact .inl ⟨_, _, rfl⟩
        · rename_i heq; cases heq; exact .inr (.inl ⟨_, rfl⟩)
        · exact hl1.elim
      | _ => rw [hc] at hl1; exact hl1.elim
    · exact .inr (.inr fun i' hi' => hq ⟨i', hi'⟩))
  obtain ⟨w, σ', Ψ, Gc', M', r, k1, k2, k3, k4, k5, k6⟩ := hp Φ1 (gC G ws srcs) σ ws h1.ws c1 hlv
  have hk := hk M' r k1
  unfold afterL at hk
  split at hk
  · exact hk.elim
  rename_i Mr hMr
  split at hk
  · exact hk.elim
  rename_i r' hr'
  split at hk
  · exact hk.elim
  rename_i M2 hM2
  obtain ⟨e1, e2⟩ := renBs_get hMr
  have hlt : ∀ i j, nth srcs i = some (.blk j) → i < Mc.length → j < S1.M.length := fun i j hi hil => by
    obtain ⟨s, hs', hl1⟩ := hget i Mc[i] (by rw [nth_eq]; simp [hil])
    rw [hi] at hs'; cases hs'
    cases hj : nth S1.M j with
    | some b => exact nth_lt hj
    | none =>
      cases hc : Mc[i] with
      | ro e rows => rw [hc] at hl1; simp only [lent1, hj] at hl1
      | arr e rows => rw [hc] at hl1; simp only [lent1, hj] at hl1
      | box c => rw [hc] at hl1; simp only [lent1, hj] at hl1
      | _ => rw [hc] at hl1; exact hl1.elim
  have huniq : ∀ i c, nth Mc i = some c → isRo c = false → ∀ j, nth srcs i = some (.blk j) → ok j = true ∧ ∀ i', nth srcs i' = some (.blk j) → i' = i := fun i c hc hr j hj => by
    obtain ⟨j', a, b, d⟩ := sepOk_get hs i c _ hc hj hr
    cases a
    exact ⟨b, fun i' hi' => by have := uniqAt_get d i' hi'; omega⟩
  obtain ⟨b1, b2, b3⟩ := backL_get hM2 hlen (fun i j hi => hlt i j hi (by rw [hlen]; exact nth_lt hi)) (fun i c hc hr j hj => (huniq i c hc hr j hj).2)
  have hGl : G.length = S1.M.length := h1.mr.len.symm
  have hGcl : Gc'.length = M'.length := k4.len.symm
  have hml : Mc.length ≤ M'.length := k2.mlen (Nat.le_refl _)
  let G2 : List GB := G ++ Gc'.drop Mc.length
  have hG2a : Gle G G2 := fun j g hg => by
    have := nth_lt hg
    rw [nth_app, if_pos this]; exact hg
  have hG2b : ∀ i j g, renJ srcs (len srcs) (len S1.M) i = some j → nth Gc' i = some g → nth G2 j = some g := by
    intro i j g hi hg
    unfold renJ at hi
    split at hi
    · rename_i j' hj
      cases hi
      have hil : i < Mc.length := by rw [hlen]; exact nth_lt hj
      rw [k2.gh i hil] at hg
      have hjl := hlt i _ hj hil
      rw [nth_app, if_pos (by omega)]
      obtain ⟨g', hg'⟩ : ∃ g', nth G j = some g' := ⟨G[j]'(by omega), by rw [nth_eq]; exact List.getElem?_eq_getElem _⟩
      rw [hGc0 i j g' hj hg'] at hg
      cases hg; exact hg'
    · cases hi
    · rename_i hn
      cases hi
      have hil : Mc.length ≤ i := by
        rw [hlen]
        rw [nth_eq] at hn
        exact List.getElem?_eq_none_iff.1 hn
      rw [nth_app, if_neg (by rw [len_eq]; omega), nth_eq, List.getElem?_drop, ← nth_eq]
      rw [len_eq, len_eq, hGl, ← hlen, show Mc.length + (S1.M.length + (i - Mc.length) - S1.M.length) = i by omega]
      exact hg
  have hblk : ∀ k b, nth M2 k = some b → (nth S1.M k = some b ∧ (∀ i c, nth Mc i = some c → isRo c = false → nth srcs i ≠ some (.blk k))) ∨
      (isRo b = false ∧ ∃ i b0, nth M' i = some b0 ∧ renB (renJ srcs (len srcs) (len S1.M)) b0 = some b ∧ renJ srcs (len srcs) (len S1.M) i = some k) := by
    intro k b hb
    have back : ∀ i, nth Mr i = some b → ∃ b0, nth M' i = some b0 ∧ renB (renJ srcs (len srcs) (len S1.M)) b0 = some b := fun i hi => by
      have hil := nth_lt hi
      rw [← e1] at hil
      have hq : nth M' i = some M'[i] := by rw [nth_eq]; exact List.getElem?_eq_getElem _
      obtain ⟨b', q1, q2⟩ := e2 i _ hq
      rw [hi] at q1; cases q1
      exact ⟨_, hq, q2⟩
    rcases b3 k b hb with ⟨q1, q2, q3⟩ | ⟨q0, i, c, q1, q2, q3, q4⟩ | ⟨q1, q2, q3⟩
    · exact .inl ⟨q2, q3⟩
    · obtain ⟨b0, t1, t2⟩ := back i q4
      exact .inr ⟨q0, i, b0, t1, t2, by unfold renJ; rw [q3]⟩
    · obtain ⟨b0, t1, t2⟩ := back _ q3
      refine .inr ⟨q1, _, b0, t1, t2, ?_⟩
      unfold renJ
      rw [nth_eq, List.getElem?_eq_none (by omega)]
      simp only [len_eq, Option.some.injEq]
      omega
  have hown : ∀ k x, Own M2 G2 k x → (Own S1.M G k x ∧ (∀ i, ¬ Own Mc (gC G ws srcs) i x)) ∨ (∃ i, renJ srcs (len srcs) (len S1.M) i = some k ∧ Own M' Gc' i x) := by
    rintro k x ⟨b, g, hb, hg, ho⟩
    rcases hblk k b hb with ⟨q1, q2⟩ | ⟨q0, i, b0, q1, q2, q3⟩
    · obtain ⟨g', hg', _⟩ := h1.mr.blk k b q1
      rw [hG2a k g' hg'] at hg; cases hg
      have hox : Own S1.M G k x := ⟨b, _, q1, hg', ho⟩
      refine .inl ⟨hox, fun i hi => ?_⟩
      obtain ⟨j, t1, t2, _, _⟩ := c2 i x hi
      have := h1.mr.inj k j x hox t2
      subst this
      obtain ⟨c, g, hc, _, hcx⟩ := hi
      exact q2 i c hc (by cases c <;> first | rfl | cases hcx) t1
    · obtain ⟨g', hg', _⟩ := k4.blk i b0 q1
      rw [hG2b i k g' q3 hg'] at hg; cases hg
      exact .inr ⟨i, q3, b0, _, q1, hg', by rw [(renB_own q2 _).1]; exact ho⟩
  have hlent : ∀ x, Lent M2 G2 x → Lent S1.M G x := by
    rintro x ⟨k, b, g, hb, hg, ho⟩
    rcases hblk k b hb with ⟨q1, q2⟩ | ⟨q0, i, b0, q1, q2, q3⟩
    · obtain ⟨g', hg', _⟩ := h1.mr.blk k b q1
      rw [hG2a k g' hg'] at hg; cases hg
      exact ⟨k, b, _, q1, hg', ho⟩
    · cases b <;> first | (cases q0; done) | (cases g <;> cases ho)
  have hsame : ∀ x, x < σ.next → (∀ i, ¬ Own Mc (gC G ws srcs) i x) → ¬ Par Mc (gC G ws srcs) σ x → σ'.get x = σ.get x := fun x a b c => k2.frame x a b c
  have hoP : ∀ j x, Own S1.M G j x → ¬ Par Mc (gC G ws srcs) σ x := fun j x hx hp => (h1.mr.par x (c3 x hp)).2.1 j hx
  have hkeep : ∀ k x, Own S1.M G k x → (∀ i, ¬ Own Mc (gC G ws srcs) i x) → σ'.get x = σ.get x := fun k x hx hn => hsame x (h1.mr.own k x hx).2 hn (hoP k x hx)
  have hcown : ∀ i x, Own Mc (gC G ws srcs) i x → ∃ j, Own S1.M G j x := fun i x hi => let ⟨j, _, b, _⟩ := c2 i x hi; ⟨j, b⟩
  have hpar : ∀ y, Par M2 G2 σ' y → (Par S1.M G σ y ∧ (∀ i, ¬ Own Mc (gC G ws srcs) i y)) ∨ Par M' Gc' σ' y := by
    rintro y ⟨k, x, e, cs, ro, l, q, a, b⟩
    rcases hown k x a with ⟨t1, t2⟩ | ⟨i, _, t2⟩
    · have hp : Par S1.M G σ y := ⟨k, x, e, cs, ro, l, q, t1, by rw [← hkeep k x t1 t2]; exact b⟩
      exact .inl ⟨hp, fun i hi => let ⟨j, hj⟩ := hcown i y hi; (h1.mr.par y hp).2.1 j hj⟩
    · exact .inr ⟨i, x, e, cs, ro, l, q, t2, b⟩
  have hΨ : ∀ x, x < σ.next → (∀ i, ¬ Own Mc (gC G ws srcs) i x) → Φ1 x = none → Ψ x = none := fun x hx hn h0 => by
    cases hq : Ψ x with
    | none => rfl
    | some o =>
      rcases k2.newF x o hq h0 with ⟨j, hj⟩ | hj
      · exact absurd hj (hn j)
      · omega
  have hnewO : ∀ i x, Own M' Gc' i x → x < σ.next → ∃ j, Own S1.M G j x := fun i x hx hlt => by
    rcases k2.newO i x hx with ⟨j, hj⟩ | hj
    · exact hcown j x hj
    · omega
  have hsr : SR X C.T Ψ G2 ⟨S1.t, M2⟩ tm σ' := by
    refine ⟨h1.tmono k2.fz hG2a, ⟨?_, fun k b hb => ?_, fun j k x a b => ?_, fun k x a => ?_, fun x a => ?_, fun y a => ?_⟩, k3⟩
    · show M2.length = G2.length
      simp only [G2, List.length_append, List.length_drop]
      omega
    · rcases hblk k b hb with ⟨q1, q2⟩ | ⟨q0, i, b0, q1, q2, q3⟩
      · obtain ⟨g', hg', hb'⟩ := h1.mr.blk k b q1
        refine ⟨g', hG2a k g' hg', hb'.mono k2.fz hG2a fun x hx => ?_⟩
        rcases hx with hx | hx
        · have hox : Own S1.M G k x := ⟨b, g', q1, hg', hx⟩
          refine hkeep k x hox fun i hi => ?_
          obtain ⟨j, t1, t2, _, _⟩ := c2 i x hi
          have := h1.mr.inj k j x hox t2
          subst this
          obtain ⟨c, g, hc, _, hcx⟩ := hi
          exact q2 i c hc (by cases c <;> first | rfl | cases hcx) t1
        · have hlx : Lent S1.M G x := ⟨k, b, g', q1, hg', hx⟩
          refine hsame x (h1.mr.lent x hlx).2 (fun i hi => ?_) fun hp => (h1.mr.par x (c3 x hp)).2.2.1 hlx
          obtain ⟨j, hj⟩ := hcown i x hi
          exact (h1.mr.lent x hlx).1 j hj
      · obtain ⟨g', hg', hb'⟩ := k4.blk i b0 q1
        exact ⟨g', hG2b i k g' q3 hg', renBR hG2b q2 hb'⟩
    · rcases hown j x a with ⟨a1, a2⟩ | ⟨i, a1, a2⟩ <;> rcases hown k x b with ⟨b1, b2⟩ | ⟨i', b1, b2⟩
      · exact h1.mr.inj j k x a1 b1
      · rcases k2.newO i' x b2 with ⟨t, ht⟩ | ht
        · exact absurd ht (a2 t)
        · have := (h1.mr.own j x a1).2; omega
      · rcases k2.newO i x a2 with ⟨t, ht⟩ | ht
        · exact absurd ht (b2 t)
        · have := (h1.mr.own k x b1).2; omega
      · have := k4.inj i i' x a2 b2
        subst this
        rw [a1] at b1; cases b1; rfl
    · rcases hown k x a with ⟨a1, a2⟩ | ⟨i, a1, a2⟩
      · obtain ⟨t1, t2⟩ := h1.mr.own k x a1
        exact ⟨hΨ x t2 a2 t1, Nat.lt_of_lt_of_le t2 k2.next⟩
      · exact k4.own i x a2
    · have hl := hlent x a
      obtain ⟨t1, t2⟩ := h1.mr.lent x hl
      refine ⟨fun k hk => ?_, Nat.lt_of_lt_of_le t2 k2.next⟩
      rcases hown k x hk with ⟨a1, _⟩ | ⟨i, a1, a2⟩
      · exact t1 k a1
      · obtain ⟨j, hj⟩ := hnewO i x a2 t2
        exact t1 j hj
    · rcases hpar y a with ⟨p1, p2⟩ | p1
      · obtain ⟨t1, t2, t3, t4⟩ := h1.mr.par y p1
        refine ⟨hΨ y t4 p2 t1, fun k hk => ?_, fun hl => t3 (hlent y hl), Nat.lt_of_lt_of_le t4 k2.next⟩
        rcases hown k y hk with ⟨a1, _⟩ | ⟨i, a1, a2⟩
        · exact t2 k a1
        · obtain ⟨j, hj⟩ := hnewO i y a2 t4
          exact t2 j hj
      · obtain ⟨t1, t2, t3, t4⟩ := k4.par y p1
        refine ⟨t1, fun k hk => ?_, fun hl => ?_, t4⟩
        · rcases hown k y hk with ⟨a1, a2⟩ | ⟨i, a1, a2⟩
          · rcases k2.newP y p1 with q | ⟨j, q⟩ | q
            · exact (h1.mr.par y (c3 y q)).2.1 k a1
            · exact a2 j q
            · have := (h1.mr.own k y a1).2; omega
          · exact t2 i a2
        · have hl := hlent y hl
          rcases k2.newP y p1 with q | ⟨j, q⟩ | q
          · exact (h1.mr.par y (c3 y q)).2.2.1 hl
          · obtain ⟨j', hj'⟩ := hcown j y q
            exact (h1.mr.lent y hl).1 j' hj'
          · have := (h1.mr.lent y hl).2; omega
  refine ⟨r', w, σ', Ψ, G2, _, hk, hext, k6, hsr, renVR hG2b hr' k5, f1.st.trans ?_, fun y hy hn => ?_⟩
  · refine ⟨k2.fz, fun j hj => ?_, k2.next, fun i hi hno hnp => ?_, fun i o a b => ?_, fun j i a => ?_, fun i a => ?_, fun i a => hlent i a, fun hm' => ?_⟩
    · have : m ≤ S1.M.length := f1.st.mlen hm
      rw [nth_app, if_pos (by omega)]
    · exact hsame i hi (fun k hk => let ⟨j, hj⟩ := hcown k i hk; hno j hj) fun hp => hnp (c3 i hp)
    · rcases k2.newF i o a b with ⟨j, hj⟩ | hj
      · exact .inl (hcown j i hj)
      · exact .inr hj
    · rcases hown j i a with ⟨a1, _⟩ | ⟨t, _, a2⟩
      · exact .inl ⟨j, a1⟩
      · rcases k2.newO t i a2 with ⟨j, hj⟩ | hj
        · exact .inl (hcown j i hj)
        · exact .inr hj
    · rcases hpar i a with ⟨p1, _⟩ | p1
      · exact .inl p1
      · rcases k2.newP i p1 with q | ⟨j, q⟩ | q
        · exact .inl (c3 i q)
        · exact .inr (.inl (hcown j i q))
        · exact .inr (.inr q)
    · show m ≤ M2.length
      omega
  · refine hsame y hy (fun i hi => ?_) fun hp => ?_
    · obtain ⟨j, _, t2, t3, _⟩ := c2 i y hi
      exact (hn j t3).1 (f1.ow j y t2)
    · obtain ⟨i, x, e, cs, ro, l, q, a, b⟩ := hp
      obtain ⟨j, _, t2, t3, _⟩ := c2 i x a
      exact (hn j t3).2 ⟨j, x, e, cs, ro, l, q, f1.ow j x t2, b⟩
end Go.Sx
end
end

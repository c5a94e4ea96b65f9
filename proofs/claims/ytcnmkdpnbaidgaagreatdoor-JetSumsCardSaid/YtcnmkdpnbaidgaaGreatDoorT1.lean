/- Part of the proof that whatever the two series: JetSums answers true -/
import Derived.Test.YtcnmkdpnbaidgaaGreatDoorT0
import GoSem.Extern.Bytes
import GoSem.Extern.BytealgMakeNoZero
import Derived.Laws.Build
import Derived.Lib.ConvBytes
import Derived.Lib.Bytealg
import Derived.Room.MakeNoZero
import Derived.Recover
import Derived.Orders
set_option linter.all false
noncomputable section
section
namespace Go.Ev
open Go.RowKit
variable {P : Program} {B : Nat} {w0 : World} {T : Tabs}
def cellsL : Value → List Value
  | .agg ⟨l⟩ => l
  | v => [v]
theorem cellsL_rel {E : Env} {v v' : Value} (h : VRel P E v v') : LRel P E (cellsL v) (cellsL v') ∧ v'.cells.toList = cellsL v' := by
  cases h with
  | agg hl => exact ⟨hl, rfl⟩
  | bool => exact ⟨.cons (.bool _) .nil, rfl⟩
  | int => exact ⟨.cons (.int _ _) .nil, rfl⟩
  | string => exact ⟨.cons (.string _) .nil, rfl⟩
  | nilPtr => exact ⟨.cons .nilPtr .nil, rfl⟩
  | ptr a => exact ⟨.cons (.ptr a) .nil, rfl⟩
  | nilSlice => exact ⟨.cons .nilSlice .nil, rfl⟩
  | slice a b c d e => exact ⟨.cons (.slice a b c d e) .nil, rfl⟩
  | empty => exact ⟨.cons .empty .nil, rfl⟩
  | nilMap => exact ⟨.cons .nilMap .nil, rfl⟩
  | map a => exact ⟨.cons (.map a) .nil, rfl⟩
  | func a b => exact ⟨.cons (.func a b) .nil, rfl⟩
  | nilFunc => exact ⟨.cons .nilFunc .nil, rfl⟩
  | iface a => exact ⟨.cons (.iface a) .nil, rfl⟩
  | nilIface => exact ⟨.cons .nilIface .nil, rfl⟩
  | tuple a => exact ⟨.cons (.tuple a) .nil, rfl⟩
theorem setRange_rel {E : Env} {xs xs' vs vs' : List Value} (h : LRel P E xs xs') (k : LRel P E vs vs') (o : Nat) : LRel P E (setRange xs o vs) (setRange xs' o vs') := by
  unfold setRange
  rw [← k.length]
  exact (h.take o).append (k.append (h.drop _))
theorem set_fold : ∀ (vs : List Value) (off k : Nat) (cs : List Value), off + k + vs.length ≤ cs.length →
    ((vs.zipIdx k).foldl (fun (cs : Array Value) (x : Value × Nat) => cs.setIfInBounds (off + x.2) x.1) ⟨cs⟩).toList = setRange cs (off + k) vs
  | [], off, k, cs, _ => by simp [setRange]
  | v :: r, off, k, cs, h => by
    simp only [List.zipIdx_cons, List.foldl_cons, List.setIfInBounds_toArray]
    have := set_fold r off (k + 1) (cs.set (off + k) v) (by simp at h ⊢; omega)
    rw [show (⟨cs.set (off + k) v⟩ : Array Value) = (cs.set (off + k) v).toArray from rfl] at this
    rw [this]
    apply List.ext_getElem?
    intro x
    rw [setRange_get (by simp at h ⊢; omega), setRange_get (by simp at h ⊢; omega)]
    simp only [List.length_cons] at h ⊢
    by_cases h1 : x < off + k
    · rw [if_pos (show x < off + (k + 1) by omega), if_pos h1, List.getElem?_set_ne (by omega)]
    · by_cases h2 : x = off + k
      · subst h2
        rw [if_pos (show off + k < off + (k + 1) by omega), if_neg (show ¬ off + k < off + k by omega), if_pos (show off + k < off + k + (r.length + 1) by omega), List.getElem?_set_self (by omega)]
        simp
      · rw [if_neg (show ¬ x < off + (k + 1) by omega), if_neg h1]
        by_cases h3 : x < off + k + (r.length + 1)
        · rw [if_pos (show x < off + (k + 1) + r.length by omega), if_pos h3]
          obtain ⟨y, rfl⟩ : ∃ y, x = off + k + 1 + y := ⟨x - (off + k + 1), by omega⟩
          rw [show off + k + 1 + y - (off + (k + 1)) = y by omega, show off + k + 1 + y - (off + k) = y + 1 by omega]
          simp
        · rw [if_neg (show ¬ x < off + (k + 1) + r.length by omega), if_neg h3, List.getElem?_set_ne (by omega)]
def fillL : List Value → List (Nat × Nat × Value) → Option (List Value)
  | cs, [] => some cs
  | cs, (off, size, v) :: r => cond (Nat.beq (cellsL v).length size && Nat.ble (off + (cellsL v).length) cs.length) (fillL (setRange cs off (cellsL v)) r) none
theorem fillL_ok {E : Env} (place : Nat → Option (Nat × Nat)) : ∀ (ps : List (Nat × Nat × Value)) (qs : List (Nat × Value)) (cs cs' res : List Value), LRel P E cs cs' →
    ps.length = qs.length → (∀ (j : Nat) (p : Nat × Nat × Value) (q : Nat × Value), ps[j]? = some p → qs[j]? = some q → place q.1 = some (p.1, p.2.1) ∧ VRel P E p.2.2 q.2) →
    fillL cs ps = some res → ∃ res', Instr.fill place ⟨cs'⟩ qs = some ⟨res'⟩ ∧ LRel P E res res'
  | [], qs, cs, cs', res, h, hl, hp, he => by
    cases qs with
    | nil => simp [fillL] at he; subst he; exact ⟨cs', rfl, h⟩
    | cons q qs => simp at hl
  | (off, size, v) :: ps, qs, cs, cs', res, h, hl, hp, he => by
    cases qs with
    | nil => simp at hl
    | cons q qs =>
      simp only [fillL] at he
      cases hc : (Nat.beq (cellsL v).length size && Nat.ble (off + (cellsL v).length) cs.length) with
      | false => rw [hc] at he; cases he
      | true =>
        rw [hc] at he
        simp only [Bool.and_eq_true, Nat.ble_eq] at hc
        obtain ⟨c1, c2⟩ := hc
        have c1 := Nat.eq_of_beq_eq_true c1
        obtain ⟨hpl, hv⟩ := hp 0 _ q rfl rfl
        obtain ⟨hv1, hv2⟩ := cellsL_rel hv
        have hvl := hv1.length
        have hcl := h.length
        have hset : (q.2.cells.zipIdx.foldl (fun (cs : Array Value) (x : Value × Nat) => cs.setIfInBounds (off + x.2) x.1) ⟨cs'⟩).toList = setRange cs' off (cellsL q.2) := by
          have := set_fold (cellsL q.2) off 0 cs' (by simp only at hvl c2; omega)
          rw [Nat.add_zero] at this
          rw [← this, ← hv2, ← Array.foldl_toList, Array.toList_zipIdx]
        obtain ⟨res', r1, r2⟩ := fillL_ok place ps qs _ (setRange cs' off (cellsL q.2)) res (setRange_rel h hv1 off) (by simpa using hl) (fun j p q a b => hp (j + 1) p q (by simpa using a) (by simpa using b)) he
        refine ⟨res', ?_, r2⟩
        obtain ⟨qi, qv⟩ := q
        simp only at hpl hset hv2 hvl ⊢
        have hsz : qv.cells.size = size := by
          have : qv.cells.size = qv.cells.toList.length := by simp
          rw [this, hv2, ← hvl, c1]
        have hfit : ¬ (off + qv.cells.size > (⟨cs'⟩ : Array Value).size) := by
          rw [hsz]; simp; omega
        simp only [Instr.fill, hpl]
        rw [if_neg (by simp only [hsz] at hfit ⊢; simpa using hfit)]
        rw [show (qv.cells.zipIdx.foldl (fun cs x => cs.setIfInBounds (off + x.2) x.1) (⟨cs'⟩ : Array Value)) = ⟨setRange cs' off (cellsL qv)⟩ from Array.ext' hset]
        exact r1
def placesOf (T : Tabs) (fs : List Field) : Option (List (Nat × Nat)) := fs.mapM fun f => (T.info f.type).map fun i => (f.offset, i.size)
def withPlaces (pl : List (Nat × Nat)) : List (Nat × Value) → Option (List (Nat × Nat × Value))
  | [] => some []
  | (i, v) :: r => match pl[i]?, withPlaces pl r with
    | some (o, s), some q => some ((o, s, v) :: q)
    | _, _ => none
theorem withPlaces_spec (pl : List (Nat × Nat)) : ∀ (ps : List (Nat × Value)) (qs : List (Nat × Nat × Value)), withPlaces pl ps = some qs →
    qs.length = ps.length ∧ ∀ (j : Nat) (p : Nat × Value) (q : Nat × Nat × Value), ps[j]? = some p → qs[j]? = some q → pl[p.1]? = some (q.1, q.2.1) ∧ q.2.2 = p.2
  | [], qs, h => by simp [withPlaces] at h; subst h; simp
  | (i, v) :: r, qs, h => by
    simp only [withPlaces] at h
    split at h
    · rename_i o s q h1 h2
      cases h
      obtain ⟨a, b⟩ := withPlaces_spec pl r q h2
      refine ⟨by simp [a], fun j p qq hp hq => ?_⟩
      cases j with
      | zero => simp at hp hq; subst hp; subst hq; exact ⟨h1, rfl⟩
      | succ j => exact b j p qq (by simpa using hp) (by simpa using hq)
    · cases h
def evBuild (T : Tabs) (t : TypeId) (parts : List (Nat × Value)) : Option Value :=
  match T.info t with
  | some inf => match zeroOk inf with
    | some z => match T.und t with
      | some (.struct fs) => match placesOf T fs.toList with
        | some pl => match withPlaces pl parts with
          | some ps => match fillL (cellsL z) ps with
            | some r => some (.agg ⟨r⟩)
            | none => none
          | none => none
        | none => none
      | some (.array _ e) => match T.info e with
        | some ie => match fillL (cellsL z) (parts.map fun x => (x.1 * ie.size, ie.size, x.2)) with
          | some r => some (.agg ⟨r⟩)
          | none => none
        | none => none
      | _ => none
    | none => none
  | none => none
def PRel (P : Program) (E : Env) (ps qs : List (Nat × Value)) : Prop :=
  ps.length = qs.length ∧ ∀ (j : Nat) (p q : Nat × Value), ps[j]? = some p → qs[j]? = some q → p.1 = q.1 ∧ VRel P E p.2 q.2
theorem zero_cells {z : Value} (hp : plainV z = true) (E : Env) : LRel P E (cellsL z) (cellsL z) ∧ z.cells = ⟨cellsL z⟩ := by
  obtain ⟨a, b⟩ := cellsL_rel (plainV_rel (P := P) (E := E) hp)
  exact ⟨a, Array.ext' b⟩
theorem evBuild_ok (hT : T.Good P) {E : Env} {t : TypeId} {parts parts' : List (Nat × Value)} {v : Value} (hp : PRel P E parts parts') (he : evBuild T t parts = some v) (w : World) :
    ∃ v', (Instr.build t ⟨parts'⟩).run P w = .ok v' w ∧ VRel P E v v' := by
  unfold evBuild at he
  simp only [hT.info, hT.und, placesOf] at he
  split at he
  · rename_i inf hinf
    split at he
    · rename_i z hz
      obtain ⟨hz, hzs, hzp⟩ := zeroOk_eq hz
      obtain ⟨zr, ze⟩ := zero_cells (P := P) hzp E
      have hzv := run_zeroValue hinf hz w
      split at he
      · rename_i fs hu
        split at he
        · rename_i pl hpl
          have hrun := run_places (P := P) w _ _ hpl
          split at he
          · rename_i ps hps
            split at he
            · rename_i r hr
              cases he
              obtain ⟨a, b⟩ := withPlaces_spec pl parts ps hps
              obtain ⟨r', h1, h2⟩ := fillL_ok (E := E) (fun i => pl[i]?) ps parts' (cellsL z) (cellsL z) r zr (by rw [a]; exact hp.1) (fun j p q hj hq => by
                have hlt : j < parts.length := by have := (List.getElem?_eq_some_iff.1 hj).1; omega
                obtain ⟨x1, x2⟩ := b j _ p (List.getElem?_eq_getElem hlt) hj
                obtain ⟨y1, y2⟩ := hp.2 j _ q (List.getElem?_eq_getElem hlt) hq
                refine ⟨?_, by rw [x2]; exact y2⟩
                rw [← y1]
                exact x1) hr
              refine ⟨.agg ⟨r'⟩, ?_, .agg h2⟩
              simp [Instr.build, hzv, run_underlying hu, Array.mapM_eq_mapM_toList, hrun, ze, h1]
            · cases he
          · cases he
        · cases he
      · rename_i n e hu
        split at he
        · rename_i ie hie
          split at he
          · rename_i r hr
            cases he
            obtain ⟨r', h1, h2⟩ := fillL_ok (E := E) (fun i => some (i * ie.size, ie.size)) _ parts' (cellsL z) (cellsL z) r zr (by rw [List.length_map]; exact hp.1) (fun j p q hj hq => by
              have hlt : j < parts.length := by have := (List.getElem?_eq_some_iff.1 hj).1; simpa using this
              rw [List.getElem?_map, List.getElem?_eq_getElem hlt] at hj
              cases hj
              obtain ⟨y1, y2⟩ := hp.2 j _ q (List.getElem?_eq_getElem hlt) hq
              exact ⟨by rw [← y1], y2⟩) hr
            have hsz := run_sizeOf hie w
            refine ⟨.agg ⟨r'⟩, ?_, .agg h2⟩
            simp [Instr.build, hzv, run_underlying hu, hsz, ze, h1]
          · cases he
        · cases he
      · cases he
    · cases he
  · cases he
def repL : Nat → List Value → List Value
  | 0, _ => []
  | n + 1, l => l ++ repL n l
theorem repL_length (l : List Value) : ∀ n, (repL n l).length = n * l.length
  | 0 => by simp [repL]
  | n + 1 => by rw [repL, List.length_append, repL_length l n, Nat.add_mul, Nat.one_mul, Nat.add_comm]
theorem repL_get (l : List Value) : ∀ (n i : Nat), i < n * l.length → (repL n l)[i]? = l[i % l.length]?
  | 0, i, h => by simp at h
  | n + 1, i, h => by
    rw [repL]
    by_cases hi : i < l.length
    · rw [List.getElem?_append_left hi, Nat.mod_eq_of_lt hi]
    · have hi : l.length ≤ i := by omega
      rw [List.getElem?_append_right hi, repL_get l n (i - l.length) (by rw [Nat.add_mul, Nat.one_mul] at h; omega)]
      congr 1
      rw [← Nat.mod_eq_sub_mod hi]
theorem repL_rel {E : Env} {l l' : List Value} (h : LRel P E l l') : ∀ n, LRel P E (repL n l) (repL n l')
  | 0 => .nil
  | n + 1 => h.append (repL_rel h n)
theorem range_repL (l : List Value) (n m : Nat) (hm : m = n * l.length) : ((Array.range m).map fun i => (⟨l⟩ : Array Value)[i % (⟨l⟩ : Array Value).size]!) = ⟨repL n l⟩ := by
  subst hm
  apply Array.ext'
  apply List.ext_getElem?
  intro i
  by_cases hi : i < n * l.length
  · rw [repL_get l n i hi]
    have hpos : 0 < l.length := by
      rcases Nat.eq_zero_or_pos l.length with h | h
      · rw [h] at hi; simp at hi
      · exact h
    have hlt : i % l.length < l.length := Nat.mod_lt _ hpos
    simp [hi, hlt]
  · rw [List.getElem?_eq_none (by simp; omega), List.getElem?_eq_none (by rw [repL_length]; omega)]
def Made (P : Program) (E : Env) (w : World) (ob : AObj) (mk : Nat → Value) (r : Result Value) : Prop :=
  ∃ (o : Obj) (s : Option (TypeId × Nat)) (v' : Value), r = .ok v' (w.alloc o) ∧ (∀ s', s = some s' → (w.alloc o).shape? w.heap.size = some s') ∧
    ∀ i F, F = E.push i ⟨w.heap.size, 0, true⟩ s → E.le F → ORel P F (w.alloc o) ⟨w.heap.size, 0, true⟩ ob ∧ VRel P F (mk i) v'
theorem made_row {E : Env} {w : World} {e : TypeId} {cs cs' : List Value} (h : LRel P E cs cs') {mk : Nat → Value} {v' : Value} {r : Result Value} (hr : r = .ok v' (w.alloc (.cells ⟨cs'⟩ e)))
    (hv : ∀ i F, F = E.push i ⟨w.heap.size, 0, true⟩ (some (e, cs'.length)) → F.ι i = some ⟨w.heap.size, 0, true⟩ → F.K w.heap.size = some (e, cs'.length) → VRel P F (mk i) v') :
    Made P E w (.cells e cs false true none none) mk r := by
  have hnew : (w.alloc (.cells ⟨cs'⟩ e)).heap[w.heap.size]? = some (.cells ⟨cs'⟩ e (0, 0)) := heap_alloc_new w _
  refine ⟨_, some (e, cs'.length), v', hr, ?_, ?_⟩
  · intro s' hs; cases hs
    unfold World.shape?; rw [hnew]; rfl
  · intro i F hF hle
    refine ⟨fun _ => ⟨fun x v hx => ?_, fun _ => ⟨rfl, _, hnew⟩, fun h => by cases h⟩, hv i F hF ?_ ?_⟩
    · obtain ⟨v1, a, b⟩ := h.get x v hx
      refine ⟨v1, ?_, b.mono hle⟩
      rw [Nat.add_zero, cell_of_row _ _ x _ e (0, 0) hnew]
      simpa using a
    · subst hF; show (if i = i then _ else _) = _; rw [if_pos rfl]
    · subst hF; show (if w.heap.size = w.heap.size then _ else _) = _; rw [if_pos rfl]
def ptrTo (i : Nat) : Value := .pointer (some ⟨i, 0, none⟩)
def evAlloc (T : Tabs) (e : TypeId) : Option AObj :=
  match T.info e with
  | some inf => match zeroOk inf with
    | some z => some (.cells e (cellsL z) false true none none)
    | none => none
  | none => none
theorem evAlloc_ok (hT : T.Good P) {E : Env} {e : TypeId} {ob : AObj} (he : evAlloc T e = some ob) (w : World) : Made P E w ob ptrTo ((Instr.alloc e true (.tuple #[])).run P w) := by
  unfold evAlloc at he
  rw [hT.info] at he
  split at he
  · rename_i inf hinf
    split at he
    · rename_i z hz
      cases he
      obtain ⟨hz, hzs, hzp⟩ := zeroOk_eq hz
      obtain ⟨zr, ze⟩ := zero_cells (P := P) hzp E
      have hzv := run_zeroValue hinf hz w
      refine made_row zr (v' := .pointer (some ⟨w.heap.size, 0, none⟩)) ?_ (fun i F _ hi _ => .ptr (l := ⟨w.heap.size, 0, true⟩) hi)
      simp [Instr.alloc, newVar, newRow, hzv, ze]
    · cases he
  · cases he
def evBox (e : TypeId) (v : Value) : AObj := .cells e (cellsL v) false true none none
theorem evBox_ok {E : Env} {e : TypeId} {v v' : Value} (hv : VRel P E v v') (w : World) : Made P E w (evBox e v) ptrTo ((Instr.box e v').run P w) := by
  obtain ⟨a, b⟩ := cellsL_rel hv
  refine made_row a (v' := .pointer (some ⟨w.heap.size, 0, none⟩)) ?_ (fun i F _ hi _ => .ptr (l := ⟨w.heap.size, 0, true⟩) hi)
  have hc : v'.cells = ⟨cellsL v'⟩ := Array.ext' b
  simp [Instr.box, newVar, newRow, hc]
def rowOf (len cap : Nat) (i : Nat) : Value := .slice (some ⟨i, 0, none⟩) len cap
def evBuildSlice1 (T : Tabs) (t : TypeId) (len : Nat) (parts : List (Nat × Value)) : Option AObj :=
  match sliceElem (T.und t) with
  | some e => match T.info e with
    | some inf => match zeroOk inf with
      | some z => cond (!Nat.beq (len * inf.size) 0 && Nat.ble (len * inf.size) 16777216) (match fillL (repL len (cellsL z)) (parts.map fun x => (x.1 * inf.size, inf.size, x.2)) with
        | some r => some (.cells e r false true none none)
        | none => none) none
      | none => none
    | none => none
  | none => none
theorem evBuildSlice1_ok (hT : T.Good P) {E : Env} {t : TypeId} {len : Nat} {parts parts' : List (Nat × Value)} (hp : PRel P E parts parts') {ob : AObj} (he : evBuildSlice1 T t len parts = some ob) (w : World) :
    Made P E w ob (rowOf len len) ((Instr.buildSlice t len ⟨parts'⟩).run P w) := by
  unfold evBuildSlice1 at he
  simp only [hT.info, hT.und] at he
  split at he
  · rename_i e hse
    have hu := sliceElem_eq hse
    split at he
    · rename_i inf hinf
      split at he
      · rename_i z hz
        obtain ⟨hz, hzs, hzp⟩ := zeroOk_eq hz
        obtain ⟨zr, ze⟩ := zero_cells (P := P) hzp E
        have hzl : (cellsL z).length = inf.size := by rw [← hzs, ze]; rfl
        have hzv := run_zeroValue hinf hz w
        have hsz := run_sizeOf hinf w
        cases hc : (!Nat.beq (len * inf.size) 0 && Nat.ble (len * inf.size) 16777216) with
        | false => rw [hc] at he; cases he
        | true =>
          rw [hc] at he
          simp only [cond_true] at he
          simp only [Bool.and_eq_true, Bool.not_eq_true', Nat.ble_eq] at hc
          have h0 : len * inf.size ≠ 0 := by intro e; rw [e] at hc; cases hc.1
          have hbig : ¬ (len * inf.size > 2 ^ 24) := by have := hc.2; omega
          split at he
          · rename_i r hr
            cases he
            obtain ⟨r', h1, h2⟩ := fillL_ok (E := E) (fun i => some (i * inf.size, inf.size)) _ parts' (repL len (cellsL z)) (repL len (cellsL z)) r (repL_rel zr len) (by rw [List.length_map]; exact hp.1) (fun j p q hj hq => by
              have hlt : j < parts.length := by have := (List.getElem?_eq_some_iff.1 hj).1; simpa using this
              rw [List.getElem?_map, List.getElem?_eq_getElem hlt] at hj
              cases hj
              obtain ⟨y1, y2⟩ := hp.2 j _ q (List.getElem?_eq_getElem hlt) hq
              exact ⟨by rw [← y1], y2⟩) hr
            have hrange := range_repL (cellsL z) len (len * inf.size) (by rw [hzl])
            simp at hrange
            have hrl : r'.length = len * inf.size := by
              rw [← h2.length]
              have key : ∀ (ps : List (Nat × Nat × Value)) (cs r : List Value), fillL cs ps = some r → r.length = cs.length := by
                intro ps
                induction ps with
                | nil => intro cs r h; simp [fillL] at h; rw [h]
                | cons p ps ih =>
                  intro cs r h
                  obtain ⟨o, s, v⟩ := p
                  simp only [fillL] at h
                  cases hq : (Nat.beq (cellsL v).length s && Nat.ble (o + (cellsL v).length) cs.length) with
                  | false => rw [hq] at h; cases h
                  | true =>
                    rw [hq] at h
                    simp only [Bool.and_eq_true, Nat.ble_eq] at hq
                    rw [ih _ _ h, setRange_length hq.2]
              rw [key _ _ _ hr, repL_length, hzl]
            refine made_row h2 (v' := .slice (some ⟨w.heap.size, 0, none⟩) len len) ?_ (fun i F _ hi hk => ?_)
            · simp [Instr.buildSlice, run_underlying hu, hsz, hbig, h0, hzv, ze, hrange, h1, newRow]
            · exact VRel.slice (l := ⟨w.heap.size, 0, true⟩) hi (fun _ => rfl) (Nat.le_refl _) (Nat.le_refl _) (fun _ => ⟨e, _, inf.size, hk, by rw [hinf]; rfl, by simp [hrl]⟩)
          · cases he
      · cases he
    · cases he
  · cases he
def evBuildSlice (T : Tabs) (t : TypeId) (len : Nat) (parts : List (Nat × Value)) : Option AObj :=
  match len, parts with
  | 0, [] => match sliceElem (T.und t) with
    | some e => match T.info e with
      | some _ => some (.cells e [] false true none none)
      | none => none
    | none => none
  | len, parts => evBuildSlice1 T t len parts
theorem evBuildSlice_ok (hT : T.Good P) {E : Env} {t : TypeId} {len : Nat} {parts parts' : List (Nat × Value)} (hp : PRel P E parts parts') {ob : AObj} (he : evBuildSlice T t len parts = some ob) (w : World) :
    Made P E w ob (rowOf len len) ((Instr.buildSlice t len ⟨parts'⟩).run P w) := by
  unfold evBuildSlice at he
  split at he
  · have hp' : parts' = [] := List.eq_nil_of_length_eq_zero hp.1.symm
    subst hp'
    split at he
    · rename_i e hse
      rw [hT.und] at hse
      have hu := sliceElem_eq hse
      rw [hT.info] at he
      split at he
      · rename_i inf hinf
        cases he
        have hsz := run_sizeOf hinf w
        refine made_row (cs' := []) .nil (v' := .slice (some ⟨w.heap.size, 0, none⟩) 0 0) ?_ (fun i F _ hi hk => ?_)
        · have h0 : ∀ (f : Nat → Value), Array.map f (Array.range 0) = ⟨[]⟩ := fun f => Array.eq_empty_of_size_eq_zero (by simp)
          simp [Instr.buildSlice, run_underlying hu, hsz, Instr.fill, newRow, h0]
        · exact VRel.slice (l := ⟨w.heap.size, 0, true⟩) hi (fun _ => rfl) (Nat.le_refl _) (Nat.le_refl _) (fun _ => ⟨e, _, inf.size, hk, by rw [hinf]; rfl, by simp⟩)
      · cases he
    · cases he
  · exact evBuildSlice1_ok hT hp he w
def evMakeSlice (T : Tabs) (t : TypeId) (len cap : Value) : Option (AObj × (Nat → Value)) :=
  match len, cap with
  | .int .i64 (.ofNat l), .int .i64 (.ofNat c) =>
    match sliceElem (T.und t) with
    | some e => match T.info e with
      | some inf => match zeroOk inf with
        | some z => cond (Nat.ble l c && Nat.blt 0 inf.bytes && Nat.ble (c * inf.bytes) 281474976710656) (some (.cells e (repL c (cellsL z)) false true none none, rowOf l c)) none
        | none => none
      | none => none
    | none => none
  | _, _ => none
theorem evMakeSlice_ok (hT : T.Good P) {E : Env} {t : TypeId} {l c l' c' : Value} (hl : VRel P E l l') (hc : VRel P E c c') {ob : AObj} {mk : Nat → Value} (he : evMakeSlice T t l c = some (ob, mk)) (w : World) :
    Made P E w ob mk ((Instr.makeSlice t l' c').run P w) := by
  unfold evMakeSlice at he
  simp only [hT.info, hT.und] at he
  split at he
  · rename_i n m
    cases hl
    cases hc
    split at he
    · rename_i e hse
      have hu := sliceElem_eq hse
      split at he
      · rename_i inf hinf
        split at he
        · rename_i z hz
          cases hq : (Nat.ble n m && Nat.blt 0 inf.bytes && Nat.ble (m * inf.bytes) 281474976710656) with
          | false => rw [hq] at he; cases he
          | true =>
            rw [hq] at he; cases he
            simp only [Bool.and_eq_true, Nat.ble_eq] at hq
            obtain ⟨⟨q1, q2⟩, q3⟩ := hq
            have q2 := blt_lt q2
            obtain ⟨hz, hzs, hzp⟩ := zeroOk_eq hz
            obtain ⟨zr, ze⟩ := zero_cells (P := P) hzp E
            have hzl : (cellsL z).length = inf.size := by rw [← hzs, ze]; rfl
            have hzv := run_zeroValue hinf hz w
            have hsz := run_sizeOf hinf w
            have hm : m ≤ m * inf.bytes := Nat.le_mul_of_pos_right _ q2
            have w1 : IntKind.i64.wrap (Int.ofNat n) = (n : Int) := IntWalk.i64_in _ (by show _ ∧ _; simp; omega)
            have w2 : IntKind.i64.wrap (Int.ofNat m) = (m : Int) := IntWalk.i64_in _ (by show _ ∧ _; simp; omega)
            have big : ¬ ((inf.bytes : Int) * (m : Int) > 281474976710656) := by
              have : (inf.bytes : Int) * (m : Int) = ((m * inf.bytes : Nat) : Int) := by rw [Nat.mul_comm]; simp
              rw [this]; omega
            have hrange := range_repL (cellsL z) m (m * inf.size) (by rw [hzl])
            simp at hrange
            refine made_row (repL_rel zr m) (v' := .slice (some ⟨w.heap.size, 0, none⟩) n m) ?_ (fun i F _ hi hk => ?_)
            · have n1 : ¬ ((m : Int) < 0) := by omega
              have n2 : ¬ ((n : Int) < 0) := by omega
              have n3 : ¬ ((n : Int) > (m : Int)) := by omega
              have n4 : ¬ (281474976710656 < (inf.bytes : Int) * (m : Int)) := by simpa using big
              have w1' : IntKind.i64.wrap (n : Int) = (n : Int) := w1
              have w2' : IntKind.i64.wrap (m : Int) = (m : Int) := w2
              by_cases h0 : m * inf.size = 0
              · have hnil : repL m (cellsL z) = [] := by
                  apply List.eq_nil_of_length_eq_zero
                  rw [repL_length, hzl, h0]
                rw [hnil]
                simp [Instr.makeSlice, run_underlying hu, asInt, asIntOf, typeInfo, hinf, w1', w2', n3, n4, hsz, h0, newRow]
                rw [if_neg (show ¬ ((m : Int) < 0 ∨ (n : Int) < 0) by omega)]
                have hr0 : (Array.map (fun _ => (default : Value)) (Array.range 0)) = ⟨[]⟩ := by
                  apply Array.eq_empty_of_size_eq_zero
                  simp
                rw [hr0]
              · simp [Instr.makeSlice, run_underlying hu, asInt, asIntOf, typeInfo, hinf, w1', w2', n3, n4, hsz, h0, hzv, ze, hrange, newRow]
                exact fun h => absurd h (show ¬ ((m : Int) < 0 ∨ (n : Int) < 0) by omega)
            · exact VRel.slice (l := ⟨w.heap.size, 0, true⟩) hi (fun _ => rfl) q1 (Nat.le_refl _) (fun _ => ⟨e, _, inf.size, hk, by rw [hinf]; rfl, by simp [repL_length, hzl]⟩)
        · cases he
      · cases he
    · cases he
  · cases he
end Go.Ev
end
section
namespace Go.Ev
open Go.RowKit
variable {P : Program} {B : Nat} {w0 : World} {T : Tabs}
def setObjW (w : World) (b : Nat) (O : Obj) : World := { w with heap := w.heap.setIfInBounds b O }
theorem heap_setObj_ne (w : World) (b : Nat) (O : Obj) (k : Nat) (h : k ≠ b) : (setObjW w b O).heap[k]? = w.heap[k]? := by
  show (w.heap.setIfInBounds b O)[k]? = _
  rw [Array.getElem?_setIfInBounds_ne (by omega)]
theorem heap_setObj (w : World) (b : Nat) (O : Obj) (h : b < w.heap.size) : (setObjW w b O).heap[b]? = some O := by
  show (w.heap.setIfInBounds b O)[b]? = _
  rw [Array.getElem?_setIfInBounds_self]
  simp [h]
theorem Rel.setO {E : Env} {σ : St} {w : World} (h : Rel P B w0 E σ w) {i : Nat} {l : Loc} (hi : E.ι i = some l) {o o' : AObj} (hg : σ.get i = some o) (hc : o.isCells = false) (hc' : o'.isCells = false)
    {O' : Obj} (hO : ∀ c e f, w.heap[l.b]? ≠ some (.cells c e f)) (hor : ORel P E (setObjW w l.b O') l o') : Rel P B w0 E (σ.put i o') (setObjW w l.b O') := by
  have hown : l.own = true := by cases o' <;> first | (cases hc'; done) | exact hor.1
  obtain ⟨hin, hlt, hb⟩ := h.dom i l hi
  have hB := (hb hown).2
  refine ⟨h.below.trans ⟨rfl, rfl, rfl, by simp [setObjW], fun k hk => heap_setObj_ne w _ _ k (by omega)⟩, by simpa [setObjW] using h.base, ?_, ?_, ?_, ?_, ?_⟩
  · intro j m hj
    obtain ⟨a, b, c⟩ := h.dom j m hj
    exact ⟨by rw [St.next_put]; exact a, by simpa [setObjW] using b, c⟩
  · intro b s hs
    have h1 := h.shp b s hs
    have hne : b ≠ l.b := by
      rintro rfl
      unfold World.shape? at h1
      split at h1
      · rename_i c e f hh; exact hO c e f hh
      · cases h1
    unfold World.shape? at h1 ⊢
    rw [heap_setObj_ne w _ _ _ hne]
    exact h1
  · intro j m ob hj hgj
    by_cases hji : j = i
    · subst hji
      rw [hi] at hj; cases hj
      rw [St.get_put, if_pos rfl] at hgj; cases hgj
      exact hor
    · rw [St.get_put, if_neg hji] at hgj
      have hbne : l.b ≠ m.b := h.sepm i j l m o hi hj (Ne.symm hji) hg hc
      exact (h.obj j m ob hj hgj).same (heap_setObj_ne w _ _ _ (Ne.symm hbne))
  · intro j j' m m' e cs p k hj hj' hne hb hgj
    by_cases hji : j = i
    · subst hji
      rw [St.get_put, if_pos rfl] at hgj; cases hgj; cases hc'
    · rw [St.get_put, if_neg hji] at hgj
      by_cases hj'i : j' = i
      · subst hj'i
        rw [hi] at hj'; cases hj'
        exact absurd hb.symm (h.sepm j' j l m o hi hj (Ne.symm hne) hg hc)
      · obtain ⟨a, b⟩ := h.sep j j' m m' e cs p k hj hj' hne hb hgj
        refine ⟨fun hl => a ?_, fun o ho => b o (by rw [St.get_put, if_neg hj'i] at ho; exact ho)⟩
        obtain ⟨x1, x2, x3, x4, x5, x6⟩ := hl
        exact ⟨x1, x2, x3, x4, x5, by rw [St.get_put, if_neg hj'i] at x6; exact x6⟩
  · intro j j' m m' ob hj hj' hne hgj hcj
    by_cases hji : j = i
    · subst hji
      rw [hi] at hj; cases hj
      exact h.sepm j j' l m' o hi hj' hne hg hc
    · rw [St.get_put, if_neg hji] at hgj
      exact h.sepm j j' m m' ob hj hj' hne hgj hcj
def evRange (T : Tabs) (t : TypeId) : Value → Option AObj
  | .string s => cond (isStr (T.und t)) (some (.iter s 0)) none
  | _ => none
theorem evRange_ok (hT : T.Good P) {E : Env} {t : TypeId} {x x' : Value} {ob : AObj} (hx : VRel P E x x') (he : evRange T t x = some ob) (w : World) : Made P E w ob ptrTo ((Instr.range t x').run P w) := by
  cases hx with
  | string s =>
    simp only [evRange, hT.und] at he
    cases hs : isStr (P.underlying t) with
    | false => rw [hs] at he; cases he
    | true =>
      rw [hs] at he; cases he
      have hu := isStr_eq hs
      refine ⟨.stringIter s 0, none, .pointer (some ⟨w.heap.size, 0, none⟩), ?_, (fun s' hs => by cases hs), ?_⟩
      · simp [Instr.range, run_underlying hu]
      · intro i F hF hle
        refine ⟨⟨rfl, heap_alloc_new w _⟩, ?_⟩
        refine .ptr (l := ⟨w.heap.size, 0, true⟩) ?_
        subst hF; show (if i = i then _ else _) = _; rw [if_pos rfl]
  | _ => simp [evRange] at he
def evNext (σ : St) (isString : Bool) : Value → Option (Value × St)
  | .pointer (some ⟨i, 0, none⟩) => cond isString (match σ.get i with
    | some (.iter s pos) => cond (Nat.blt pos s.size)
        (some (.tuple ⟨[.bool true, .int .i64 pos, .int .i32 (Utf8.decode s pos).1]⟩, σ.put i (.iter s (pos + (Utf8.decode s pos).2))))
        (some (.tuple ⟨[.bool false]⟩, σ))
    | _ => none) none
  | _ => none
theorem evNext_ok {E : Env} {σ σ' : St} {w : World} (h : Rel P B w0 E σ w) {x x' v : Value} {b : Bool} (ty : TypeId) (hx : VRel P E x x') (he : evNext σ b x = some (v, σ')) :
    ∃ v' w', (Instr.next x' b ty).run P w = .ok v' w' ∧ VRel P E v v' ∧ Rel P B w0 E σ' w' := by
  cases hx with
  | @ptr i o l hi =>
    cases o with
    | succ o => simp [evNext] at he
    | zero =>
      simp only [evNext] at he
      cases b with
      | false => cases he
      | true =>
        simp only [cond_true] at he
        split at he
        · rename_i s pos hg
          obtain ⟨hown, hh⟩ := h.obj i l _ hi hg
          have hd := ((h.dom i l hi).2.2 hown).1
          have hlt := (h.dom i l hi).2.1
          have hgo : (getObj l.b).run P w = .ok (.stringIter s pos) w := by simp [getObj, Sem.run, hh]
          cases hc : Nat.blt pos s.size with
          | true =>
            rw [hc] at he
            simp only [cond_true] at he
            cases he
            have hps := blt_lt hc
            have hso : ∀ O', (setObj l.b O').run P w = .ok () (setObjW w l.b O') := by intro O'; simp [setObj, Sem.run, hh, setObjW]
            refine ⟨.tuple #[.bool true, goInt pos, .int .i32 (Utf8.decode s pos).1], _, ?_, ?_, h.setO hi hg rfl rfl (O' := .stringIter s (pos + (Utf8.decode s pos).2)) (fun c e f => by rw [hh]; simp) ⟨hown, heap_setObj w _ _ hlt⟩⟩
            · rw [hd]
              simp only [Instr.next, Sem.run_bind, hgo, Result.andThen_ok]
              simp [hps, hso]
            · exact .tuple (.cons (.bool _) (.cons (.int _ _) (.cons (.int _ _) .nil)))
          | false =>
            rw [hc] at he
            simp only [cond_false] at he
            cases he
            have hps : ¬ pos < s.size := by
              intro hlt
              have : Nat.blt pos s.size = true := by unfold Nat.blt; exact Nat.ble_eq ▸ hlt
              rw [this] at hc; cases hc
            refine ⟨.tuple #[.bool false], w, ?_, .tuple (.cons (.bool _) .nil), h⟩
            rw [hd]
            simp only [Instr.next, Sem.run_bind, hgo, Result.andThen_ok]
            simp [hps]
        · cases he
  | _ => simp [evNext] at he
def evMakeMap : AObj := .map [] 0
theorem evMakeMap_ok {E : Env} {t : TypeId} (w : World) : Made P E w evMakeMap (fun i => .map (some i)) ((Instr.makeMap t none).run P w) := by
  refine ⟨.map #[] 0, none, .map (some w.heap.size), by simp [Instr.makeMap], (fun s' hs => by cases hs), ?_⟩
  intro i F hF hle
  refine ⟨⟨rfl, #[], heap_alloc_new w _, rfl, fun x e e' h => by simp at h⟩, ?_⟩
  refine .map (l := ⟨w.heap.size, 0, true⟩) ?_
  subst hF; show (if i = i then _ else _) = _; rw [if_pos rfl]
def keysNot (s : ByteArray) : List MapEntry → Bool
  | [] => true
  | e :: r => match e.key with
    | .string q => cond (s == q) false (keysNot s r)
    | _ => false
def mapKey : Option TypeDesc → Option TypeId
  | some (.map k _) => some k
  | _ => none
theorem mapKey_eq {d : Option TypeDesc} {k : TypeId} (h : mapKey d = some k) : ∃ e, d = some (.map k e) := by
  unfold mapKey at h; split at h
  · cases h; exact ⟨_, rfl⟩
  · cases h
def evMapUpdate (T : Tabs) (σ : St) (t : TypeId) (m k v : Value) : Option St :=
  match m, k with
  | .map (some i), .string s =>
    match mapKey (T.und t) with
    | some kt => cond (isStr (T.und kt)) (match σ.get i with
      | some (.map es clock) => cond (keysNot s es) (some (σ.put i (.map (es ++ [{ key := .string s, val := v, born := clock }]) (clock + 1)))) none
      | _ => none) none
    | none => none
  | _, _ => none
theorem findNow_none {E : Env} (s : ByteArray) : ∀ (es es' : List MapEntry) (n : Nat), es.length = es'.length → (∀ (x : Nat) (e e' : MapEntry), es[x]? = some e → es'[x]? = some e' → VRel P E e.key e'.key ∧ VRel P E e.val e'.val ∧ e.born = e'.born) →
    keysNot s es = true → Instr.findNow .string (.string s) es' n = some none
  | [], es', n, hl, _, _ => by
    cases es' with
    | nil => rfl
    | cons => simp at hl
  | e :: r, es', n, hl, hr, hk => by
    cases es' with
    | nil => simp at hl
    | cons e' r' =>
      obtain ⟨h1, _, _⟩ := hr 0 e e' rfl rfl
      unfold keysNot at hk
      split at hk
      · rename_i q hq
        rw [hq] at h1
        cases hb : (s == q) with
        | true => rw [hb] at hk; cases hk
        | false =>
          rw [hb] at hk
          have ih := findNow_none s r r' (n + 1) (by simpa using hl) (fun x a b ha hb => hr (x + 1) a b (by simpa using ha) (by simpa using hb)) hk
          unfold Instr.findNow
          have hkey : e'.key = .string q := by generalize e'.key = kk at h1 ⊢; cases h1; rfl
          rw [hkey]
          simp only [Instr.sameNow, hb]
          exact ih
      · cases hk
theorem evMapUpdate_ok (hT : T.Good P) {E : Env} {σ σ' : St} {w : World} (h : Rel P B w0 E σ w) {t : TypeId} {m m' k k' v v' : Value} (hm : VRel P E m m') (hk : VRel P E k k') (hv : VRel P E v v')
    (he : evMapUpdate T σ t m k v = some σ') : ∃ w', (Instr.mapUpdate t m' k' v').run P w = .ok () w' ∧ Rel P B w0 E σ' w' := by
  cases hm with
  | @map i l hi =>
    cases hk with
    | string s =>
      simp only [evMapUpdate, hT.und] at he
      split at he
      · rename_i kt hkt
        obtain ⟨et, hu⟩ := mapKey_eq hkt
        cases hs : isStr (P.underlying kt) with
        | false => rw [hs] at he; cases he
        | true =>
          rw [hs] at he
          have hku := isStr_eq hs
          simp only [cond_true] at he
          split at he
          · rename_i es clock hg
            cases hn : keysNot s es with
            | false => rw [hn] at he; cases he
            | true =>
              rw [hn] at he; cases he
              obtain ⟨hown, es', hh, hlen, hrel⟩ := h.obj i l _ hi hg
              have hlt := (h.dom i l hi).2.1
              have hgo : (getObj l.b).run P w = .ok (.map es' clock) w := by simp [getObj, Sem.run, hh]
              have hso : ∀ O', (setObj l.b O').run P w = .ok () (setObjW w l.b O') := by intro O'; simp [setObj, Sem.run, hh, setObjW]
              have hfind := findNow_none (P := P) (E := E) s es es'.toList 0 (by simpa using hlen) (fun x e e' a b => hrel x e e' a (by simpa using b)) hn
              have hck : True ∧ ∀ b, (Instr.checkKey b 10000 kt (.string s)).run P w = .ok () w := by
                have : ∀ b, (Instr.checkKey b (9999 + 1) kt (.string s)).run P w = .ok () w := by
                  intro b; generalize 9999 = d; simp [Instr.checkKey, run_underlying hku]
                exact ⟨trivial, this⟩
              refine ⟨_, ?_, h.setO hi hg rfl rfl (O' := .map (es'.push { key := .string s, val := v', born := clock }) (clock + 1)) (fun c e f => by rw [hh]; simp) ⟨hown, _, heap_setObj w _ _ hlt, by simp [hlen], ?_⟩⟩
              · simp [Instr.mapUpdate, run_underlying hu, hgo, hck.2, run_underlying hku, Instr.findKey, hfind, hso]
              · intro x e e' ha hb
                rcases Nat.lt_or_ge x es.length with hx | hx
                · rw [List.getElem?_append_left hx] at ha
                  rw [Array.getElem?_push_lt (by omega)] at hb
                  exact hrel x e e' ha (by rw [Array.getElem?_eq_getElem (by omega)]; exact hb)
                · have hx2 : x = es.length := by
                    have := (List.getElem?_eq_some_iff.1 ha).1
                    simp at this; omega
                  subst hx2
                  rw [List.getElem?_append_right (Nat.le_refl _)] at ha
                  simp at ha
                  rw [hlen, Array.getElem?_push_size] at hb
                  cases hb; subst ha
                  exact ⟨.string s, hv, rfl⟩
          · cases he
      · cases he
    | _ => simp [evMapUpdate] at he
  | _ => simp [evMapUpdate] at he
end Go.Ev
end
section
namespace Go.Ev
open Go.RowKit
variable {P : Program} {B : Nat} {w0 : World} {T : Tabs}
def evCap (T : Tabs) (t : TypeId) (x : Value) : Option Value :=
  match sliceElem (T.und t), x with
  | some _, .slice none 0 0 => some (.int .i64 0)
  | some _, .slice (some ⟨_, _, none⟩) _ c => some (.int .i64 c)
  | _, _ => none
theorem evCap_ok (hT : T.Good P) {E : Env} {t ty : TypeId} {x x' v : Value} (hx : VRel P E x x') (he : evCap T t x = some v) (w : World) :
    ∃ v', (Builtin.cap_ #[t] ty #[x']).run P w = .ok v' w ∧ VRel P E v v' := by
  unfold evCap at he
  rw [hT.und] at he
  split at he
  · rename_i e hse
    have hu := sliceElem_eq hse
    cases he
    cases hx
    exact ⟨_, by simp [Builtin.cap_, run_underlying hu, goInt], .int _ _⟩
  · rename_i e n c hse
    rename_i i o m
    have hu := sliceElem_eq ‹_›
    cases he
    cases hx with
    | slice a b d f g =>
      have hcc := b rfl
      subst hcc
      exact ⟨_, by simp [Builtin.cap_, run_underlying hu, goInt], .int _ _⟩
  · cases he
theorem rowAt_mono (p : Program) (fits : TypeId → Bool) : ∀ (d : Nat) (e c c' off n : Nat), c ≤ c' → rowAt p fits d e c off n = true → rowAt p fits d e c' off n = true
  | 0, _, _, _, _, _, _, h => by simp [rowAt] at h
  | d + 1, e, c, c', off, n, hc, h => by
    unfold rowAt at h ⊢
    dsimp only at h ⊢
    by_cases hs : p.cellsOf e = 0
    · rw [if_pos hs] at h; cases h
    · rw [if_neg hs] at h ⊢
      simp only [Bool.or_eq_true, Bool.and_eq_true, decide_eq_true_eq] at h ⊢
      rcases h with ⟨⟨h1, h2⟩, h3⟩ | ⟨h1, h2⟩
      · exact .inl ⟨⟨h1, by omega⟩, h3⟩
      · exact .inr ⟨by omega, h2⟩
theorem liesAt_mono (p : Program) : ∀ (d : Nat) (e c c' off u n : Nat), c ≤ c' → liesAt p d e c off u n = true → liesAt p d e c' off u n = true
  | 0, _, _, _, _, _, _, _, h => by simp [liesAt] at h
  | d + 1, e, c, c', off, u, n, hc, h => by
    unfold liesAt at h ⊢
    simp only [Bool.or_eq_true] at h ⊢
    rcases h with h | h
    · exact .inl (rowAt_mono p _ _ _ _ _ _ _ hc h)
    · refine .inr ?_
      split at h
      · rename_i m u' hu
        exact liesAt_mono p d e c c' off u' (n * m) hc h
      · cases h
def ownRow : Option AObj → Option (TypeId × List Value × Option Nat × Option Nat)
  | some (.cells e cs false true p k) => some (e, cs, p, k)
  | _ => none
theorem ownRow_eq {o : Option AObj} {x : TypeId × List Value × Option Nat × Option Nat} (h : ownRow o = some x) : o = some (.cells x.1 x.2.1 false true x.2.2.1 x.2.2.2) := by
  unfold ownRow at h; split at h
  · cases h; rfl
  · cases h
theorem Rel.ownShape {E : Env} {σ : St} {w : World} (h : Rel P B w0 E σ w) {i : Nat} {l : Loc} (hi : E.ι i = some l) {x : TypeId × List Value × Option Nat × Option Nat} (hx : ownRow (σ.get i) = some x) :
    l.d = 0 ∧ l.own = true ∧ ∃ C : Array Value, w.heap[l.b]? = some (.cells C x.1 (0, 0)) ∧ x.2.1.length ≤ C.size ∧ w.shape? l.b = some (x.1, C.size) := by
  have hg := ownRow_eq hx
  obtain ⟨hc, ho, _⟩ := h.obj i l _ hi hg rfl
  obtain ⟨hown, C, hC⟩ := ho rfl
  have hd := ((h.dom i l hi).2.2 hown).1
  refine ⟨hd, hown, C, hC, ?_, by unfold World.shape?; rw [hC]⟩
  rcases Nat.lt_or_ge C.size x.2.1.length with hlt | hge
  · obtain ⟨v', hv', _⟩ := hc C.size (x.2.1[C.size]'hlt) (by simp [hlt])
    rw [hd, Nat.add_zero, cell_of_row w l.b C.size C _ (0, 0) hC] at hv'
    simp at hv'
  · exact hge
structure Tabs.Lies (T : Tabs) (P : Program) (lies : TypeId → Nat → Nat → TypeId → Nat → Bool) : Prop where
  ok : ∀ e c o u n, lies e c o u n = true → liesAt P P.depth e c o u n = true
def isUnsafe : Option TypeDesc → Bool
  | some .unsafePointer => true
  | _ => false
theorem isUnsafe_eq {d : Option TypeDesc} (h : isUnsafe d = true) : d = some .unsafePointer := by
  unfold isUnsafe at h; split at h
  · rfl
  · cases h
def ptrElem : Option TypeDesc → Option TypeId
  | some (.pointer e) => some e
  | _ => none
theorem ptrElem_eq {d : Option TypeDesc} {e : TypeId} (h : ptrElem d = some e) : d = some (.pointer e) := by
  unfold ptrElem at h; split at h
  · cases h; rfl
  · cases h
def evUnsafe (T : Tabs) (lies : TypeId → Nat → Nat → TypeId → Nat → Bool) (σ : St) (s d : TypeId) (x : Value) : Option Value :=
  match x with
  | .pointer (some ⟨i, o, none⟩) =>
    match ownRow (σ.get i) with
    | some (e, cs, _, _) =>
      cond (isUnsafe (T.und d))
        (match ptrElem (T.und s) with
        | some t => match T.info t with
          | some inf => cond (!Nat.beq inf.size 0 && Nat.blt o cs.length) (some x) none
          | none => none
        | none => none)
        (match ptrElem (T.und d), T.info e with
        | some u, some ie => match T.info u with
          | some inf => cond (isUnsafe (T.und s) && !Nat.beq inf.size 0 && lies e (cs.length / ie.size) o u 1) (some x) none
          | none => none
        | _, _ => none)
    | none => none
  | _ => none
theorem evUnsafe_ok (hT : T.Good P) {lies : TypeId → Nat → Nat → TypeId → Nat → Bool} (hL : T.Lies P lies) {E : Env} {σ : St} {w : World} (h : Rel P B w0 E σ w) {s d : TypeId} {x x' v : Value}
    (hx : VRel P E x x') (he : evUnsafe T lies σ s d x = some v) : ∃ v', (convert s d x').run P w = .ok v' w ∧ VRel P E v v' := by
  cases hx with
  | @ptr i o l hi =>
    simp only [evUnsafe, hT.und, hT.info] at he
    split at he
    · rename_i e cs p k hrow
      obtain ⟨hd, hown, C, hC, hsz, hsh⟩ := h.ownShape hi hrow
      simp only at hsz hsh
      have hseen : (Conv.seenAt ⟨l.b, o + l.d, none⟩).run P w = .ok ⟨l.b, o + l.d, none⟩ w := by
        simp [Conv.seenAt, viewAt, hsh]
      cases hun : isUnsafe (P.underlying d) with
      | true =>
        have hud := isUnsafe_eq hun
        rw [hun] at he
        simp only [cond_true] at he
        split at he
        · rename_i t hpt
          have hus := ptrElem_eq hpt
          split at he
          · rename_i inf hinf
            cases hc : (!Nat.beq inf.size 0 && Nat.blt o cs.length) with
            | false => rw [hc] at he; cases he
            | true =>
              rw [hc] at he; cases he
              simp only [Bool.and_eq_true, Bool.not_eq_true'] at hc
              have h0 : inf.size ≠ 0 := by intro e; rw [e] at hc; cases hc.1
              have hlt := blt_lt hc.2
              have hsz2 := run_sizeOf hinf w
              refine ⟨.pointer (some ⟨l.b, o + l.d, none⟩), ?_, .ptr hi⟩
              have hn : ¬ (o + l.d ≥ C.size) := by rw [hd]; omega
              have hn' : ¬ (C.size ≤ o + l.d) := hn
              simp [convert, run_underlying hus, run_underlying hud, Conv.unsafePointer, hseen, cellsIn, hsh, hsz2, h0, hn']
          · cases he
        · cases he
      | false =>
        rw [hun] at he
        simp only [cond_false] at he
        split at he
        · rename_i u ie hpt hie
          have hud := ptrElem_eq hpt
          split at he
          · rename_i inf hinf
            cases hc : (isUnsafe (P.underlying s) && !Nat.beq inf.size 0 && lies e (cs.length / ie.size) o u 1) with
            | false => rw [hc] at he; cases he
            | true =>
              rw [hc] at he; cases he
              simp only [Bool.and_eq_true, Bool.not_eq_true'] at hc
              obtain ⟨⟨c1, c2⟩, c3⟩ := hc
              have hus := isUnsafe_eq c1
              have h0 : inf.size ≠ 0 := by intro e; rw [e] at c2; cases c2
              have hsz2 := run_sizeOf hinf w
              have hco : P.cellsOf e = ie.size := by simp [Program.cellsOf, hie]
              have hlies : liesAt P P.depth e (C.size / P.cellsOf e) (o + l.d) u 1 = true := by
                rw [hd, Nat.add_zero, hco]
                exact liesAt_mono P _ _ _ _ _ _ _ (Nat.div_le_div_right hsz) (hL.ok _ _ _ _ _ c3)
              refine ⟨.pointer (some ⟨l.b, o + l.d, none⟩), ?_, .ptr hi⟩
              simp [convert, run_underlying hus, run_underlying hud, Conv.unsafePointer, hseen, hsz2, h0, variablesAt, hsh, hlies]
          · cases he
        · cases he
    · cases he
  | _ => simp [evUnsafe] at he
def evSliceData : Value → Option Value
  | .slice (some ⟨i, o, sp⟩) n _ => cond (!markE sp && Nat.blt 0 n) (some (.pointer (some ⟨i, o, none⟩))) none
  | _ => none
theorem evSliceData_ok {E : Env} {ts : Array TypeId} {ty : TypeId} {x x' v : Value} (hx : VRel P E x x') (he : evSliceData x = some v) (w : World) :
    ∃ v', (Builtin.unsafeSliceData_ ts ty #[x']).run P w = .ok v' w ∧ VRel P E v v' := by
  cases hx with
  | empty => simp [evSliceData, markE] at he
  | @slice i o n c c' sp l hil a1 a2 a3 a4 =>
    simp only [evSliceData] at he
    cases hc : (!markE sp && Nat.blt 0 n) with
    | false => rw [hc] at he; cases he
    | true =>
      rw [hc] at he; cases he
      simp only [Bool.and_eq_true] at hc
      have := blt_lt hc.2
      have h0 : c' ≠ 0 := by omega
      refine ⟨.pointer (some ⟨l.b, o + l.d, none⟩), ?_, .ptr hil⟩
      show Sem.run P (if c' ≠ 0 then (pure (Value.pointer (some ⟨l.b, o + l.d, none⟩)) : Sem Value) else _) w = _
      rw [if_pos h0]
      rfl
  | _ => simp [evSliceData] at he
theorem run_loadBytes : ∀ (ns : List Int) (w : World) (b o : Nat) (acc : ByteArray), (∀ (j : Nat) (v : Value), (ns.map (Value.int .u8))[j]? = some v → w.cell? ⟨b, o + j, none⟩ = some v) →
    (loadBytes ⟨b, o, none⟩ acc ns.length).run P w = .ok ⟨acc.data ++ (ns.map fun n => n.toNat.toUInt8).toArray⟩ w
  | [], w, b, o, acc, _ => by
    simp [loadBytes]
  | n :: r, w, b, o, acc, h => by
    have h0 := h 0 (.int .u8 n) rfl
    rw [Nat.add_zero] at h0
    have ih := run_loadBytes r w b (o + 1) (acc.push n.toNat.toUInt8) (fun j v hv => by have := h (j + 1) v (by simpa using hv); rwa [show o + 1 + j = o + (j + 1) by omega])
    have hadd : (⟨b, o, none⟩ : Addr).add 1 = ⟨b, o + 1, none⟩ := add_none b o 1
    simp only [List.length_cons, loadBytes, Sem.run_bind, run_load, h0, Result.andThen_ok, hadd]
    rw [ih]
    congr 2
    simp [ByteArray.push]
def evUnsafeString (T : Tabs) (lies : TypeId → Nat → Nat → TypeId → Nat → Bool) (σ : St) (t : TypeId) (x n : Value) : Option (Value × St) :=
  match x, n with
  | .pointer (some ⟨i, o, none⟩), .int _ (.ofNat (m + 1)) =>
    match ownRow (σ.get i), ptrElem (T.und t), σ.ld i o (m + 1) with
    | some (e, cs, p, k), some u, some vs =>
      match T.info e, u8s vs with
      | some ie, some ns => cond (lies e (cs.length / ie.size) o u (m + 1) && Nat.ble (m + 1) 140737488355328) (some (.string ⟨(ns.map fun n => n.toNat.toUInt8).toArray⟩, ((σ.kill p).kill k).put i (.cells e cs false false none none))) none
      | _, _ => none
    | _, _, _ => none
  | _, _ => none
theorem shape_freeze (w : World) (a : Addr) (n b : Nat) : (w.freeze a n).shape? b = w.shape? b := by
  unfold World.freeze
  split
  · rfl
  · unfold World.shape?
    simp only [Array.getElem?_modify]
    by_cases hb : a.block = b
    · subst hb
      rw [if_pos rfl]
      cases hh : w.heap[a.block]? with
      | none => rfl
      | some o => cases o <;> rfl
    · rw [if_neg hb]
theorem heap_freeze_ne (w : World) (a : Addr) (n b : Nat) (h : b ≠ a.block) : (w.freeze a n).heap[b]? = w.heap[b]? := by
  unfold World.freeze
  split
  · rfl
  · simp only [Array.getElem?_modify]
    rw [if_neg (by omega)]
theorem Rel.frozen {E : Env} {σ : St} {w : World} (h : Rel P B w0 E σ w) {i : Nat} {l : Loc} (hi : E.ι i = some l) {e : TypeId} {cs : List Value} {p k : Option Nat}
    (hg : σ.get i = some (.cells e cs false true p k)) (a : Addr) (ha : a.block = l.b) (n : Nat) :
    Rel P B w0 E (((σ.kill p).kill k).put i (.cells e cs false false none none)) (w.freeze a n) := by
  obtain ⟨hcell, hown, _⟩ := h.obj i l _ hi hg rfl
  obtain ⟨hown, C, hC⟩ := hown rfl
  have self : w.setRow l.b C = w := setRow_self w l.b C e (0, 0) hC
  have hk : Rel P B w0 E (((σ.kill p).kill k).put i (.cells e cs false false none none)) w := by
    have := h.written hi hg (C' := C) (fun C1 hC1 => by rw [hC] at hC1; cases hC1; rfl) (ob := .cells e cs false false none none) rfl (fun hl => by cases hl)
    rw [self] at this
    exact this
  have hlt := (h.dom i l hi).2.1
  have hB := ((h.dom i l hi).2.2 hown).2
  have hsz : (w.freeze a n).heap.size = w.heap.size := by
    unfold World.freeze; split
    · rfl
    · simp
  refine ⟨hk.below.trans ?_, by rw [hsz]; exact hk.base, fun j m hj => by rw [hsz]; exact hk.dom j m hj, fun b s hs => by rw [shape_freeze]; exact hk.shp b s hs, ?_, hk.sep, hk.sepm⟩
  · refine ⟨?_, ?_, ?_, by rw [hsz]; exact Nat.le_refl _, fun b hb => heap_freeze_ne w a n b (by omega)⟩
    all_goals (unfold World.freeze; split <;> rfl)
  · intro j m ob hj hgj
    by_cases hb : m.b = l.b
    ·
      cases ob with
      | cells e1 c1 r1 l1 p1 k1 =>
        intro hl1; subst hl1
        by_cases hji : j = i
        · subst hji
          rw [St.get_put, if_pos rfl] at hgj; cases hgj
        · exfalso
          have hlive : (((σ.kill p).kill k).put i (.cells e cs false false none none)).liveAt j := ⟨_, _, _, _, _, hgj⟩
          obtain ⟨x1, x2, x3⟩ := St.live_stc hji hlive
          rcases (h.sep i j l m e cs p k hi hj (Ne.symm hji) hb.symm hg).1 x1 with h1 | h1
          · exact x2 h1
          · exact x3 h1
      | map es c =>
        have hji : j ≠ i := by rintro rfl; rw [St.get_put, if_pos rfl] at hgj; cases hgj
        rcases St.get_stc (σ := σ) (p := p) (k := k) (ob := .cells e cs false false none none) hji with h1 | ⟨e2, c2, r2, h1⟩
        · have := (h.sep i j l m e cs p k hi hj (Ne.symm hji) hb.symm hg).2 _ (h1 ▸ hgj); cases this
        · rw [h1] at hgj; cases hgj
      | iter s q =>
        have hji : j ≠ i := by rintro rfl; rw [St.get_put, if_pos rfl] at hgj; cases hgj
        rcases St.get_stc (σ := σ) (p := p) (k := k) (ob := .cells e cs false false none none) hji with h1 | ⟨e2, c2, r2, h1⟩
        · have := (h.sep i j l m e cs p k hi hj (Ne.symm hji) hb.symm hg).2 _ (h1 ▸ hgj); cases this
        · rw [h1] at hgj; cases hgj
    · exact (hk.obj j m ob hj hgj).same (heap_freeze_ne w a n m.b (by rw [ha]; exact hb))
theorem evUnsafeString_ok (hT : T.Good P) {lies : TypeId → Nat → Nat → TypeId → Nat → Bool} (hL : T.Lies P lies) {E : Env} {σ σ' : St} {w : World} (h : Rel P B w0 E σ w) {t t2 ty : TypeId} {x x' n n' v : Value}
    (hx : VRel P E x x') (hn : VRel P E n n') (he : evUnsafeString T lies σ t x n = some (v, σ')) :
    ∃ v' w', (Builtin.unsafeString_ #[t, t2] ty #[x', n']).run P w = .ok v' w' ∧ VRel P E v v' ∧ Rel P B w0 E σ' w' := by
  cases hx with
  | @ptr i o l hi =>
    cases hn with
    | int kd m =>
      cases m with
      | negSucc m => simp [evUnsafeString] at he
      | ofNat m =>
        cases m with
        | zero => simp [evUnsafeString] at he
        | succ m =>
          simp only [evUnsafeString, hT.und, hT.info] at he
          split at he
          · rename_i e cs p k u vs hrow hpt hld
            split at he
            · rename_i ie ns hie hns
              cases hc : (lies e (cs.length / ie.size) o u (m + 1) && Nat.ble (m + 1) 140737488355328) with
              | false => rw [hc] at he; cases he
              | true =>
                rw [hc] at he; cases he
                simp only [Bool.and_eq_true, Nat.ble_eq] at hc
                obtain ⟨c1, c2⟩ := hc
                have hg := ownRow_eq hrow
                simp only at hg
                obtain ⟨hd, hown, C, hC, hsz, hsh⟩ := h.ownShape hi hrow
                simp only at hsz hsh
                have hu := ptrElem_eq hpt
                obtain ⟨a1, vs', a2, a3⟩ := h.ld hi hld
                have hvs := u8s_rel a2 hns
                subst hvs
                have hlen : ns.length = m + 1 := by have := a2.length; simp at this; omega
                have hlb := run_loadBytes (P := P) ns w l.b (o + l.d) .empty (fun j v hv => by have := a3 j v hv; rwa [add_none] at this)
                rw [hlen] at hlb
                have hco : P.cellsOf e = ie.size := by simp [Program.cellsOf, hie]
                have hlies : liesAt P P.depth e (C.size / P.cellsOf e) (o + l.d) u (m + 1) = true := by
                  rw [hd, Nat.add_zero, hco]
                  exact liesAt_mono P _ _ _ _ _ _ _ (Nat.div_le_div_right hsz) (hL.ok _ _ _ _ _ c1)
                refine ⟨.string ⟨(ns.map fun n => n.toNat.toUInt8).toArray⟩, w.freeze ⟨l.b, o + l.d, none⟩ (m + 1), ?_, .string _, h.frozen hi hg _ rfl _⟩
                have hel : (elemOf t).run P w = .ok u w := by simp [elemOf, run_underlying hu]
                have hva : (variablesAt ⟨l.b, o + l.d, none⟩ u (m + 1)).run P w = .ok true w := by simp [variablesAt, hsh, hlies]
                have hmax : ¬ (Int.ofNat (m + 1) > IntKind.i64.max) := by
                  have hm : IntKind.i64.max = 9223372036854775807 := by decide
                  rw [hm]; show ¬ (((m + 1 : Nat) : Int) > _); omega
                have hneg : ¬ (Int.ofNat (m + 1) < 0) := by show ¬ (((m + 1 : Nat) : Int) < 0); omega
                have hz : ¬ (Int.ofNat (m + 1) = 0) := by show ¬ (((m + 1 : Nat) : Int) = 0); omega
                show Sem.run P (do
                  let n ← asInt (.int kd (Int.ofNat (m + 1)))
                  if n < 0 then runtimePanic (.error "unsafe.String: len out of range")
                  if n > IntKind.i64.max then unsupported (.unsafePointer "String: a length above the largest int")
                  if n = 0 then pure (.string .empty)
                  else if ← variablesAt ⟨l.b, o + l.d, none⟩ (← elemOf t) n.toNat then do
                    let s ← loadBytes ⟨l.b, o + l.d, none⟩ .empty n.toNat
                    freeze ⟨l.b, o + l.d, none⟩ n.toNat
                    pure (.string s)
                  else unsupported (.unsafePointer "String: not so many bytes at ptr") : Sem Value) w = _
                have htn : (Int.ofNat (m + 1)).toNat = m + 1 := rfl
                simp only [asInt, asIntOf, Sem.run_bind, Sem.run_pure, Result.andThen_ok, if_neg hneg, if_neg hmax, if_neg hz, htn, hel, hva, if_true, hlb, run_freeze]
                simp
            · cases he
          · cases he
    | _ => simp [evUnsafeString] at he
  | _ => simp [evUnsafeString] at he
end Go.Ev
end
section
namespace Go.Ev
open Go.RowKit
variable {P : Program} {B : Nat} {w0 : World} {T : Tabs}
abbrev Lies := TypeId → Nat → Nat → TypeId → Nat → Bool
def opd (T : Tabs) (tm : Tr Value) : Operand → Option Value
  | .tmp t => some ((tm.get t).getD undef)
  | .const v => cond (plainV v) (some v) none
  | .global g => cond (T.glob g) (some (.pointer (some ⟨g, 0, none⟩))) none
  | .func f => some (.func (.func f) ⟨[]⟩ ⟨[]⟩)
def TmRel (P : Program) (E : Env) (tm : Tr Value) (a : Act) : Prop := ∀ t, VRel P E ((tm.get t).getD undef) (a.tmps.getD t undef)
def GlobRel (T : Tabs) (E : Env) : Prop := ∀ g, T.glob g = true → E.ι g = some ⟨g, 0, false⟩
theorem TmRel.mono {E F : Env} (h : E.le F) {tm : Tr Value} {a : Act} (r : TmRel P E tm a) : TmRel P F tm a := fun t => (r t).mono h
theorem GlobRel.mono {E F : Env} (h : E.le F) (r : GlobRel T E) : GlobRel T F := fun g hg => h.ι _ _ (r g hg)
theorem opd_ok {E : Env} {tm : Tr Value} {a : Act} (h : TmRel P E tm a) (hg : GlobRel T E) {x : Operand} {v : Value} (he : opd T tm x = some v) : VRel P E v (a.eval x) := by
  cases x with
  | tmp t => simp [opd] at he; subst he; exact h t
  | const v =>
    simp only [opd] at he
    cases hp : plainV v with
    | false => rw [hp] at he; cases he
    | true => rw [hp] at he; cases he; exact plainV_rel hp
  | global g =>
    simp only [opd] at he
    cases hp : T.glob g with
    | false => rw [hp] at he; cases he
    | true =>
      rw [hp] at he; cases he
      have := VRel.ptr (P := P) (o := 0) (hg g hp)
      rw [Nat.zero_add] at this
      exact this
  | func f => simp [opd] at he; subst he; exact .func .nil .nil
def opds (T : Tabs) (tm : Tr Value) : List Operand → Option (List Value)
  | [] => some []
  | x :: r => match opd T tm x, opds T tm r with
    | some v, some l => some (v :: l)
    | _, _ => none
theorem opds_ok {E : Env} {tm : Tr Value} {a : Act} (h : TmRel P E tm a) (hg : GlobRel T E) : ∀ {xs : List Operand} {vs : List Value}, opds T tm xs = some vs → LRel P E vs (xs.map a.eval)
  | [], vs, he => by simp [opds] at he; subst he; exact .nil
  | x :: r, vs, he => by
    simp only [opds] at he
    split at he
    · rename_i v l h1 h2
      cases he
      exact .cons (opd_ok h hg h1) (opds_ok h hg h2)
    · cases he
def opdParts (T : Tabs) (tm : Tr Value) : List (Nat × Operand) → Option (List (Nat × Value))
  | [] => some []
  | (i, x) :: r => match opd T tm x, opdParts T tm r with
    | some v, some l => some ((i, v) :: l)
    | _, _ => none
theorem opdParts_ok {E : Env} {tm : Tr Value} {a : Act} (h : TmRel P E tm a) (hg : GlobRel T E) : ∀ {xs : List (Nat × Operand)} {vs : List (Nat × Value)}, opdParts T tm xs = some vs →
    PRel P E vs (xs.map fun x => (x.1, a.eval x.2))
  | [], vs, he => by simp [opdParts] at he; subst he; exact ⟨rfl, fun j p q hp => by simp at hp⟩
  | (i, x) :: r, vs, he => by
    simp only [opdParts] at he
    split at he
    · rename_i v l h1 h2
      cases he
      obtain ⟨a1, a2⟩ := opdParts_ok h hg h2
      refine ⟨by simp [a1], fun j p q hp hq => ?_⟩
      cases j with
      | zero => simp at hp hq; subst hp; subst hq; exact ⟨rfl, opd_ok h hg h1⟩
      | succ j => exact a2 j p q (by simpa using hp) (by simpa using hq)
    · cases he
def opdOpt (T : Tabs) (tm : Tr Value) : Option Operand → Option (Option Value)
  | none => some none
  | some x => match opd T tm x with
    | some v => some (some v)
    | none => none
def evBuiltinL (T : Tabs) (tm : Tr Value) (c : Call) : Option Value :=
  match c.callee with
  | .builtin .len => match c.argTypes.toList, opds T tm c.args.toList with
    | [t], some [x] => evLen T t x
    | _, _ => none
  | .builtin .cap => match c.argTypes.toList, opds T tm c.args.toList with
    | [t], some [x] => evCap T t x
    | _, _ => none
  | .builtin .max => match opds T tm c.args.toList with
    | some xs => evMin true xs
    | none => none
  | .builtin .min => match opds T tm c.args.toList with
    | some xs => evMin false xs
    | none => none
  | .builtin .unsafeSliceData => match opds T tm c.args.toList with
    | some [x] => evSliceData x
    | _ => none
  | _ => none
def evNilCheck : Value → Option Value
  | .pointer (some a) => some (.pointer (some a))
  | .func (.func f) a b => some (.func (.func f) a b)
  | _ => none
def concrete (T : Tabs) (t : TypeId) : Bool :=
  match T.und t with
  | some (.interface _) | none => false
  | _ => true
def evL (T : Tabs) (lies : Lies) (tm : Tr Value) (σ : St) (op : Op) : Option Value :=
  match op with
  | .move x | .assign x => opd T tm x
  | .pick c a b => match opd T tm c with
    | some (.bool t) => cond t (opd T tm a) (opd T tm b)
    | _ => none
  | .load t x => match opd T tm x with
    | some x => evLoad T σ t x
    | none => none
  | .nilCheck x => match opd T tm x with
    | some x => evNilCheck x
    | none => none
  | .binOp o t x y _ => match opd T tm x, opd T tm y with
    | some a, some b => evBin T o t (isLit x || isLit y) a b
    | _, _ => none
  | .unOp o _ x => match opd T tm x with
    | some x => evUn o x
    | none => none
  | .convert s d x => match opd T tm x with
    | some v => match v with
      | .pointer _ => evUnsafe T lies σ s d v
      | v => evConv T σ s d v
    | none => none
  | .makeInterface t x => match opd T tm x with
    | some v => cond (concrete T t) (some (.iface t v)) none
    | none => none
  | .makeFunc fn first captured => match opds T tm first.toList, opds T tm captured.toList with
    | some a, some b => some (.func fn ⟨a⟩ ⟨b⟩)
    | _, _ => none
  | .slice t x lo hi mx => match opd T tm x, opdOpt T tm lo, opdOpt T tm hi, opdOpt T tm mx with
    | some x, some lo, some hi, some mx => evSlice T σ t x lo hi mx
    | _, _, _, _ => none
  | .fieldAddr t x f => match opd T tm x with
    | some x => evFieldAddr T t f x
    | none => none
  | .field t x f => match opd T tm x with
    | some x => evField T t f x
    | none => none
  | .indexAddr t x i => match opd T tm x, opd T tm i with
    | some x, some i => evIndexAddr T t x i
    | _, _ => none
  | .index t x i => match opd T tm x, opd T tm i with
    | some x, some i => evIndex T t x i
    | _, _ => none
  | .extract x i => match opd T tm x with
    | some x => evExtract i x
    | none => none
  | .build t parts => match opdParts T tm parts.toList with
    | some ps => evBuild T t ps
    | none => none
  | .call c => evBuiltinL T tm c
  | _ => none
theorem map_arr {α β : Type} (f : α → β) (a : Array α) : a.map f = ⟨a.toList.map f⟩ := by
  apply Array.ext'
  simp
theorem evL_ok (hT : T.Good P) {lies : Lies} (hL : T.Lies P lies) {E : Env} {σ : St} {w : World} (h : Rel P B w0 E σ w) {tm : Tr Value} {a : Act} (ht : TmRel P E tm a) (hg : GlobRel T E)
    {o : Oper} {v : Value} (he : evL T lies tm σ o.op = some v) : ∃ v', (execOp a.eval o).run P w = .ok (.value v') w ∧ VRel P E v v' := by
  have od : ∀ {x : Operand} {v : Value}, opd T tm x = some v → VRel P E v (a.eval x) := fun h => opd_ok ht hg h
  have ods : ∀ {xs : List Operand} {vs : List Value}, opds T tm xs = some vs → LRel P E vs (xs.map a.eval) := fun h => opds_ok ht hg h
  have lift : ∀ (s : Sem Value) (v' : Value), s.run P w = .ok v' w → (do pure (.value (← s)) : Sem Next).run P w = .ok (.value v') w := by
    intro s v' hs
    simp [hs]
  obtain ⟨dst, op, ty, pos, after, guard⟩ := o
  simp only at he
  cases op <;> simp only [evL] at he <;> (try (cases he; done))
  case move x => exact ⟨a.eval x, rfl, od he⟩
  case assign x => exact ⟨a.eval x, rfl, od he⟩
  case pick c x y =>
    split at he
    · rename_i t hc
      have hcr := od hc
      generalize hce : a.eval c = cv at hcr
      cases hcr
      cases t with
      | true => exact ⟨a.eval x, by simp [execOp, hce, asBool], od he⟩
      | false => exact ⟨a.eval y, by simp [execOp, hce, asBool], od he⟩
    · cases he
  case load t x =>
    split at he
    · rename_i x1 hx
      obtain ⟨v', h1, h2⟩ := evLoad_ok hT h (od hx) he
      exact ⟨v', lift _ _ h1, h2⟩
    · cases he
  case nilCheck x =>
    split at he
    · rename_i x1 hx
      have hxr := od hx
      generalize hxe : a.eval x = xv at hxr
      cases hxr <;> simp [evNilCheck] at he
      case ptr l hi => subst he; exact ⟨_, by simp [execOp, hxe], .ptr hi⟩
      case func fn xs xs' ys ys' h1 h2 =>
        cases fn <;> simp at he
        subst he; exact ⟨_, by simp [execOp, hxe], .func h1 h2⟩
    · cases he
  case binOp op t x y t2 =>
    split at he
    · rename_i x1 y1 hx hy
      obtain ⟨v', h1, h2⟩ := evBin_ok hT (od hx) (od hy) he w x y (fun hl => by simpa [Bool.or_eq_true] using hl)
      exact ⟨v', lift _ _ h1, h2⟩
    · cases he
  case unOp op t x =>
    split at he
    · rename_i x1 hx
      obtain ⟨v', h1, h2⟩ := evUn_ok (od hx) he w
      exact ⟨v', lift _ _ h1, h2⟩
    · cases he
  case convert s d x =>
    split at he
    · rename_i x1 hx
      split at he
      · obtain ⟨v', h1, h2⟩ := evUnsafe_ok hT hL h (od hx) he
        exact ⟨v', lift _ _ h1, h2⟩
      · obtain ⟨v', h1, h2⟩ := evConv_ok hT h (od hx) he
        exact ⟨v', lift _ _ h1, h2⟩
    · cases he
  case makeInterface t x =>
    split at he
    · rename_i x1 hx
      cases hc : concrete T t with
      | false => rw [hc] at he; cases he
      | true =>
        rw [hc] at he; cases he
        refine ⟨.iface t (a.eval x), lift _ _ ?_, .iface (od hx)⟩
        refine run_makeInterface w t _ ?_
        unfold Program.concrete
        unfold concrete at hc
        rw [hT.und] at hc
        split at hc
        · cases hc
        · cases hc
        · rename_i hn1 hn2
          split
          · rename_i ms hh; exact absurd hh (hn1 _)
          · rename_i hh; exact absurd hh hn2
          · rfl
    · cases he
  case makeFunc fn first captured =>
    split at he
    · rename_i x1 y1 hx hy
      cases he
      refine ⟨.func fn ⟨first.toList.map a.eval⟩ ⟨captured.toList.map a.eval⟩, ?_, .func (ods hx) (ods hy)⟩
      simp only [execOp, Instr.makeFunc, map_arr]
      rfl
    · cases he
  case slice t x lo hi mx =>
    split at he
    · rename_i x1 lo1 hi1 mx1 hx hlo hhi hmx
      have bd : ∀ {b : Option Operand} {bv : Option Value}, opdOpt T tm b = some bv → ∀ d, bdOf bv = some d → BRel d (b.map a.eval) := by
        intro b bv hb d hd
        cases b with
        | none => simp [opdOpt] at hb; subst hb; simp [bdOf] at hd; subst hd; exact .no
        | some b =>
          simp only [opdOpt] at hb
          split at hb
          · rename_i bv1 hb1
            cases hb
            exact bdOf_rel (od hb1) hd
          · cases hb
      unfold evSlice at he
      split at he
      · rename_i b1 b2 b3 q1 q2 q3
        obtain ⟨v', h1, h2⟩ := sliceVal_ok hT h (od hx) (bd hlo _ q1) (bd hhi _ q2) (bd hmx _ q3) he
        exact ⟨v', lift _ _ h1, h2⟩
      · cases he
    · cases he
  case fieldAddr t x f =>
    split at he
    · rename_i x1 hx
      obtain ⟨v', h1, h2⟩ := evFieldAddr_ok hT (od hx) he w
      exact ⟨v', lift _ _ h1, h2⟩
    · cases he
  case field t x f =>
    split at he
    · rename_i x1 hx
      obtain ⟨v', h1, h2⟩ := evField_ok hT (od hx) he w
      exact ⟨v', lift _ _ h1, h2⟩
    · cases he
  case indexAddr t x i =>
    split at he
    · rename_i x1 i1 hx hi
      obtain ⟨v', h1, h2⟩ := evIndexAddr_ok hT (od hx) (od hi) he w
      exact ⟨v', lift _ _ h1, h2⟩
    · cases he
  case index t x i =>
    split at he
    · rename_i x1 i1 hx hi
      obtain ⟨v', h1, h2⟩ := evIndex_ok hT (od hx) (od hi) he w
      exact ⟨v', lift _ _ h1, h2⟩
    · cases he
  case extract x i =>
    split at he
    · rename_i x1 hx
      obtain ⟨v', h1, h2⟩ := evExtract_ok (od hx) he w
      exact ⟨v', lift _ _ h1, h2⟩
    · cases he
  case build t parts =>
    split at he
    · rename_i ps hps
      obtain ⟨v', h1, h2⟩ := evBuild_ok hT (opdParts_ok ht hg hps) he w
      refine ⟨v', lift _ _ ?_, h2⟩
      rw [map_arr]
      exact h1
    · cases he
  case call c =>
    obtain ⟨callee, args, argTypes⟩ := c
    obtain ⟨argTypes⟩ := argTypes
    obtain ⟨args⟩ := args
    unfold evBuiltinL at he
    simp only at he
    split at he
    · split at he
      · rename_i t x1 hx
        have hr := ods hx
        cases args with
        | nil => simp [opds] at hx
        | cons y r =>
          cases r with
          | cons _ _ => have := hr.length; simp at this
          | nil =>
            cases hr with
            | cons hr1 _ =>
              obtain ⟨v', h1, h2⟩ := evLen_ok hT (ty := ty) hr1 he w
              refine ⟨v', lift _ _ ?_, h2⟩
              simp only [map_arr]
              exact h1
      · cases he
    · split at he
      · rename_i t x1 hx
        have hr := ods hx
        cases args with
        | nil => simp [opds] at hx
        | cons y r =>
          cases r with
          | cons _ _ => have := hr.length; simp at this
          | nil =>
            cases hr with
            | cons hr1 _ =>
              obtain ⟨v', h1, h2⟩ := evCap_ok hT (ty := ty) hr1 he w
              refine ⟨v', lift _ _ ?_, h2⟩
              simp only [map_arr]
              exact h1
      · cases he
    · split at he
      · rename_i xs hx
        obtain ⟨v', h1, h2⟩ := evMin_max (ts := ⟨argTypes⟩) (ty := ty) (ods hx) he w
        refine ⟨v', lift _ _ ?_, h2⟩
        simp only [map_arr]
        exact h1
      · cases he
    · split at he
      · rename_i xs hx
        obtain ⟨v', h1, h2⟩ := evMin_min (ts := ⟨argTypes⟩) (ty := ty) (ods hx) he w
        refine ⟨v', lift _ _ ?_, h2⟩
        simp only [map_arr]
        exact h1
      · cases he
    · split at he
      · rename_i x1 hx
        have hr := ods hx
        cases args with
        | nil => simp [opds] at hx
        | cons y r =>
          cases r with
          | cons _ _ => have := hr.length; simp at this
          | nil =>
            cases hr with
            | cons hr1 _ =>
              obtain ⟨v', h1, h2⟩ := evSliceData_ok (ts := ⟨argTypes⟩) (ty := ty) hr1 he w
              refine ⟨v', lift _ _ ?_, h2⟩
              simp only [map_arr]
              exact h1
      · cases he
    · cases he
end Go.Ev
end
section
namespace Go.Ev
open Go.RowKit
variable {P : Program} {B : Nat} {w0 : World}
def evA (T : Tabs) (tm : Tr Value) (op : Op) : Option (AObj × (Nat → Value)) :=
  match op with
  | .alloc t => match evAlloc T t with
    | some ob => some (ob, ptrTo)
    | none => none
  | .box t x => match opd T tm x with
    | some v => some (evBox t v, ptrTo)
    | none => none
  | .buildSlice t len parts => match opdParts T tm parts.toList with
    | some ps => match evBuildSlice T t len ps with
      | some ob => some (ob, rowOf len len)
      | none => none
    | none => none
  | .makeSlice t l c => match opd T tm l, opd T tm c with
    | some l, some c => evMakeSlice T t l c
    | _, _ => none
  | .makeMap _ none => some (evMakeMap, fun i => .map (some i))
  | .range t x => match opd T tm x with
    | some x => match evRange T t x with
      | some ob => some (ob, ptrTo)
      | none => none
    | none => none
  | _ => none
theorem evA_ok {T : Tabs} (hT : T.Good P) {E : Env} {tm : Tr Value} {a : Act} (ht : TmRel P E tm a) (hg : GlobRel T E) {o : Oper} {ob : AObj} {mk : Nat → Value}
    (he : evA T tm o.op = some (ob, mk)) (w : World) : ∃ s : Sem Value, execOp a.eval o = (do pure (.value (← s))) ∧ Made P E w ob mk (s.run P w) := by
  obtain ⟨dst, op, ty, pos, after, guard⟩ := o
  simp only at he
  cases op <;> simp only [evA] at he <;> (try (cases he; done))
  case alloc t =>
    split at he
    · rename_i ob1 h1
      cases he
      exact ⟨Instr.alloc t true (.tuple #[]), rfl, evAlloc_ok hT h1 w⟩
    · cases he
  case box t x =>
    split at he
    · rename_i v h1
      cases he
      exact ⟨Instr.box t (a.eval x), rfl, evBox_ok (opd_ok ht hg h1) w⟩
    · cases he
  case buildSlice t len parts =>
    split at he
    · rename_i ps h1
      split at he
      · rename_i ob1 h2
        cases he
        refine ⟨Instr.buildSlice t len _, rfl, ?_⟩
        rw [map_arr]
        exact evBuildSlice_ok hT (opdParts_ok ht hg h1) h2 w
      · cases he
    · cases he
  case makeSlice t l c =>
    split at he
    · rename_i l1 c1 h1 h2
      exact ⟨Instr.makeSlice t (a.eval l) (a.eval c), rfl, evMakeSlice_ok hT (opd_ok ht hg h1) (opd_ok ht hg h2) he w⟩
    · cases he
  case makeMap t r =>
    cases r with
    | none =>
      simp only [Option.some.injEq, Prod.mk.injEq] at he
      obtain ⟨rfl, rfl⟩ := he
      exact ⟨Instr.makeMap t none, rfl, evMakeMap_ok w⟩
    | some r => cases he
  case range t x =>
    split at he
    · rename_i x1 h1
      split at he
      · rename_i ob1 h2
        cases he
        exact ⟨Instr.range t (a.eval x), rfl, evRange_ok hT (opd_ok ht hg h1) h2 w⟩
      · cases he
    · cases he
theorem Rel.made {E : Env} {σ : St} {w : World} (h : Rel P B w0 E σ w) {i : Nat} {ob : AObj} {mk : Nat → Value} {r : Result Value} (hn : E.ι i = none) (hi : i < σ.next) (hg : σ.get i = some ob)
    (hm : Made P E w ob mk r) : ∃ F v' w', r = .ok v' w' ∧ E.le F ∧ (∀ j, j ≠ i → F.ι j = E.ι j) ∧ Rel P B w0 F σ w' ∧ VRel P F (mk i) v' := by
  obtain ⟨o, s, v', hr, hs, hF⟩ := hm
  have hle : E.le (E.push i ⟨w.heap.size, 0, true⟩ s) := Env.push_le hn h.freshK
  obtain ⟨a, b⟩ := hF i _ rfl hle
  obtain ⟨c, d⟩ := h.alloc_at hn hi hg s hs a
  exact ⟨_, v', _, hr, c, fun j hj => if_neg hj, d, b⟩
theorem Rel.madeNow {E : Env} {σ : St} {w : World} (h : Rel P B w0 E σ w) {ob : AObj} {mk : Nat → Value} {r : Result Value} (hm : Made P E w ob mk r) :
    ∃ F v' w', r = .ok v' w' ∧ E.ext σ.next F ∧ Rel P B w0 F (σ.push ob) w' ∧ VRel P F (mk σ.next) v' := by
  obtain ⟨F, v', w', a, b, c, d, e⟩ := (h.ghost ob).made h.fresh (by rw [St.next_push]; omega) (by rw [St.get_push, if_pos rfl]) hm
  exact ⟨F, v', w', a, ⟨b, fun j hj => c j (by omega)⟩, d, e⟩
end Go.Ev
end
section
namespace Go.Ev
open Go.RowKit
variable {P : Program} {B : Nat} {w0 : World}
theorem Rel.newRead {E : Env} {σ : St} {w w' : World} (h : Rel P B w0 E σ w) (hb : Below B w0 w') (hs : w'.heap.size = w.heap.size + 1) (hold : ∀ b, b < w.heap.size → w'.heap[b]? = w.heap[b]?)
    (e : TypeId) (cs : List Value) (hc : ∀ (x : Nat) (v : Value), cs[x]? = some v → ∃ v', w'.cell? ⟨w.heap.size, x, none⟩ = some v' ∧ VRel P (E.push σ.next ⟨w.heap.size, 0, false⟩ none) v v') :
    E.ext σ.next (E.push σ.next ⟨w.heap.size, 0, false⟩ none) ∧ Rel P B w0 (E.push σ.next ⟨w.heap.size, 0, false⟩ none) (σ.push (.cells e cs true true none none)) w' := by
  have hle : E.le (E.push σ.next ⟨w.heap.size, 0, false⟩ none) := Env.push_le h.fresh h.freshK
  have hg := h.ghost (.cells e cs true true none none)
  have hgn : (σ.push (.cells e cs true true none none)).get σ.next = some (.cells e cs true true none none) := by rw [St.get_push, if_pos rfl]
  refine ⟨⟨hle, fun j hj => if_neg (by omega)⟩, ⟨hb, by rw [hs]; exact Nat.le_succ_of_le h.base, ?_, ?_, ?_, ?_, ?_⟩⟩
  · intro j l e
    change (if j = σ.next then some _ else E.ι j) = some l at e
    by_cases hj : j = σ.next
    · rw [if_pos hj] at e; cases e; subst hj
      exact ⟨by rw [St.next_push]; omega, by rw [hs]; simp, fun h => by cases h⟩
    · rw [if_neg hj] at e
      obtain ⟨a, b, c⟩ := hg.dom j l e
      exact ⟨a, by rw [hs]; omega, c⟩
  · intro b s' e
    change (if b = w.heap.size then none else E.K b) = some s' at e
    by_cases hb : b = w.heap.size
    · rw [if_pos hb] at e; cases e
    · rw [if_neg hb] at e
      have h1 := h.shp b s' e
      have hlt : b < w.heap.size := by
        unfold World.shape? at h1
        split at h1
        · rename_i h2; exact (Array.getElem?_eq_some_iff.1 h2).1
        · cases h1
      unfold World.shape? at h1 ⊢
      rw [hold b hlt]; exact h1
  · intro j l ob' e g
    change (if j = σ.next then some _ else E.ι j) = some l at e
    by_cases hj : j = σ.next
    · rw [if_pos hj] at e; cases e; subst hj
      rw [hgn] at g; cases g
      exact fun _ => ⟨fun x v hv => by simpa using hc x v hv, fun h => (by cases h), fun _ => rfl⟩
    · rw [if_neg hj] at e
      exact ((hg.obj j l ob' e g).mono hle).same (hold _ (hg.dom j l e).2.1)
  · intro j j' l m e cs p k e1 e2 hne hb hgj
    change (if j = σ.next then some _ else E.ι j) = some l at e1
    change (if j' = σ.next then some _ else E.ι j') = some m at e2
    by_cases hj : j = σ.next
    · rw [hj, hgn] at hgj; cases hgj
    · rw [if_neg hj] at e1
      by_cases hj' : j' = σ.next
      · rw [if_pos hj'] at e2; cases e2
        have := (hg.dom _ _ e1).2.1
        simp at hb; omega
      · rw [if_neg hj'] at e2
        exact hg.sep j j' l m e cs p k e1 e2 hne hb hgj
  · intro j j' l m ob' e1 e2 hne hgj hcj
    change (if j = σ.next then some _ else E.ι j) = some l at e1
    change (if j' = σ.next then some _ else E.ι j') = some m at e2
    by_cases hj : j = σ.next
    · rw [hj, hgn] at hgj; cases hgj; cases hcj
    · rw [if_neg hj] at e1
      by_cases hj' : j' = σ.next
      · rw [if_pos hj'] at e2; cases e2
        have := (hg.dom _ _ e1).2.1
        simp; omega
      · rw [if_neg hj'] at e2
        exact hg.sepm j j' l m ob' e1 e2 hne hgj hcj
def isU8 : Option TypeDesc → Bool
  | some (.int .u8) => true
  | _ => false
def bytesL (s : ByteArray) : List Value := s.data.toList.map fun b => (.int .u8 b.toNat : Value)
def evConvB (T : Tabs) (σ : St) (s d : TypeId) (x : Value) : Option (Value × St) :=
  match x, T.und s, sliceElem (T.und d) with
  | .string b, some _, some e => cond (isU8 (T.und e)) (some (.slice (some ⟨σ.next, 0, some 0⟩) b.size b.size, σ.push (.cells e (bytesL b) true true none none))) none
  | _, _, _ => none
theorem evConvB_ok {T : Tabs} (hT : T.Good P) {E : Env} {σ σ' : St} {w : World} (h : Rel P B w0 E σ w) {s d : TypeId} {x x' v : Value} (hx : VRel P E x x') (he : evConvB T σ s d x = some (v, σ')) :
    ∃ F v' w', E.ext σ.next F ∧ σ.next ≤ σ'.next ∧ Rel P B w0 F σ' w' ∧ VRel P F v v' ∧ (convert s d x').run P w = .ok v' w' := by
  unfold evConvB at he
  split at he
  · rename_i b u e hu hse
    cases hx
    rw [hT.und] at hu hse
    have hd := sliceElem_eq hse
    cases hc : isU8 (T.und e) with
    | false => rw [hc] at he; cases he
    | true =>
      rw [hc] at he; cases he
      rw [hT.und] at hc
      have he8 : P.underlying e = some (.int .u8) := by
        unfold isU8 at hc; split at hc
        · assumption
        · cases hc
      have hrun := Lib.run_convert_string_bytes (P := P) w s d e b hu hd he8
      have hsz := Lib.bytesWorld_size w e b
      have hne : ∀ k, k < w.heap.size → (Lib.bytesWorld w e b).heap[k]? = w.heap[k]? := fun k hk => Lib.bytesWorld_at_old w e b k hk
      have hbel : Below B w0 (Lib.bytesWorld w e b) := by
        refine h.below.trans ⟨?_, ?_, ?_, by rw [hsz]; exact Nat.le_succ _, fun k hk => hne k (Nat.lt_of_lt_of_le hk h.base)⟩
        all_goals (unfold Lib.bytesWorld World.freeze; split <;> rfl)
      have hcell : ∀ (x : Nat) (v : Value), (bytesL b)[x]? = some v → (Lib.bytesWorld w e b).cell? ⟨w.heap.size, x, none⟩ = some v := by
        intro x v hv
        unfold bytesL at hv
        have hlt : x < b.data.toList.length := by
          have := (List.getElem?_eq_some_iff.1 hv).1
          simpa using this
        rw [Lib.bytesWorld_cell w e b x (by simpa using hlt)]
        rw [List.getElem?_map, List.getElem?_eq_getElem hlt] at hv
        cases hv
        simp [List.getD, List.getElem?_eq_getElem hlt]
      obtain ⟨a1, a2⟩ := h.newRead hbel hsz hne e (bytesL b) (fun x v hv => ⟨v, hcell x v hv, by
        unfold bytesL at hv
        rw [List.getElem?_map] at hv
        cases hq : b.data.toList[x]? with
        | none => rw [hq] at hv; cases hv
        | some q => rw [hq] at hv; cases hv; exact .int _ _⟩)
      refine ⟨_, _, _, a1, Nat.le_succ _, a2, ?_, hrun⟩
      have hge := grownCap_ge w b.size 0 e
      refine VRel.slice (l := ⟨w.heap.size, 0, false⟩) ?_ (fun h => by cases h) (Nat.le_refl _) hge (fun h => by cases h)
      show (if σ.next = σ.next then some _ else _) = _
      rw [if_pos rfl]
  · cases he
end Go.Ev
end
section
namespace Go.Ev
open Go.RowKit
variable {P : Program} {B : Nat} {w0 : World}
inductive Ext where
  | same | count | indexByte | makeNoZero (t e : TypeId)
  deriving DecidableEq
def Ext.impl : Ext → Array Value → Sem Value
  | .same => Extern.AbiNoEscape.same
  | .count => Extern.BytealgCount.count
  | .indexByte => Extern.BytealgIndexByte.indexByte
  | .makeNoZero t _ => Extern.BytealgMakeNoZero.makeNoZero #[] #[t]
structure Cx where
  T : Tabs
  lies : Lies
  ext : FuncId → Option Ext
  nop : FuncId → Bool
  sum : FuncId → Option (List Value → St → Option (Value × St))
structure Cx.Good (C : Cx) (P : Program) : Prop where
  T : C.T.Good P
  lies : C.T.Lies P C.lies
  nop : ∀ f, C.nop f = true → (∃ fn, P.funcs[f]? = some fn ∧ fn.body.isNone = false) ∧ ∀ args w R, (∀ v, R (.returned v) .returning w) → CallsD P f args .returning w R
  ext : ∀ f k, C.ext f = some k → ∃ fn, P.funcs[f]? = some fn ∧ fn.name ≠ "runtime.NumGoroutine" ∧ fn.body.isNone = true ∧ Extern.findNext fn = none ∧
    (match k with
    | .makeNoZero t e => P.underlying t = some (.slice e) ∧ (P.info? e).map (·.size) = some 1 ∧ Extern.find fn = some (Extern.BytealgMakeNoZero.makeNoZero fn.params fn.resultTypes) ∧ fn.resultTypes = #[t]
    | k => Extern.find fn = some k.impl)
  name : ∀ (f : Nat) (fn : Func), P.funcs[f]? = some fn → fn.name ≠ "runtime.NumGoroutine"
def evExt (σ : St) (k : Ext) (args : List Value) : Option (Value × St) :=
  match k, args with
  | .same, [x] => some (x, σ)
  | .count, [.string s, .int .u8 c] => some (.int .i64 (Lib.countByte s.data.toList c.toNat.toUInt8), σ)
  | .indexByte, [.string s, .int .u8 c] => some (.int .i64 (Lib.indexByte s.data.toList c.toNat.toUInt8), σ)
  | .makeNoZero _ e, [.int .i64 (.ofNat n)] => cond (Nat.ble n (2 ^ 40)) (some (.slice (some ⟨σ.next, 0, some 0⟩) n n, σ.push (.cells e [] false true none none))) none
  | _, _ => none
def CallOk (P : Program) (B : Nat) (w0 : World) (f : FuncId) (args' : Array Value) (E : Env) (σ : St) (w : World) (v : Value) (σ' : St) : Prop :=
  ∀ (R : Ending → World → Prop), (∀ v' w' F, E.ext σ.next F → σ.next ≤ σ'.next → Rel P B w0 F σ' w' → VRel P F v v' → R (.returned v') w') → Calls P f args' w R
def Runs (P : Program) (B : Nat) (w0 : World) (T : Tabs) (callF : FuncId → List Value → St → Option (Value × St)) : Prop :=
  ∀ f args σ v σ', callF f args σ = some (v, σ') → (∃ fn, P.funcs[f]? = some fn ∧ fn.body.isNone = false) ∧
    ∀ E w args', Rel P B w0 E σ w → GlobRel T E → LRel P E args args' → CallOk P B w0 f ⟨args'⟩ E σ w v σ'
def evCall (C : Cx) (callF : FuncId → List Value → St → Option (Value × St)) (σ : St) (f : FuncId) (args : List Value) : Option (Value × St) :=
  match C.ext f with
  | some k => evExt σ k args
  | none => callF f args σ
def evStore (T : Tabs) (σ : St) (t : TypeId) (a v : Value) : Option St :=
  match a with
  | .pointer (some ⟨i, o, none⟩) => match T.info t with
    | some inf => cond (Nat.beq (cellsL v).length inf.size) (σ.stc i o (cellsL v)) none
    | none => none
  | _ => none
def isInt : Option TypeDesc → Bool
  | some (.int _) => true
  | _ => false
def srcOk (e : TypeId) : Option TypeDesc → Bool
  | some (.slice e') => Nat.beq e' e
  | some .string => true
  | _ => false
def evAppend (T : Tabs) (σ : St) (t u : TypeId) (s x : Value) : Option (Value × St) :=
  match sliceElem (T.und t) with
  | some e => match T.info e with
    | some inf => match zeroOk inf with
      | some z => cond (Nat.blt 0 inf.bytes)
        (cond (isInt (T.und u))
          (match x with
          | .int .i64 (.ofNat n) => cond (Nat.ble (n * inf.bytes) maxRoom) (σ.app e inf.size inf.bytes s n (repL n (cellsL z))) none
          | _ => none)
          (cond (srcOk e (T.und u)) (match σ.src inf.size x with
            | some (n, news) => σ.app e inf.size inf.bytes s n news
            | none => none) none)) none
      | none => none
    | none => none
  | none => none
def evCopy (T : Tabs) (σ : St) (t : TypeId) (d s : Value) : Option (Value × St) :=
  match sliceElem (T.und t) with
  | some e => match T.info e with
    | some _ => match d, s with
      | .slice _ 0 _, .slice _ _ _ => some (goInt 0, σ)
      | _, _ => none
    | none => none
  | none => none
def evX (C : Cx) (callF : FuncId → List Value → St → Option (Value × St)) (tm : Tr Value) (σ : St) (op : Op) : Option (Value × St) :=
  match op with
  | .store t a x => match opd C.T tm a, opd C.T tm x with
    | some a, some x => match evStore C.T σ t a x with
      | some σ' => some (undef, σ')
      | none => none
    | _, _ => none
  | .mapUpdate t m k x => match opd C.T tm m, opd C.T tm k, opd C.T tm x with
    | some m, some k, some x => match evMapUpdate C.T σ t m k x with
      | some σ' => some (undef, σ')
      | none => none
    | _, _, _ => none
  | .next it b => match opd C.T tm it with
    | some it => evNext σ b it
    | none => none
  | .convert s d x => match opd C.T tm x with
    | some x => evConvB C.T σ s d x
    | none => none
  | .call c => match c.callee with
    | .builtin .append => match c.argTypes.toList, opds C.T tm c.args.toList with
      | [t, u], some [s, x] => evAppend C.T σ t u s x
      | _, _ => none
    | .builtin .copy => match c.argTypes.toList, opds C.T tm c.args.toList with
      | t :: _, some [s, x] => evCopy C.T σ t s x
      | _, _ => none
    | .builtin .unsafeString => match c.argTypes.toList, opds C.T tm c.args.toList with
      | [t, _], some [s, x] => evUnsafeString C.T C.lies σ t s x
      | _, _ => none
    | .value f => match opd C.T tm f, opds C.T tm c.args.toList with
      | some (.func (.func f) ⟨first⟩ ⟨cap⟩), some args => evCall C callF σ f (first ++ args ++ cap)
      | _, _ => none
    | _ => none
  | _ => none
theorem St.next_stc {σ σ' : St} {i o : Nat} {vs : List Value} (h : σ.stc i o vs = some σ') : σ'.next = σ.next := by
  unfold St.stc at h
  split at h
  · rename_i e cs p k hg
    cases hc : (Nat.ble (o + vs.length) cs.length && vs.all oneV) with
    | false => rw [hc] at h; cases h
    | true => rw [hc] at h; cases h; rw [St.next_put, St.next_kill, St.next_kill]
  · cases h
theorem St.next_fork (σ : St) (i : Nat) (e : TypeId) (cs : List Value) (p k : Option Nat) (olds news : List Value) : (σ.fork i e cs p k olds news).next = σ.next + 1 := by
  unfold St.fork
  cases Nat.beq olds.length cs.length <;> simp [St.next_push, St.next_put, St.next_kill]
theorem St.next_app {σ σ' : St} {e : TypeId} {sz b n : Nat} {s v : Value} {news : List Value} (h : σ.app e sz b s n news = some (v, σ')) : σ.next ≤ σ'.next := by
  unfold St.app at h
  split at h
  · split at h
    · cases h; exact Nat.le_refl _
    · cases h
  · split at h
    · rename_i n1 _
      cases hc : Nat.ble ((n1 + 1) * b) maxRoom with
      | false => rw [hc] at h; cases h
      | true => rw [hc] at h; cases h; exact Nat.le_succ _
    · rename_i n1 _ i o sp len cap
      cases hc : (!markE sp && Nat.ble ((len + (n1 + 1)) * b) maxRoom) with
      | false => rw [hc] at h; cases h
      | true =>
        rw [hc] at h
        simp only [cond_true] at h
        split at h
        · split at h
          · cases h; exact Nat.le_succ _
          · cases h
        · rename_i e' cs p k _ _
          cases hq : (Nat.beq o 0 && Nat.beq e' e) with
          | false => rw [hq] at h; cases h
          | true =>
            rw [hq] at h
            simp only [cond_true] at h
            cases hr : (Nat.ble (len + (n1 + 1)) cap && Nat.ble (len * sz + news.length) cs.length) with
            | true =>
              rw [hr] at h
              simp only [cond_true] at h
              split at h
              · rename_i σ1 h1
                cases h
                exact Nat.le_of_eq (St.next_stc h1).symm
              · cases h
            | false =>
              rw [hr] at h
              simp only [cond_false] at h
              split at h
              · cases hn : news.all oneV with
                | false => rw [hn] at h; cases h
                | true => rw [hn] at h; cases h; rw [St.next_fork]; exact Nat.le_succ _
              · cases h
        · cases h
    · cases h
theorem evExt_ok {C : Cx} (hC : C.Good P) {k : Ext} {f : FuncId} (hk : C.ext f = some k) {E : Env} {σ σ' : St} {w : World} (h : Rel P B w0 E σ w) {args args' : List Value} (ha : LRel P E args args') {v : Value}
    (he : evExt σ k args = some (v, σ')) : ∃ F v' w', E.ext σ.next F ∧ σ.next ≤ σ'.next ∧ Rel P B w0 F σ' w' ∧ VRel P F v v' ∧ (callFunc f ⟨args'⟩).run P w = .ok (.value v') w' := by
  obtain ⟨fn, h1, h2, h3, h4, h5⟩ := hC.ext f k hk
  have lift : ∀ (s : Array Value → Sem Value) (v' : Value) (w' : World), Extern.find fn = some s → (s ⟨args'⟩).run P w = .ok v' w' → (callFunc f ⟨args'⟩).run P w = .ok (.value v') w' := by
    intro s v' w' hs hr
    have h3' : fn.body = none := by cases hb : fn.body with | none => rfl | some b => rw [hb] at h3; cases h3
    simp [callFunc, h1, h2, h3', h4, hs, hr]
  cases k with
  | same =>
    cases ha with
    | nil => simp [evExt] at he
    | cons hx hr =>
      cases hr with
      | nil =>
        simp [evExt] at he
        obtain ⟨rfl, rfl⟩ := he
        exact ⟨E, _, w, Env.ext.refl _ _, Nat.le_refl _, h, hx, lift _ _ _ h5 rfl⟩
      | cons _ _ => simp [evExt] at he
  | count =>
    cases ha with
    | nil => simp [evExt] at he
    | cons hx hr =>
      cases hr with
      | nil => cases hx <;> simp [evExt] at he
      | cons hy hr =>
        cases hr with
        | cons _ _ => cases hx <;> cases hy <;> simp [evExt] at he
        | nil =>
          cases hx <;> try (simp [evExt] at he; done)
          rename_i s
          cases hy <;> try (simp [evExt] at he; done)
          rename_i kd c
          cases kd <;> simp [evExt] at he
          obtain ⟨rfl, rfl⟩ := he
          exact ⟨E, .int .i64 (Lib.countByte s.data.toList c.toNat.toUInt8), w, Env.ext.refl _ _, Nat.le_refl _, h, .int _ _, lift _ _ _ h5 (Lib.run_countString (P := P) s c w)⟩
  | indexByte =>
    cases ha with
    | nil => simp [evExt] at he
    | cons hx hr =>
      cases hr with
      | nil => cases hx <;> simp [evExt] at he
      | cons hy hr =>
        cases hr with
        | cons _ _ => cases hx <;> cases hy <;> simp [evExt] at he
        | nil =>
          cases hx <;> try (simp [evExt] at he; done)
          rename_i s
          cases hy <;> try (simp [evExt] at he; done)
          rename_i kd c
          cases kd <;> simp [evExt] at he
          obtain ⟨rfl, rfl⟩ := he
          exact ⟨E, .int .i64 (Lib.indexByte s.data.toList c.toNat.toUInt8), w, Env.ext.refl _ _, Nat.le_refl _, h, .int _ _, lift _ _ _ h5 (Lib.run_indexByteString (P := P) s c w)⟩
  | makeNoZero t e =>
    obtain ⟨h5, h6, h7, h8⟩ := h5
    cases ha with
    | nil => simp [evExt] at he
    | cons hx hr =>
      cases hr with
      | cons _ _ => cases hx <;> simp [evExt] at he
      | nil =>
        cases hx <;> try (simp [evExt] at he; done)
        rename_i kd n
        cases kd <;> cases n <;> simp only [evExt] at he <;> (try (cases he; done))
        rename_i n
        cases hc : Nat.ble n (2 ^ 40) with
        | false => rw [hc] at he; cases he
        | true =>
          rw [hc] at he; cases he
          have hc := Nat.le_of_ble_eq_true hc
          obtain ⟨cs, hrun, hge, _⟩ := Lib.run_makeNoZero_cap (P := P) (w := w) fn.params t e h5 n (by omega)
          obtain ⟨a, b⟩ := h.drew.drew.newRow e [] cs none none (fun x v hv => by simp at hv)
          refine ⟨_, .slice (some ⟨w.heap.size, 0, none⟩) n cs.size, _, ⟨a, fun j hj => if_neg (by omega)⟩, Nat.le_succ _, b, ?_, lift _ _ _ h7 ?_⟩
          · refine VRel.slice (l := ⟨w.heap.size, 0, true⟩) ?_ (fun h => by cases h) (Nat.le_refl _) hge (fun _ => ⟨e, cs.size, 1, ?_, h6, ?_⟩)
            · show (if σ.next = σ.next then some _ else _) = _
              rw [if_pos rfl]; rfl
            · show (if w.heap.size = w.heap.size then some _ else _) = _
              rw [if_pos rfl]
            · simp
          · rw [h8]
            exact hrun
end Go.Ev
end
section
namespace Go.Ev
open Go.RowKit
variable {P : Program} {B : Nat} {w0 : World}
theorem evCall_ok {C : Cx} (hC : C.Good P) {callF : FuncId → List Value → St → Option (Value × St)} (hR : Runs P B w0 C.T callF) {E : Env} {σ σ' : St} {w : World} (h : Rel P B w0 E σ w) (hg : GlobRel C.T E) {f : FuncId}
    {args args' : List Value} (ha : LRel P E args args') {v : Value} (he : evCall C callF σ f args = some (v, σ')) {o : Oper} {a : Act} {K : Act → World → Prop} {Q : Exit → Act → World → Prop}
    (hK : ∀ v' w' F, E.ext σ.next F → σ.next ≤ σ'.next → Rel P B w0 F σ' w' → VRel P F v v' → K (a.put o.dst v') w') :
    o.upon P a K Q ((callFunc f ⟨args'⟩).run P w) := by
  unfold evCall at he
  split at he
  · rename_i k hk
    obtain ⟨F, v', w', h1, h2, h3, h4, h5⟩ := evExt_ok hC hk h ha he
    rw [h5, Oper.upon_value]
    exact hK v' w' F h1 h2 h3 h4
  · obtain ⟨⟨fn, h1, h2⟩, h3⟩ := hR _ _ _ _ _ he
    have h4 : (callFunc f ⟨args'⟩).run P w = .ok (.enter f ⟨args'⟩) w := by
      have hn := hC.name f fn h1
      have h2' : fn.body ≠ none := by intro hb; rw [hb] at h2; cases h2
      simp [callFunc, h1, hn, h2']
    rw [h4, Oper.upon_enter]
    exact h3 E w args' h hg ha _ fun v' w' F x1 x2 x3 x4 => hK v' w' F x1 x2 x3 x4
theorem evStore_ok {T : Tabs} (hT : T.Good P) {E : Env} {σ σ' : St} {w : World} (h : Rel P B w0 E σ w) {t : TypeId} {x x' v v' : Value} (hx : VRel P E x x') (hv : VRel P E v v')
    (he : evStore T σ t x v = some σ') : ∃ w', (Instr.storeAt t x' v').run P w = .ok () w' ∧ Rel P B w0 E σ' w' ∧ σ'.next = σ.next := by
  cases hx with
  | @ptr i o l hi =>
    simp only [evStore, hT.info] at he
    split at he
    · rename_i inf hinf
      cases hc : Nat.beq (cellsL v).length inf.size with
      | false => rw [hc] at he; cases he
      | true =>
        rw [hc] at he
        simp only [cond_true] at he
        obtain ⟨a, b⟩ := cellsL_rel hv
        obtain ⟨w', h1, h2⟩ := h.stc hi a he
        refine ⟨w', ?_, h2, St.next_stc he⟩
        have hsz : v'.cells.size = inf.size := by
          have : v'.cells.toList.length = inf.size := by rw [b, ← a.length]; exact Nat.eq_of_beq_eq_true hc
          simpa using this
        rw [← b] at h1
        simp [Instr.storeAt, storeVar, Instr.sureAddr, sizeOf, typeInfo, hinf, hsz, h1]
    · cases he
  | _ => simp [evStore] at he
theorem evAppend_ok {T : Tabs} (hT : T.Good P) {E : Env} {σ σ' : St} {w : World} (h : Rel P B w0 E σ w) {t u ty : TypeId} {s s' x x' v : Value} (hs : VRel P E s s') (hx : VRel P E x x')
    (he : evAppend T σ t u s x = some (v, σ')) :
    ∃ F w' v', E.ext σ.next F ∧ σ.next ≤ σ'.next ∧ Rel P B w0 F σ' w' ∧ VRel P F v v' ∧ (Builtin.append_ #[t, u] ty #[s', x']).run P w = .ok v' w' := by
  unfold evAppend at he
  rw [hT.und, hT.und] at he
  split at he
  · rename_i e hse
    have ht := sliceElem_eq hse
    rw [hT.info] at he
    split at he
    · rename_i inf hinf
      split at he
      · rename_i z hz
        obtain ⟨hz, hzs, hpl⟩ := zeroOk_eq hz
        cases hb : Nat.blt 0 inf.bytes with
        | false => rw [hb] at he; cases he
        | true =>
          rw [hb] at he
          simp only [cond_true] at he
          have hb : 0 < inf.bytes := Nat.le_of_ble_eq_true hb
          cases hi : isInt (P.underlying u) with
          | true =>
            rw [hi] at he
            simp only [cond_true] at he
            split at he
            · rename_i n
              cases hx
              cases hc : Nat.ble (n * inf.bytes) maxRoom with
              | false => rw [hc] at he; cases he
              | true =>
                rw [hc] at he
                simp only [cond_true] at he
                have hc := Nat.le_of_ble_eq_true hc
                obtain ⟨kd, hu⟩ : ∃ kd, P.underlying u = some (.int kd) := by
                  unfold isInt at hi; split at hi
                  · exact ⟨_, by assumption⟩
                  · cases hi
                have hA := appRuns_zeros (P := P) (ty := ty) ht hu hinf hz (n := n) hc hb hzs w
                obtain ⟨zr, zc⟩ := cellsL_rel (plainV_rel (P := P) (E := E) hpl)
                have hzl : (cellsL z).length = inf.size := by rw [← zc]; simpa using hzs
                have hr : LRel P E (repL n (cellsL z)) (Builtin.zeroCells z.cells n).toList := by
                  have hz2 : z.cells = ⟨cellsL z⟩ := Array.ext' zc
                  rw [hz2]
                  unfold Builtin.zeroCells
                  rw [range_repL (cellsL z) n (n * (⟨cellsL z⟩ : Array Value).size) rfl]
                  exact repL_rel zr n
                obtain ⟨F, w', v', a, b, c, d⟩ := h.app hinf hzs hb hs hr (by rw [repL_length, hzl]) hA he
                exact ⟨F, w', v', a, St.next_app he, b, c, d⟩
            · cases he
          | false =>
            rw [hi] at he
            simp only [cond_false] at he
            cases hq : srcOk e (P.underlying u) with
            | false => rw [hq] at he; cases he
            | true =>
              rw [hq] at he
              simp only [cond_true] at he
              split at he
              · rename_i n news hsrc
                have hu : P.underlying u = some (.slice e) ∨ P.underlying u = some .string := by
                  unfold srcOk at hq; split at hq
                  · rename_i e' hu; rw [Nat.eq_of_beq_eq_true hq] at hu; exact .inl hu
                  · rename_i hu; exact .inr hu
                  · cases hq
                obtain ⟨news', hr, hl, hrun⟩ := h.src hx hsrc
                have hA := appRuns_of (P := P) (ty := ty) ht hu hinf hz hrun (fun h0 => by
                  subst h0
                  have : news'.length = 0 := by rw [← hr.length, hl]; simp
                  exact List.eq_nil_of_length_eq_zero this)
                obtain ⟨F, w', v', a, b, c, d⟩ := h.app hinf hzs hb hs hr hl hA he
                exact ⟨F, w', v', a, St.next_app he, b, c, d⟩
              · cases he
      · cases he
    · cases he
  · cases he
theorem evCopy_ok {T : Tabs} (hT : T.Good P) {E : Env} {σ σ' : St} {w : World} {t ty : TypeId} {us : List TypeId} {s s' x x' v : Value} (hs : VRel P E s s') (hx : VRel P E x x')
    (he : evCopy T σ t s x = some (v, σ')) : ∃ v', (Builtin.copy_ ⟨t :: us⟩ ty #[s', x']).run P w = .ok v' w ∧ VRel P E v v' ∧ σ' = σ := by
  unfold evCopy at he
  rw [hT.und] at he
  split at he
  · rename_i e hse
    have ht := sliceElem_eq hse
    rw [hT.info] at he
    split at he
    · rename_i inf hinf
      split at he
      · cases he
        refine ⟨.int .i64 0, ?_, .int _ _, rfl⟩
        cases hs <;> cases hx <;> simp [Builtin.copy_, run_underlying ht, sizeOf, typeInfo, hinf, Builtin.lenOf, Builtin.firstCells, loadCells, loadCellsFrom, storeCells, goInt]
      · cases he
    · cases he
  · cases he
theorem cond_inner {α : Type} {c : Bool} {m : Option α} {y : α} (h : cond c m none = some y) : c = true ∧ m = some y := by
  cases c with
  | true => exact ⟨rfl, h⟩
  | false => cases h
theorem next_mapUpdate {T : Tabs} {σ σ' : St} {t : TypeId} {m k v : Value} (he : evMapUpdate T σ t m k v = some σ') : σ'.next = σ.next := by
  unfold evMapUpdate at he
  split at he
  · split at he
    · obtain ⟨_, he⟩ := cond_inner he
      split at he
      · obtain ⟨_, he⟩ := cond_inner he
        cases he; rfl
      · cases he
    · cases he
  · cases he
theorem next_next {σ σ' : St} {x v : Value} {b : Bool} (he : evNext σ b x = some (v, σ')) : σ'.next = σ.next := by
  unfold evNext at he
  split at he
  · cases b with
    | false => cases he
    | true =>
      simp only [cond_true] at he
      split at he
      · rename_i s pos _
        generalize Nat.blt pos s.size = q at he
        cases q <;> (cases he; rfl)
      · cases he
  · cases he
theorem next_unsafeString {T : Tabs} {lies : Lies} {σ σ' : St} {t : TypeId} {x n v : Value} (he : evUnsafeString T lies σ t x n = some (v, σ')) : σ'.next = σ.next := by
  unfold evUnsafeString at he
  split at he
  · split at he
    · split at he
      · obtain ⟨_, he⟩ := cond_inner he
        cases he; rw [St.next_put, St.next_kill, St.next_kill]
      · cases he
    · cases he
  · cases he
theorem LRel.two {E : Env} {x y : Value} {l : List Value} (h : LRel P E [x, y] l) : ∃ x' y', l = [x', y'] ∧ VRel P E x x' ∧ VRel P E y y' := by
  cases h with
  | cons h1 h2 => cases h2 with
    | cons h3 h4 => cases h4; exact ⟨_, _, rfl, h1, h3⟩
theorem evX_ok {C : Cx} (hC : C.Good P) {callF : FuncId → List Value → St → Option (Value × St)} (hR : Runs P B w0 C.T callF) {E : Env} {σ σ' : St} {w : World} (h : Rel P B w0 E σ w) {tm : Tr Value} {a : Act}
    (ht : TmRel P E tm a) (hg : GlobRel C.T E) {o : Oper} {v : Value} (he : evX C callF tm σ o.op = some (v, σ')) {K : Act → World → Prop} {Q : Exit → Act → World → Prop}
    (hK : ∀ v' w' F, E.ext σ.next F → σ.next ≤ σ'.next → Rel P B w0 F σ' w' → VRel P F v v' → K (a.put o.dst v') w') : o.wp P a w K Q := by
  have od : ∀ {x : Operand} {v : Value}, opd C.T tm x = some v → VRel P E v (a.eval x) := fun h => opd_ok ht hg h
  have ods : ∀ {xs : List Operand} {vs : List Value}, opds C.T tm xs = some vs → LRel P E vs (xs.map a.eval) := fun h => opds_ok ht hg h
  have lift : ∀ {s : Sem Value} {v' : Value} {w' : World}, s.run P w = .ok v' w' → (do pure (.value (← s)) : Sem Next).run P w = .ok (.value v') w' := by
    intro s v' w' hs
    simp [hs]
  have liftu : ∀ {s : Sem Unit} {w' : World}, s.run P w = .ok () w' → (do s; pure .skip : Sem Next).run P w = .ok .skip w' := by
    intro s w' hs
    simp [hs]
  obtain ⟨dst, op, ty, pos, after, guard⟩ := o
  simp only at he hK
  unfold Oper.wp
  cases op <;> simp only [evX] at he <;> (try (cases he; done))
  case store t x y =>
    split at he
    · rename_i x1 y1 hx hy
      split at he
      · rename_i σ1 h1
        cases he
        obtain ⟨w', e1, e2, e3⟩ := evStore_ok hC.T h (od hx) (od hy) h1
        have := liftu e1
        change Oper.upon P _ a K Q (Sem.run P (do Instr.storeAt t (a.eval x) (a.eval y); pure .skip) w)
        rw [this, Oper.upon_skip]
        exact hK undef w' E (Env.ext.refl _ _) (Nat.le_of_eq e3.symm) e2 undef_rel
      · cases he
    · cases he
  case mapUpdate t m k x =>
    split at he
    · rename_i m1 k1 x1 hm hk hx
      split at he
      · rename_i σ1 h1
        cases he
        obtain ⟨w', e1, e2⟩ := evMapUpdate_ok hC.T h (od hm) (od hk) (od hx) h1
        have := liftu e1
        change Oper.upon P _ a K Q (Sem.run P (do Instr.mapUpdate t (a.eval m) (a.eval k) (a.eval x); pure .skip) w)
        rw [this, Oper.upon_skip]
        exact hK undef w' E (Env.ext.refl _ _) (Nat.le_of_eq (next_mapUpdate h1).symm) e2 undef_rel
      · cases he
    · cases he
  case next it b =>
    split at he
    · rename_i it1 hi
      obtain ⟨v', w', e1, e2, e3⟩ := evNext_ok h ty (od hi) he
      have := lift e1
      change Oper.upon P _ a K Q (Sem.run P (do pure (.value (← Instr.next (a.eval it) b ty))) w)
      rw [this, Oper.upon_value]
      exact hK v' w' E (Env.ext.refl _ _) (Nat.le_of_eq (next_next he).symm) e3 e2
    · cases he
  case convert s d x =>
    split at he
    · rename_i x1 hx
      obtain ⟨F, v', w', f1, f2, f3, f4, f5⟩ := evConvB_ok hC.T h (od hx) he
      have := lift f5
      change Oper.upon P _ a K Q (Sem.run P (do pure (.value (← convert s d (a.eval x)))) w)
      rw [this, Oper.upon_value]
      exact hK v' w' F f1 f2 f3 f4
    · cases he
  case call c =>
    obtain ⟨callee, args, argTypes⟩ := c
    obtain ⟨argTypes⟩ := argTypes
    obtain ⟨args⟩ := args
    simp only at he
    split at he
    · split at he
      · rename_i t u s x h1
        obtain ⟨s', x', e1, e2, e3⟩ := (ods h1).two
        obtain ⟨F, w', v', f1, f2, f3, f4, f5⟩ := evAppend_ok hC.T h (ty := ty) e2 e3 he
        have := lift f5
        change Oper.upon P _ a K Q (Sem.run P (do pure (.value (← Builtin.append_ ⟨[t, u]⟩ ty (Array.map a.eval ⟨args⟩)))) w)
        rw [map_arr, e1]
        change Oper.upon P _ a K Q (Sem.run P (do pure (.value (← Builtin.append_ #[t, u] ty #[s', x']))) w)
        rw [this, Oper.upon_value]
        exact hK v' w' F f1 f2 f3 f4
      · cases he
    · split at he
      · rename_i t us s x h1
        obtain ⟨s', x', e1, e2, e3⟩ := (ods h1).two
        obtain ⟨v', f1, f2, f3⟩ := evCopy_ok hC.T (w := w) (us := us) (ty := ty) e2 e3 he
        have := lift f1
        change Oper.upon P _ a K Q (Sem.run P (do pure (.value (← Builtin.copy_ ⟨t :: us⟩ ty (Array.map a.eval ⟨args⟩)))) w)
        rw [map_arr, e1]
        change Oper.upon P _ a K Q (Sem.run P (do pure (.value (← Builtin.copy_ ⟨t :: us⟩ ty #[s', x']))) w)
        rw [this, Oper.upon_value]
        subst f3
        exact hK v' w E (Env.ext.refl _ _) (Nat.le_refl _) h f2
      · cases he
    · split at he
      · rename_i t u s x h1
        obtain ⟨s', x', e1, e2, e3⟩ := (ods h1).two
        obtain ⟨v', w', f1, f2, f3⟩ := evUnsafeString_ok hC.T hC.lies h (t2 := u) (ty := ty) e2 e3 he
        have := lift f1
        change Oper.upon P _ a K Q (Sem.run P (do pure (.value (← Builtin.unsafeString_ ⟨[t, u]⟩ ty (Array.map a.eval ⟨args⟩)))) w)
        rw [map_arr, e1]
        change Oper.upon P _ a K Q (Sem.run P (do pure (.value (← Builtin.unsafeString_ #[t, u] ty #[s', x']))) w)
        rw [this, Oper.upon_value]
        exact hK v' w' E (Env.ext.refl _ _) (Nat.le_of_eq (next_unsafeString he).symm) f3 f2
      · cases he
    · rename_i fo
      split at he
      · rename_i f first cap as h1 h2
        have hf := od h1
        generalize hfe : a.eval fo = fv at hf
        cases hf with
        | func hx hy =>
          rename_i first' cap'
          have := evCall_ok hC hR h hg ((hx.append (ods h2)).append hy) he (Q := Q) (a := a) (K := K) (o := ⟨dst, .call ⟨.value fo, ⟨args⟩, ⟨argTypes⟩⟩, ty, pos, after, guard⟩) hK
          have e : execOp a.eval ⟨dst, .call ⟨.value fo, ⟨args⟩, ⟨argTypes⟩⟩, ty, pos, after, guard⟩ = callFunc f ⟨first' ++ args.map a.eval ++ cap'⟩ := by
            simp only [execOp, resolve, hfe, Deferred.ofValue, map_arr]
            change callFunc f ((⟨first'⟩ ++ ⟨args.map a.eval⟩ : Array Value) ++ ⟨cap'⟩) = _
            congr 1
            apply Array.ext'
            simp
          rw [e]
          exact this
      · cases he
    · cases he
end Go.Ev
end
section
namespace Go.Ev
open Go.RowKit
variable {P : Program} {B : Nat} {w0 : World}
section
variable {α : Type}
def forceN (n : Nat) (k : Nat → α) : α := match n with
  | 0 => k 0
  | .succ m => k (.succ m)
theorem forceN_eq (n : Nat) (k : Nat → α) : forceN n k = k n := by cases n <;> rfl
def forceI (i : Int) (k : Int → α) : α := match i with
  | .ofNat n => forceN n fun n => k (.ofNat n)
  | .negSucc n => forceN n fun n => k (.negSucc n)
theorem forceI_eq (i : Int) (k : Int → α) : forceI i k = k i := by cases i <;> simp [forceI, forceN_eq]
def forceV (v : Value) (k : Value → α) : α := match v with
  | .int kd i => forceI i fun i => k (.int kd i)
  | .bool true => k (.bool true)
  | .bool false => k (.bool false)
  | .pointer (some ⟨b, o, none⟩) => forceN b fun b => forceN o fun o => k (.pointer (some ⟨b, o, none⟩))
  | .slice (some ⟨b, o, none⟩) n c => forceN b fun b => forceN o fun o => forceN n fun n => forceN c fun c => k (.slice (some ⟨b, o, none⟩) n c)
  | .slice (some ⟨b, o, some s⟩) n c => forceN b fun b => forceN o fun o => forceN n fun n => forceN c fun c => k (.slice (some ⟨b, o, some s⟩) n c)
  | v => k v
theorem forceV_eq (v : Value) (k : Value → α) : forceV v k = k v := by
  unfold forceV
  split <;> simp only [forceN_eq, forceI_eq]
end
def putT (N : Nat) (tm : Tr Value) (dst : Option Tmp) (v : Value) : Option (Tr Value) :=
  match dst with
  | none => some tm
  | some d => cond (Nat.blt d N) (forceV v fun v => some (tm.set d v)) none
theorem putT_ok {E : Env} {N : Nat} {tm tm' : Tr Value} {a : Act} {dst : Option Tmp} {v v' : Value} (h : putT N tm dst v = some tm') (hs : a.tmps.size = N) (ht : TmRel P E tm a) (hv : VRel P E v v') :
    TmRel P E tm' (a.put dst v') ∧ (a.put dst v').tmps.size = N ∧ (a.put dst v').defers = a.defers := by
  cases dst with
  | none => cases h; exact ⟨ht, hs, rfl⟩
  | some d =>
    simp only [putT] at h
    obtain ⟨hd, h⟩ := cond_inner h
    rw [forceV_eq] at h
    cases h
    have hd : d < N := Nat.le_of_ble_eq_true hd
    refine ⟨fun t => ?_, by simp [Act.put, hs], rfl⟩
    rw [Tr.get_set]
    by_cases he : t = d
    · subst he
      simp only [Act.put, Array.getD_eq_getD_getElem?]
      rw [Array.getElem?_setIfInBounds_self]
      simp [hs, hd]
      exact hv
    · rw [if_neg he]
      have := ht t
      simp only [Act.put, Array.getD_eq_getD_getElem?] at this ⊢
      rw [Array.getElem?_setIfInBounds_ne (by omega)]
      exact this
def Nops (C : Cx) (ds : List Deferred) : Prop := ∀ d ∈ ds, ∃ f cap, d.target = .fn (.func f) cap ∧ C.nop f = true
structure Inv (P : Program) (B : Nat) (w0 : World) (C : Cx) (N : Nat) (E : Env) (tm : Tr Value) (σ : St) (a : Act) (w : World) : Prop where
  rel : Rel P B w0 E σ w
  tm : TmRel P E tm a
  glob : GlobRel C.T E
  size : a.tmps.size = N
  nops : Nops C a.defers
def wantedT (ops : List Oper) (tm : Tr Value) : Option (Nat × Bool) → Option Bool
  | none => some true
  | some (g, want) => match ops[g]? with
    | some o => match o.dst with
      | some t => match tm.get t with
        | some (.bool b) => some (b == want)
        | some (.tuple ⟨[]⟩) => some false
        | _ => none
      | none => none
    | none => none
theorem wantedT_ok {E : Env} {tm : Tr Value} {a : Act} (ht : TmRel P E tm a) {ops : Array Oper} {o : Oper} {b : Bool} (h : wantedT ops.toList tm o.guard = some b) : Region.wanted o (yielded ops a.tmps) = b := by
  unfold wantedT at h
  unfold Region.wanted
  split at h
  · rename_i hg; rw [hg]; cases h; rfl
  · rename_i g want hg
    rw [hg]
    simp only
    split at h
    · rename_i og hog
      split at h
      · rename_i t htd
        split at h
        · rename_i b1 hb1
          cases h
          have hr := ht t
          rw [hb1] at hr
          simp only [Option.getD_some] at hr
          have hog' : ops[g]? = some og := by simpa using hog
          unfold yielded
          simp only [hog', Option.bind_some, htd]
          have hx : a.tmps[t]? = some (.bool b1) := by
            generalize hq : a.tmps.getD t undef = q at hr
            cases hr
            rw [Array.getD_eq_getD_getElem?] at hq
            cases hz : a.tmps[t]? with
            | none => rw [hz] at hq; cases hq
            | some z => rw [hz] at hq; simp at hq; rw [hq]
          rw [hx]
          cases b1 <;> cases want <;> rfl
        · rename_i hb1
          cases h
          have hr := ht t
          rw [hb1] at hr
          simp only [Option.getD_some] at hr
          have hog' : ops[g]? = some og := by simpa using hog
          unfold yielded
          simp only [hog', Option.bind_some, htd]
          rw [Array.getD_eq_getD_getElem?] at hr
          cases hz : a.tmps[t]? with
          | none => rfl
          | some z =>
            rw [hz] at hr
            simp only [Option.getD_some] at hr
            cases hr
            rfl
        · cases h
      · cases h
    · cases h
def evDefer (C : Cx) (tm : Tr Value) (op : Op) : Bool :=
  match op with
  | .defer c => match c.callee with
    | .value f => match opd C.T tm f, opds C.T tm c.args.toList with
      | some (.func (.func f) _ _), some _ => C.nop f
      | _, _ => false
    | _ => false
  | _ => false
def evRun (C : Cx) (callF : FuncId → List Value → St → Option (Value × St)) (N : Nat) (tm : Tr Value) (σ : St) (o : Oper) : Option (Tr Value × St) :=
  match evL C.T C.lies tm σ o.op with
  | some v => match putT N tm o.dst v with
    | some tm' => some (tm', σ)
    | none => none
  | none => match evA C.T tm o.op with
    | some (ob, mk) => match putT N tm o.dst (mk σ.next) with
      | some tm' => some (tm', σ.push ob)
      | none => none
    | none => match evX C callF tm σ o.op with
      | some (v, σ') => match putT N tm o.dst v with
        | some tm' => some (tm', σ')
        | none => none
      | none => cond (evDefer C tm o.op) (match putT N tm o.dst undef with
        | some tm' => some (tm', σ)
        | none => none) none
def evOper (C : Cx) (callF : FuncId → List Value → St → Option (Value × St)) (N : Nat) (ops : List Oper) (tm : Tr Value) (σ : St) (o : Oper) : Option (Tr Value × St) :=
  match wantedT ops tm o.guard with
  | some true => evRun C callF N tm σ o
  | some false => match putT N tm o.dst undef with
    | some tm' => some (tm', σ)
    | none => none
  | none => none
theorem Inv.put {C : Cx} {N : Nat} {E F : Env} {tm tm' : Tr Value} {σ σ' : St} {a : Act} {w w' : World} (hI : Inv P B w0 C N E tm σ a w) {dst : Option Tmp} {v v' : Value} (hp : putT N tm dst v = some tm')
    (hle : E.le F) (hr : Rel P B w0 F σ' w') (hv : VRel P F v v') : Inv P B w0 C N F tm' σ' (a.put dst v') w' := by
  obtain ⟨h1, h2, h3⟩ := putT_ok hp hI.size (hI.tm.mono hle) hv
  exact ⟨hr, h1, hI.glob.mono hle, h2, h3 ▸ hI.nops⟩
theorem evRun_ok {C : Cx} (hC : C.Good P) {callF : FuncId → List Value → St → Option (Value × St)} (hR : Runs P B w0 C.T callF) {N : Nat} {E : Env} {tm tm' : Tr Value} {σ σ' : St} {a : Act} {w : World}
    (hI : Inv P B w0 C N E tm σ a w) {o : Oper} (he : evRun C callF N tm σ o = some (tm', σ')) {K : Act → World → Prop} {Q : Exit → Act → World → Prop}
    (hK : ∀ a' w' F, E.ext σ.next F → σ.next ≤ σ'.next → Inv P B w0 C N F tm' σ' a' w' → K a' w') : o.wp P a w K Q := by
  unfold evRun at he
  split at he
  · rename_i v hv
    split at he
    · rename_i t1 ht1
      cases he
      obtain ⟨v', h1, h2⟩ := evL_ok hC.T hC.lies hI.rel hI.tm hI.glob hv
      unfold Oper.wp
      rw [h1, Oper.upon_value]
      exact hK _ w E (Env.ext.refl _ _) (Nat.le_refl _) (hI.put ht1 (Env.le.refl E) hI.rel h2)
    · cases he
  · split at he
    · rename_i ob mk hA
      split at he
      · rename_i t1 ht1
        cases he
        obtain ⟨s, h1, h2⟩ := evA_ok hC.T hI.tm hI.glob hA w
        obtain ⟨F, v', w', h3, h4, h5, h6⟩ := hI.rel.madeNow h2
        unfold Oper.wp
        have h7 : (execOp a.eval o).run P w = .ok (.value v') w' := by rw [h1]; simp [h3]
        rw [h7, Oper.upon_value]
        exact hK _ w' F h4 (Nat.le_succ _) (hI.put ht1 h4.le h5 h6)
      · cases he
    · split at he
      · rename_i v σ1 hX
        split at he
        · rename_i t1 ht1
          cases he
          exact evX_ok hC hR hI.rel hI.tm hI.glob hX fun v' w' F f1 f2 f3 f4 => hK _ w' F f1 f2 (hI.put ht1 f1.le f3 f4)
        · cases he
      · obtain ⟨hd, he⟩ := cond_inner he
        split at he
        · rename_i t1 ht1
          cases he
          obtain ⟨dst, op, ty, pos, after, guard⟩ := o
          unfold evDefer at hd
          split at hd
          · rename_i c hop
            simp only at hop; subst hop
            obtain ⟨callee, args, argTypes⟩ := c
            cases callee with
            | builtin b => cases hd
            | invoke r n => cases hd
            | value fo =>
              simp only at hd
              split at hd
              · rename_i f x y l h1 h2
                have hf := opd_ok hI.tm hI.glob h1
                generalize hfe : a.eval fo = fv at hf
                cases hf with
                | func hx hy =>
                  rename_i xs xs' ys ys'
                  unfold Oper.wp
                  have e : (execOp a.eval ⟨dst, .defer ⟨.value fo, args, argTypes⟩, ty, pos, after, guard⟩).run P w = .ok (.defer ⟨.fn (.func f) ⟨ys'⟩, (⟨xs'⟩ : Array Value) ++ args.map a.eval⟩) w := by
                    simp only [execOp, resolve, hfe, Deferred.ofValue]
                    rfl
                  rw [e, Oper.upon_defer]
                  have hI' : Inv P B w0 C N E tm σ { a with defers := ⟨.fn (.func f) ⟨ys'⟩, (⟨xs'⟩ : Array Value) ++ args.map a.eval⟩ :: a.defers } w :=
                    ⟨hI.rel, hI.tm, hI.glob, hI.size, fun d hd1 => by
                      cases hd1 with
                      | head => exact ⟨f, _, rfl, hd⟩
                      | tail _ hd1 => exact hI.nops d hd1⟩
                  exact hK _ w E (Env.ext.refl _ _) (Nat.le_refl _) (hI'.put ht1 (Env.le.refl E) hI.rel undef_rel)
              · cases hd
          · cases hd
        · cases he
theorem evOper_ok {C : Cx} (hC : C.Good P) {callF : FuncId → List Value → St → Option (Value × St)} (hR : Runs P B w0 C.T callF) {N : Nat} {E : Env} {tm tm' : Tr Value} {σ σ' : St} {a : Act} {w : World}
    (hI : Inv P B w0 C N E tm σ a w) {ops : Array Oper} {i : Nat} {o : Oper} (ho : ops[i]? = some o) (he : evOper C callF N ops.toList tm σ o = some (tm', σ')) {K : Act → World → Prop} {Q : Exit → Act → World → Prop}
    (hK : ∀ a' w' F, E.ext σ.next F → σ.next ≤ σ'.next → Inv P B w0 C N F tm' σ' a' w' → K a' w') : wpOp P ops Q i K a w := by
  unfold wpOp
  rw [ho]
  simp only
  unfold evOper at he
  split at he
  · rename_i hw
    rw [wantedT_ok hI.tm hw]
    simp only [if_true]
    exact .inl (evRun_ok hC hR hI he hK)
  · rename_i hw
    rw [wantedT_ok hI.tm hw]
    simp only [Bool.false_eq_true, if_false]
    split at he
    · rename_i t1 ht1
      cases he
      exact hK _ w E (Env.ext.refl _ _) (Nat.le_refl _) (hI.put ht1 (Env.le.refl E) hI.rel undef_rel)
    · cases he
  · cases he
def evOps (C : Cx) (callF : FuncId → List Value → St → Option (Value × St)) (N : Nat) (ops : List Oper) : List Oper → Tr Value → St → Option (Tr Value × St)
  | [], tm, σ => some (tm, σ)
  | o :: r, tm, σ => match evOper C callF N ops tm σ o with
    | some (tm', σ') => evOps C callF N ops r tm' σ'
    | none => none
theorem evOps_ok {C : Cx} (hC : C.Good P) {callF : FuncId → List Value → St → Option (Value × St)} (hR : Runs P B w0 C.T callF) {N : Nat} {ops : Array Oper} {Q : Exit → Act → World → Prop} :
    ∀ (l : List Oper) (k : Nat) (E : Env) (tm tm' : Tr Value) (σ σ' : St) (a : Act) (w : World), ops.toList.drop k = l → Inv P B w0 C N E tm σ a w → evOps C callF N ops.toList l tm σ = some (tm', σ') →
      (∀ a' w' F, E.ext σ.next F → σ.next ≤ σ'.next → Inv P B w0 C N F tm' σ' a' w' → Q .normal a' w') → wpOps P ops Q (List.range' k (ops.size - k)) a w
  | [], k, E, tm, tm', σ, σ', a, w, hd, hI, he, hK => by
    have hk : ops.size ≤ k := by
      have := congrArg List.length hd
      simp at this
      omega
    simp only [evOps] at he
    cases he
    rw [Nat.sub_eq_zero_of_le hk]
    exact hK a w E (Env.ext.refl _ _) (Nat.le_refl _) hI
  | o :: r, k, E, tm, tm', σ, σ', a, w, hd, hI, he, hK => by
    have hk : k < ops.size := by
      have := congrArg List.length hd
      simp at this
      omega
    have hl : k < ops.toList.length := by simpa using hk
    have hd' := List.drop_eq_getElem_cons hl
    rw [hd] at hd'
    simp only [List.cons.injEq] at hd'
    obtain ⟨h1, h2⟩ := hd'
    have ho : ops[k]? = some o := by rw [Array.getElem?_eq_getElem hk, h1]; simp
    obtain ⟨n, hn⟩ : ∃ n, ops.size - k = n + 1 := ⟨ops.size - k - 1, by omega⟩
    have hn' : n = ops.size - (k + 1) := by omega
    rw [hn, List.range'_succ, wpOps_cons]
    simp only [evOps] at he
    split at he
    · rename_i t1 σ1 h3
      refine evOper_ok hC hR hI ho h3 fun a1 w1 F f1 f2 f3 => ?_
      rw [hn']
      exact evOps_ok hC hR r (k + 1) F t1 tm' σ1 σ' a1 w1 h2.symm f3 he fun a2 w2 G g1 g2 g3 => hK a2 w2 G (f1.trans g1 f2) (Nat.le_trans f2 g2) g3
    · cases he
theorem evRegion_ok {C : Cx} (hC : C.Good P) {callF : FuncId → List Value → St → Option (Value × St)} (hR : Runs P B w0 C.T callF) {N : Nat} {E : Env} {tm tm' : Tr Value} {σ σ' : St} {a : Act} {w : World}
    (hI : Inv P B w0 C N E tm σ a w) {id : Nat} {ops : Array Oper} (he : evOps C callF N ops.toList ops.toList tm σ = some (tm', σ')) {Q : Exit → Act → World → Prop}
    (hK : ∀ a' w' F, E.ext σ.next F → σ.next ≤ σ'.next → Inv P B w0 C N F tm' σ' a' w' → Q .normal a' w') : (Code.region id ops false).wp P Q a w := by
  refine wp_region ?_
  have := evOps_ok hC hR ops.toList 0 E tm tm' σ σ' a w rfl hI he hK
  rw [List.range_eq_range']
  simpa using this
end Go.Ev
end
section
namespace Go.Ev
open Go.RowKit
variable {P : Program} {B : Nat} {w0 : World}
def allEq (f : Value → Value → Bool) : List Value → List Value → Bool
  | [], [] => true
  | x :: r, y :: s => f x y && allEq f r s
  | _, _ => false
def veqF : Nat → Value → Value → Bool
  | 0, _, _ => false
  | n + 1, a, b => match a, b with
    | .bool x, .bool y => x == y
    | .int k x, .int l y => decide (k = l) && decide (x = y)
    | .string x, .string y => decide (x = y)
    | .pointer none, .pointer none => true
    | .pointer (some ⟨b, o, none⟩), .pointer (some ⟨b', o', none⟩) => Nat.beq b b' && Nat.beq o o'
    | .slice none n c, .slice none n' c' => Nat.beq n n' && Nat.beq c c'
    | .slice (some ⟨b, o, s⟩) n c, .slice (some ⟨b', o', s'⟩) n' c' => Nat.beq b b' && Nat.beq o o' && Nat.beq n n' && Nat.beq c c' && decide (s = s')
    | .map none, .map none => true
    | .map (some x), .map (some y) => Nat.beq x y
    | .nilFunc, .nilFunc => true
    | .func (.func f) ⟨x⟩ ⟨y⟩, .func (.func g) ⟨x'⟩ ⟨y'⟩ => Nat.beq f g && allEq (veqF n) x x' && allEq (veqF n) y y'
    | .nilIface, .nilIface => true
    | .iface t x, .iface u y => Nat.beq t u && veqF n x y
    | .agg ⟨x⟩, .agg ⟨y⟩ => allEq (veqF n) x y
    | .tuple ⟨x⟩, .tuple ⟨y⟩ => allEq (veqF n) x y
    | _, _ => false
def veq (a b : Value) : Bool := veqF 8 a b
theorem allEq_eq {f : Value → Value → Bool} (h : ∀ a b, f a b = true → a = b) : ∀ (x y : List Value), allEq f x y = true → x = y
  | [], [], _ => rfl
  | a :: x, b :: y, he => by
    simp only [allEq, Bool.and_eq_true] at he
    rw [h a b he.1, allEq_eq h x y he.2]
  | [], _ :: _, he => by simp [allEq] at he
  | _ :: _, [], he => by simp [allEq] at he
theorem veqF_eq : ∀ (n : Nat) (a b : Value), veqF n a b = true → a = b
  | 0, _, _, h => by simp [veqF] at h
  | n + 1, a, b, h => by
    have ih := veqF_eq n
    unfold veqF at h
    split at h <;> (try simp only [Bool.and_eq_true, decide_eq_true_eq, beq_iff_eq] at h) <;> (try (cases h; done))
    all_goals first
      | rfl
      | (rw [h]; done)
      | (obtain ⟨h1, h2⟩ := h; rw [h1, h2]; done)
      | (obtain ⟨h1, h2⟩ := h; rw [Nat.eq_of_beq_eq_true h1, Nat.eq_of_beq_eq_true h2]; done)
      | (rw [Nat.eq_of_beq_eq_true h]; done)
      | (obtain ⟨h1, h2⟩ := h; rw [Nat.eq_of_beq_eq_true h1, ih _ _ h2]; done)
      | (rw [allEq_eq ih _ _ h]; done)
      | (obtain ⟨⟨h1, h2⟩, h3⟩ := h; rw [Nat.eq_of_beq_eq_true h1, allEq_eq ih _ _ h2, allEq_eq ih _ _ h3]; done)
      | (obtain ⟨⟨⟨⟨h1, h2⟩, h3⟩, h4⟩, h5⟩ := h; rw [Nat.eq_of_beq_eq_true h1, Nat.eq_of_beq_eq_true h2, Nat.eq_of_beq_eq_true h3, Nat.eq_of_beq_eq_true h4, h5]; done)
theorem veq_eq {a b : Value} (h : veq a b = true) : a = b := veqF_eq 8 a b h
def aeq : AObj → AObj → Bool
  | .cells e cs ro l p k, .cells e' cs' ro' l' p' k' => Nat.beq e e' && allEq veq cs cs' && ro == ro' && l == l' && decide (p = p') && decide (k = k')
  | .map [] c, .map [] c' => Nat.beq c c'
  | .iter s p, .iter s' p' => decide (s = s') && Nat.beq p p'
  | _, _ => false
theorem aeq_eq {a b : AObj} (h : aeq a b = true) : a = b := by
  unfold aeq at h
  split at h <;> (try simp only [Bool.and_eq_true, decide_eq_true_eq, beq_iff_eq] at h)
  · obtain ⟨⟨⟨⟨⟨h1, h2⟩, h3⟩, h4⟩, h5⟩, h6⟩ := h
    rw [Nat.eq_of_beq_eq_true h1, allEq_eq (fun _ _ => veq_eq) _ _ h2, h3, h4, h5, h6]
  · rw [Nat.eq_of_beq_eq_true h]
  · obtain ⟨h1, h2⟩ := h; rw [h1, Nat.eq_of_beq_eq_true h2]
  · cases h
def tmpsOf (op : Op) : List Tmp := op.operands.toList.filterMap fun | .tmp t => some t | _ => none
section
variable {T : Tabs} {tm tn : Tr Value}
theorem opd_congr {x : Operand} (h : ∀ t, x = .tmp t → tm.get t = tn.get t) : opd T tm x = opd T tn x := by
  cases x with
  | tmp t => simp only [opd, h t rfl]
  | _ => rfl
theorem opds_congr : ∀ {xs : List Operand}, (∀ x ∈ xs, opd T tm x = opd T tn x) → opds T tm xs = opds T tn xs
  | [], _ => rfl
  | x :: r, h => by
    simp only [opds]
    rw [h x (List.mem_cons_self ..), opds_congr fun y hy => h y (List.mem_cons_of_mem _ hy)]
theorem opdParts_congr : ∀ {xs : List (Nat × Operand)}, (∀ x ∈ xs, opd T tm x.2 = opd T tn x.2) → opdParts T tm xs = opdParts T tn xs
  | [], _ => rfl
  | (i, x) :: r, h => by
    simp only [opdParts]
    have h1 := h (i, x) (List.mem_cons_self ..)
    simp only at h1
    rw [h1, opdParts_congr fun y hy => h y (List.mem_cons_of_mem _ hy)]
theorem opdOpt_congr {x : Option Operand} (h : ∀ y, x = some y → opd T tm y = opd T tn y) : opdOpt T tm x = opdOpt T tn x := by
  cases x with
  | none => rfl
  | some y => simp only [opdOpt, h y rfl]
theorem operands_congr {op : Op} (h : ∀ t ∈ tmpsOf op, tm.get t = tn.get t) : ∀ x ∈ op.operands, opd T tm x = opd T tn x := by
  intro x hx
  refine opd_congr fun t ht => h t ?_
  subst ht
  exact List.mem_filterMap.2 ⟨.tmp t, by simpa using hx, rfl⟩
theorem evL_congr {lies : Lies} {σ : St} {op : Op} (h : ∀ x ∈ op.operands, opd T tm x = opd T tn x) : evL T lies tm σ op = evL T lies tn σ op := by
  cases op <;> simp only [Op.operands] at h <;> simp only [evL]
  case build t ps => rw [opdParts_congr fun x hx => h x.2 (by simpa using ⟨x.1, by simpa using hx⟩)]
  case makeFunc fn first captured =>
    rw [opds_congr fun x hx => h x (by simp at hx ⊢; exact .inl hx), opds_congr (xs := captured.toList) fun x hx => h x (by simp at hx ⊢; exact .inr hx)]
  case call c =>
    unfold evBuiltinL
    rw [opds_congr fun x hx => h x (by simp [Call.operands] at hx ⊢; exact .inr hx)]
  case slice t x lo hi mx =>
    rw [h x (by simp), opdOpt_congr fun y hy => h y (by simp [hy]), opdOpt_congr (x := hi) fun y hy => h y (by simp [hy]), opdOpt_congr (x := mx) fun y hy => h y (by simp [hy])]
  all_goals (try simp_all)
theorem evA_congr {op : Op} (h : ∀ x ∈ op.operands, opd T tm x = opd T tn x) : evA T tm op = evA T tn op := by
  cases op <;> simp only [Op.operands] at h <;> simp only [evA]
  case buildSlice t n ps => rw [opdParts_congr fun x hx => h x.2 (by simpa using ⟨x.1, by simpa using hx⟩)]
  case makeMap t r => cases r <;> rfl
  all_goals (try simp_all)
theorem evX_congr {C : Cx} {callF : FuncId → List Value → St → Option (Value × St)} {σ : St} {op : Op} (h : ∀ x ∈ op.operands, opd C.T tm x = opd C.T tn x) : evX C callF tm σ op = evX C callF tn σ op := by
  cases op <;> simp only [Op.operands] at h <;> simp only [evX]
  case call c =>
    have ha : opds C.T tm c.args.toList = opds C.T tn c.args.toList := opds_congr fun x hx => h x (by simp [Call.operands] at hx ⊢; exact .inr hx)
    rw [ha]
    cases hc : c.callee with
    | value f => simp only []; rw [h f (by simp [Call.operands, hc])]
    | builtin b => cases b <;> rfl
    | invoke r m => rfl
  all_goals (try simp_all)
end
end Go.Ev
end
section
namespace Go.Ev
open Go.RowKit
variable {P : Program} {B : Nat} {w0 : World}
def bit (m i : Nat) : Bool := Nat.testBit m i
def maskAt (M : Tr Nat) (i : Nat) : Nat := (M.get i).getD 0
def maskAll (M : Tr Nat) : List Edge → Nat
  | [] => 0
  | e :: r => cond (Region.binds .any e) (Nat.lor (Nat.lor (2 ^ e.on) (maskAt M e.on)) (maskAll M r)) (maskAll M r)
def masks : List Oper → Nat → Tr Nat → Tr Nat
  | [], _, t => t
  | o :: r, i, t => forceN (maskAll t o.after.toList) fun m => masks r (i + 1) (t.set i m)
def wrOf : List Oper → Nat → Tr Nat → Tr Nat
  | [], _, t => t
  | o :: r, i, t => match o.dst with
    | some d => wrOf r (i + 1) (t.set d i)
    | none => wrOf r (i + 1) t
structure Stg where
  x : Nat
  fl : List Nat
  pend : List Nat
def isX : Op → Bool
  | .store .. | .mapUpdate .. | .next .. | .assign _ => true
  | .call c => match c.callee with
    | .builtin .append | .builtin .copy | .builtin .unsafeString => true
    | .builtin _ => false
    | _ => true
  | _ => false
def allIdx (p : Nat → Oper → Bool) : Nat → List Oper → Bool
  | _, [] => true
  | k, o :: r => p k o && allIdx p (k + 1) r
theorem allIdx_spec (p : Nat → Oper → Bool) : ∀ (k : Nat) (l : List Oper), allIdx p k l = true → ∀ (j : Nat) (o : Oper), l[j]? = some o → p (k + j) o = true
  | k, [], _, j, o, h => by simp at h
  | k, x :: r, ha, j, o, h => by
    simp only [allIdx, Bool.and_eq_true] at ha
    cases j with
    | zero => simp at h; subst h; exact ha.1
    | succ j =>
      have := allIdx_spec p (k + 1) r ha.2 j o (by simpa using h)
      rw [show k + (j + 1) = k + 1 + j by omega]; exact this
def okBase (ops : List Oper) (M wr : Tr Nat) : Bool :=
  allIdx (fun i o => Nat.beq (maskAt M i) (maskAll M o.after.toList) && (o.after.toList.all fun e => !(Region.binds .any e) || Nat.blt e.on i) &&
    (match o.dst with
      | none => true
      | some d => match wr.get d with
        | some w => Nat.beq w i
        | none => false)) 0 ops
def readsOf (ops : List Oper) (o : Oper) : List Tmp :=
  tmpsOf o.op ++ (match o.guard with
    | some (g, _) => match ops[g]? with
      | some og => og.dst.toList
      | none => []
    | none => [])
def readsOk (ops : List Oper) (M wr : Tr Nat) (ex i : Nat) : Bool :=
  match ops[i]? with
  | some o => (readsOf ops o).all fun t => match wr.get t with
    | none => true
    | some w => bit (maskAt M i) w || !(bit ex w)
  | none => false
def bitsOf : List Nat → Nat
  | [] => 0
  | f :: r => Nat.lor (2 ^ f) (bitsOf r)
def ndup : List Nat → Bool
  | [] => true
  | f :: r => !(r.any fun g => Nat.beq f g) && ndup r
theorem ndup_spec : ∀ {l : List Nat}, ndup l = true → l.Nodup
  | [], _ => List.nodup_nil
  | f :: r, h => by
    simp only [ndup, Bool.and_eq_true, Bool.not_eq_true'] at h
    rw [List.nodup_cons]
    refine ⟨fun hm => ?_, ndup_spec h.2⟩
    have := List.any_eq_false.1 h.1 f hm
    exact this (Nat.beq_refl f)
def stOk (ops : List Oper) (M wr : Tr Nat) (n : Nat) : Nat → Nat → Nat → List Nat → List Stg → Bool
  | ex, dn, bm, pend, rest =>
    ((List.range n).all fun i => !(bit ex i) || bit dn i || bit bm i || bit (bitsOf pend) i) &&
    (pend.all fun i => readsOk ops M wr ex i) &&
    match rest with
    | [] => (List.range n).all fun i => bit ex i
    | s :: r => readsOk ops M wr ex s.x && !(bit ex s.x) && ((List.range n).all fun i => bit ex i || Nat.beq i s.x || bit (maskAt M i) s.x) &&
      (s.fl.all fun f => !(bit ex f) && !(Nat.beq f s.x)) && ndup s.fl && stOk ops M wr n (Nat.lor (Nat.lor ex (2 ^ s.x)) (bitsOf s.fl)) (Nat.lor dn (2 ^ s.x)) (Nat.lor bm (maskAt M s.x)) s.pend r
termination_by structural _ _ _ _ rest => rest
theorem bit_lor (a b i : Nat) : bit (Nat.lor a b) i = (bit a i || bit b i) := Nat.testBit_or a b i
theorem bit_pow (a i : Nat) : bit (2 ^ a) i = decide (a = i) := Nat.testBit_two_pow
theorem bit_zero (i : Nat) : bit 0 i = false := Nat.zero_testBit i
theorem bit_bitsOf (l : List Nat) (i : Nat) : bit (bitsOf l) i = true ↔ i ∈ l := by
  induction l with
  | nil => simp [bitsOf, bit_zero]
  | cons f r ih => rw [bitsOf, bit_lor, bit_pow, Bool.or_eq_true, ih, decide_eq_true_eq, List.mem_cons, eq_comm]
theorem maskAll_spec (M : Tr Nat) (i : Nat) : ∀ (l : List Edge), bit (maskAll M l) i = true → ∃ e ∈ l, Region.binds .any e = true ∧ (e.on = i ∨ bit (maskAt M e.on) i = true)
  | [], h => by simp [maskAll, bit_zero] at h
  | e :: r, h => by
    unfold maskAll at h
    cases hb : Region.binds .any e with
    | false =>
      rw [hb] at h
      obtain ⟨x, hx, y⟩ := maskAll_spec M i r h
      exact ⟨x, List.mem_cons_of_mem _ hx, y⟩
    | true =>
      rw [hb] at h
      simp only [cond_true, bit_lor, bit_pow, Bool.or_eq_true, decide_eq_true_eq] at h
      rcases h with (h | h) | h
      · exact ⟨e, List.mem_cons_self .., hb, .inl h⟩
      · exact ⟨e, List.mem_cons_self .., hb, .inr h⟩
      · obtain ⟨x, hx, y⟩ := maskAll_spec M i r h
        exact ⟨x, List.mem_cons_of_mem _ hx, y⟩
theorem wrOf_spec (ops : List Oper) : ∀ (l : List Oper) (k : Nat) (t : Tr Nat), ops.drop k = l → (∀ d w, t.get d = some w → ∃ o, ops[w]? = some o ∧ o.dst = some d) →
    ∀ d w, (wrOf l k t).get d = some w → ∃ o, ops[w]? = some o ∧ o.dst = some d
  | [], k, t, _, h, d, w, he => h d w he
  | o :: r, k, t, hd, h, d, w, he => by
    have hk : k < ops.length := by
      have := congrArg List.length hd
      simp at this
      omega
    have hd' := List.drop_eq_getElem_cons hk
    rw [hd] at hd'
    simp only [List.cons.injEq] at hd'
    obtain ⟨h1, h2⟩ := hd'
    unfold wrOf at he
    split at he
    · rename_i d1 hd1
      refine wrOf_spec ops r (k + 1) _ h2.symm ?_ d w he
      intro d2 w2 hq
      rw [Tr.get_set] at hq
      by_cases hdd : d2 = d1
      · rw [if_pos hdd] at hq; cases hq
        exact ⟨o, by rw [List.getElem?_eq_getElem hk, h1], by rw [hdd]; exact hd1⟩
      · rw [if_neg hdd] at hq; exact h d2 w2 hq
    · exact wrOf_spec ops r (k + 1) t h2.symm h d w he
def xsOf : Nat → List Oper → List Nat
  | _, [] => []
  | i, o :: r => cond (isX o.op) (i :: xsOf (i + 1) r) (xsOf (i + 1) r)
def stageAt (M : Tr Nat) (i : Nat) : List Nat → Nat
  | [] => 0
  | x :: r => cond (bit (maskAt M i) x) (.succ (stageAt M i r)) 0
def pickFl (M : Tr Nat) (xs : List Nat) (j : Nat) : Nat → List Oper → List Nat
  | _, [] => []
  | i, o :: r => cond (!(isX o.op) && Nat.beq (stageAt M i xs) j) (i :: pickFl M xs j (i + 1) r) (pickFl M xs j (i + 1) r)
def mkRest (M : Tr Nat) (xs : List Nat) (ops : List Oper) : Nat → Nat → List Nat → List Nat → List Stg
  | _, _, _, [] => []
  | j, bm, live, x :: r =>
    let bm' := Nat.lor bm (maskAt M x)
    let fl := pickFl M xs j 0 ops
    let live' := (live ++ fl).filter fun f => !(bit bm' f)
    ⟨x, fl, live'⟩ :: mkRest M xs ops (j + 1) bm' live' r
structure RP where
  M : Tr Nat
  wr : Tr Nat
  fl : List Nat
  rest : List Stg
def mkPlan (ops : List Oper) : RP :=
  let M := masks ops 0 .nil
  let xs := xsOf 0 ops
  let fl := pickFl M xs 0 0 ops
  ⟨M, wrOf ops 0 .nil, fl, mkRest M xs ops 1 0 fl xs⟩
def planOk (ops : List Oper) (p : RP) : Bool :=
  okBase ops p.M p.wr && ndup p.fl && stOk ops p.M p.wr ops.length (bitsOf p.fl) 0 0 p.fl p.rest
def sameT (N : Nat) (tm : Tr Value) (dst : Option Tmp) (v : Value) : Bool :=
  match dst with
  | none => true
  | some d => Nat.blt d N && (match tm.get d with
    | some v' => veq v v'
    | none => false)
def evFl (C : Cx) (N : Nat) (ops : List Oper) (tm : Tr Value) (σ : St) (ids : Tr Nat) (i : Nat) : Option (Tr Value × St × Tr Nat) :=
  match ops[i]? with
  | none => none
  | some o => match wantedT ops tm o.guard with
    | none => none
    | some false => match putT N tm o.dst undef with
      | some tm' => some (tm', σ, ids)
      | none => none
    | some true => match evL C.T C.lies tm σ o.op with
      | some v => match putT N tm o.dst v with
        | some tm' => some (tm', σ, ids)
        | none => none
      | none => match evA C.T tm o.op with
        | some (ob, mk) => match putT N tm o.dst (mk σ.next) with
          | some tm' => some (tm', σ.push ob, ids.set i σ.next)
          | none => none
        | none => none
def evFls (C : Cx) (N : Nat) (ops : List Oper) : List Nat → Tr Value → St → Tr Nat → Option (Tr Value × St × Tr Nat)
  | [], tm, σ, ids => some (tm, σ, ids)
  | i :: r, tm, σ, ids => match evFl C N ops tm σ ids i with
    | some (tm', σ', ids') => evFls C N ops r tm' σ' ids'
    | none => none
def evPd (C : Cx) (N : Nat) (ops : List Oper) (tm : Tr Value) (σ : St) (ids : Tr Nat) (i : Nat) : Bool :=
  match ops[i]? with
  | none => false
  | some o => match wantedT ops tm o.guard with
    | none => false
    | some false => sameT N tm o.dst undef
    | some true => match ids.get i with
      | none => match evL C.T C.lies tm σ o.op with
        | some v => sameT N tm o.dst v
        | none => false
      | some id => match evA C.T tm o.op with
        | some (ob, mk) => (match σ.get id with
          | some ob' => aeq ob ob'
          | none => false) && sameT N tm o.dst (mk id)
        | none => false
def evXL (C : Cx) (callF : FuncId → List Value → St → Option (Value × St)) (tm : Tr Value) (σ : St) (op : Op) : Option (Value × St) :=
  match evL C.T C.lies tm σ op with
  | some v => some (v, σ)
  | none => evX C callF tm σ op
def evStg (C : Cx) (callF : FuncId → List Value → St → Option (Value × St)) (N : Nat) (ops : List Oper) : List Stg → List Nat → Tr Value → St → Tr Nat → Option (Tr Value × St)
  | rest, pend, tm, σ, ids => cond (pend.all fun i => evPd C N ops tm σ ids i)
    (match rest with
    | [] => some (tm, σ)
    | s :: r => match ops[s.x]? with
      | none => none
      | some o => match wantedT ops tm o.guard with
        | none => none
        | some b => match cond b (evXL C callF tm σ o.op) (some (undef, σ)) with
          | none => none
          | some (v, σ1) => match putT N tm o.dst v with
            | none => none
            | some tm1 => match evFls C N ops s.fl tm1 σ1 ids with
              | some (tm2, σ2, ids2) => evStg C callF N ops r s.pend tm2 σ2 ids2
              | none => none) none
termination_by structural rest => rest
theorem putT_get {N : Nat} {tm tm' : Tr Value} {dst : Option Tmp} {v : Value} (h : putT N tm dst v = some tm') : (∀ d, dst = some d → d < N) ∧ ∀ t, tm'.get t = if dst = some t then some v else tm.get t := by
  cases dst with
  | none => cases h; exact ⟨fun d hd => (by cases hd), fun t => by simp⟩
  | some d =>
    simp only [putT] at h
    obtain ⟨hd, h⟩ := cond_inner h
    rw [forceV_eq] at h
    cases h
    refine ⟨fun d' hd' => by cases hd'; exact Nat.le_of_ble_eq_true hd, fun t => ?_⟩
    rw [Tr.get_set]
    by_cases he : t = d
    · subst he; simp
    · rw [if_neg he, if_neg (by simp; exact fun h => he h.symm)]
theorem putT_of {N : Nat} {tm : Tr Value} {dst : Option Tmp} {v : Value} (h : ∀ d, dst = some d → d < N) : ∃ tm', putT N tm dst v = some tm' := by
  cases dst with
  | none => exact ⟨tm, rfl⟩
  | some d =>
    simp only [putT, forceV_eq]
    rw [show Nat.blt d N = true by simp [Nat.blt, Nat.ble_eq]; exact h d rfl]
    exact ⟨_, rfl⟩
end Go.Ev
end
end

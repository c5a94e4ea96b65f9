/- Part of the proof that whatever the two series: JetSums answers true -/
import Derived.Below
import Derived.Calls
import Derived.Orders
import Derived.Laws.AppendOwn
import Derived.Laws.Rows
import Derived.Laws.CopyRow
import Derived.Laws.Append
import Derived.IntWalk
import GoSem.Dispatch
import Derived.Laws.StructEq
import Derived.Laws.BytesArg
set_option linter.all false
noncomputable section
section
namespace Go.Ev
inductive Tr (α : Type) where
  | nil
  | node (l : Tr α) (v : Option α) (r : Tr α)
namespace Tr
variable {α : Type}
inductive Pth where
  | h
  | l (p : Pth)
  | r (p : Pth)
def pthI : Nat → Nat → Pth
  | 0, _ => .h
  | f + 1, n => cond (Nat.beq n 0) .h (cond (Nat.beq (n % 2) 1) (.l (pthI f (n / 2))) (.r (pthI f (n / 2 - 1))))
def pthF (f : Nat) : Nat → Pth :=
  Nat.rec (motive := fun _ => Nat → Pth) (fun _ => .h)
    (fun _ ih n => Bool.rec (motive := fun _ => Pth) (Bool.rec (motive := fun _ => Pth) (.r (ih (Nat.sub (Nat.div n 2) 1))) (.l (ih (Nat.div n 2))) (Nat.beq (Nat.mod n 2) 1)) .h (Nat.beq n 0)) f
def pth (n : Nat) : Pth := pthF n n
theorem pthF_succ (f n : Nat) : pthF (f + 1) n = cond (Nat.beq n 0) .h (cond (Nat.beq (n % 2) 1) (.l (pthF f (n / 2))) (.r (pthF f (n / 2 - 1)))) := by
  show Bool.rec (motive := fun _ => Pth) (Bool.rec (motive := fun _ => Pth) (.r (pthF f (n / 2 - 1))) (.l (pthF f (n / 2))) (Nat.beq (n % 2) 1)) .h (Nat.beq n 0) = _
  cases Nat.beq n 0 <;> cases Nat.beq (n % 2) 1 <;> rfl
theorem pthF_zero (f : Nat) : pthF f 0 = .h := by cases f <;> rfl
theorem pthF_eq : ∀ (f n : Nat), n ≤ f → pthF f n = pth n := by
  have key : ∀ (f g n : Nat), n ≤ f → n ≤ g → pthF f n = pthF g n := by
    intro f
    induction f with
    | zero =>
      intro g n h _
      obtain rfl : n = 0 := by omega
      exact (pthF_zero g).symm
    | succ f ih =>
      intro g n h hg
      cases n with
      | zero => rw [pthF_zero, pthF_zero]
      | succ n =>
        cases g with
        | zero => omega
        | succ g =>
          rw [pthF_succ, pthF_succ, ih g _ (by omega) (by omega), ih g _ (by omega) (by omega)]
  exact fun f n h => key f n n h (Nat.le_refl n)
theorem pth_zero : pth 0 = .h := rfl
theorem pth_left (n : Nat) (h : n % 2 = 1) : pth n = .l (pth (n / 2)) := by
  obtain ⟨k, rfl⟩ : ∃ k, n = k + 1 := ⟨n - 1, by omega⟩
  unfold pth
  rw [pthF_succ]
  have h1 : Nat.beq ((k + 1) % 2) 1 = true := by rw [h]; rfl
  rw [h1, pthF_eq k _ (by omega)]
  rfl
theorem pth_right (n : Nat) (h0 : n ≠ 0) (h : n % 2 = 0) : pth n = .r (pth (n / 2 - 1)) := by
  obtain ⟨k, rfl⟩ : ∃ k, n = k + 1 := ⟨n - 1, by omega⟩
  unfold pth
  rw [pthF_succ]
  have h1 : Nat.beq ((k + 1) % 2) 1 = false := by rw [h]; rfl
  rw [h1, pthF_eq k ((k + 1) / 2 - 1) (by omega)]
  rfl
def leftI : Tr α → Tr α | .nil => .nil | .node l _ _ => l
def valI : Tr α → Option α | .nil => none | .node _ v _ => v
def rightI : Tr α → Tr α | .nil => .nil | .node _ _ r => r
def left (t : Tr α) : Tr α := Tr.rec (motive := fun _ => Tr α) .nil (fun l _ _ _ _ => l) t
def val (t : Tr α) : Option α := Tr.rec (motive := fun _ => Option α) none (fun _ v _ _ _ => v) t
def right (t : Tr α) : Tr α := Tr.rec (motive := fun _ => Tr α) .nil (fun _ _ r _ _ => r) t
def getI : Pth → Tr α → Option α
  | .h, t => valI t
  | .l p, t => getI p (leftI t)
  | .r p, t => getI p (rightI t)
def getP (p : Pth) : Tr α → Option α :=
  Pth.rec (motive := fun _ => Tr α → Option α) (fun t => t.val) (fun _ ih t => Tr.rec (motive := fun _ => Option α) none (fun l _ _ _ _ => ih l) t) (fun _ ih t => Tr.rec (motive := fun _ => Option α) none (fun _ _ r _ _ => ih r) t) p
def get (t : Tr α) (n : Nat) : Option α := getP (pth n) t
theorem getP_nil : ∀ p : Pth, getP p (.nil : Tr α) = none
  | .h => rfl
  | .l _ => rfl
  | .r _ => rfl
theorem get_nil (n : Nat) : (Tr.nil : Tr α).get n = none := getP_nil _
def setI (v : α) : Pth → Tr α → Tr α
  | .h, t => .node (leftI t) (some v) (rightI t)
  | .l p, t => .node (setI v p (leftI t)) (valI t) (rightI t)
  | .r p, t => .node (leftI t) (valI t) (setI v p (rightI t))
def setP (v : α) (p : Pth) : Tr α → Tr α :=
  Pth.rec (motive := fun _ => Tr α → Tr α) (fun t => Tr.rec (motive := fun _ => Tr α) (.node .nil (some v) .nil) (fun l _ r _ _ => .node l (some v) r) t)
    (fun _ ih t => Tr.rec (motive := fun _ => Tr α) (.node (ih .nil) none .nil) (fun l x r _ _ => .node (ih l) x r) t)
    (fun _ ih t => Tr.rec (motive := fun _ => Tr α) (.node .nil none (ih .nil)) (fun l x r _ _ => .node l x (ih r)) t) p
def set (t : Tr α) (n : Nat) (v : α) : Tr α := setP v (pth n) t
theorem get_left (t : Tr α) (n : Nat) (h : n % 2 = 1) : t.get n = t.left.get (n / 2) := by
  unfold get
  rw [pth_left n h]
  cases t with
  | nil => exact (getP_nil _).symm
  | node l v r => rfl
theorem get_right (t : Tr α) (n : Nat) (h0 : n ≠ 0) (h : n % 2 = 0) : t.get n = t.right.get (n / 2 - 1) := by
  unfold get
  rw [pth_right n h0 h]
  cases t with
  | nil => exact (getP_nil _).symm
  | node l v r => rfl
theorem get_zero (t : Tr α) : t.get 0 = t.val := rfl
theorem set_zero (t : Tr α) (v : α) : t.set 0 v = .node t.left (some v) t.right := by cases t <;> rfl
theorem set_left (t : Tr α) (n : Nat) (v : α) (h : n % 2 = 1) : t.set n v = .node (t.left.set (n / 2) v) t.val t.right := by
  unfold set
  rw [pth_left n h]
  cases t <;> rfl
theorem set_right (t : Tr α) (n : Nat) (v : α) (h0 : n ≠ 0) (h : n % 2 = 0) : t.set n v = .node t.left t.val (t.right.set (n / 2 - 1) v) := by
  unfold set
  rw [pth_right n h0 h]
  cases t <;> rfl
theorem get_set (t : Tr α) (n : Nat) (v : α) (m : Nat) : (t.set n v).get m = if m = n then some v else t.get m := by
  induction n using Nat.strongRecOn generalizing t m with
  | _ n ih =>
    by_cases h0 : n = 0
    · subst h0
      rw [set_zero]
      by_cases hm : m = 0
      · subst hm; rw [if_pos rfl]; rfl
      · rw [if_neg hm]
        rcases Nat.mod_two_eq_zero_or_one m with g | g
        · rw [get_right _ m hm g, get_right t m hm g]; rfl
        · rw [get_left _ m g, get_left t m g]; rfl
    · rcases Nat.mod_two_eq_zero_or_one n with h | h
      · rw [set_right t n v h0 h]
        by_cases hm : m = 0
        · subst hm; rw [if_neg (by omega)]; cases t <;> rfl
        · rcases Nat.mod_two_eq_zero_or_one m with g | g
          · rw [get_right _ m hm g, get_right t m hm g]
            show (t.right.set (n / 2 - 1) v).get (m / 2 - 1) = _
            rw [ih (n / 2 - 1) (by omega)]
            by_cases e : m = n
            · subst e; rw [if_pos rfl, if_pos rfl]
            · rw [if_neg (by omega), if_neg e]
          · rw [get_left _ m g, get_left t m g, if_neg (by omega)]; rfl
      · rw [set_left t n v h]
        by_cases hm : m = 0
        · subst hm; rw [if_neg (by omega)]; cases t <;> rfl
        · rcases Nat.mod_two_eq_zero_or_one m with g | g
          · rw [get_right _ m hm g, get_right t m hm g, if_neg (by omega)]; rfl
          · rw [get_left _ m g, get_left t m g]
            show (t.left.set (n / 2) v).get (m / 2) = _
            rw [ih (n / 2) (by omega)]
            by_cases e : m = n
            · subst e; rw [if_pos rfl, if_pos rfl]
            · rw [if_neg (by omega), if_neg e]
def ofListFrom : Nat → List α → Tr α → Tr α
  | _, [], t => t
  | i, x :: xs, t => ofListFrom (i + 1) xs (t.set i x)
theorem get_ofListFrom : ∀ (xs : List α) (i : Nat) (t : Tr α) (m : Nat), (ofListFrom i xs t).get m = if i ≤ m ∧ m < i + xs.length then xs[m - i]? else t.get m
  | [], i, t, m => by
    rw [if_neg (by simp only [List.length_nil]; omega)]; rfl
  | x :: xs, i, t, m => by
    show (ofListFrom (i + 1) xs (t.set i x)).get m = _
    rw [get_ofListFrom xs (i + 1) _ m, get_set]
    by_cases e : m = i
    · subst e
      rw [if_neg (by omega), if_pos rfl, if_pos (by simp)]
      simp
    · rw [if_neg e]
      by_cases h : i + 1 ≤ m ∧ m < i + 1 + xs.length
      · rw [if_pos h, if_pos (by simp; omega)]
        obtain ⟨k, rfl⟩ : ∃ k, m = i + 1 + k := ⟨m - (i + 1), by omega⟩
        rw [show i + 1 + k - (i + 1) = k by omega, show i + 1 + k - i = k + 1 by omega]
        simp
      · rw [if_neg h, if_neg (by simp; omega)]
def ofList (xs : List α) : Tr α := ofListFrom 0 xs .nil
theorem get_ofList (xs : List α) (m : Nat) : (ofList xs).get m = xs[m]? := by
  unfold ofList
  rw [get_ofListFrom]
  by_cases h : 0 ≤ m ∧ m < 0 + xs.length
  · rw [if_pos h]; rfl
  · rw [if_neg h, get_nil]
    exact (List.getElem?_eq_none (by omega)).symm
end Tr
end Go.Ev
end
section
namespace Go.Ev
open Go.RowKit
structure Loc where
  b : Nat
  d : Nat
  own : Bool
structure Env where
  ι : Nat → Option Loc
  K : Nat → Option (TypeId × Nat)
mutual
inductive VRel (P : Program) (E : Env) : Value → Value → Prop
  | bool (b : Bool) : VRel P E (.bool b) (.bool b)
  | int (k : IntKind) (n : Int) : VRel P E (.int k n) (.int k n)
  | string (s : ByteArray) : VRel P E (.string s) (.string s)
  | nilPtr : VRel P E (.pointer none) (.pointer none)
  | ptr {i o : Nat} {l : Loc} : E.ι i = some l → VRel P E (.pointer (some ⟨i, o, none⟩)) (.pointer (some ⟨l.b, o + l.d, none⟩))
  | nilSlice : VRel P E (.slice none 0 0) (.slice none 0 0)
  | slice {i o n c c' : Nat} {s : Option Nat} {l : Loc} : E.ι i = some l → (s = none → c = c') → n ≤ c → c ≤ c' →
      (l.own = true → ∃ e z sz, E.K l.b = some (e, z) ∧ (P.info? e).map (·.size) = some sz ∧ o + l.d + c' * sz ≤ z) →
      VRel P E (.slice (some ⟨i, o, s⟩) n c) (.slice (some ⟨l.b, o + l.d, none⟩) n c')
  | empty {i o c : Nat} {a : Addr} : VRel P E (.slice (some ⟨i, o, some 1⟩) 0 0) (.slice (some a) 0 c)
  | nilMap : VRel P E (.map none) (.map none)
  | map {r : Nat} {l : Loc} : E.ι r = some l → VRel P E (.map (some r)) (.map (some l.b))
  | func {fn : Fn} {xs xs' ys ys' : List Value} : LRel P E xs xs' → LRel P E ys ys' → VRel P E (.func fn ⟨xs⟩ ⟨ys⟩) (.func fn ⟨xs'⟩ ⟨ys'⟩)
  | nilFunc : VRel P E .nilFunc .nilFunc
  | iface {t : TypeId} {v v' : Value} : VRel P E v v' → VRel P E (.iface t v) (.iface t v')
  | nilIface : VRel P E .nilIface .nilIface
  | agg {xs xs' : List Value} : LRel P E xs xs' → VRel P E (.agg ⟨xs⟩) (.agg ⟨xs'⟩)
  | tuple {xs xs' : List Value} : LRel P E xs xs' → VRel P E (.tuple ⟨xs⟩) (.tuple ⟨xs'⟩)
inductive LRel (P : Program) (E : Env) : List Value → List Value → Prop
  | nil : LRel P E [] []
  | cons {v v' : Value} {xs xs' : List Value} : VRel P E v v' → LRel P E xs xs' → LRel P E (v :: xs) (v' :: xs')
end
structure Env.le (E F : Env) : Prop where
  ι : ∀ i l, E.ι i = some l → F.ι i = some l
  K : ∀ b s, E.K b = some s → F.K b = some s
theorem Env.le.refl (E : Env) : E.le E := ⟨fun _ _ h => h, fun _ _ h => h⟩
structure Env.ext (n : Nat) (E F : Env) : Prop where
  le : E.le F
  old : ∀ i, i < n → F.ι i = E.ι i
theorem Env.ext.refl (n : Nat) (E : Env) : E.ext n E := ⟨Env.le.refl E, fun _ _ => rfl⟩
theorem Env.le.trans {E F G : Env} (h : E.le F) (k : F.le G) : E.le G := ⟨fun i l e => k.ι i l (h.ι i l e), fun b s e => k.K b s (h.K b s e)⟩
theorem Env.ext.trans {E F G : Env} {n m : Nat} (h : E.ext n F) (k : F.ext m G) (hn : n ≤ m) : E.ext n G :=
  ⟨h.le.trans k.le, fun i hi => (k.old i (Nat.lt_of_lt_of_le hi hn)).trans (h.old i hi)⟩
variable {P : Program} {E F : Env}
mutual
theorem VRel.mono (h : E.le F) : ∀ {v v' : Value}, VRel P E v v' → VRel P F v v'
  | _, _, .bool b => .bool b
  | _, _, .int k n => .int k n
  | _, _, .string s => .string s
  | _, _, .nilPtr => .nilPtr
  | _, _, .ptr e => .ptr (h.ι _ _ e)
  | _, _, .nilSlice => .nilSlice
  | _, _, .slice e a b c d => .slice (h.ι _ _ e) a b c fun o => let ⟨e, z, sz, k, x⟩ := d o; ⟨e, z, sz, h.K _ _ k, x⟩
  | _, _, .empty => .empty
  | _, _, .nilMap => .nilMap
  | _, _, .map e => .map (h.ι _ _ e)
  | _, _, .func a b => .func (LRel.mono h a) (LRel.mono h b)
  | _, _, .nilFunc => .nilFunc
  | _, _, .iface a => .iface (VRel.mono h a)
  | _, _, .nilIface => .nilIface
  | _, _, .agg a => .agg (LRel.mono h a)
  | _, _, .tuple a => .tuple (LRel.mono h a)
theorem LRel.mono (h : E.le F) : ∀ {xs ys : List Value}, LRel P E xs ys → LRel P F xs ys
  | _, _, .nil => .nil
  | _, _, .cons a b => .cons (VRel.mono h a) (LRel.mono h b)
end
theorem LRel.length {xs ys : List Value} (h : LRel P E xs ys) : xs.length = ys.length := by
  induction xs generalizing ys with
  | nil => cases h; rfl
  | cons x xs ih => cases h with | cons a b => simp [ih b]
theorem LRel.get {xs ys : List Value} (h : LRel P E xs ys) : ∀ (i : Nat) (v : Value), xs[i]? = some v → ∃ v', ys[i]? = some v' ∧ VRel P E v v' := by
  induction xs generalizing ys with
  | nil => intro i v e; simp at e
  | cons x xs ih =>
    cases h with
    | cons a b =>
      intro i v e
      cases i with
      | zero => simp at e; subst e; exact ⟨_, rfl, a⟩
      | succ i => simp at e; obtain ⟨v', e', r⟩ := ih b i v e; exact ⟨v', by simpa using e', r⟩
theorem LRel.append {xs ys as bs : List Value} (h : LRel P E xs ys) (k : LRel P E as bs) : LRel P E (xs ++ as) (ys ++ bs) := by
  induction xs generalizing ys with
  | nil => cases h; exact k
  | cons x xs ih => cases h with | cons a b => exact .cons a (ih b)
theorem LRel.of_get {xs ys : List Value} (hl : xs.length = ys.length) (h : ∀ (i : Nat) (v w : Value), xs[i]? = some v → ys[i]? = some w → VRel P E v w) : LRel P E xs ys := by
  induction xs generalizing ys with
  | nil => cases ys with | nil => exact .nil | cons => simp at hl
  | cons x xs ih =>
    cases ys with
    | nil => simp at hl
    | cons y ys => exact .cons (h 0 x y rfl rfl) (ih (by simpa using hl) fun i v w a b => h (i + 1) v w (by simpa using a) (by simpa using b))
theorem undef_rel : VRel P E undef undef := .tuple .nil
def plainV : Value → Bool
  | .bool _ | .int _ _ | .string _ | .pointer none | .slice none 0 0 | .map none | .nilFunc | .nilIface => true
  | .agg xs | .tuple xs => go xs.toList
  | .func _ a b => a.isEmpty && b.isEmpty
  | _ => false
where
  go : List Value → Bool
    | [] => true
    | .bool _ :: r | .int _ _ :: r | .string _ :: r | .pointer none :: r | .slice none 0 0 :: r | .map none :: r | .nilFunc :: r | .nilIface :: r => go r
    | _ => false
theorem plainV_go : ∀ (xs : List Value), plainV.go xs = true → LRel P E xs xs
  | [], _ => .nil
  | x :: r, h => by
    cases x with
    | bool b => exact .cons (.bool b) (plainV_go r (by simpa [plainV.go] using h))
    | int k n => exact .cons (.int k n) (plainV_go r (by simpa [plainV.go] using h))
    | string s => exact .cons (.string s) (plainV_go r (by simpa [plainV.go] using h))
    | pointer a => cases a with
      | none => exact .cons .nilPtr (plainV_go r (by simpa [plainV.go] using h))
      | some a => simp [plainV.go] at h
    | slice a n c =>
      cases a with
      | some a => simp [plainV.go] at h
      | none =>
        cases n with
        | succ n => simp [plainV.go] at h
        | zero =>
          cases c with
          | succ c => simp [plainV.go] at h
          | zero => exact .cons .nilSlice (plainV_go r (by simpa [plainV.go] using h))
    | map a => cases a with
      | none => exact .cons .nilMap (plainV_go r (by simpa [plainV.go] using h))
      | some a => simp [plainV.go] at h
    | nilFunc => exact .cons .nilFunc (plainV_go r (by simpa [plainV.go] using h))
    | nilIface => exact .cons .nilIface (plainV_go r (by simpa [plainV.go] using h))
    | _ => simp [plainV.go] at h
theorem plainV_rel {v : Value} (h : plainV v = true) : VRel P E v v := by
  cases v with
  | bool b => exact .bool b
  | int k n => exact .int k n
  | string s => exact .string s
  | pointer a => cases a with
    | none => exact .nilPtr
    | some a => simp [plainV] at h
  | slice a n c =>
    cases a with
    | some a => simp [plainV] at h
    | none =>
      cases n with
      | succ n => simp [plainV] at h
      | zero =>
        cases c with
        | succ c => simp [plainV] at h
        | zero => exact .nilSlice
  | map a => cases a with
    | none => exact .nilMap
    | some a => simp [plainV] at h
  | nilFunc => exact .nilFunc
  | nilIface => exact .nilIface
  | agg xs => exact .agg (plainV_go _ h)
  | tuple xs => exact .tuple (plainV_go _ h)
  | func fn a b =>
    obtain ⟨a⟩ := a
    obtain ⟨b⟩ := b
    simp [plainV] at h
    obtain ⟨rfl, rfl⟩ := h
    exact .func .nil .nil
  | _ => simp [plainV] at h
end Go.Ev
end
section
namespace Go.Ev
open Go.RowKit
inductive AObj where
  | cells (elem : TypeId) (cs : List Value) (ro live : Bool) (par kid : Option Nat)
  | map (es : List MapEntry) (clock : Nat)
  | iter (s : ByteArray) (pos : Nat)
def AObj.isCells : AObj → Bool
  | .cells .. => true
  | _ => false
structure St where
  next : Nat
  mem : Tr AObj
namespace St
def get (σ : St) (i : Nat) : Option AObj := σ.mem.get i
def put (σ : St) (i : Nat) (o : AObj) : St := { σ with mem := σ.mem.set i o }
def push (σ : St) (o : AObj) : St := { next := σ.next + 1, mem := σ.mem.set σ.next o }
theorem get_put (σ : St) (i : Nat) (o : AObj) (j : Nat) : (σ.put i o).get j = if j = i then some o else σ.get j := Tr.get_set _ _ _ _
theorem get_push (σ : St) (o : AObj) (j : Nat) : (σ.push o).get j = if j = σ.next then some o else σ.get j := Tr.get_set _ _ _ _
theorem next_put (σ : St) (i : Nat) (o : AObj) : (σ.put i o).next = σ.next := rfl
theorem next_push (σ : St) (o : AObj) : (σ.push o).next = σ.next + 1 := rfl
def kill1 (σ : St) (i : Nat) : St :=
  match σ.get i with
  | some (.cells e cs ro _ _ _) => σ.put i (.cells e cs ro false none none)
  | _ => σ
def kill (σ : St) : Option Nat → St
  | none => σ
  | some i => σ.kill1 i
def liveAt (σ : St) (i : Nat) : Prop := ∃ e cs ro p k, σ.get i = some (.cells e cs ro true p k)
theorem next_kill (σ : St) (o : Option Nat) : (σ.kill o).next = σ.next := by
  cases o with
  | none => rfl
  | some i => show (σ.kill1 i).next = _; unfold kill1; split <;> rfl
theorem get_kill (σ : St) (o : Option Nat) (j : Nat) : (σ.kill o).get j = σ.get j ∨ (o = some j ∧ ∃ e cs ro, (σ.kill o).get j = some (.cells e cs ro false none none)) := by
  cases o with
  | none => exact .inl rfl
  | some i =>
    show (σ.kill1 i).get j = _ ∨ (_ ∧ ∃ e cs ro, (σ.kill1 i).get j = _)
    unfold kill1
    split
    · rename_i e cs ro l p k h
      rw [get_put]
      by_cases hj : j = i
      · subst hj; exact .inr ⟨rfl, e, cs, ro, if_pos rfl⟩
      · rw [if_neg hj]; exact .inl rfl
    · exact .inl rfl
theorem get_kill_ne (σ : St) (o : Option Nat) (j : Nat) (h : o ≠ some j) : (σ.kill o).get j = σ.get j := by
  rcases get_kill σ o j with h' | ⟨h', _⟩
  · exact h'
  · exact absurd h' h
theorem not_live_kill (σ : St) (j : Nat) : ¬ (σ.kill (some j)).liveAt j := by
  rintro ⟨e, cs, ro, p, k, h⟩
  change (σ.kill1 j).get j = _ at h
  unfold kill1 at h
  split at h
  · rw [get_put, if_pos rfl] at h; simp at h
  · rename_i hn; exact hn _ _ _ _ _ _ h
theorem live_of_kill {σ : St} {o : Option Nat} {j : Nat} (h : (σ.kill o).liveAt j) : σ.liveAt j ∧ o ≠ some j := by
  constructor
  · obtain ⟨e, cs, ro, p, k, h⟩ := h
    rcases get_kill σ o j with h' | ⟨_, e', cs', ro', h'⟩
    · exact ⟨e, cs, ro, p, k, h' ▸ h⟩
    · rw [h'] at h; simp at h
  · rintro rfl; exact not_live_kill σ j h
end St
def ORel (P : Program) (E : Env) (w : World) (l : Loc) : AObj → Prop
  | .cells elem cs ro live _ _ => live = true →
      (∀ (x : Nat) (v : Value), cs[x]? = some v → ∃ v', w.cell? ⟨l.b, x + l.d, none⟩ = some v' ∧ VRel P E v v') ∧
      (ro = false → l.own = true ∧ ∃ C, w.heap[l.b]? = some (.cells C elem (0, 0))) ∧ (ro = true → l.own = false)
  | .map es clock => l.own = true ∧ ∃ es' : Array MapEntry, w.heap[l.b]? = some (.map es' clock) ∧
      es.length = es'.size ∧ ∀ (x : Nat) (e e' : MapEntry), es[x]? = some e → es'[x]? = some e' → VRel P E e.key e'.key ∧ VRel P E e.val e'.val ∧ e.born = e'.born
  | .iter s pos => l.own = true ∧ w.heap[l.b]? = some (.stringIter s pos)
structure Rel (P : Program) (B : Nat) (w0 : World) (E : Env) (σ : St) (w : World) : Prop where
  below : Below B w0 w
  base : B ≤ w.heap.size
  dom : ∀ i l, E.ι i = some l → i < σ.next ∧ l.b < w.heap.size ∧ (l.own = true → l.d = 0 ∧ B ≤ l.b)
  shp : ∀ b s, E.K b = some s → w.shape? b = some s
  obj : ∀ i l o, E.ι i = some l → σ.get i = some o → ORel P E w l o
  sep : ∀ i j l m e cs p k, E.ι i = some l → E.ι j = some m → i ≠ j → l.b = m.b → σ.get i = some (.cells e cs false true p k) →
    (σ.liveAt j → p = some j ∨ k = some j) ∧ (∀ o, σ.get j = some o → o.isCells = true)
  sepm : ∀ i j l m o, E.ι i = some l → E.ι j = some m → i ≠ j → σ.get i = some o → o.isCells = false → l.b ≠ m.b
variable {P : Program} {B : Nat} {w0 : World}
theorem ORel.mono {E F : Env} (h : E.le F) {w : World} {l : Loc} {o : AObj} (r : ORel P E w l o) : ORel P F w l o := by
  cases o with
  | cells elem cs ro live p k =>
    intro hl
    obtain ⟨a, b, c⟩ := r hl
    exact ⟨fun x v hv => let ⟨v', e, q⟩ := a x v hv; ⟨v', e, q.mono h⟩, b, c⟩
  | map es clock =>
    obtain ⟨o, es', a, b, c⟩ := r
    exact ⟨o, es', a, b, fun x e e' h1 h2 => let ⟨q1, q2, q3⟩ := c x e e' h1 h2; ⟨q1.mono h, q2.mono h, q3⟩⟩
  | iter s pos => exact r
theorem ORel.same {E : Env} {w w' : World} {l : Loc} {o : AObj} (r : ORel P E w l o) (h : w'.heap[l.b]? = w.heap[l.b]?) : ORel P E w' l o := by
  cases o with
  | cells elem cs ro live p k =>
    intro hl
    obtain ⟨a, b, c⟩ := r hl
    exact ⟨fun x v hv => let ⟨v', e, q⟩ := a x v hv; ⟨v', by rw [World.cell?_of_block (w := w) h]; exact e, q⟩, fun hr => let ⟨x, C, y⟩ := b hr; ⟨x, C, h ▸ y⟩, c⟩
  | map es clock =>
    obtain ⟨o, es', a, b, c⟩ := r
    exact ⟨o, es', h ▸ a, b, c⟩
  | iter s pos => exact ⟨r.1, h ▸ r.2⟩
theorem Rel.drew {E : Env} {σ : St} {w : World} (h : Rel P B w0 E σ w) : Rel P B w0 E σ w.drew :=
  ⟨h.below.drew, h.base, h.dom, h.shp, fun i l o a b => (h.obj i l o a b).same rfl, h.sep, h.sepm⟩
theorem Rel.kill {E : Env} {σ : St} {w : World} (h : Rel P B w0 E σ w) (o : Option Nat) : Rel P B w0 E (σ.kill o) w := by
  refine ⟨h.below, h.base, fun i l e => by rw [St.next_kill]; exact h.dom i l e, h.shp, fun i l ob e g => ?_, ?_, ?_⟩
  · rcases St.get_kill σ o i with h' | ⟨_, e', cs', ro', h'⟩
    · exact h.obj i l ob e (h' ▸ g)
    · rw [h'] at g; cases g; intro hl; cases hl
  · intro i j l m e cs p k hi hj hne hb hg
    have hg' : σ.get i = some (.cells e cs false true p k) := by
      rcases St.get_kill σ o i with h' | ⟨_, e', cs', ro', h'⟩
      · exact h' ▸ hg
      · rw [h'] at hg; simp at hg
    obtain ⟨a, b⟩ := h.sep i j l m e cs p k hi hj hne hb hg'
    refine ⟨fun hl => a (St.live_of_kill hl).1, fun ob hm => ?_⟩
    rcases St.get_kill σ o j with h' | ⟨_, e', cs', ro', h'⟩
    · exact b ob (h' ▸ hm)
    · rw [h'] at hm; simp at hm; subst hm; rfl
  · intro i j l m ob hi hj hne hg hc
    rcases St.get_kill σ o i with h' | ⟨_, e', cs', ro', h'⟩
    · exact h.sepm i j l m ob hi hj hne (h' ▸ hg) hc
    · rw [h'] at hg; simp at hg; subst hg; cases hc
def takeN : Nat → List Value → Option (List Value)
  | 0, _ => some []
  | n + 1, x :: xs => match takeN n xs with
    | some r => some (x :: r)
    | none => none
  | _ + 1, [] => none
theorem takeN_spec : ∀ (n : Nat) (xs r : List Value), takeN n xs = some r → r.length = n ∧ ∀ (j : Nat) (v : Value), r[j]? = some v → xs[j]? = some v
  | 0, _, r, h => by simp [takeN] at h; subst h; simp
  | n + 1, [], r, h => by simp [takeN] at h
  | n + 1, x :: xs, r, h => by
    unfold takeN at h
    split at h
    · rename_i r' h'
      obtain ⟨a, b⟩ := takeN_spec n xs r' h'
      simp at h; subst h
      refine ⟨by simp [a], fun j v hv => ?_⟩
      cases j with
      | zero => simpa using hv
      | succ j => simp at hv ⊢; exact b j v hv
    · simp at h
def St.ld (σ : St) (i o n : Nat) : Option (List Value) :=
  match σ.get i with
  | some (.cells _ cs _ true _ _) => takeN n (cs.drop o)
  | _ => none
theorem Rel.ld {E : Env} {σ : St} {w : World} (h : Rel P B w0 E σ w) {i o n : Nat} {l : Loc} {vs : List Value} (hi : E.ι i = some l) (hl : σ.ld i o n = some vs) :
    vs.length = n ∧ ∃ vs' : List Value, LRel P E vs vs' ∧ ∀ (j : Nat) (v : Value), vs'[j]? = some v → w.cell? ((⟨l.b, o + l.d, none⟩ : Addr).add j) = some v := by
  unfold St.ld at hl
  split at hl
  · rename_i e cs ro p k hg
    obtain ⟨a, b⟩ := takeN_spec n _ _ hl
    obtain ⟨c, _⟩ := h.obj i l _ hi hg rfl
    refine ⟨a, ?_⟩
    have key : ∀ (vs : List Value) (o : Nat), (∀ (j : Nat) (v : Value), vs[j]? = some v → cs[o + j]? = some v) →
        ∃ vs' : List Value, LRel P E vs vs' ∧ ∀ (j : Nat) (v : Value), vs'[j]? = some v → w.cell? ⟨l.b, o + j + l.d, none⟩ = some v := by
      intro vs
      induction vs with
      | nil => intro o _; exact ⟨[], .nil, by simp⟩
      | cons x xs ih =>
        intro o hx
        obtain ⟨v', hv', hr⟩ := c o x (by simpa using hx 0 x rfl)
        obtain ⟨ys, hy, hc⟩ := ih (o + 1) fun j v hv => by have := hx (j + 1) v (by simpa using hv); rwa [show o + 1 + j = o + (j + 1) by omega]
        refine ⟨v' :: ys, .cons hr hy, fun j v hv => ?_⟩
        cases j with
        | zero => simp at hv; subst hv; simpa using hv'
        | succ j => simp at hv; have := hc j v hv; rwa [show o + (j + 1) = o + 1 + j by omega]
    obtain ⟨vs', hr, hc⟩ := key vs o fun j v hv => by have := b j v hv; simpa using this
    refine ⟨vs', hr, fun j v hv => ?_⟩
    have hadd : (⟨l.b, o + l.d, none⟩ : Addr).add j = ⟨l.b, o + j + l.d, none⟩ := by
      unfold Addr.add; split
      · rename_i hj; subst hj; simp
      · simp; omega
    rw [hadd]; exact hc j v hv
  · simp at hl
def Env.push (E : Env) (i : Nat) (l : Loc) (s : Option (TypeId × Nat)) : Env :=
  { ι := fun j => if j = i then some l else E.ι j, K := fun b => if b = l.b then s else E.K b }
theorem Env.push_le {E : Env} {i : Nat} {l : Loc} {s : Option (TypeId × Nat)} (h : E.ι i = none) (hK : E.K l.b = none) : E.le (E.push i l s) :=
  ⟨fun j m e => by
    show (if j = i then some l else E.ι j) = some m
    by_cases hj : j = i
    · subst hj; rw [h] at e; cases e
    · rw [if_neg hj]; exact e,
   fun b s' e => by
    show (if b = l.b then s else E.K b) = some s'
    by_cases hb : b = l.b
    · subst hb; rw [hK] at e; cases e
    · rw [if_neg hb]; exact e⟩
theorem Rel.fresh {E : Env} {σ : St} {w : World} (h : Rel P B w0 E σ w) : E.ι σ.next = none := by
  cases e : E.ι σ.next with
  | none => rfl
  | some l => have := (h.dom _ l e).1; omega
theorem Rel.freshK {E : Env} {σ : St} {w : World} (h : Rel P B w0 E σ w) : E.K w.heap.size = none := by
  cases e : E.K w.heap.size with
  | none => rfl
  | some s =>
    have := h.shp _ s e
    simp [World.shape?] at this
theorem Rel.alloc_at {E : Env} {σ : St} {w : World} (h : Rel P B w0 E σ w) {i : Nat} {ob : AObj} {o : Obj} (hn : E.ι i = none) (hi : i < σ.next) (hg : σ.get i = some ob)
    (s : Option (TypeId × Nat)) (hs : ∀ s', s = some s' → (w.alloc o).shape? w.heap.size = some s')
    (ho : ORel P (E.push i ⟨w.heap.size, 0, true⟩ s) (w.alloc o) ⟨w.heap.size, 0, true⟩ ob) :
    E.le (E.push i ⟨w.heap.size, 0, true⟩ s) ∧ Rel P B w0 (E.push i ⟨w.heap.size, 0, true⟩ s) σ (w.alloc o) := by
  have hle : E.le (E.push i ⟨w.heap.size, 0, true⟩ s) := Env.push_le hn h.freshK
  have hold : ∀ b, b < w.heap.size → (w.alloc o).heap[b]? = w.heap[b]? := fun b hb => heap_alloc_old w o b hb
  refine ⟨hle, ⟨h.below.alloc h.base _, by simp; exact Nat.le_succ_of_le h.base, ?_, ?_, ?_, ?_, ?_⟩⟩
  · intro j l e
    change (if j = i then some _ else E.ι j) = some l at e
    by_cases hj : j = i
    · rw [if_pos hj] at e; cases e; subst hj
      exact ⟨hi, by simp, fun _ => ⟨rfl, h.base⟩⟩
    · rw [if_neg hj] at e
      obtain ⟨a, b, c⟩ := h.dom j l e
      exact ⟨a, by simp; omega, c⟩
  · intro b s' e
    change (if b = w.heap.size then s else E.K b) = some s' at e
    by_cases hb : b = w.heap.size
    · rw [if_pos hb] at e; subst hb; exact hs s' e
    · rw [if_neg hb] at e
      have h1 := h.shp b s' e
      have hlt : b < w.heap.size := by
        unfold World.shape? at h1
        split at h1
        · rename_i h2; exact (Array.getElem?_eq_some_iff.1 h2).1
        · cases h1
      unfold World.shape? at h1 ⊢
      rw [hold b hlt]; exact h1
  · intro j l ob' e g
    change (if j = i then some _ else E.ι j) = some l at e
    by_cases hj : j = i
    · rw [if_pos hj] at e; cases e; subst hj
      rw [hg] at g; cases g; exact ho
    · rw [if_neg hj] at e
      exact ((h.obj j l ob' e g).mono hle).same (hold _ (h.dom j l e).2.1)
  · intro j j' l m e cs p k e1 e2 hne hb hgj
    change (if j = i then some _ else E.ι j) = some l at e1
    change (if j' = i then some _ else E.ι j') = some m at e2
    by_cases hj : j = i
    · rw [if_pos hj] at e1; cases e1
      by_cases hj' : j' = i
      · exact absurd (hj.trans hj'.symm) hne
      · rw [if_neg hj'] at e2
        have := (h.dom _ _ e2).2.1
        simp at hb; omega
    · rw [if_neg hj] at e1
      by_cases hj' : j' = i
      · rw [if_pos hj'] at e2; cases e2
        have := (h.dom _ _ e1).2.1
        simp at hb; omega
      · rw [if_neg hj'] at e2
        exact h.sep j j' l m e cs p k e1 e2 hne hb hgj
  · intro j j' l m ob' e1 e2 hne hgj hcj
    change (if j = i then some _ else E.ι j) = some l at e1
    change (if j' = i then some _ else E.ι j') = some m at e2
    by_cases hj : j = i
    · rw [if_pos hj] at e1; cases e1
      by_cases hj' : j' = i
      · exact absurd (hj.trans hj'.symm) hne
      · rw [if_neg hj'] at e2
        have := (h.dom _ _ e2).2.1
        simp; omega
    · rw [if_neg hj] at e1
      by_cases hj' : j' = i
      · rw [if_pos hj'] at e2; cases e2
        have := (h.dom _ _ e1).2.1
        simp; omega
      · rw [if_neg hj'] at e2
        exact h.sepm j j' l m ob' e1 e2 hne hgj hcj
theorem Rel.ghost {E : Env} {σ : St} {w : World} (h : Rel P B w0 E σ w) (o : AObj) : Rel P B w0 E (σ.push o) w := by
  have hne : ∀ i l, E.ι i = some l → i ≠ σ.next := fun i l e => by have := (h.dom i l e).1; omega
  have hg : ∀ i l, E.ι i = some l → (σ.push o).get i = σ.get i := fun i l e => by rw [St.get_push, if_neg (hne i l e)]
  refine ⟨h.below, h.base, fun i l e => let ⟨a, b⟩ := h.dom i l e; ⟨by rw [St.next_push]; omega, b⟩, h.shp, fun i l ob e g => h.obj i l ob e (hg i l e ▸ g), ?_, ?_⟩
  · intro i j l m e cs p k hi hj hn hb hgi
    obtain ⟨a, b⟩ := h.sep i j l m e cs p k hi hj hn hb (hg i l hi ▸ hgi)
    exact ⟨fun hl => a (by obtain ⟨e, cs, ro, p, k, x⟩ := hl; exact ⟨e, cs, ro, p, k, hg j m hj ▸ x⟩), fun ob hob => b ob (hg j m hj ▸ hob)⟩
  · intro i j l m ob hi hj hn hgi hc
    exact h.sepm i j l m ob hi hj hn (hg i l hi ▸ hgi) hc
end Go.Ev
end
section
namespace Go.Ev
open Go.RowKit
variable {P : Program} {B : Nat} {w0 : World}
theorem shape_setRow (w : World) (g : Nat) (C C' : Array Value) (e : TypeId) (hg : w.heap[g]? = some (.cells C e (0, 0))) (hs : C'.size = C.size) (b : Nat) :
    (w.setRow g C').shape? b = w.shape? b := by
  by_cases hb : b = g
  · subst hb
    have h := setRow_heap w b C C' e (0, 0) hg
    simp [World.shape?, h, hg, hs]
  · have : (w.setRow g C').heap[b]? = w.heap[b]? := by
      simp only [World.setRow, Array.getElem?_modify]
      rw [if_neg (by omega)]
    simp [World.shape?, this]
theorem heap_setRow_ne (w : World) (g : Nat) (C' : Array Value) (b : Nat) (hb : b ≠ g) : (w.setRow g C').heap[b]? = w.heap[b]? := by
  simp only [World.setRow, Array.getElem?_modify]
  rw [if_neg (by omega)]
theorem below_setRow {w0 w : World} (h : Below B w0 w) (g : Nat) (C' : Array Value) (hg : B ≤ g) : Below B w0 (w.setRow g C') :=
  h.trans ⟨rfl, rfl, rfl, by simp, fun k hk => heap_setRow_ne w g C' k (by omega)⟩
def oneV : Value → Bool
  | .agg _ | .tuple _ => false
  | _ => true
theorem oneV_rel {E : Env} {v v' : Value} (h : VRel P E v v') (ho : oneV v = true) : v'.oneCell' = true := by
  cases h <;> first | rfl | simp [oneV] at ho
theorem oneV_list {E : Env} {vs vs' : List Value} (h : LRel P E vs vs') (ho : vs.all oneV = true) : ∀ v ∈ vs', v.oneCell' = true := by
  induction vs generalizing vs' with
  | nil => cases h; simp
  | cons x xs ih =>
    cases h with
    | cons a b =>
      simp at ho
      intro v hv
      simp at hv
      rcases hv with rfl | hv
      · exact oneV_rel a ho.1
      · exact ih b (by simpa using ho.2) v hv
def setRange (cs : List Value) (o : Nat) (vs : List Value) : List Value := cs.take o ++ (vs ++ cs.drop (o + vs.length))
theorem setRange_get {cs vs : List Value} {o : Nat} (h : o + vs.length ≤ cs.length) (x : Nat) :
    (setRange cs o vs)[x]? = if x < o then cs[x]? else if x < o + vs.length then vs[x - o]? else cs[x]? := by
  unfold setRange
  have ho : (cs.take o).length = o := by simp; omega
  by_cases h1 : x < o
  · rw [if_pos h1, List.getElem?_append_left (by omega), List.getElem?_take_of_lt h1]
  · rw [if_neg h1, List.getElem?_append_right (by omega), ho]
    by_cases h2 : x < o + vs.length
    · rw [if_pos h2, List.getElem?_append_left (by omega)]
    · rw [if_neg h2, List.getElem?_append_right (by omega), List.getElem?_drop]
      congr 1; omega
theorem setRange_length {cs vs : List Value} {o : Nat} (h : o + vs.length ≤ cs.length) : (setRange cs o vs).length = cs.length := by
  simp [setRange]; omega
def St.stc (σ : St) (i o : Nat) (vs : List Value) : Option St :=
  match σ.get i with
  | some (.cells e cs false true p k) =>
    cond (Nat.ble (o + vs.length) cs.length && vs.all oneV) (some (((σ.kill p).kill k).put i (.cells e (setRange cs o vs) false true none none))) none
  | _ => none
theorem St.live_stc {σ : St} {i : Nat} {p k : Option Nat} {ob : AObj} {j : Nat} (hj : j ≠ i) (h : (((σ.kill p).kill k).put i ob).liveAt j) : σ.liveAt j ∧ p ≠ some j ∧ k ≠ some j := by
  obtain ⟨e, cs, ro, p', k', h⟩ := h
  rw [St.get_put, if_neg hj] at h
  obtain ⟨a, b⟩ := St.live_of_kill (σ := σ.kill p) (o := k) ⟨e, cs, ro, p', k', h⟩
  obtain ⟨c, d⟩ := St.live_of_kill a
  exact ⟨c, d, b⟩
theorem St.get_stc {σ : St} {i : Nat} {p k : Option Nat} {ob : AObj} {j : Nat} (hj : j ≠ i) :
    (((σ.kill p).kill k).put i ob).get j = σ.get j ∨ ∃ e cs ro, (((σ.kill p).kill k).put i ob).get j = some (.cells e cs ro false none none) := by
  rw [St.get_put, if_neg hj]
  rcases St.get_kill (σ.kill p) k j with h | ⟨_, h⟩
  · rw [h]
    rcases St.get_kill σ p j with h' | ⟨_, h'⟩
    · exact .inl h'
    · exact .inr h'
  · exact .inr h
theorem Rel.written {E : Env} {σ : St} {w : World} (h : Rel P B w0 E σ w) {i : Nat} {l : Loc} (hi : E.ι i = some l) {e : TypeId} {cs : List Value} {p k : Option Nat}
    (hg : σ.get i = some (.cells e cs false true p k)) {C' : Array Value} (hsz : ∀ C, w.heap[l.b]? = some (.cells C e (0, 0)) → C'.size = C.size) {ob : AObj} (hob : ob.isCells = true)
    (hor : ORel P E (w.setRow l.b C') l ob) :
    Rel P B w0 E (((σ.kill p).kill k).put i ob) (w.setRow l.b C') := by
  obtain ⟨_, hown, C, hC⟩ : True ∧ l.own = true ∧ ∃ C, w.heap[l.b]? = some (.cells C e (0, 0)) := ⟨trivial, (h.obj i l _ hi hg rfl).2.1 rfl⟩
  have hs := hsz C hC
  have dead : ∀ j m, E.ι j = some m → j ≠ i → l.b = m.b → ¬ (((σ.kill p).kill k).put i ob).liveAt j := by
    intro j m hj hne hb hl
    obtain ⟨a, b, c⟩ := St.live_stc hne hl
    rcases (h.sep i j l m e cs p k hi hj (Ne.symm hne) hb hg).1 a with h1 | h1
    · exact b h1
    · exact c h1
  refine ⟨below_setRow h.below _ _ ((h.dom i l hi).2.2 hown).2, by simpa using h.base, ?_, ?_, ?_, ?_, ?_⟩
  · intro j m hj
    obtain ⟨a, b, c⟩ := h.dom j m hj
    exact ⟨by rw [St.next_put, St.next_kill, St.next_kill]; exact a, by simpa using b, c⟩
  · intro b s hb
    rw [shape_setRow w l.b C C' e hC hs]
    exact h.shp b s hb
  · intro j m ob' hj hgj
    by_cases hji : j = i
    · subst hji
      rw [hi] at hj; cases hj
      rw [St.get_put, if_pos rfl] at hgj; cases hgj
      exact hor
    · by_cases hb : l.b = m.b
      · have hd := dead j m hj hji hb
        rcases St.get_stc (σ := σ) (p := p) (k := k) (ob := ob) hji with h1 | ⟨e1, c1, r1, h1⟩
        · cases ob' with
          | cells e2 c2 r2 l2 p2 k2 =>
            intro hl2; subst hl2
            exact absurd ⟨e2, c2, r2, p2, k2, hgj⟩ hd
          | map es c => have := (h.sep i j l m e cs p k hi hj (Ne.symm hji) hb hg).2 _ (h1 ▸ hgj); cases this
          | iter s q => have := (h.sep i j l m e cs p k hi hj (Ne.symm hji) hb hg).2 _ (h1 ▸ hgj); cases this
        · rw [h1] at hgj; cases hgj; intro hl; cases hl
      · have hr : (w.setRow l.b C').heap[m.b]? = w.heap[m.b]? := heap_setRow_ne _ _ _ _ (fun e => hb e.symm)
        rcases St.get_stc (σ := σ) (p := p) (k := k) (ob := ob) hji with h1 | ⟨e1, c1, r1, h1⟩
        · exact (h.obj j m ob' hj (h1 ▸ hgj)).same hr
        · rw [h1] at hgj; cases hgj; intro hl; cases hl
  · intro j j' m m' e1 c1 p1 k1 hj hj' hne hb hgj
    by_cases hji : j = i
    · subst hji
      rw [hi] at hj; cases hj
      rw [St.get_put, if_pos rfl] at hgj
      cases hgj
      refine ⟨fun hl => absurd hl (dead j' m' hj' (Ne.symm hne) hb), fun o ho => ?_⟩
      rcases St.get_stc (σ := σ) (p := p) (k := k) (ob := .cells e1 c1 false true p1 k1) (Ne.symm hne) with h1 | ⟨e2, c2, r2, h1⟩
      · exact (h.sep j j' l m' e cs p k hi hj' hne hb hg).2 _ (h1 ▸ ho)
      · rw [h1] at ho; cases ho; rfl
    · have hlive : (((σ.kill p).kill k).put i ob).liveAt j := ⟨e1, c1, false, p1, k1, hgj⟩
      by_cases hj'i : j' = i
      · subst hj'i
        rw [hi] at hj'; cases hj'
        exact absurd hlive (dead j m hj hji hb.symm)
      · have hgj0 : σ.get j = some (.cells e1 c1 false true p1 k1) := by
          rcases St.get_stc (σ := σ) (p := p) (k := k) (ob := ob) hji with h1 | ⟨e2, c2, r2, h1⟩
          · exact h1 ▸ hgj
          · rw [h1] at hgj; simp at hgj
        obtain ⟨a, b⟩ := h.sep j j' m m' e1 c1 p1 k1 hj hj' hne hb hgj0
        refine ⟨fun hl => a (St.live_stc hj'i hl).1, fun o ho => ?_⟩
        rcases St.get_stc (σ := σ) (p := p) (k := k) (ob := ob) hj'i with h1 | ⟨e2, c2, r2, h1⟩
        · exact b _ (h1 ▸ ho)
        · rw [h1] at ho; cases ho; rfl
  · intro j j' m m' o hj hj' hne hgj hc
    by_cases hji : j = i
    · subst hji
      rw [St.get_put, if_pos rfl] at hgj
      cases hgj; rw [hob] at hc; cases hc
    · rcases St.get_stc (σ := σ) (p := p) (k := k) (ob := ob) hji with h1 | ⟨e2, c2, r2, h1⟩
      · exact h.sepm j j' m m' o hj hj' hne (h1 ▸ hgj) hc
      · rw [h1] at hgj; cases hgj; cases hc
theorem setRange_orel {E : Env} {σ : St} {w : World} (h : Rel P B w0 E σ w) {i : Nat} {l : Loc} (hi : E.ι i = some l) {e : TypeId} {cs : List Value} {p k : Option Nat}
    (hg : σ.get i = some (.cells e cs false true p k)) {o : Nat} {vs vs' : List Value} (hr : LRel P E vs vs') (hle : o + vs.length ≤ cs.length)
    {C : Array Value} (hC : w.heap[l.b]? = some (.cells C e (0, 0))) (hd : l.d = 0) :
    ∃ C' : Array Value, C' = (C.toList.take o ++ vs' ++ C.toList.drop (o + vs'.length)).toArray ∧ C'.size = C.size ∧ o + vs'.length ≤ C.size ∧ ORel P E (w.setRow l.b C') l (.cells e (setRange cs o vs) false true none none) := by
  obtain ⟨hcell, hown, _⟩ := h.obj i l _ hi hg rfl
  have hlen := hr.length
  have hsz : cs.length ≤ C.size := by
    rcases Nat.lt_or_ge C.size cs.length with hlt | hge
    · obtain ⟨v', hv', _⟩ := hcell C.size (cs[C.size]'hlt) (by simp [hlt])
      rw [hd, Nat.add_zero, cell_of_row w l.b C.size C e (0, 0) hC] at hv'
      simp at hv'
    · exact hge
  have hC's : (C.toList.take o ++ vs' ++ C.toList.drop (o + vs'.length)).toArray.size = C.size := by simp; omega
  refine ⟨_, rfl, hC's, by omega, fun _ => ⟨fun x v hx => ?_, fun _ => ⟨hown rfl |>.1, _, setRow_heap w l.b C _ e (0, 0) hC⟩, fun h => by cases h⟩⟩
  have hnew : ∀ x, (w.setRow l.b (C.toList.take o ++ vs' ++ C.toList.drop (o + vs'.length)).toArray).cell? ⟨l.b, x, none⟩ = (setRange C.toList o vs')[x]? := by
    intro x
    rw [cell_of_row _ l.b x _ e (0, 0) (setRow_heap w l.b C _ e (0, 0) hC)]
    simp [setRange]
  rw [setRange_get hle] at hx
  rw [hd, Nat.add_zero, hnew, setRange_get (by simp; omega)]
  by_cases h1 : x < o
  · rw [if_pos h1] at hx ⊢
    obtain ⟨v', hv', q⟩ := hcell x v hx
    rw [hd, Nat.add_zero, cell_of_row w l.b x C e (0, 0) hC] at hv'
    exact ⟨v', by simpa using hv', q⟩
  · rw [if_neg h1] at hx ⊢
    by_cases h2 : x < o + vs.length
    · rw [if_pos h2] at hx
      rw [if_pos (by omega)]
      exact hr.get _ _ hx
    · rw [if_neg h2] at hx
      rw [if_neg (by omega)]
      obtain ⟨v', hv', q⟩ := hcell x v hx
      rw [hd, Nat.add_zero, cell_of_row w l.b x C e (0, 0) hC] at hv'
      exact ⟨v', by simpa using hv', q⟩
theorem Rel.stc {E : Env} {σ σ' : St} {w : World} (h : Rel P B w0 E σ w) {i o : Nat} {l : Loc} (hi : E.ι i = some l) {vs vs' : List Value} (hr : LRel P E vs vs') (hs : σ.stc i o vs = some σ') :
    ∃ w', (storeCells ⟨l.b, o + l.d, none⟩ vs').run P w = .ok () w' ∧ Rel P B w0 E σ' w' := by
  unfold St.stc at hs
  split at hs
  · rename_i e cs p k hg
    cases hc : (Nat.ble (o + vs.length) cs.length && vs.all oneV) with
    | false => rw [hc] at hs; cases hs
    | true =>
      rw [hc] at hs
      simp only [Bool.and_eq_true, Nat.ble_eq] at hc
      obtain ⟨hle, hone⟩ := hc
      cases hs
      obtain ⟨_, hown', _⟩ := h.obj i l _ hi hg rfl
      obtain ⟨hown, C, hC⟩ := hown' rfl
      have hd := ((h.dom i l hi).2.2 hown).1
      obtain ⟨C', hC', hsz, hfit, hor⟩ := setRange_orel h hi hg hr hle hC hd
      refine ⟨w.setRow l.b C', ?_, h.written hi hg (fun C1 hC1 => by rw [hC] at hC1; cases hC1; exact hsz) rfl hor⟩
      have := run_storeCells_at P l.b o e vs' 0 C w hC (by omega) (oneV_list hr hone)
      rw [hd, Nat.add_zero, hC']
      simpa using this
  · cases hs
end Go.Ev
end
section
namespace Go.Ev
open Go.RowKit
variable {P : Program} {B : Nat} {w0 : World}
section
variable (t u ty e : TypeId) (i : TypeInfo) (z : Value) (n : Nat) (x : Value) (news : List Value)
theorem run_app_room (ht : P.underlying t = some (.slice e)) (hu : P.underlying u = some (.slice e) ∨ P.underlying u = some .string) (hi : P.info? e = some i)
    (w : World) (hx : (Builtin.lenOf x).run P w = .ok n w) (hf : (Builtin.firstCells i.size n x).run P w = .ok news.toArray w)
    (g o : Nat) (sLen sCap : Nat) (cur : Array Value) (hg : w.heap[g]? = some (.cells cur e (0, 0))) (h1 : ∀ u ∈ news, u.oneCell' = true)
    (hroom : sLen + n ≤ sCap) (hfit : o + sLen * i.size + news.length ≤ cur.size) :
    (Builtin.append_ #[t, u] ty #[.slice (some ⟨g, o, none⟩) sLen sCap, x]).run P w =
      .ok (.slice (some ⟨g, o, none⟩) (sLen + n) sCap) (w.setRow g (cur.toList.take (o + sLen * i.size) ++ news ++ cur.toList.drop (o + sLen * i.size + news.length)).toArray) := by
  have hst := run_storeCells_at P g (o + sLen * i.size) e news 0 cur w hg (by omega) h1
  simp only [Nat.add_zero] at hst
  have hadd : (⟨g, o, none⟩ : Addr).add (sLen * i.size) = ⟨g, o + sLen * i.size, none⟩ := by unfold Addr.add; split <;> simp_all
  rcases hu with hu | hu <;>
    simp [Builtin.append_, run_underlying ht, run_underlying hu, sizeOf, typeInfo, hi, hroom, hx, hf, hadd, hst]
theorem run_app_room_nil (ht : P.underlying t = some (.slice e)) (hu : P.underlying u = some (.slice e) ∨ P.underlying u = some .string) (hi : P.info? e = some i)
    (w : World) (hx : (Builtin.lenOf x).run P w = .ok 0 w) (hf : (Builtin.firstCells i.size 0 x).run P w = .ok #[] w) (b : Option Addr) (sLen sCap : Nat) (hc : sLen ≤ sCap) :
    (Builtin.append_ #[t, u] ty #[.slice b sLen sCap, x]).run P w = .ok (.slice b sLen sCap) w := by
  rcases hu with hu | hu <;> cases b <;>
    simp [Builtin.append_, run_underlying ht, run_underlying hu, sizeOf, typeInfo, hi, hx, hf, hc, storeCells]
theorem run_app_grow (ht : P.underlying t = some (.slice e)) (hu : P.underlying u = some (.slice e) ∨ P.underlying u = some .string) (hi : P.info? e = some i) (hz : i.zero = some z)
    (w : World) (hx : (Builtin.lenOf x).run P w = .ok n w) (hf : (Builtin.firstCells i.size n x).run P w.drew = .ok news.toArray w.drew)
    (b : Option Addr) (sLen sCap : Nat) (olds : List Value) (hfo : (Builtin.firstCells i.size sLen (.slice b sLen sCap)).run P w.drew = .ok olds.toArray w.drew)
    (hg : sCap < sLen + n) (h63 : ((sLen + n : Nat) : Int) ≤ 9223372036854775807) (hfit : Builtin.nextslicecap (sLen + n) sCap * i.bytes ≤ 281474976710656) :
    (Builtin.append_ #[t, u] ty #[.slice b sLen sCap, x]).run P w =
      .ok (.slice (some ⟨w.heap.size, 0, none⟩) (sLen + n) (grownCap w (sLen + n) sCap e))
        (w.drew.alloc (.cells (olds.toArray ++ news.toArray ++ Builtin.zeroCells z.cells (grownCap w (sLen + n) sCap e - (sLen + n))) e)) := by
  have hn : ¬ (sLen + n ≤ sCap) := by omega
  have h63' : ¬ (9223372036854775807 < ((sLen : Int) + (n : Int))) := by omega
  have h48' : ¬ (281474976710656 < Builtin.nextslicecap (sLen + n) sCap * i.bytes) := by omega
  rcases hu with hu | hu
  · simp [Builtin.append_, run_underlying ht, run_underlying hu, sizeOf, typeInfo, zeroValue, hi, hz, hx, hn, h63', h48', Question.forced, hf, hfo, newRow, grownCap]
    try (congr 2; apply Array.ext'; simp [List.append_assoc])
  · simp [Builtin.append_, run_underlying ht, run_underlying hu, sizeOf, typeInfo, zeroValue, hi, hz, hx, hn, h63', h48', Question.forced, hf, hfo, newRow, grownCap]
    try (congr 2; apply Array.ext'; simp [List.append_assoc])
end
def St.src (σ : St) (sz : Nat) : Value → Option (Nat × List Value)
  | .slice none 0 0 => some (0, [])
  | .slice (some ⟨i, o, _⟩) len _ => match len with
    | 0 => some (0, [])
    | len + 1 => match σ.ld i o ((len + 1) * sz) with
      | some vs => some (len + 1, vs)
      | none => none
  | .string s => cond (Nat.beq sz 1) (some (s.size, s.data.toList.map fun b => .int .u8 b.toNat)) none
  | _ => none
theorem bytes_rel {E : Env} : ∀ (l : List UInt8), LRel P E (l.map fun b => (.int .u8 b.toNat : Value)) (l.map fun b => (.int .u8 b.toNat : Value))
  | [] => .nil
  | _ :: r => .cons (.int _ _) (bytes_rel r)
theorem Rel.src {E : Env} {σ : St} {w : World} (h : Rel P B w0 E σ w) {sz n : Nat} {x x' : Value} {news : List Value} (hx : VRel P E x x') (hs : σ.src sz x = some (n, news)) :
    ∃ news', LRel P E news news' ∧ news.length = n * sz ∧ ∀ W : World, W.heap = w.heap → (Builtin.lenOf x').run P W = .ok n W ∧ (Builtin.firstCells sz n x').run P W = .ok news'.toArray W := by
  cases hx with
  | nilSlice =>
    simp [St.src] at hs
    obtain ⟨rfl, rfl⟩ := hs
    exact ⟨[], .nil, by simp, fun W _ => ⟨by simp [Builtin.lenOf], by simp [Builtin.firstCells]⟩⟩
  | @slice i o m c c' s l hi hc h1 h2 h3 =>
    cases m with
    | zero =>
      simp [St.src] at hs
      obtain ⟨rfl, rfl⟩ := hs
      exact ⟨[], .nil, by simp, fun W _ => ⟨by simp [Builtin.lenOf], by simp [Builtin.firstCells, loadCells, loadCellsFrom]⟩⟩
    | succ m =>
      simp only [St.src] at hs
      split at hs
      · rename_i vs hl
        simp at hs
        obtain ⟨rfl, rfl⟩ := hs
        obtain ⟨a, vs', hr, hcell⟩ := h.ld hi hl
        refine ⟨vs', hr, a, fun W hW => ⟨by simp [Builtin.lenOf], ?_⟩⟩
        have hc' : ∀ (j : Nat) (v : Value), vs'[j]? = some v → W.cell? ((⟨l.b, o + l.d, none⟩ : Addr).add j) = some v := fun j v hv => by
          rw [World.cell?_of_block (w := w) (by rw [hW])]; exact hcell j v hv
        have := run_firstCells_some (P := P) W sz (m + 1) ⟨l.b, o + l.d, none⟩ (m + 1) c' vs' (by rw [← hr.length, a]) hc'
        exact this
      · cases hs
  | empty =>
    simp [St.src] at hs
    obtain ⟨rfl, rfl⟩ := hs
    exact ⟨[], .nil, by simp, fun W _ => ⟨by simp [Builtin.lenOf], by simp [Builtin.firstCells, loadCells, loadCellsFrom]⟩⟩
  | string s =>
    simp only [St.src] at hs
    cases hb : Nat.beq sz 1 with
    | false => rw [hb] at hs; cases hs
    | true =>
      rw [hb] at hs
      obtain rfl : sz = 1 := Nat.eq_of_beq_eq_true hb
      simp at hs
      obtain ⟨rfl, rfl⟩ := hs
      refine ⟨_, bytes_rel _, by rw [List.length_map, Nat.mul_one]; exact Array.length_toList, fun W _ => ⟨by simp [Builtin.lenOf], ?_⟩⟩
      show Sem.run P (pure (Array.map (fun b : UInt8 => Value.int IntKind.u8 (b.toNat : Int)) (s.extract 0 s.size).data)) W = _
      rw [ByteArray.extract_zero_size]
      show Result.ok _ W = Result.ok _ W
      congr 1
      apply Array.ext'
      simp
  | _ => simp [St.src] at hs
def maxRoom : Nat := 140737488355328
def St.fork (σ : St) (i : Nat) (e : TypeId) (cs : List Value) (p k : Option Nat) (olds news : List Value) : St :=
  let σ1 := (σ.kill p).kill k
  cond (Nat.beq olds.length cs.length)
    ((σ1.put i (.cells e cs false true none (some σ.next))).push (.cells e (olds ++ news) false true (some i) none))
    ((σ1.put i (.cells e cs false false none none)).push (.cells e (olds ++ news) false true none none))
def markE : Option Nat → Bool
  | some 1 => true
  | _ => false
def St.app (σ : St) (e : TypeId) (sz bytes : Nat) (s : Value) (n : Nat) (news : List Value) : Option (Value × St) :=
  match n with
  | 0 => match s with
    | .slice _ _ _ => some (s, σ)
    | _ => none
  | n + 1 =>
    match s with
    | .slice none 0 0 => cond (Nat.ble ((n + 1) * bytes) maxRoom) (some (.slice (some ⟨σ.next, 0, some 0⟩) (n + 1) (n + 1), σ.push (.cells e news false true none none))) none
    | .slice (some ⟨i, o, sp⟩) len cap =>
      cond (!markE sp && Nat.ble ((len + (n + 1)) * bytes) maxRoom)
        (match sp.isNone && Nat.blt cap (len + (n + 1)), σ.get i with
        | true, _ => match σ.ld i o (len * sz) with
          | some olds => some (.slice (some ⟨σ.next, 0, some 0⟩) (len + (n + 1)) (len + (n + 1)), σ.push (.cells e (olds ++ news) false true none none))
          | none => none
        | false, some (.cells e' cs false true p k) =>
          cond (Nat.beq o 0 && Nat.beq e' e)
            (cond (Nat.ble (len + (n + 1)) cap && Nat.ble (len * sz + news.length) cs.length)
              (match σ.stc i (len * sz) news with
              | some σ' => some (.slice (some ⟨i, 0, sp⟩) (len + (n + 1)) cap, σ')
              | none => none)
              (match takeN (len * sz) cs with
              | some olds => cond (news.all oneV) (some (.slice (some ⟨σ.next, 0, some 0⟩) (len + (n + 1)) (len + (n + 1)), σ.fork i e cs p k olds news)) none
              | none => none))
            none
        | _, _ => none)
        none
    | _ => none
theorem Rel.newRow {E : Env} {σ : St} {w : World} (h : Rel P B w0 E σ w) (e : TypeId) (cs : List Value) (C : Array Value) (p k : Option Nat)
    (hc : ∀ (x : Nat) (v : Value), cs[x]? = some v → ∃ v', C[x]? = some v' ∧ VRel P E v v') :
    let F := E.push σ.next ⟨w.heap.size, 0, true⟩ (some (e, C.size))
    E.le F ∧ Rel P B w0 F (σ.push (.cells e cs false true p k)) (w.alloc (.cells C e)) := by
  intro F
  have hnew : (w.alloc (.cells C e)).heap[w.heap.size]? = some (.cells C e (0, 0)) := heap_alloc_new w _
  have hle : E.le F := Env.push_le h.fresh h.freshK
  refine (h.ghost (.cells e cs false true p k)).alloc_at h.fresh (by rw [St.next_push]; omega) (by rw [St.get_push, if_pos rfl]) (some (e, C.size)) ?_ ?_
  · intro s' hs; cases hs
    unfold World.shape?; rw [hnew]
  · intro _
    refine ⟨fun x v hx => ?_, fun _ => ⟨rfl, C, hnew⟩, fun h => by cases h⟩
    obtain ⟨v', hv', r⟩ := hc x v hx
    exact ⟨v', by rw [Nat.add_zero, cell_of_row _ _ x C e (0, 0) hnew]; exact hv', r.mono hle⟩
theorem Rel.share {E : Env} {σ : St} {w : World} (h : Rel P B w0 E σ w) {i j : Nat} {l : Loc} (hi : E.ι i = some l) (hj : E.ι j = none) (hjn : j < σ.next) {e : TypeId} {cs : List Value} {p : Option Nat}
    (hg : σ.get j = some (.cells e cs false true p none)) (hown : l.own = true)
    (hor : ORel P E w l (.cells e cs false true p none))
    (hl : ∀ j' m, E.ι j' = some m → l.b = m.b → (σ.liveAt j' → p = some j' ∧ ∀ e' cs' p' k', σ.get j' = some (.cells e' cs' false true p' k') → k' = some j) ∧ (∀ o, σ.get j' = some o → o.isCells = true)) :
    let F : Env := { E with ι := fun x => if x = j then some l else E.ι x }
    E.le F ∧ Rel P B w0 F σ w := by
  intro F
  have hle : E.le F := ⟨fun x m hx => by
    show (if x = j then some l else E.ι x) = some m
    by_cases hxj : x = j
    · subst hxj; rw [hj] at hx; cases hx
    · rw [if_neg hxj]; exact hx, fun _ _ hx => hx⟩
  have hF : ∀ x m, F.ι x = some m → (x = j ∧ m = l) ∨ (x ≠ j ∧ E.ι x = some m) := by
    intro x m hx
    change (if x = j then some l else E.ι x) = some m at hx
    by_cases hxj : x = j
    · rw [if_pos hxj] at hx; cases hx; exact .inl ⟨hxj, rfl⟩
    · rw [if_neg hxj] at hx; exact .inr ⟨hxj, hx⟩
  obtain ⟨hi1, hi2, hi3⟩ := h.dom i l hi
  refine ⟨hle, ⟨h.below, h.base, ?_, h.shp, ?_, ?_, ?_⟩⟩
  · intro x m hx
    rcases hF x m hx with ⟨rfl, rfl⟩ | ⟨_, hx'⟩
    · exact ⟨hjn, hi2, hi3⟩
    · exact h.dom x m hx'
  · intro x m ob hx hgx
    rcases hF x m hx with ⟨rfl, rfl⟩ | ⟨_, hx'⟩
    · rw [hg] at hgx; cases hgx; exact hor.mono hle
    · exact (h.obj x m ob hx' hgx).mono hle
  · intro x y m m' e1 c1 p1 k1 hx hy hne hb hgx
    rcases hF x m hx with ⟨rfl, rfl⟩ | ⟨hxj, hx'⟩
    · rw [hg] at hgx; cases hgx
      rcases hF y m' hy with ⟨rfl, _⟩ | ⟨_, hy'⟩
      · exact absurd rfl hne
      · obtain ⟨a, b⟩ := hl y m' hy' hb
        exact ⟨fun hly => .inl (a hly).1, b⟩
    · rcases hF y m' hy with ⟨rfl, rfl⟩ | ⟨_, hy'⟩
      · obtain ⟨a, _⟩ := hl x m hx' hb.symm
        exact ⟨fun _ => .inr ((a ⟨e1, c1, false, p1, k1, hgx⟩).2 e1 c1 p1 k1 hgx), fun o ho => by rw [hg] at ho; cases ho; rfl⟩
      · exact h.sep x y m m' e1 c1 p1 k1 hx' hy' hne hb hgx
  · intro x y m m' o hx hy hne hgx hc
    rcases hF x m hx with ⟨rfl, rfl⟩ | ⟨hxj, hx'⟩
    · rw [hg] at hgx; cases hgx; cases hc
    · rcases hF y m' hy with ⟨rfl, rfl⟩ | ⟨_, hy'⟩
      · intro hb
        have := (hl x m hx' hb.symm).2 o hgx
        rw [this] at hc; cases hc
      · exact h.sepm x y m m' o hx' hy' hne hgx hc
end Go.Ev
end
section
namespace Go.Ev
open Go.RowKit
variable {P : Program} {B : Nat} {w0 : World}
theorem LRel.toGet {E : Env} {xs ys : List Value} (h : LRel P E xs ys) (zs : Array Value) : ∀ (x : Nat) (v : Value), xs[x]? = some v → ∃ v', (ys.toArray ++ zs)[x]? = some v' ∧ VRel P E v v' := by
  intro x v hv
  obtain ⟨v', hv', r⟩ := h.get x v hv
  refine ⟨v', ?_, r⟩
  have hlt : x < ys.toArray.size := by
    have := (List.getElem?_eq_some_iff.1 hv').1
    simpa using this
  rw [Array.getElem?_append_left hlt]
  simpa using hv'
theorem Rel.appGrow {E : Env} {σ : St} {w : World} (h : Rel P B w0 E σ w) {e : TypeId} {inf : TypeInfo} {z : Value} (hi : P.info? e = some inf) (hzs : z.cells.size = inf.size)
    {n sLen sCap : Nat} {olds olds' news news' : List Value} (ho : LRel P E olds olds') (hol : olds.length = sLen * inf.size) (hr : LRel P E news news') (hl : news.length = n * inf.size) (p k : Option Nat) :
    ∃ F, E.ext σ.next F ∧ Rel P B w0 F (σ.push (.cells e (olds ++ news) false true p k)) (w.drew.alloc (.cells (olds'.toArray ++ news'.toArray ++ Builtin.zeroCells z.cells (grownCap w (sLen + n) sCap e - (sLen + n))) e)) ∧
      VRel P F (.slice (some ⟨σ.next, 0, some 0⟩) (sLen + n) (sLen + n)) (.slice (some ⟨w.heap.size, 0, none⟩) (sLen + n) (grownCap w (sLen + n) sCap e)) := by
  have hge := grownCap_ge w (sLen + n) sCap e
  have hsz : (olds'.toArray ++ news'.toArray ++ Builtin.zeroCells z.cells (grownCap w (sLen + n) sCap e - (sLen + n))).size = grownCap w (sLen + n) sCap e * inf.size := by
    simp only [Array.size_append, size_zeroCells, List.size_toArray, ← ho.length, ← hr.length, hol, hl, hzs, ← Nat.add_mul]
    congr 1; omega
  generalize hC : (olds'.toArray ++ news'.toArray ++ Builtin.zeroCells z.cells (grownCap w (sLen + n) sCap e - (sLen + n))) = C at *
  have hc : ∀ (x : Nat) (v : Value), (olds ++ news)[x]? = some v → ∃ v', C[x]? = some v' ∧ VRel P E v v' := by
    intro x v hv
    obtain ⟨v', a, b⟩ := (ho.append hr).toGet (Builtin.zeroCells z.cells (grownCap w (sLen + n) sCap e - (sLen + n))) x v hv
    refine ⟨v', ?_, b⟩
    rw [← hC, ← a]
    congr 2
    apply Array.ext'
    simp
  obtain ⟨a, b⟩ := h.drew.newRow e (olds ++ news) C p k hc
  refine ⟨_, ⟨a, fun j hj => if_neg (by omega)⟩, b, ?_⟩
  refine VRel.slice (l := ⟨w.heap.size, 0, true⟩) ?_ (fun h => by cases h) (Nat.le_refl _) hge (fun _ => ⟨e, C.size, inf.size, ?_, by rw [hi]; rfl, ?_⟩)
  · show (if σ.next = σ.next then some _ else _) = _
    rw [if_pos rfl]; rfl
  · show (if w.heap.size = w.heap.size then some _ else _) = _
    rw [if_pos rfl]
  · simp [hsz]
theorem takeN_take : ∀ (n : Nat) (xs r : List Value), takeN n xs = some r → xs.take n = r ∧ n ≤ xs.length
  | 0, _, r, h => by simp [takeN] at h; subst h; simp
  | n + 1, [], r, h => by simp [takeN] at h
  | n + 1, x :: xs, r, h => by
    unfold takeN at h
    split at h
    · rename_i r' h'
      obtain ⟨a, b⟩ := takeN_take n xs r' h'
      simp at h; subst h
      exact ⟨by simp [a], by simp; omega⟩
    · simp at h
theorem Rel.fork_grow {E : Env} {σ : St} {w : World} (h : Rel P B w0 E σ w) {e : TypeId} {inf : TypeInfo} {z : Value} (hi : P.info? e = some inf) (hzs : z.cells.size = inf.size)
    {i : Nat} {l : Loc} (hil : E.ι i = some l) {cs : List Value} {p k : Option Nat} (hg : σ.get i = some (.cells e cs false true p k))
    {n sLen sCap : Nat} {olds olds' news news' : List Value} (ho : LRel P E olds olds') (hol : olds.length = sLen * inf.size) (hr : LRel P E news news') (hl : news.length = n * inf.size) :
    ∃ F, E.ext σ.next F ∧ Rel P B w0 F (σ.fork i e cs p k olds news) (w.drew.alloc (.cells (olds'.toArray ++ news'.toArray ++ Builtin.zeroCells z.cells (grownCap w (sLen + n) sCap e - (sLen + n))) e)) ∧
      VRel P F (.slice (some ⟨σ.next, 0, some 0⟩) (sLen + n) (sLen + n)) (.slice (some ⟨w.heap.size, 0, none⟩) (sLen + n) (grownCap w (sLen + n) sCap e)) := by
  obtain ⟨hcell, hown, _⟩ := h.obj i l _ hil hg rfl
  obtain ⟨hown, C, hC⟩ := hown rfl
  have self : w.setRow l.b C = w := setRow_self w l.b C e (0, 0) hC
  have wr : ∀ (lv : Bool) (k' : Option Nat), Rel P B w0 E (((σ.kill p).kill k).put i (.cells e cs false lv none k')) w := by
    intro lv k'
    have hor : ORel P E (w.setRow l.b C) l (.cells e cs false lv none k') := by
      rw [self]; intro hlv; exact ⟨hcell, fun _ => ⟨hown, C, hC⟩, fun h => by cases h⟩
    have := h.written hil hg (C' := C) (fun C1 hC1 => by rw [hC] at hC1; cases hC1; rfl) rfl hor
    rw [self] at this
    exact this
  have hnext : ∀ ob, ((((σ.kill p).kill k).put i ob)).next = σ.next := fun ob => by rw [St.next_put, St.next_kill, St.next_kill]
  unfold St.fork
  cases hb : Nat.beq olds.length cs.length with
  | true =>
    have := (wr true (some σ.next)).appGrow (e := e) hi hzs (sCap := sCap) ho hol hr hl (some i) none
    rw [hnext] at this
    exact this
  | false =>
    have := (wr false none).appGrow (e := e) hi hzs (sCap := sCap) ho hol hr hl none none
    rw [hnext] at this
    exact this
theorem Rel.fork_room {E : Env} {σ : St} {w : World} (h : Rel P B w0 E σ w) {e : TypeId}
    {i : Nat} {l : Loc} (hil : E.ι i = some l) {cs : List Value} {p k : Option Nat} (hg : σ.get i = some (.cells e cs false true p k))
    {olds news news' : List Value} (ht : takeN olds.length cs = some olds) (hr : LRel P E news news')
    {C : Array Value} (hC : w.heap[l.b]? = some (.cells C e (0, 0))) (hfit : olds.length + news'.length ≤ C.size) :
    ∃ F : Env, E.ext σ.next F ∧ F.ι σ.next = some l ∧ F.K = E.K ∧ Rel P B w0 F (σ.fork i e cs p k olds news) (w.setRow l.b (C.toList.take olds.length ++ news' ++ C.toList.drop (olds.length + news'.length)).toArray) := by
  obtain ⟨hcell, hown, _⟩ := h.obj i l _ hil hg rfl
  have hown := (hown rfl).1
  have hd := ((h.dom i l hil).2.2 hown).1
  obtain ⟨htk, htl⟩ := takeN_take _ _ _ ht
  have hcs : cs.length ≤ C.size := by
    rcases Nat.lt_or_ge C.size cs.length with hlt | hge
    · obtain ⟨v', hv', _⟩ := hcell C.size (cs[C.size]'hlt) (by simp [hlt])
      rw [hd, Nat.add_zero, cell_of_row w l.b C.size C e (0, 0) hC] at hv'
      simp at hv'
    · exact hge
  generalize hm : olds.length = m at *
  have hC's : (C.toList.take m ++ news' ++ C.toList.drop (m + news'.length)).toArray.size = C.size := by simp; omega
  have hnew : ∀ x, (w.setRow l.b (C.toList.take m ++ news' ++ C.toList.drop (m + news'.length)).toArray).cell? ⟨l.b, x, none⟩ = (setRange C.toList m news')[x]? := by
    intro x
    rw [cell_of_row _ l.b x _ e (0, 0) (setRow_heap w l.b C _ e (0, 0) hC)]
    simp [setRange]
  have hold : ∀ x v, x < m → cs[x]? = some v → ∃ v', (setRange C.toList m news')[x]? = some v' ∧ VRel P E v v' := by
    intro x v hx hv
    obtain ⟨v', hv', r⟩ := hcell x v hv
    rw [hd, Nat.add_zero, cell_of_row w l.b x C e (0, 0) hC] at hv'
    exact ⟨v', by rw [setRange_get (by simp; omega), if_pos hx]; simpa using hv', r⟩
  have heap' := setRow_heap w l.b C (C.toList.take m ++ news' ++ C.toList.drop (m + news'.length)).toArray e (0, 0) hC
  generalize hC' : (C.toList.take m ++ news' ++ C.toList.drop (m + news'.length)).toArray = C' at *
  have orj : ∀ (E' : Env) p', E.le E' → ORel P E' (w.setRow l.b C') l (.cells e (olds ++ news) false true p' none) := by
    intro E' p' hle _
    refine ⟨fun x v hv => ?_, fun _ => ⟨hown, C', heap'⟩, fun h => by cases h⟩
    rw [hd, Nat.add_zero, hnew]
    rcases Nat.lt_or_ge x m with hx | hx
    · rw [List.getElem?_append_left (by omega)] at hv
      obtain ⟨v', a, b⟩ := hold x v hx (by rw [← htk, List.getElem?_take_of_lt hx] at hv; exact hv)
      exact ⟨v', a, b.mono hle⟩
    · rw [List.getElem?_append_right (by omega), hm] at hv
      obtain ⟨v', a, b⟩ := hr.get _ _ hv
      have hlt : x - m < news'.length := (List.getElem?_eq_some_iff.1 a).1
      exact ⟨v', by rw [setRange_get (by simp; omega), if_neg (by omega), if_pos (by omega)]; exact a, b.mono hle⟩
  have hnext : ∀ ob, ((((σ.kill p).kill k).put i ob)).next = σ.next := fun ob => by rw [St.next_put, St.next_kill, St.next_kill]
  have hin : i < σ.next := (h.dom i l hil).1
  have lone : ∀ ob j' m', E.ι j' = some m' → l.b = m'.b → j' ≠ i → ¬ (((σ.kill p).kill k).put i ob).liveAt j' ∧ ∀ o, (((σ.kill p).kill k).put i ob).get j' = some o → o.isCells = true := by
    intro ob j' m' hj' hb hne
    obtain ⟨a, b⟩ := h.sep i j' l m' e cs p k hil hj' (Ne.symm hne) hb hg
    constructor
    · intro hl
      obtain ⟨x, y, z⟩ := St.live_stc hne hl
      rcases a x with h1 | h1
      · exact y h1
      · exact z h1
    · intro o ho
      rcases St.get_stc (σ := σ) (p := p) (k := k) (ob := ob) hne with h1 | ⟨e2, c2, r2, h1⟩
      · exact b o (h1 ▸ ho)
      · rw [h1] at ho; cases ho; rfl
  have fin : ∀ (lv : Bool) (k' : Option Nat) (p' : Option Nat), (lv = true → m = cs.length ∧ k' = some σ.next ∧ p' = some i) →
      ∃ F : Env, E.ext σ.next F ∧ F.ι σ.next = some l ∧ F.K = E.K ∧ Rel P B w0 F ((((σ.kill p).kill k).put i (.cells e cs false lv none k')).push (.cells e (olds ++ news) false true p' none)) (w.setRow l.b C') := by
    intro lv k' p' hlv
    have hor : ORel P E (w.setRow l.b C') l (.cells e cs false lv none k') := by
      intro hl
      obtain ⟨hmc, _⟩ := hlv hl
      refine ⟨fun x v hv => ?_, fun _ => ⟨hown, C', heap'⟩, fun h => by cases h⟩
      rw [hd, Nat.add_zero, hnew]
      exact hold x v (by have := (List.getElem?_eq_some_iff.1 hv).1; omega) hv
    have h1 := h.written hil hg (C' := C') (fun C1 hC1 => by rw [hC] at hC1; cases hC1; exact hC's) (ob := .cells e cs false lv none k') rfl hor
    have h2 := h1.ghost (.cells e (olds ++ news) false true p' none)
    have hgetn : ((((σ.kill p).kill k).put i (.cells e cs false lv none k')).push (.cells e (olds ++ news) false true p' none)).get σ.next = some (.cells e (olds ++ news) false true p' none) := by
      rw [St.get_push, hnext, if_pos rfl]
    have hgeto : ∀ j, j ≠ σ.next → ((((σ.kill p).kill k).put i (.cells e cs false lv none k')).push (.cells e (olds ++ news) false true p' none)).get j = (((σ.kill p).kill k).put i (.cells e cs false lv none k')).get j := by
      intro j hj
      rw [St.get_push, hnext, if_neg hj]
    obtain ⟨a, b⟩ := h2.share hil h.fresh (by rw [St.next_push, hnext]; omega) hgetn hown (orj E p' (Env.le.refl E)) (by
      intro j' m' hj' hb
      have hjn : j' ≠ σ.next := by have := (h.dom j' m' hj').1; omega
      have hlive : ((((σ.kill p).kill k).put i (.cells e cs false lv none k')).push (.cells e (olds ++ news) false true p' none)).liveAt j' → (((σ.kill p).kill k).put i (.cells e cs false lv none k')).liveAt j' := by
        rintro ⟨x1, x2, x3, x4, x5, x6⟩
        exact ⟨x1, x2, x3, x4, x5, by rw [← hgeto j' hjn]; exact x6⟩
      by_cases hji : j' = i
      · subst hji
        have hgi : (((σ.kill p).kill k).put j' (.cells e cs false lv none k')).get j' = some (.cells e cs false lv none k') := by rw [St.get_put, if_pos rfl]
        refine ⟨fun hl => ?_, fun o ho => by rw [hgeto j' hjn, hgi] at ho; cases ho; rfl⟩
        obtain ⟨x1, x2, x3, x4, x5, x6⟩ := hlive hl
        rw [hgi] at x6
        cases x6
        obtain ⟨_, hk', hp'⟩ := hlv rfl
        refine ⟨hp', fun e1 c1 p1 k1 h1 => ?_⟩
        rw [hgeto j' hjn, hgi] at h1
        cases h1; exact hk'
      · obtain ⟨x, y⟩ := lone (.cells e cs false lv none k') j' m' hj' hb hji
        exact ⟨fun hl => absurd (hlive hl) x, fun o ho => y o (by rw [← hgeto j' hjn]; exact ho)⟩)
    exact ⟨_, ⟨a, fun j hj => if_neg (by omega)⟩, by show (if σ.next = σ.next then _ else _) = _; rw [if_pos rfl], rfl, b⟩
  unfold St.fork
  rw [hm]
  cases hb : Nat.beq m cs.length with
  | true => exact fin true (some σ.next) (some i) fun _ => ⟨Nat.eq_of_beq_eq_true hb, rfl, rfl⟩
  | false => exact fin false none none fun h => by cases h
structure AppRuns (P : Program) (t u ty e : TypeId) (inf : TypeInfo) (z : Value) (n : Nat) (x' : Value) (news' : List Value) (w : World) : Prop where
  nil : n = 0 → ∀ (b : Option Addr) (sLen sCap : Nat), sLen ≤ sCap → (Builtin.append_ #[t, u] ty #[.slice b sLen sCap, x']).run P w = .ok (.slice b sLen sCap) w
  room : ∀ (g o sLen sCap : Nat) (cur : Array Value), w.heap[g]? = some (.cells cur e (0, 0)) → (∀ u ∈ news', u.oneCell' = true) → sLen + n ≤ sCap → o + sLen * inf.size + news'.length ≤ cur.size →
    (Builtin.append_ #[t, u] ty #[.slice (some ⟨g, o, none⟩) sLen sCap, x']).run P w =
      .ok (.slice (some ⟨g, o, none⟩) (sLen + n) sCap) (w.setRow g (cur.toList.take (o + sLen * inf.size) ++ news' ++ cur.toList.drop (o + sLen * inf.size + news'.length)).toArray)
  grow : ∀ (b : Option Addr) (sLen sCap : Nat) (olds : List Value), (Builtin.firstCells inf.size sLen (.slice b sLen sCap)).run P w.drew = .ok olds.toArray w.drew →
    sCap < sLen + n → ((sLen + n : Nat) : Int) ≤ 9223372036854775807 → Builtin.nextslicecap (sLen + n) sCap * inf.bytes ≤ 281474976710656 →
    (Builtin.append_ #[t, u] ty #[.slice b sLen sCap, x']).run P w =
      .ok (.slice (some ⟨w.heap.size, 0, none⟩) (sLen + n) (grownCap w (sLen + n) sCap e))
        (w.drew.alloc (.cells (olds.toArray ++ news'.toArray ++ Builtin.zeroCells z.cells (grownCap w (sLen + n) sCap e - (sLen + n))) e))
theorem appRuns_of {t u ty e : TypeId} {inf : TypeInfo} {z : Value} (ht : P.underlying t = some (.slice e))
    (hu : P.underlying u = some (.slice e) ∨ P.underlying u = some .string) (hi : P.info? e = some inf) (hz : inf.zero = some z) {n : Nat} {x' : Value} {news' : List Value} {w : World}
    (hx : ∀ W : World, W.heap = w.heap → (Builtin.lenOf x').run P W = .ok n W ∧ (Builtin.firstCells inf.size n x').run P W = .ok news'.toArray W) (h0 : n = 0 → news' = []) :
    AppRuns P t u ty e inf z n x' news' w := by
  obtain ⟨x1, x2⟩ := hx w rfl
  obtain ⟨_, y2⟩ := hx w.drew rfl
  refine ⟨?_, ?_, ?_⟩
  · intro hn b sLen sCap hc
    subst hn
    rw [h0 rfl] at x2
    exact run_app_room_nil t u ty e inf x' ht hu hi w x1 x2 b sLen sCap hc
  · intro g o sLen sCap cur hg h1 hroom hfit
    exact run_app_room t u ty e inf n x' news' ht hu hi w x1 x2 g o sLen sCap cur hg h1 hroom hfit
  · intro b sLen sCap olds hfo hg h63 hfit
    exact run_app_grow t u ty e inf z n x' news' ht hu hi hz w x1 y2 b sLen sCap olds hfo hg h63 hfit
theorem appRuns_zeros {t u ty e : TypeId} {inf : TypeInfo} {z : Value} {kd : IntKind} (ht : P.underlying t = some (.slice e)) (hu : P.underlying u = some (.int kd)) (hi : P.info? e = some inf) (hz : inf.zero = some z)
    {n : Nat} (hn : n * inf.bytes ≤ 140737488355328) (hb : 0 < inf.bytes) (hzs : z.cells.size = inf.size) (w : World) :
    AppRuns P t u ty e inf z n (.int .i64 n) (Builtin.zeroCells z.cells n).toList w := by
  have hlen : n ≤ n * inf.bytes := Nat.le_mul_of_pos_right _ hb
  have hw : IntKind.i64.wrap (n : Int) = n := IntWalk.i64_in _ (by omega)
  have hlt : ¬ ((n : Int) < 0) := by omega
  have hbig : ¬ ((n : Int) * (inf.bytes : Int) > 2 ^ 48) := by
    have : (n : Int) * (inf.bytes : Int) = ((n * inf.bytes : Nat) : Int) := by simp
    rw [this]; omega
  have hbig' : ¬ (281474976710656 < (n : Int) * (inf.bytes : Int)) := by simpa using hbig
  have hzero : n * inf.size = 0 → Builtin.zeroCells z.cells n = #[] := by
    intro h
    apply Array.eq_empty_of_size_eq_zero
    rw [size_zeroCells, hzs, h]
  refine ⟨?_, ?_, ?_⟩
  · intro hn0 b sLen sCap hc
    subst hn0
    have hw0 : IntKind.i64.wrap 0 = 0 := by decide
    cases b <;> simp [hw0, Builtin.append_, run_underlying ht, run_underlying hu, sizeOf, typeInfo, hi, hc, storeCells, asInt, asIntOf]
  · intro g o sLen sCap cur hg h1 hroom hfit
    have hst := run_storeCells_at P g (o + sLen * inf.size) e (Builtin.zeroCells z.cells n).toList 0 cur w hg (by omega) h1
    simp only [Nat.add_zero] at hst
    have hadd : (⟨g, o, none⟩ : Addr).add (sLen * inf.size) = ⟨g, o + sLen * inf.size, none⟩ := by unfold Addr.add; split <;> simp_all
    by_cases h0 : n * inf.size = 0
    · have hz0 := hzero h0
      rw [hz0] at hst ⊢
      simp only [List.append_nil] at hst ⊢
      have hself := setRow_self w g cur e (0, 0) hg
      simp [Builtin.append_, run_underlying ht, run_underlying hu, sizeOf, typeInfo, zeroValue, hi, hz, hroom, hw, hbig', asInt, asIntOf, h0, storeCells, hself]
      try exact fun h => absurd h hlt
    · simp [Builtin.append_, run_underlying ht, run_underlying hu, sizeOf, typeInfo, zeroValue, hi, hz, hroom, hw, hbig', asInt, asIntOf, h0, hadd, hst]
      try exact fun h => absurd h hlt
  · intro b sLen sCap olds hfo hg h63 hfit
    have hn' : ¬ (sLen + n ≤ sCap) := by omega
    have h63' : ¬ (9223372036854775807 < ((sLen : Int) + (n : Int))) := by omega
    have h48' : ¬ (281474976710656 < Builtin.nextslicecap (sLen + n) sCap * inf.bytes) := by omega
    by_cases h0 : n * inf.size = 0
    · have hz0 := hzero h0
      simp [Builtin.append_, run_underlying ht, run_underlying hu, sizeOf, typeInfo, zeroValue, hi, hz, hn', hw, hbig', h63', h48', Question.forced, hfo, newRow, grownCap, asInt, asIntOf, hz0]
      try exact fun h => absurd h hlt
    · simp [Builtin.append_, run_underlying ht, run_underlying hu, sizeOf, typeInfo, zeroValue, hi, hz, hn', hw, hbig', h63', h48', Question.forced, hfo, newRow, grownCap, asInt, asIntOf, h0]
      try exact fun h => absurd h hlt
      try (congr 2; apply Array.ext'; simp [List.append_assoc])
theorem Rel.app {E : Env} {σ σ' : St} {w : World} (h : Rel P B w0 E σ w) {t u ty e : TypeId} {inf : TypeInfo} {z : Value} (hi : P.info? e = some inf) (hzs : z.cells.size = inf.size) (hb : 0 < inf.bytes)
    {s s' x' v : Value} {n : Nat} {news news' : List Value} (hs : VRel P E s s') (hr : LRel P E news news') (hl : news.length = n * inf.size)
    (hA : AppRuns P t u ty e inf z n x' news' w) (ha : σ.app e inf.size inf.bytes s n news = some (v, σ')) :
    ∃ F w' v', E.ext σ.next F ∧ Rel P B w0 F σ' w' ∧ VRel P F v v' ∧ (Builtin.append_ #[t, u] ty #[s', x']).run P w = .ok v' w' := by
  cases n with
  | zero =>
    cases hs with
    | nilSlice =>
      simp [St.app] at ha
      obtain ⟨rfl, rfl⟩ := ha
      exact ⟨E, w, _, Env.ext.refl _ E, h, .nilSlice, hA.nil rfl none 0 0 (Nat.le_refl _)⟩
    | empty =>
      simp [St.app] at ha
      obtain ⟨rfl, rfl⟩ := ha
      exact ⟨E, w, _, Env.ext.refl _ E, h, .empty, hA.nil rfl _ _ _ (by omega)⟩
    | slice a b c d f =>
      simp [St.app] at ha
      obtain ⟨rfl, rfl⟩ := ha
      exact ⟨E, w, _, Env.ext.refl _ E, h, .slice a b c d f, hA.nil rfl _ _ _ (by omega)⟩
    | _ => simp [St.app] at ha
  | succ n =>
    have hbm : ∀ k, k * inf.bytes ≤ maxRoom → ((k : Nat) : Int) ≤ 9223372036854775807 := by
      intro k hk
      have : k ≤ k * inf.bytes := Nat.le_mul_of_pos_right _ hb
      unfold maxRoom at hk
      omega
    cases hs with
    | nilSlice =>
      simp only [St.app] at ha
      cases hc : Nat.ble ((n + 1) * inf.bytes) maxRoom with
      | false => rw [hc] at ha; cases ha
      | true =>
        rw [hc] at ha
        have hc := Nat.le_of_ble_eq_true hc
        cases ha
        obtain ⟨F, a, b, c⟩ := h.appGrow (e := e) hi hzs (olds := []) (olds' := []) (sLen := 0) (n := n + 1) (sCap := 0) .nil (by simp) hr hl none none
        have hrun := hA.grow none 0 0 [] (by simp [Builtin.firstCells]) (by omega)
          (by have := hbm (n + 1) hc; rw [Nat.zero_add]; exact this) (growslice_fits (by omega) (by rw [Nat.zero_add]; exact hc))
        refine ⟨F, _, _, a, by simpa using b, by simpa using c, by simpa using hrun⟩
    | empty => simp [St.app, markE] at ha
    | @slice i o m c c' sp l hil hsp h1 h2 h3 =>
      simp only [St.app] at ha
      cases hc : (!markE sp && Nat.ble ((m + (n + 1)) * inf.bytes) maxRoom) with
      | false => rw [hc] at ha; cases ha
      | true =>
        rw [hc] at ha
        have hc := Nat.le_of_ble_eq_true (Bool.and_eq_true_iff.1 hc).2
        simp only [cond_true] at ha
        have grow : ∀ olds olds' : List Value, LRel P E olds olds' → olds.length = m * inf.size →
            (∀ j v, olds'[j]? = some v → w.cell? ((⟨l.b, o + l.d, none⟩ : Addr).add j) = some v) → c' < m + (n + 1) →
            (Builtin.append_ #[t, u] ty #[.slice (some ⟨l.b, o + l.d, none⟩) m c', x']).run P w =
              .ok (.slice (some ⟨w.heap.size, 0, none⟩) (m + (n + 1)) (grownCap w (m + (n + 1)) c' e))
                (w.drew.alloc (.cells (olds'.toArray ++ news'.toArray ++ Builtin.zeroCells z.cells (grownCap w (m + (n + 1)) c' e - (m + (n + 1)))) e)) := by
          intro olds olds' hro hol hcell hlt
          refine hA.grow _ m c' olds' ?_ hlt (hbm _ hc) (growslice_fits hlt hc)
          exact run_firstCells_some w.drew inf.size m _ m c' olds' (by rw [← hro.length, hol]) (fun j v hv => by simpa using hcell j v hv)
        split at ha
        ·
          rename_i hq
          split at ha
          · rename_i olds hld
            cases ha
            simp only [Bool.and_eq_true] at hq
            obtain ⟨hq1, hq2⟩ := hq
            have hsn : sp = none := by cases sp with | none => rfl | some x => cases hq1
            have hcc := hsp hsn
            have hlt : c < m + (n + 1) := by
              rcases Nat.lt_or_ge c (m + (n + 1)) with h | h
              · exact h
              · simp [Nat.blt, Nat.ble_eq] at hq2; omega
            obtain ⟨a1, olds', a2, a3⟩ := h.ld hil hld
            obtain ⟨F, b1, b2, b3⟩ := h.appGrow (e := e) hi hzs (sLen := m) (n := n + 1) (sCap := c') a2 a1 hr hl none none
            exact ⟨F, _, _, b1, b2, b3, grow olds olds' a2 a1 a3 (by omega)⟩
          · cases ha
        · rename_i e' cs p k hnx hg
          cases hoe : (Nat.beq o 0 && Nat.beq e' e) with
          | false => rw [hoe] at ha; cases ha
          | true =>
            rw [hoe] at ha
            simp only [Bool.and_eq_true] at hoe
            obtain ⟨ho0, hee⟩ := hoe
            obtain rfl : o = 0 := Nat.eq_of_beq_eq_true ho0
            obtain rfl : e' = e := Nat.eq_of_beq_eq_true hee
            simp only [cond_true] at ha
            obtain ⟨hcell, hown, _⟩ := h.obj i l _ hil hg rfl
            obtain ⟨hown, C, hC⟩ := hown rfl
            have hd := ((h.dom i l hil).2.2 hown).1
            obtain ⟨eK, zK, szK, hK, hKi, hKz⟩ := h3 hown
            have hshape := h.shp _ _ hK
            have hCz : eK = e' ∧ zK = C.size := by
              unfold World.shape? at hshape
              rw [hC] at hshape
              cases hshape; exact ⟨rfl, rfl⟩
            obtain ⟨rfl, rfl⟩ := hCz
            have hszK : szK = inf.size := by rw [hi] at hKi; cases hKi; rfl
            subst hszK
            cases hroom : (Nat.ble (m + (n + 1)) c && Nat.ble (m * inf.size + news.length) cs.length) with
            | true =>
              rw [hroom] at ha
              simp only [cond_true] at ha
              split at ha
              · rename_i σ1 hst
                cases ha
                simp only [Bool.and_eq_true, Nat.ble_eq] at hroom
                unfold St.stc at hst
                rw [hg] at hst
                simp only [] at hst
                cases hq : (Nat.ble (m * inf.size + news.length) cs.length && news.all oneV) with
                | false => rw [hq] at hst; cases hst
                | true =>
                  rw [hq] at hst
                  cases hst
                  simp only [Bool.and_eq_true, Nat.ble_eq] at hq
                  obtain ⟨hq1, hq2⟩ := hq
                  obtain ⟨C', hC', hsz, hfit, hor⟩ := setRange_orel h hil hg hr hq1 hC hd
                  have hrun := hA.room l.b (0 + l.d) m c' C hC (oneV_list hr hq2) (by omega) (by rw [hd]; omega)
                  refine ⟨E, w.setRow l.b C', .slice (some ⟨l.b, 0 + l.d, none⟩) (m + (n + 1)) c', Env.ext.refl _ E, h.written hil hg (fun C1 hC1 => by rw [hC] at hC1; cases hC1; exact hsz) rfl hor, ?_, ?_⟩
                  · exact .slice hil hsp (by omega) h2 h3
                  · rw [hrun, hC', hd]; simp
              · cases ha
            | false =>
              rw [hroom] at ha
              simp only [cond_false] at ha
              split at ha
              · rename_i olds htk
                cases hone : news.all oneV with
                | false => rw [hone] at ha; cases ha
                | true =>
                rw [hone] at ha
                cases ha
                obtain ⟨t1, t2⟩ := takeN_spec _ _ _ htk
                obtain ⟨t3, t4⟩ := takeN_take _ _ _ htk
                have hldo : σ.ld i 0 (m * inf.size) = some olds := by
                  unfold St.ld; rw [hg]; simpa using htk
                obtain ⟨a1, olds', a2, a3⟩ := h.ld hil hldo
                rcases Nat.lt_or_ge c' (m + (n + 1)) with hlt | hge
                · obtain ⟨F, b1, b2, b3⟩ := h.fork_grow (e := eK) hi hzs hil hg (sLen := m) (n := n + 1) (sCap := c') a2 t1 hr hl
                  exact ⟨F, _, _, b1, b2, b3, grow olds olds' a2 t1 a3 hlt⟩
                · have hmul : (m + (n + 1)) * inf.size ≤ c' * inf.size := Nat.mul_le_mul_right _ hge
                  rw [Nat.add_mul, ← hl] at hmul
                  have hfit : olds.length + news'.length ≤ C.size := by rw [t1, ← hr.length]; omega
                  obtain ⟨F, b1, b2, b3, b4⟩ := h.fork_room hil hg (by rw [t1]; exact htk) hr hC hfit
                  have hrun := hA.room l.b (0 + l.d) m c' C hC (oneV_list hr hone) hge (by rw [hd, ← hr.length]; omega)
                  refine ⟨F, _, .slice (some ⟨l.b, 0 + l.d, none⟩) (m + (n + 1)) c', b1, b4, ?_, hrun.trans ?_⟩
                  · exact VRel.slice (l := l) (s := some 0) b2 (fun h => by cases h) (Nat.le_refl _) hge (fun _ => ⟨eK, C.size, inf.size, by rw [b3]; exact hK, hKi, by omega⟩)
                  · rw [hd, t1]; simp
              · cases ha
        · cases ha
    | _ => simp [St.app] at ha
end Go.Ev
end
section
namespace Go.Ev
open Go.RowKit
variable {P : Program} {B : Nat} {w0 : World}
structure Tabs where
  info : TypeId → Option TypeInfo
  und : TypeId → Option TypeDesc
  fn : FuncId → Option Func
  glob : Nat → Bool
  ib : TypeId → Bool := fun _ => false
structure IbOk (P : Program) (t : TypeId) : Prop where
  guard : P.eqGuardType P.depth t = false
  eq : ∀ (a c : Int) (b d : Bool) (w : World), (Op.equal t (.agg ⟨[.int .i64 a, .bool b]⟩) (.agg ⟨[.int .i64 c, .bool d]⟩)).run P w = .ok (a == c && b == d) w
structure Tabs.Good (T : Tabs) (P : Program) : Prop where
  info : ∀ t, T.info t = P.info? t
  und : ∀ t, T.und t = P.underlying t
  fn : ∀ f, T.fn f = P.funcs[f]?
  ib : ∀ t, T.ib t = true → IbOk P t
def zeroOk (i : TypeInfo) : Option Value :=
  match i.zero with
  | some z => cond (plainV z && Nat.beq z.cells.size i.size) (some z) none
  | none => none
theorem zeroOk_eq {i : TypeInfo} {z : Value} (h : zeroOk i = some z) : i.zero = some z ∧ z.cells.size = i.size ∧ plainV z = true := by
  unfold zeroOk at h
  split at h
  · rename_i z1 hz
    cases hc : (plainV z1 && Nat.beq z1.cells.size i.size) with
    | false => rw [hc] at h; cases h
    | true =>
      rw [hc] at h; cases h
      simp only [Bool.and_eq_true] at hc
      exact ⟨hz, Nat.eq_of_beq_eq_true hc.2, hc.1⟩
  · cases h
variable {T : Tabs}
def aggD : TypeDesc → Bool
  | .struct _ | .array _ _ => true
  | _ => false
theorem run_isAgg {t : TypeId} {d : TypeDesc} (h : P.underlying t = some d) (w : World) : (isAgg t).run P w = .ok (aggD d) w := by
  simp [isAgg, run_underlying h]
  cases d <;> simp [aggD]
theorem run_sizeOf {t : TypeId} {i : TypeInfo} (h : P.info? t = some i) (w : World) : (sizeOf t).run P w = .ok i.size w := by
  simp [sizeOf, typeInfo, h]
theorem run_zeroValue {t : TypeId} {i : TypeInfo} {z : Value} (h : P.info? t = some i) (hz : i.zero = some z) (w : World) : (zeroValue t).run P w = .ok z w := by
  simp [zeroValue, typeInfo, h, hz]
def evLoad (T : Tabs) (σ : St) (t : TypeId) : Value → Option Value
  | .pointer (some ⟨i, o, none⟩) =>
    match T.und t, T.info t with
    | some d, some inf =>
      cond (aggD d) (match σ.ld i o inf.size with
        | some vs => some (.agg ⟨vs⟩)
        | none => none)
        (match σ.ld i o 1 with
        | some [v] => some v
        | _ => none)
    | _, _ => none
  | _ => none
theorem evLoad_ok (hT : T.Good P) {E : Env} {σ : St} {w : World} (h : Rel P B w0 E σ w) {t : TypeId} {x x' v : Value} (hx : VRel P E x x') (he : evLoad T σ t x = some v) :
    ∃ v', (Instr.loadAt t x').run P w = .ok v' w ∧ VRel P E v v' := by
  cases hx with
  | @ptr i o l hi =>
    simp only [evLoad, hT.und, hT.info] at he
    cases hu : P.underlying t with
    | none => rw [hu] at he; simp at he
    | some d =>
      cases hf : P.info? t with
      | none => rw [hu, hf] at he; simp at he
      | some inf =>
        rw [hu, hf] at he
        simp only [] at he
        have hag := run_isAgg hu w
        have hsz := run_sizeOf hf w
        cases ha : aggD d with
        | true =>
          rw [ha] at he hag
          simp only [cond_true] at he
          split at he
          · rename_i vs hl
            cases he
            obtain ⟨a, vs', b, c⟩ := h.ld hi hl
            have hrun := run_loadCells_list (P := P) w ⟨l.b, o + l.d, none⟩ vs' c
            rw [← b.length, a] at hrun
            refine ⟨.agg ⟨vs'⟩, ?_, .agg b⟩
            simp [Instr.loadAt, Instr.sureAddr, loadVar, hag, hsz, hrun]
          · cases he
        | false =>
          rw [ha] at he hag
          simp only [cond_false] at he
          split at he
          · rename_i v1 hl
            cases he
            obtain ⟨a, vs', b, c⟩ := h.ld hi hl
            cases b with
            | cons b1 b2 =>
              cases b2
              rename_i v'
              have hc := c 0 v' rfl
              simp [Addr.add] at hc
              refine ⟨v', ?_, b1⟩
              simp [Instr.loadAt, Instr.sureAddr, loadVar, hag, hc]
          · cases he
  | _ => simp [evLoad] at he
def evFieldAddr (T : Tabs) (t : TypeId) (f : Nat) : Value → Option Value
  | .pointer (some ⟨i, o, none⟩) =>
    match T.und t with
    | some (.struct fs) => match fs[f]? with
      | some fd => match T.info fd.type with
        | some inf => cond (Nat.beq inf.size 0) none (some (.pointer (some ⟨i, o + fd.offset, none⟩)))
        | none => none
      | none => none
    | _ => none
  | _ => none
theorem add_none (b o n : Nat) : (⟨b, o, none⟩ : Addr).add n = ⟨b, o + n, none⟩ := by unfold Addr.add; split <;> simp_all
theorem evFieldAddr_ok (hT : T.Good P) {E : Env} {t : TypeId} {f : Nat} {x x' v : Value} (hx : VRel P E x x') (he : evFieldAddr T t f x = some v) (w : World) :
    ∃ v', (Instr.fieldAt t x' f).run P w = .ok v' w ∧ VRel P E v v' := by
  cases hx with
  | @ptr i o l hi =>
    simp only [evFieldAddr, hT.und, hT.info] at he
    split at he
    · rename_i fs hu
      split at he
      · rename_i fd hfd
        split at he
        · rename_i inf hinf
          cases hz : Nat.beq inf.size 0 with
          | true => rw [hz] at he; cases he
          | false =>
            rw [hz] at he; cases he
            have hne : inf.size ≠ 0 := by intro e; rw [e] at hz; cases hz
            refine ⟨.pointer (some ⟨l.b, (o + fd.offset) + l.d, none⟩), ?_, .ptr hi⟩
            have hsz := run_sizeOf hinf w
            simp [Instr.fieldAt, Instr.sureAddr, run_underlying hu, hfd, fieldPlace, hsz, hne, add_none]
            omega
        · cases he
      · cases he
    · cases he
  | _ => simp [evFieldAddr] at he
def sliceElem : Option TypeDesc → Option TypeId
  | some (.slice e) => some e
  | _ => none
def arrayElem : Option TypeDesc → Option (Nat × TypeId)
  | some (.array n e) => some (n, e)
  | _ => none
theorem sliceElem_eq {d : Option TypeDesc} {e : TypeId} (h : sliceElem d = some e) : d = some (.slice e) := by
  unfold sliceElem at h; split at h
  · cases h; rfl
  · cases h
theorem arrayElem_eq {d : Option TypeDesc} {n : Nat} {e : TypeId} (h : arrayElem d = some (n, e)) : d = some (.array n e) := by
  unfold arrayElem at h; split at h
  · cases h; rfl
  · cases h
def stepTo (T : Tabs) (i o n len : Nat) (e : TypeId) : Option Value :=
  cond (Nat.blt n len) (match T.info e with
    | some inf => some (.pointer (some ⟨i, o + n * inf.size, none⟩))
    | none => none) none
def evIndexAddr (T : Tabs) (t : TypeId) (x ix : Value) : Option Value :=
  match ix with
  | .int _ (.ofNat n) =>
    match x with
    | .slice (some ⟨i, o, _⟩) len _ => match sliceElem (T.und t) with
      | some e => stepTo T i o n len e
      | none => none
    | .pointer (some ⟨i, o, none⟩) => match arrayElem (T.und t) with
      | some (len, e) => stepTo T i o n len e
      | none => none
    | _ => none
  | _ => none
theorem stepTo_eq (hT : T.Good P) {i o n len e : Nat} {v : Value} (h : stepTo T i o n len e = some v) : n < len ∧ ∃ inf, P.info? e = some inf ∧ v = .pointer (some ⟨i, o + n * inf.size, none⟩) := by
  unfold stepTo at h
  rw [hT.info] at h
  cases hb : Nat.blt n len with
  | false => rw [hb] at h; cases h
  | true =>
    rw [hb] at h
    cases hi : P.info? e with
    | none => rw [hi] at h; cases h
    | some inf => rw [hi] at h; cases h; exact ⟨Nat.le_of_ble_eq_true hb, inf, rfl, rfl⟩
theorem blt_lt {a b : Nat} (h : Nat.blt a b = true) : a < b := Nat.le_of_ble_eq_true h
theorem evIndexAddr_ok (hT : T.Good P) {E : Env} {t : TypeId} {x x' ix ix' v : Value} (hx : VRel P E x x') (hix : VRel P E ix ix') (he : evIndexAddr T t x ix = some v) (w : World) :
    ∃ v', (Instr.indexAt t x' ix').run P w = .ok v' w ∧ VRel P E v v' := by
  cases hix with
  | int k n =>
    cases n with
    | negSucc n => simp [evIndexAddr] at he
    | ofNat n =>
      cases hx with
      | @slice i o m c c' s l hi _ _ _ _ =>
        simp only [evIndexAddr, hT.und] at he
        split at he
        · rename_i e hse
          have hu := sliceElem_eq hse
          obtain ⟨hlt, inf, hinf, rfl⟩ := stepTo_eq hT he
          have hsz := run_sizeOf hinf w
          refine ⟨.pointer (some ⟨l.b, (o + n * inf.size) + l.d, none⟩), ?_, .ptr hi⟩
          simp [Instr.indexAt, asIntOf, run_underlying hu, hsz, hlt, add_none]
          omega
        · cases he
      | empty =>
        simp only [evIndexAddr, hT.und] at he
        split at he
        · rename_i e hse
          obtain ⟨hlt, _⟩ := stepTo_eq hT he
          omega
        · cases he
      | @ptr i o l hi =>
        simp only [evIndexAddr, hT.und] at he
        split at he
        · rename_i len e hse
          have hu := arrayElem_eq hse
          obtain ⟨hlt, inf, hinf, rfl⟩ := stepTo_eq hT he
          have hsz := run_sizeOf hinf w
          refine ⟨.pointer (some ⟨l.b, (o + n * inf.size) + l.d, none⟩), ?_, .ptr hi⟩
          simp [Instr.indexAt, Instr.sureAddr, asIntOf, run_underlying hu, hsz, hlt, add_none]
          omega
        · cases he
      | _ => simp [evIndexAddr] at he
  | _ => simp [evIndexAddr] at he
end Go.Ev
end
section
namespace Go.Ev
open Go.RowKit
variable {P : Program} {B : Nat} {w0 : World} {T : Tabs}
def intBin (op : BinOp) (k : IntKind) (a b : Int) : Option Value :=
  match op with
  | .add => some (.int k (k.wrap (a + b)))
  | .sub => some (.int k (k.wrap (a - b)))
  | .mul => some (.int k (k.wrap (a * b)))
  | .quo => match b with
    | .ofNat 0 => none
    | _ => some (.int k (k.wrap (a.tdiv b)))
  | .rem => match b with
    | .ofNat 0 => none
    | _ => some (.int k (a.tmod b))
  | .and => some (.int k (k.wrap (BitVec.ofInt k.bits a &&& BitVec.ofInt k.bits b).toNat))
  | .or => some (.int k (k.wrap (BitVec.ofInt k.bits a ||| BitVec.ofInt k.bits b).toNat))
  | .xor => some (.int k (k.wrap (BitVec.ofInt k.bits a ^^^ BitVec.ofInt k.bits b).toNat))
  | .andNot => some (.int k (k.wrap (BitVec.ofInt k.bits a &&& ~~~(BitVec.ofInt k.bits b)).toNat))
  | .eql => some (.bool (a == b))
  | .neq => some (.bool (a != b))
  | .lss => some (.bool (decide (a < b)))
  | .leq => some (.bool (decide (a ≤ b)))
  | .gtr => some (.bool (decide (a > b)))
  | .geq => some (.bool (decide (a ≥ b)))
  | _ => none
def strBin (op : BinOp) (a b : ByteArray) : Option Value :=
  match op with
  | .add => cond (Nat.ble (a.size + b.size) 140737488355328) (some (.string (a ++ b))) none
  | .eql => some (.bool (a.toList == b.toList))
  | .neq => some (.bool (!(a.toList == b.toList)))
  | _ => none
def eqBin (T : Tabs) (t : TypeId) (lit : Bool) (x y : Value) : Option Bool :=
  match x, y with
  | .bool a, .bool b => match T.und t with
    | some .bool => some (a == b)
    | _ => none
  | .pointer none, .pointer none => match T.und t with
    | some (.pointer _) => some true
    | _ => none
  | .pointer none, .pointer (some _) => match T.und t with
    | some (.pointer _) => some false
    | _ => none
  | .pointer (some _), .pointer none => match T.und t with
    | some (.pointer _) => some false
    | _ => none
  | .pointer (some ⟨i, o, none⟩), .pointer (some ⟨j, q, none⟩) => match T.und t with
    | some (.pointer e) => match T.info e with
      | some inf => cond (!Nat.beq inf.size 0 && Nat.beq i j) (some (Nat.beq o q)) none
      | none => none
    | _ => none
  | .nilIface, .nilIface => cond lit (match T.und t with
    | some (.interface _) => some true
    | _ => none) none
  | .nilIface, .iface _ _ => match T.und t with
    | some (.interface _) => some false
    | _ => none
  | .iface _ _, .nilIface => match T.und t with
    | some (.interface _) => some false
    | _ => none
  | .slice none 0 0, .slice none 0 0 => match T.und t with
    | some (.slice _) => some true
    | _ => none
  | .slice (some _) _ _, .slice none 0 0 => match T.und t with
    | some (.slice _) => some false
    | _ => none
  | .slice none 0 0, .slice (some _) _ _ => match T.und t with
    | some (.slice _) => some false
    | _ => none
  | .agg ⟨[.int .i64 a, .bool b]⟩, .agg ⟨[.int .i64 c, .bool d]⟩ => cond (T.ib t) (some (a == c && b == d)) none
  | _, _ => none
def isLit : Operand → Bool
  | .const _ => true
  | _ => false
def eqOp (T : Tabs) (op : BinOp) (t : TypeId) (lit : Bool) (x y : Value) : Option Value :=
  match op with
  | .eql => match eqBin T t lit x y with
    | some b => some (.bool b)
    | none => none
  | .neq => match eqBin T t lit x y with
    | some b => some (.bool (!b))
    | none => none
  | _ => none
def evBin (T : Tabs) (op : BinOp) (t : TypeId) (lit : Bool) (x y : Value) : Option Value :=
  match x, y with
  | .int k a, .int k' b =>
    match op with
    | .shl => match b with
      | .ofNat n => some (.int k (k.wrap (a * 2 ^ (min n k.bits))))
      | _ => none
    | .shr => match b with
      | .ofNat n => some (.int k (a.fdiv (2 ^ (min n k.bits))))
      | _ => none
    | op => match decEq k k' with
      | .isTrue _ => intBin op k a b
      | .isFalse _ => none
  | .string a, .string b => strBin op a b
  | x, y => eqOp T op t lit x y
def eqTriv : Value → Value → Bool
  | .nilIface, .nilIface => false
  | .agg _, .agg _ => false
  | _, _ => true
theorem eqGuard_triv (op : BinOp) (t : TypeId) (c d : Operand) (x y : Value) (w : World) (h : eqTriv x y = true) : (eqGuard op t c d x y).run P w = .ok () w := by
  unfold eqGuard
  cases op <;> first
    | rfl
    | (cases x <;> first
        | rfl
        | (cases y <;> first | rfl | (simp [eqTriv] at h)))
theorem eqGuard_lit (op : BinOp) (t : TypeId) (c d : Operand) (w : World) (h : isLit c = true ∨ isLit d = true) : (eqGuard op t c d .nilIface .nilIface).run P w = .ok () w := by
  unfold eqGuard
  rcases h with h | h
  · cases c <;> first
      | (simp [isLit] at h; done)
      | (cases op <;> rfl)
  · cases d <;> first
      | (simp [isLit] at h; done)
      | (cases c <;> cases op <;> rfl)
theorem eqBin_ok (hT : T.Good P) {E : Env} {t : TypeId} {x x' y y' : Value} {b : Bool} {lit : Bool} (hx : VRel P E x x') (hy : VRel P E y y') (he : eqBin T t lit x y = some b) (w : World) :
    (Op.equal t x' y').run P w = .ok b w ∧ (eqTriv x' y' = true ∨ (x' = .nilIface ∧ y' = .nilIface ∧ lit = true) ∨ ∃ xs ys, x' = .agg xs ∧ y' = .agg ys ∧ P.eqGuardType P.depth t = false) := by
  unfold eqBin at he
  simp only [hT.und, hT.info] at he
  cases hx <;> cases hy <;> (try (simp at he; done)) <;> (try simp only [] at he)
  case bool.bool a c =>
    split at he
    · rename_i hu; cases he
      exact ⟨by show (Op.equalIn (9999 + 1) t _ _).run P w = _; generalize 9999 = d; simp [Op.equalIn, run_underlying hu], .inl rfl⟩
    · cases he
  case nilPtr.nilPtr =>
    split at he
    · rename_i e hu; cases he
      exact ⟨by show (Op.equalIn (9999 + 1) t _ _).run P w = _; generalize 9999 = d; simp [Op.equalIn, run_underlying hu], .inl rfl⟩
    · cases he
  case nilPtr.ptr =>
    split at he
    · rename_i e hu; cases he
      exact ⟨by show (Op.equalIn (9999 + 1) t _ _).run P w = _; generalize 9999 = d; simp [Op.equalIn, run_underlying hu], .inl rfl⟩
    · cases he
  case ptr.nilPtr =>
    split at he
    · rename_i e hu; cases he
      exact ⟨by show (Op.equalIn (9999 + 1) t _ _).run P w = _; generalize 9999 = d; simp [Op.equalIn, run_underlying hu], .inl rfl⟩
    · cases he
  case ptr.ptr i o l hi j q m hj =>
    split at he
    · rename_i e hu
      split at he
      · rename_i inf hinf
        cases hc : (!Nat.beq inf.size 0 && Nat.beq i j) with
        | false => rw [hc] at he; cases he
        | true =>
          rw [hc] at he
          simp only [Bool.and_eq_true, Bool.not_eq_true'] at hc
          obtain ⟨h1, h2⟩ := hc
          cases he
          obtain rfl : i = j := Nat.eq_of_beq_eq_true h2
          rw [hi] at hj; cases hj
          have hne : inf.size ≠ 0 := by intro e; rw [e] at h1; cases h1
          have hsz := run_sizeOf hinf w
          have hb : Nat.beq o q = decide (o = q) := by
            by_cases hoq : o = q
            · subst hoq; simp
            · rw [decide_eq_false hoq]
              cases hn : Nat.beq o q with
              | false => rfl
              | true => exact absurd (Nat.eq_of_beq_eq_true hn) hoq
          refine ⟨?_, .inl rfl⟩
          show (Op.equalIn (9999 + 1) t _ _).run P w = _
          generalize 9999 = d
          simp [Op.equalIn, run_underlying hu, hsz, hne, sameAddr, hb]
          by_cases hoq : o = q
          · subst hoq; simp
          · rw [decide_eq_false hoq, beq_eq_false_iff_ne]
            intro h
            injection h with _ h
            omega
      · cases he
    · cases he
  case nilSlice.nilSlice =>
    split at he
    · rename_i e hu; cases he
      exact ⟨by show (Op.equalIn (9999 + 1) t _ _).run P w = _; generalize 9999 = d; simp [Op.equalIn, run_underlying hu], .inl rfl⟩
    · cases he
  case nilSlice.slice =>
    split at he
    · rename_i e hu; cases he
      exact ⟨by show (Op.equalIn (9999 + 1) t _ _).run P w = _; generalize 9999 = d; simp [Op.equalIn, run_underlying hu], .inl rfl⟩
    · cases he
  case nilSlice.empty =>
    split at he
    · rename_i e hu; cases he
      exact ⟨by show (Op.equalIn (9999 + 1) t _ _).run P w = _; generalize 9999 = d; simp [Op.equalIn, run_underlying hu], .inl rfl⟩
    · cases he
  case empty.nilSlice =>
    split at he
    · rename_i e hu; cases he
      exact ⟨by show (Op.equalIn (9999 + 1) t _ _).run P w = _; generalize 9999 = d; simp [Op.equalIn, run_underlying hu], .inl rfl⟩
    · cases he
  case slice.nilSlice =>
    split at he
    · rename_i e hu; cases he
      exact ⟨by show (Op.equalIn (9999 + 1) t _ _).run P w = _; generalize 9999 = d; simp [Op.equalIn, run_underlying hu], .inl rfl⟩
    · cases he
  case iface.nilIface =>
    split at he
    · rename_i e hu; cases he
      exact ⟨by show (Op.equalIn (9999 + 1) t _ _).run P w = _; generalize 9999 = d; simp [Op.equalIn, run_underlying hu], .inl rfl⟩
    · cases he
  case nilIface.iface =>
    split at he
    · rename_i e hu; cases he
      exact ⟨by show (Op.equalIn (9999 + 1) t _ _).run P w = _; generalize 9999 = d; simp [Op.equalIn, run_underlying hu], .inl rfl⟩
    · cases he
  case nilIface.nilIface =>
    cases lit with
    | false => cases he
    | true =>
      simp only [cond_true] at he
      split at he
      · rename_i e hu; cases he
        exact ⟨by show (Op.equalIn (9999 + 1) t _ _).run P w = _; generalize 9999 = d; simp [Op.equalIn, run_underlying hu], .inr (.inl ⟨rfl, rfl, rfl⟩)⟩
      · cases he
  case agg.agg xs xs' h1 ys ys' h2 =>
    split at he <;> (try (cases he; done)) <;> (rename_i e1 e2; first | (cases e1; done) | skip)
    rename_i a b c d
    cases e1; cases e2
    cases hib : T.ib t with
    | false => rw [hib] at he; cases he
    | true =>
      rw [hib] at he
      cases he
      cases h1 with
      | cons p1 q1 => cases p1; cases q1 with
        | cons p2 q2 => cases p2; cases q2; cases h2 with
          | cons p3 q3 => cases p3; cases q3 with
            | cons p4 q4 => cases p4; cases q4; exact ⟨(hT.ib t hib).eq _ _ _ _ w, .inr (.inr ⟨_, _, rfl, rfl, (hT.ib t hib).guard⟩)⟩
theorem intBin_ok {op : BinOp} {t : TypeId} {k : IntKind} {a b : Int} {v : Value} (hop : op ≠ .shl) (hop' : op ≠ .shr) (he : intBin op k a b = some v) (w : World) :
    (binOp op t (.int k a) (.int k b)).run P w = .ok v w ∧ ∃ y, plainV y = true ∧ v = y := by
  have quo : ∀ b : Int, b ≠ 0 → (Op.intDiv .quo k a b).run P w = .ok (.int k (k.wrap (a.tdiv b))) w := fun b hb => by simp [Op.intDiv, hb]
  have rem : ∀ b : Int, b ≠ 0 → (Op.intDiv .rem k a b).run P w = .ok (.int k (a.tmod b)) w := fun b hb => by simp [Op.intDiv, hb]
  cases op <;> simp only [intBin] at he <;> (try (cases he; done)) <;> (try (exact absurd rfl hop)) <;> (try (exact absurd rfl hop'))
  case quo =>
    split at he
    · cases he
    · rename_i hb
      cases he
      refine ⟨?_, _, rfl, rfl⟩
      simp only [binOp, ne_eq, not_true, if_false]
      exact quo b (fun e => hb e)
  case rem =>
    split at he
    · cases he
    · rename_i hb
      cases he
      refine ⟨?_, _, rfl, rfl⟩
      simp only [binOp, ne_eq, not_true, if_false]
      exact rem b (fun e => hb e)
  all_goals
    cases he
    refine ⟨?_, _, rfl, rfl⟩
    simp [binOp, Op.intArith, Op.intBits, Op.intCmp]
theorem strBin_ok {op : BinOp} {t : TypeId} {a b : ByteArray} {v : Value} (he : strBin op a b = some v) (w : World) :
    (binOp op t (.string a) (.string b)).run P w = .ok v w ∧ plainV v = true := by
  cases op <;> simp only [strBin] at he <;> (try (cases he; done))
  case add =>
    cases hb : Nat.ble (a.size + b.size) 140737488355328 with
    | false => rw [hb] at he; cases he
    | true =>
      rw [hb] at he
      cases he
      have := Nat.le_of_ble_eq_true hb
      refine ⟨?_, rfl⟩
      have hm : IntKind.i64.max = 9223372036854775807 := by decide
      have hn : ¬ (((a.size + b.size : Nat) : Int) > IntKind.i64.max) := by rw [hm]; omega
      simp only [binOp, Op.stringOp, if_neg hn]
      rfl
  all_goals
    cases he
    exact ⟨by simp [binOp, Op.stringOp], rfl⟩
theorem binEq_ok (hT : T.Good P) {E : Env} {t : TypeId} {lit : Bool} {x x' y y' : Value} {b : Bool} (hx : VRel P E x x') (hy : VRel P E y y') (hb : eqBin T t lit x y = some b) (w : World) :
    (binOp .eql t x' y').run P w = .ok (.bool b) w ∧ (binOp .neq t x' y').run P w = .ok (.bool (!b)) w := by
  obtain ⟨q1, _⟩ := eqBin_ok hT hx hy hb w
  cases hx <;> cases hy <;> first
    | (simp [eqBin] at hb; done)
    | (exact ⟨by simp [binOp, q1], by simp [binOp, q1]⟩)
theorem evBin_ok (hT : T.Good P) {E : Env} {op : BinOp} {t : TypeId} {lit : Bool} {x x' y y' v : Value} (hx : VRel P E x x') (hy : VRel P E y y') (he : evBin T op t lit x y = some v) (w : World)
    (c d : Operand) (hl : lit = true → isLit c = true ∨ isLit d = true) :
    ∃ v', (do eqGuard op t c d x' y'; binOp op t x' y' : Sem Value).run P w = .ok v' w ∧ VRel P E v v' := by
  have guard : ∀ v', eqTriv x' y' = true → (binOp op t x' y').run P w = .ok v' w → (do eqGuard op t c d x' y'; binOp op t x' y' : Sem Value).run P w = .ok v' w := by
    intro v' h1 h2
    simp only [Sem.run_bind, eqGuard_triv op t c d x' y' w h1, Result.andThen_ok, h2]
  have other : eqOp T op t lit x y = some v → ∃ v', (do eqGuard op t c d x' y'; binOp op t x' y' : Sem Value).run P w = .ok v' w ∧ VRel P E v v' := by
    intro ho
    have fin : ∀ b, eqBin T t lit x y = some b → ∀ v', (binOp op t x' y').run P w = .ok v' w → (do eqGuard op t c d x' y'; binOp op t x' y' : Sem Value).run P w = .ok v' w := by
      intro b hb v' hv
      rcases (eqBin_ok hT hx hy hb w).2 with q2 | ⟨h1, h2, q2⟩ | ⟨xs, ys, h1, h2, q2⟩
      · exact guard _ q2 hv
      · subst h1; subst h2
        simp only [Sem.run_bind, eqGuard_lit op t c d w (hl q2), Result.andThen_ok, hv]
      · subst h1; subst h2
        simp only [Sem.run_bind, run_eqGuard_agg w op t c d xs ys q2, Result.andThen_ok, hv]
    unfold eqOp at ho
    cases op <;> simp only [] at ho <;> (try (cases ho; done))
    case eql =>
      split at ho
      · rename_i b hb; cases ho
        exact ⟨_, fin b hb _ (binEq_ok hT hx hy hb w).1, .bool _⟩
      · cases ho
    case neq =>
      split at ho
      · rename_i b hb; cases ho
        exact ⟨_, fin b hb _ (binEq_ok hT hx hy hb w).2, .bool _⟩
      · cases ho
  cases hx with
  | int k a =>
    cases hy with
    | int k' b =>
      have sh : ∀ n : Nat, v = .int k (k.wrap (a * 2 ^ (min n k.bits))) → op = .shl → b = .ofNat n → ∃ v', (do eqGuard op t c d (.int k a) (.int k' b); binOp op t (.int k a) (.int k' b) : Sem Value).run P w = .ok v' w ∧ VRel P E v v' := by
        rintro n rfl rfl rfl
        refine ⟨_, guard _ rfl ?_, .int _ _⟩
        simp [binOp, Op.shift]
        exact fun h => absurd h (by omega)
      have sr : ∀ n : Nat, v = .int k (a.fdiv (2 ^ (min n k.bits))) → op = .shr → b = .ofNat n → ∃ v', (do eqGuard op t c d (.int k a) (.int k' b); binOp op t (.int k a) (.int k' b) : Sem Value).run P w = .ok v' w ∧ VRel P E v v' := by
        rintro n rfl rfl rfl
        refine ⟨_, guard _ rfl ?_, .int _ _⟩
        simp [binOp, Op.shift]
        exact fun h => absurd h (by omega)
      have rest : op ≠ .shl → op ≠ .shr → (match decEq k k' with | .isTrue _ => intBin op k a b | .isFalse _ => none) = some v →
          ∃ v', (do eqGuard op t c d (.int k a) (.int k' b); binOp op t (.int k a) (.int k' b) : Sem Value).run P w = .ok v' w ∧ VRel P E v v' := by
        intro h1 h2 h3
        split at h3
        · rename_i hk _; subst hk
          obtain ⟨r1, y, r2, rfl⟩ := intBin_ok (t := t) h1 h2 h3 w
          exact ⟨_, guard _ rfl r1, plainV_rel r2⟩
        · cases h3
      unfold evBin at he
      cases op
      case shl =>
        simp only [] at he
        split at he
        · rename_i n; cases he; exact sh n rfl rfl rfl
        · cases he
      case shr =>
        simp only [] at he
        split at he
        · rename_i n; cases he; exact sr n rfl rfl rfl
        · cases he
      all_goals exact rest (by simp) (by simp) he
    | _ => exact other he
  | string a =>
    cases hy with
    | string b =>
      obtain ⟨r1, r2⟩ := strBin_ok (t := t) he w
      exact ⟨_, guard _ rfl r1, plainV_rel r2⟩
    | _ => exact other he
  | _ => exact other he
end Go.Ev
end
section
namespace Go.Ev
open Go.RowKit
variable {P : Program} {B : Nat} {w0 : World} {T : Tabs}
inductive Bd where
  | no
  | at_ (n : Nat)
def bdOf : Option Value → Option Bd
  | none => some .no
  | some (.int _ (.ofNat n)) => some (.at_ n)
  | _ => none
def Bd.or (b : Bd) (n : Nat) : Nat := match b with | .no => n | .at_ m => m
inductive BRel : Bd → Option Value → Prop
  | no : BRel .no none
  | at_ (k : IntKind) (n : Nat) : BRel (.at_ n) (some (.int k n))
theorem bdOf_rel {E : Env} {v v' : Value} {b : Bd} (h : VRel P E v v') (hb : bdOf (some v) = some b) : BRel b (some v') := by
  cases h with
  | int k n =>
    cases n with
    | ofNat n => simp [bdOf] at hb; subst hb; exact .at_ k n
    | negSucc n => simp [bdOf] at hb
  | _ => simp [bdOf] at hb
theorem run_bound (k : IntKind) (n y : Nat) (h : n ≤ y) (code : BoundsCode) (w : World) : (Instr.sliceBound (.int k n) y code).run P w = .ok n w := by
  simp [Instr.sliceBound, asIntOf, h]
theorem run_bounds {isSlice : Bool} {len cap : Nat} {lo hi : Bd} {lo' hi' : Option Value} (h1 : BRel lo lo') (h2 : BRel hi hi') (hh : hi.or len ≤ cap) (hl : lo.or 0 ≤ hi.or len) (w : World) :
    (Instr.sliceBounds isSlice len cap lo' hi' none).run P w = .ok (lo.or 0, hi.or len, cap) w := by
  cases h1 with
  | no =>
    cases h2 with
    | no => simp [Instr.sliceBounds, Bd.or]
    | at_ k n => simp only [Bd.or] at hh hl; simp [Instr.sliceBounds, Bd.or, run_bound k n cap hh]
  | at_ k n =>
    cases h2 with
    | no => simp only [Bd.or] at hh hl; simp [Instr.sliceBounds, Bd.or, run_bound k n len hl]
    | at_ k' n' => simp only [Bd.or] at hh hl; simp [Instr.sliceBounds, Bd.or, run_bound k n n' hl, run_bound k' n' cap hh]
theorem run_bounds3 {len cap m h : Nat} {k k' : IntKind} {lo : Bd} {lo' : Option Value} (h1 : BRel lo lo') (hm : m ≤ cap) (hh : h ≤ m) (hl : lo.or 0 ≤ h) (w : World) :
    (Instr.sliceBounds true len cap lo' (some (.int k h)) (some (.int k' m))).run P w = .ok (lo.or 0, h, m) w := by
  cases h1 with
  | no => simp [Instr.sliceBounds, Bd.or, run_bound k' m cap hm, run_bound k h m hh]
  | at_ k2 n => simp only [Bd.or] at hl; simp [Instr.sliceBounds, Bd.or, run_bound k' m cap hm, run_bound k h m hh, run_bound k2 n h hl]
def isStr : Option TypeDesc → Bool
  | some .string => true
  | _ => false
theorem isStr_eq {d : Option TypeDesc} (h : isStr d = true) : d = some .string := by
  unfold isStr at h; split at h
  · rfl
  · cases h
def cellElem : Option AObj → Option TypeId
  | some (.cells e _ _ true _ _) => some e
  | _ => none
def sliceStr (T : Tabs) (t : TypeId) (s : ByteArray) (lo hi : Bd) : Option Value :=
  cond (isStr (T.und t) && Nat.ble (hi.or s.size) s.size && Nat.ble (lo.or 0) (hi.or s.size)) (some (.string (s.extract (lo.or 0) (hi.or s.size)))) none
def elemInfo (T : Tabs) (t : TypeId) : Option TypeInfo :=
  match sliceElem (T.und t) with
  | some e => T.info e
  | none => none
def sliceNil (T : Tabs) (t : TypeId) (lo hi : Bd) : Option Value :=
  cond ((elemInfo T t).isSome && Nat.ble (hi.or 0) 0 && Nat.ble (lo.or 0) 0) (some (.slice none 0 0)) none
def sliceE (T : Tabs) (t : TypeId) (i o : Nat) (sp : Option Nat) (len cap : Nat) (lo hi : Bd) : Option Value :=
  cond ((elemInfo T t).isSome && Nat.beq len 0 && Nat.beq cap 0 && Nat.ble (hi.or 0) 0 && Nat.ble (lo.or 0) 0) (some (.slice (some ⟨i, o, sp⟩) 0 0)) none
def slicePart (i o sz : Nat) (sp : Option Nat) (l h m : Nat) : Value :=
  cond (Nat.blt l m) (.slice (some ⟨i, o + l * sz, sp⟩) (h - l) (m - l))
    (match sp with
    | none => .slice (some ⟨i, o, none⟩) 0 0
    | some _ => .slice (some ⟨0, 0, some 1⟩) 0 0)
def sliceRow (T : Tabs) (σ : St) (t : TypeId) (i o : Nat) (sp : Option Nat) (len cap : Nat) (lo hi mx : Bd) : Option Value :=
  match sliceElem (T.und t), cellElem (σ.get i) with
  | some e, some e' =>
    match T.info e with
    | some inf =>
      match mx with
      | .no => cond (Nat.beq e' e && Nat.ble (hi.or len) cap && Nat.ble (lo.or 0) (hi.or len)) (some (slicePart i o inf.size sp (lo.or 0) (hi.or len) cap)) none
      | .at_ m => match hi with
        | .at_ h => cond (Nat.beq e' e && Nat.ble m cap && Nat.ble h m && Nat.ble (lo.or 0) h) (some (slicePart i o inf.size none (lo.or 0) h m)) none
        | .no => none
    | none => none
  | _, _ => none
def sliceVal (T : Tabs) (σ : St) (t : TypeId) (x : Value) (lo hi mx : Bd) : Option Value :=
  match x with
  | .string s => match mx with
    | .no => sliceStr T t s lo hi
    | .at_ _ => none
  | .slice none 0 0 => match mx with
    | .no => sliceNil T t lo hi
    | .at_ _ => none
  | .slice (some ⟨i, o, sp⟩) len cap =>
    cond (markE sp) (match mx with
      | .no => sliceE T t i o sp len cap lo hi
      | .at_ _ => none)
      (sliceRow T σ t i o sp len cap lo hi mx)
  | _ => none
def evSlice (T : Tabs) (σ : St) (t : TypeId) (x : Value) (lo hi mx : Option Value) : Option Value :=
  match bdOf lo, bdOf hi, bdOf mx with
  | some lo, some hi, some mx => sliceVal T σ t x lo hi mx
  | _, _, _ => none
theorem Rel.elemSize {E : Env} {σ : St} {w : World} (h : Rel P B w0 E σ w) {i : Nat} {l : Loc} (hi : E.ι i = some l) {e : TypeId} (hg : cellElem (σ.get i) = some e) {inf : TypeInfo} (hinf : P.info? e = some inf)
    (ho : l.own = true) {e' : TypeId} {z sz : Nat} (hK : E.K l.b = some (e', z)) (hsz : (P.info? e').map (·.size) = some sz) : sz = inf.size := by
  unfold cellElem at hg
  split at hg
  · rename_i e1 cs ro p k hg'
    cases hg
    obtain ⟨_, h2, h3⟩ := h.obj i l _ hi hg' rfl
    cases hr : ro with
    | true => rw [h3 hr] at ho; cases ho
    | false =>
      obtain ⟨_, C, hC⟩ := h2 hr
      have hs := h.shp _ _ hK
      unfold World.shape? at hs
      rw [hC] at hs
      cases hs
      rw [hinf] at hsz; cases hsz; rfl
  · cases hg
theorem elemInfo_eq (hT : T.Good P) {t : TypeId} {inf : TypeInfo} (h : elemInfo T t = some inf) : ∃ e, P.underlying t = some (.slice e) ∧ P.info? e = some inf := by
  unfold elemInfo at h
  rw [hT.und] at h
  split at h
  · rename_i e hse
    rw [hT.info] at h
    exact ⟨e, sliceElem_eq hse, h⟩
  · cases h
theorem markE_eq {sp : Option Nat} (h : markE sp = true) : sp = some 1 := by
  unfold markE at h; split at h
  · rfl
  · cases h
theorem sliceVal_ok (hT : T.Good P) {E : Env} {σ : St} {w : World} (h : Rel P B w0 E σ w) {t : TypeId} {x x' v : Value} {lo hi mx : Bd} {lo' hi' mx' : Option Value} (hx : VRel P E x x')
    (hbl : BRel lo lo') (hbh : BRel hi hi') (hbm : BRel mx mx') (he : sliceVal T σ t x lo hi mx = some v) :
    ∃ v', (Instr.sliceAt t x' lo' hi' mx').run P w = .ok v' w ∧ VRel P E v v' := by
  cases hx with
  | string s =>
    cases hbm with
    | at_ k n => simp [sliceVal] at he
    | no =>
      simp only [sliceVal, sliceStr, hT.und] at he
      cases hc : (isStr (P.underlying t) && Nat.ble (hi.or s.size) s.size && Nat.ble (lo.or 0) (hi.or s.size)) with
      | false => rw [hc] at he; cases he
      | true =>
        rw [hc] at he; cases he
        simp only [Bool.and_eq_true, Nat.ble_eq] at hc
        obtain ⟨⟨c1, c2⟩, c3⟩ := hc
        have hu := isStr_eq c1
        refine ⟨.string (s.extract (lo.or 0) (hi.or s.size)), ?_, .string _⟩
        simp [Instr.sliceAt, Instr.slice, run_underlying hu, run_bounds hbl hbh c2 c3]
  | nilSlice =>
    cases hbm with
    | at_ k n => simp [sliceVal] at he
    | no =>
      simp only [sliceVal, sliceNil] at he
      cases hc : ((elemInfo T t).isSome && Nat.ble (hi.or 0) 0 && Nat.ble (lo.or 0) 0) with
      | false => rw [hc] at he; cases he
      | true =>
        rw [hc] at he; cases he
        simp only [Bool.and_eq_true, Nat.ble_eq] at hc
        obtain ⟨⟨c1, c2⟩, c3⟩ := hc
        obtain ⟨inf, hinf⟩ := Option.isSome_iff_exists.1 c1
        obtain ⟨e, hu, hf⟩ := elemInfo_eq hT hinf
        have b := run_bounds (P := P) (isSlice := true) (len := 0) (cap := 0) hbl hbh c2 (by omega) w
        have e1 : hi.or 0 = 0 := by omega
        have e2 : lo.or 0 = 0 := by omega
        rw [e1, e2] at b
        have hsz := run_sizeOf hf w
        exact ⟨.slice none 0 0, by simp [Instr.sliceAt, Instr.slice, run_underlying hu, b, hsz], .nilSlice⟩
  | @empty i o c a =>
    cases hbm with
    | at_ k n => simp [sliceVal, markE] at he
    | no =>
      simp only [sliceVal, sliceE, markE, cond_true] at he
      cases hc : ((elemInfo T t).isSome && Nat.beq 0 0 && Nat.beq 0 0 && Nat.ble (hi.or 0) 0 && Nat.ble (lo.or 0) 0) with
      | false => rw [hc] at he; cases he
      | true =>
        rw [hc] at he; cases he
        simp only [Bool.and_eq_true, Nat.ble_eq] at hc
        obtain ⟨⟨⟨⟨c1, _⟩, _⟩, c2⟩, c3⟩ := hc
        obtain ⟨inf, hinf⟩ := Option.isSome_iff_exists.1 c1
        obtain ⟨e, hu, hf⟩ := elemInfo_eq hT hinf
        have e1 : hi.or 0 = 0 := by omega
        have e2 : lo.or 0 = 0 := by omega
        have b := run_bounds (P := P) (isSlice := true) (len := 0) (cap := c) hbl hbh (by omega) (by omega) w
        rw [e1, e2] at b
        have hsz := run_sizeOf hf w
        refine ⟨.slice (some a) 0 c, ?_, .empty⟩
        simp [Instr.sliceAt, Instr.slice, run_underlying hu, b, hsz]
        intro _; simp [Addr.add]
  | @slice i o n c c' sp l hil hsp a1 a2 a3 =>
    simp only [sliceVal] at he
    cases hmk : markE sp with
    | true =>
      have hsp1 := markE_eq hmk
      subst hsp1
      rw [hmk] at he
      cases hbm with
      | at_ k n => simp at he
      | no =>
        simp only [sliceE, cond_true] at he
        cases hc : ((elemInfo T t).isSome && Nat.beq n 0 && Nat.beq c 0 && Nat.ble (hi.or 0) 0 && Nat.ble (lo.or 0) 0) with
        | false => rw [hc] at he; cases he
        | true =>
          rw [hc] at he; cases he
          simp only [Bool.and_eq_true, Nat.ble_eq] at hc
          obtain ⟨⟨⟨⟨c1, c4⟩, c5⟩, c2⟩, c3⟩ := hc
          obtain rfl := Nat.eq_of_beq_eq_true c4
          obtain rfl := Nat.eq_of_beq_eq_true c5
          obtain ⟨inf, hinf⟩ := Option.isSome_iff_exists.1 c1
          obtain ⟨e, hu, hf⟩ := elemInfo_eq hT hinf
          have e1 : hi.or 0 = 0 := by omega
          have e2 : lo.or 0 = 0 := by omega
          have b := run_bounds (P := P) (isSlice := true) (len := 0) (cap := c') hbl hbh (by omega) (by omega) w
          rw [e1, e2] at b
          have hsz := run_sizeOf hf w
          refine ⟨.slice (some ⟨l.b, o + l.d, none⟩) 0 c', ?_, .empty⟩
          simp [Instr.sliceAt, Instr.slice, run_underlying hu, b, hsz]
          intro _; simp [Addr.add]
    | false =>
      rw [hmk] at he
      simp only [cond_false, sliceRow, hT.und, hT.info] at he
      split at he
      · rename_i e e' hse hce
        have hu := sliceElem_eq hse
        split at he
        · rename_i inf hinf
          have hsz := run_sizeOf hinf w
          have part : ∀ (sp1 : Option Nat) (lo1 h1 m0 m : Nat), (sp1 = none → m0 = m) → sp1 ≠ some 1 → lo1 ≤ h1 → h1 ≤ m0 → m0 ≤ m → m ≤ c' → e' = e →
              VRel P E (slicePart i o inf.size sp1 lo1 h1 m0) (.slice (if m = lo1 then some ⟨l.b, o + l.d, none⟩ else some ((⟨l.b, o + l.d, none⟩ : Addr).add (lo1 * inf.size))) (h1 - lo1) (m - lo1)) := by
            intro sp1 lo1 h1 m0 m hs1 hs2 q1 q2 q3 q4 q5
            subst q5
            unfold slicePart
            cases hb : Nat.blt lo1 m0 with
            | true =>
              have hlt := blt_lt hb
              rw [if_neg (by omega), add_none]
              simp only [cond_true]
              have hoff : o + l.d + lo1 * inf.size = (o + lo1 * inf.size) + l.d := by omega
              rw [hoff]
              refine .slice hil (fun hn => by rw [hs1 hn]) (by omega) (by omega) (fun ho => ?_)
              obtain ⟨eK, zK, szK, k1, k2, k3⟩ := a3 ho
              have hszK := h.elemSize hil hce hinf ho k1 k2
              subst hszK
              refine ⟨eK, zK, _, k1, k2, ?_⟩
              have : (m - lo1) * inf.size ≤ (c' - lo1) * inf.size := Nat.mul_le_mul_right _ (by omega)
              have h2 : lo1 * inf.size + (c' - lo1) * inf.size = c' * inf.size := by rw [← Nat.add_mul]; congr 1; omega
              omega
            | false =>
              have hge : m0 ≤ lo1 := by
                rcases Nat.lt_or_ge lo1 m0 with hh | hh
                · have : Nat.blt lo1 m0 = true := by unfold Nat.blt; exact Nat.ble_eq ▸ hh
                  rw [this] at hb; cases hb
                · exact hh
              obtain rfl : lo1 = m0 := by omega
              obtain rfl : h1 = lo1 := by omega
              simp only [cond_false, Nat.sub_self]
              cases sp1 with
              | none =>
                obtain rfl := hs1 rfl
                rw [if_pos rfl, Nat.sub_self]
                refine .slice hil (fun _ => rfl) (Nat.le_refl _) (Nat.le_refl _) (fun ho => ?_)
                obtain ⟨eK, zK, szK, k1, k2, k3⟩ := a3 ho
                exact ⟨eK, zK, szK, k1, k2, by have := Nat.zero_mul szK; omega⟩
              | some q =>
                show VRel P E (.slice (some ⟨0, 0, some 1⟩) 0 0) _
                by_cases hm : m = h1
                · rw [if_pos hm]; exact .empty
                · rw [if_neg hm]; exact .empty
          have hsp' : sp ≠ some 1 := by rintro rfl; cases hmk
          cases hbm with
          | no =>
            simp only [] at he
            cases hc : (Nat.beq e' e && Nat.ble (hi.or n) c && Nat.ble (lo.or 0) (hi.or n)) with
            | false => rw [hc] at he; cases he
            | true =>
              rw [hc] at he; cases he
              simp only [Bool.and_eq_true, Nat.ble_eq] at hc
              obtain ⟨⟨c1, c2⟩, c3⟩ := hc
              have b := run_bounds (P := P) (isSlice := true) (len := n) (cap := c') hbl hbh (by omega) c3 w
              refine ⟨_, ?_, part sp (lo.or 0) (hi.or n) c c' hsp hsp' c3 c2 a2 (Nat.le_refl _) (Nat.eq_of_beq_eq_true c1)⟩
              simp [Instr.sliceAt, Instr.slice, run_underlying hu, b, hsz]
          | at_ k m =>
            simp only [] at he
            cases hbh with
            | no => simp at he
            | at_ k2 h2 =>
              simp only [] at he
              cases hc : (Nat.beq e' e && Nat.ble m c && Nat.ble h2 m && Nat.ble (lo.or 0) h2) with
              | false => rw [hc] at he; cases he
              | true =>
                rw [hc] at he; cases he
                simp only [Bool.and_eq_true, Nat.ble_eq] at hc
                obtain ⟨⟨⟨c1, c2⟩, c3⟩, c4⟩ := hc
                have b := run_bounds3 (P := P) (len := n) (cap := c') (k := k2) (k' := k) hbl (show m ≤ c' by omega) c3 c4 w
                refine ⟨_, ?_, part none (lo.or 0) h2 m m (fun _ => rfl) (by simp) c4 c3 (Nat.le_refl _) (by omega) (Nat.eq_of_beq_eq_true c1)⟩
                simp [Instr.sliceAt, Instr.slice, run_underlying hu, b, hsz]
        · cases he
      · cases he
  | _ => simp [sliceVal] at he
end Go.Ev
end
section
namespace Go.Ev
open Go.RowKit
variable {P : Program} {B : Nat} {w0 : World} {T : Tabs}
theorem LRel.drop {E : Env} {xs ys : List Value} (h : LRel P E xs ys) (n : Nat) : LRel P E (xs.drop n) (ys.drop n) := by
  induction n generalizing xs ys with
  | zero => exact h
  | succ n ih => cases h with | nil => exact .nil | cons a b => exact ih b
theorem LRel.take {E : Env} {xs ys : List Value} (h : LRel P E xs ys) (n : Nat) : LRel P E (xs.take n) (ys.take n) := by
  induction n generalizing xs ys with
  | zero => exact .nil
  | succ n ih => cases h with | nil => exact .nil | cons a b => exact .cons a (ih b)
def evPart (T : Tabs) (t : TypeId) (xs : List Value) (off : Nat) : Option Value :=
  match T.und t, T.info t with
  | some d, some inf => cond (aggD d) (some (.agg ⟨(xs.drop off).take inf.size⟩)) (xs[off]?)
  | _, _ => none
theorem evPart_ok (hT : T.Good P) {E : Env} {t : TypeId} {xs xs' : List Value} {off : Nat} {v : Value} (hx : LRel P E xs xs') (he : evPart T t xs off = some v) (w : World) :
    ∃ v', (part t ⟨xs'⟩ off).run P w = .ok v' w ∧ VRel P E v v' := by
  unfold evPart at he
  rw [hT.und, hT.info] at he
  cases hu : P.underlying t with
  | none => rw [hu] at he; simp at he
  | some d =>
    cases hf : P.info? t with
    | none => rw [hu, hf] at he; simp at he
    | some inf =>
      rw [hu, hf] at he
      simp only [] at he
      have hag := run_isAgg hu w
      have hsz := run_sizeOf hf w
      cases ha : aggD d with
      | true =>
        rw [ha] at he hag; cases he
        refine ⟨.agg ⟨(xs'.drop off).take inf.size⟩, ?_, .agg ((hx.drop off).take inf.size)⟩
        simp [part, hag, hsz]
      | false =>
        rw [ha] at he hag
        simp only [cond_false] at he
        obtain ⟨v', h1, h2⟩ := hx.get off v he
        refine ⟨v', ?_, h2⟩
        have : (⟨xs'⟩ : Array Value)[off]? = some v' := by simpa using h1
        simp [part, hag, this]
def structF : Option TypeDesc → Nat → Option Field
  | some (.struct fs), f => fs[f]?
  | _, _ => none
theorem structF_eq {d : Option TypeDesc} {f : Nat} {fd : Field} (h : structF d f = some fd) : ∃ fs, d = some (.struct fs) ∧ fs[f]? = some fd := by
  unfold structF at h; split at h
  · exact ⟨_, rfl, h⟩
  · cases h
def evField (T : Tabs) (t : TypeId) (f : Nat) : Value → Option Value
  | .agg ⟨xs⟩ => match structF (T.und t) f with
    | some fd => evPart T fd.type xs fd.offset
    | none => none
  | _ => none
theorem evField_ok (hT : T.Good P) {E : Env} {t : TypeId} {f : Nat} {x x' v : Value} (hx : VRel P E x x') (he : evField T t f x = some v) (w : World) :
    ∃ v', (Instr.field t x' f).run P w = .ok v' w ∧ VRel P E v v' := by
  cases hx with
  | agg hl =>
    simp only [evField, hT.und] at he
    split at he
    · rename_i fd hfd
      obtain ⟨fs, hu, hf⟩ := structF_eq hfd
      obtain ⟨v', h1, h2⟩ := evPart_ok hT hl he w
      exact ⟨v', by simp [Instr.field, asAgg, run_underlying hu, hf, h1], h2⟩
    · cases he
  | _ => simp [evField] at he
def evIndex (T : Tabs) (t : TypeId) (x ix : Value) : Option Value :=
  match ix with
  | .int _ (.ofNat n) =>
    match x with
    | .string s => cond (isStr (T.und t)) (match s.data.toList[n]? with
      | some b => some (.int .u8 b.toNat)
      | none => none) none
    | .agg ⟨xs⟩ => match arrayElem (T.und t) with
      | some (len, e) => match T.info e with
        | some inf => cond (Nat.blt n len) (evPart T e xs (n * inf.size)) none
        | none => none
      | none => none
    | _ => none
  | _ => none
theorem evIndex_ok (hT : T.Good P) {E : Env} {t : TypeId} {x x' ix ix' v : Value} (hx : VRel P E x x') (hix : VRel P E ix ix') (he : evIndex T t x ix = some v) (w : World) :
    ∃ v', (Instr.index t x' ix').run P w = .ok v' w ∧ VRel P E v v' := by
  cases hix with
  | int k n =>
    cases n with
    | negSucc n => simp [evIndex] at he
    | ofNat n =>
      cases hx with
      | string s =>
        simp only [evIndex, hT.und] at he
        cases hs : isStr (P.underlying t) with
        | false => rw [hs] at he; cases he
        | true =>
          rw [hs] at he
          simp only [cond_true] at he
          split at he
          · rename_i b hb; cases he
            refine ⟨.int .u8 b.toNat, ?_, .int _ _⟩
            have hu := isStr_eq hs
            have hb' : s[n]? = some b := by
              have hlt : n < s.data.toList.length := (List.getElem?_eq_some_iff.1 hb).1
              have hlt' : n < s.size := by rw [Array.length_toList] at hlt; exact hlt
              rw [getElem?_pos s n hlt']
              rw [List.getElem?_eq_getElem hlt] at hb
              rw [← hb]
              rfl
            simp [Instr.index, asIntOf, run_underlying hu, hb']
          · cases he
      | agg hl =>
        simp only [evIndex, hT.und, hT.info] at he
        split at he
        · rename_i len e hse
          have hu := arrayElem_eq hse
          split at he
          · rename_i inf hinf
            cases hb : Nat.blt n len with
            | false => rw [hb] at he; cases he
            | true =>
              rw [hb] at he
              have hlt := blt_lt hb
              obtain ⟨v', h1, h2⟩ := evPart_ok hT hl he w
              have hsz := run_sizeOf hinf w
              exact ⟨v', by simp [Instr.index, asIntOf, run_underlying hu, hlt, hsz, h1], h2⟩
          · cases he
        · cases he
      | _ => simp [evIndex] at he
  | _ => simp [evIndex] at he
def evExtract (i : Nat) : Value → Option Value
  | .tuple ⟨xs⟩ => xs[i]?
  | _ => none
theorem evExtract_ok {E : Env} {i : Nat} {x x' v : Value} (hx : VRel P E x x') (he : evExtract i x = some v) (w : World) : ∃ v', (Instr.extract x' i).run P w = .ok v' w ∧ VRel P E v v' := by
  cases hx with
  | tuple hl =>
    obtain ⟨v', h1, h2⟩ := hl.get i v he
    refine ⟨v', ?_, h2⟩
    rename_i xs xs'
    have : (⟨xs'⟩ : Array Value)[i]? = some v' := by simpa using h1
    simp [Instr.extract, this]
  | _ => simp [evExtract] at he
def evUn (op : UnOp) (x : Value) : Option Value :=
  match op, x with
  | .not, .bool b => some (.bool (!b))
  | .neg, .int k n => some (.int k (k.wrap (0 - n)))
  | .xor, .int k n => some (.int k (k.wrap (BitVec.ofInt k.bits (if k.signed then -1 else k.max) ^^^ BitVec.ofInt k.bits n).toNat))
  | _, _ => none
theorem evUn_ok {E : Env} {op : UnOp} {x x' v : Value} (hx : VRel P E x x') (he : evUn op x = some v) (w : World) : ∃ v', (Op.unary op x').run P w = .ok v' w ∧ VRel P E v v' := by
  cases hx with
  | bool b =>
    cases op <;> simp [evUn] at he
    subst he
    exact ⟨_, by simp [Op.unary], .bool _⟩
  | int k n =>
    cases op <;> simp [evUn] at he
    · subst he
      exact ⟨_, by simp [Op.unary, Op.intArith], .int _ _⟩
    · subst he
      exact ⟨_, by simp [Op.unary, Op.intBits], .int _ _⟩
  | _ => cases op <;> simp [evUn] at he
def intK : Option TypeDesc → Option IntKind
  | some (.int k) => some k
  | _ => none
theorem intK_eq {d : Option TypeDesc} {k : IntKind} (h : intK d = some k) : d = some (.int k) := by
  unfold intK at h; split at h
  · cases h; rfl
  · cases h
def isBytes (T : Tabs) (t : TypeId) : Bool :=
  match sliceElem (T.und t) with
  | some e => match intK (T.und e) with
    | some .u8 => true
    | _ => false
  | none => false
theorem isBytes_eq (hT : T.Good P) {t : TypeId} (h : isBytes T t = true) : ∃ e, P.underlying t = some (.slice e) ∧ P.underlying e = some (.int .u8) := by
  unfold isBytes at h
  rw [hT.und] at h
  split at h
  · rename_i e he
    rw [hT.und] at h
    split at h
    · rename_i hk
      exact ⟨e, sliceElem_eq he, intK_eq hk⟩
    · cases h
  · cases h
def u8s : List Value → Option (List Int)
  | [] => some []
  | .int .u8 n :: r => match u8s r with
    | some l => some (n :: l)
    | none => none
  | _ :: _ => none
theorem u8s_rel {E : Env} : ∀ {vs vs' : List Value} {ns : List Int}, LRel P E vs vs' → u8s vs = some ns → vs' = ns.map (Value.int .u8) := by
  intro vs
  induction vs with
  | nil => intro vs' ns h e; cases h; simp [u8s] at e; subst e; rfl
  | cons v r ih =>
    intro vs' ns h e
    cases h with
    | cons a b =>
      cases a with
      | int k n =>
        cases k <;> simp only [u8s] at e <;> (try (cases e; done))
        split at e
        · rename_i l hl
          cases e
          rw [ih b hl]; rfl
        · cases e
      | _ => simp [u8s] at e
def evConv (T : Tabs) (σ : St) (s d : TypeId) (x : Value) : Option Value :=
  match x with
  | .int _ n => match intK (T.und d), T.und s with
    | some k, some _ => some (.int k (k.wrap n))
    | _, _ => none
  | .string b => cond (isStr (T.und d) && isStr (T.und s)) (some (.string b)) none
  | .slice none 0 0 => cond (isStr (T.und d) && isBytes T s) (some (.string ByteArray.empty)) none
  | .slice (some ⟨i, o, sp⟩) len _ => cond (!markE sp && isStr (T.und d) && isBytes T s)
      (match σ.ld i o len with
      | some vs => match u8s vs with
        | some l => some (.string (strOfNums l))
        | none => none
      | none => none) none
  | _ => none
theorem evConv_ok (hT : T.Good P) {E : Env} {σ : St} {w : World} (h : Rel P B w0 E σ w) {s d : TypeId} {x x' v : Value} (hx : VRel P E x x') (he : evConv T σ s d x = some v) :
    ∃ v', (convert s d x').run P w = .ok v' w ∧ VRel P E v v' := by
  cases hx with
  | int k n =>
    simp only [evConv, hT.und] at he
    split at he
    · rename_i k2 ds hk hs
      cases he
      have hd := intK_eq hk
      refine ⟨_, ?_, .int _ _⟩
      simp [convert, run_underlying hd, run_underlying hs, Conv.intToInt]
    · cases he
  | string b =>
    simp only [evConv, hT.und] at he
    cases hc : (isStr (P.underlying d) && isStr (P.underlying s)) with
    | false => rw [hc] at he; cases he
    | true =>
      rw [hc] at he; cases he
      simp only [Bool.and_eq_true] at hc
      have h1 := isStr_eq hc.1
      have h2 := isStr_eq hc.2
      exact ⟨_, by simp [convert, run_underlying h1, run_underlying h2], .string _⟩
  | nilSlice =>
    simp only [evConv, hT.und] at he
    cases hc : (isStr (P.underlying d) && isBytes T s) with
    | false => rw [hc] at he; cases he
    | true =>
      rw [hc] at he; cases he
      simp only [Bool.and_eq_true] at hc
      have h1 := isStr_eq hc.1
      obtain ⟨e, h2, h3⟩ := isBytes_eq hT hc.2
      exact ⟨_, run_convert_bytes_nil w s e h2 h3 0 0 d h1, .string _⟩
  | empty => simp [evConv, markE] at he
  | @slice i o n c c' sp l hil hsp a1 a2 a3 =>
    simp only [evConv, hT.und] at he
    cases hc : (!markE sp && isStr (P.underlying d) && isBytes T s) with
    | false => rw [hc] at he; cases he
    | true =>
      rw [hc] at he
      simp only [Bool.and_eq_true] at hc
      have h1 := isStr_eq hc.1.2
      obtain ⟨e, h2, h3⟩ := isBytes_eq hT hc.2
      simp only [cond_true] at he
      split at he
      · rename_i vs hl
        split at he
        · rename_i ns hns
          cases he
          obtain ⟨a, vs', b, cc⟩ := h.ld hil hl
          have hvs := u8s_rel b hns
          subst hvs
          have hlen : ns.length = n := by have := b.length; simp at this; omega
          refine ⟨_, run_convert_bytes_arg w s e h2 h3 l.b (o + l.d) n c' ns hlen (fun i hi => ?_) d h1, .string _⟩
          have := cc i (.int .u8 (ns.getD i 0)) (by simp [List.getElem?_eq_getElem (show i < ns.length by omega), List.getD_eq_getElem?_getD])
          rwa [add_none] at this
        · cases he
      · cases he
  | _ => simp [evConv] at he
def evLen (T : Tabs) (t : TypeId) (x : Value) : Option Value :=
  match x with
  | .string s => cond (isStr (T.und t)) (some (.int .i64 s.size)) none
  | .slice _ n _ => match sliceElem (T.und t) with
    | some _ => some (.int .i64 n)
    | none => none
  | _ => none
theorem evLen_ok (hT : T.Good P) {E : Env} {t ty : TypeId} {x x' v : Value} (hx : VRel P E x x') (he : evLen T t x = some v) (w : World) :
    ∃ v', (Builtin.len_ #[t] ty #[x']).run P w = .ok v' w ∧ VRel P E v v' := by
  have sl : ∀ (a : Option Addr) (n c : Nat), (match sliceElem (T.und t) with | some _ => some (Value.int .i64 n) | none => none) = some v → ∃ v', (Builtin.len_ #[t] ty #[.slice a n c]).run P w = .ok v' w ∧ VRel P E v v' := by
    intro a n c he
    rw [hT.und] at he
    split at he
    · rename_i e hse
      cases he
      have hu := sliceElem_eq hse
      exact ⟨_, by simp [Builtin.len_, run_underlying hu, goInt], .int _ _⟩
    · cases he
  cases hx with
  | string s =>
    simp only [evLen, hT.und] at he
    cases hs : isStr (P.underlying t) with
    | false => rw [hs] at he; cases he
    | true =>
      rw [hs] at he; cases he
      have hu := isStr_eq hs
      exact ⟨_, by simp [Builtin.len_, run_underlying hu, goInt], .int _ _⟩
  | nilSlice => exact sl none 0 0 he
  | slice a b c d f => exact sl _ _ _ he
  | empty => exact sl _ _ _ he
  | _ => simp [evLen] at he
def minAcc (mx : Bool) (k : IntKind) : Int → List Value → Option Value
  | a, [] => some (.int k a)
  | a, .int _ b :: r => minAcc mx k (bif mx then (if b > a then b else a) else (if b < a then b else a)) r
  | _, _ :: _ => none
def evMin (mx : Bool) : List Value → Option Value
  | .int k a :: r => minAcc mx k a r
  | _ => none
theorem minAcc_max (E : Env) (w : World) (k : IntKind) : ∀ (r r' : List Value) (a : Int) (v : Value), LRel P E r r' → minAcc true k a r = some v →
    ∃ v', (r'.foldlM Builtin.max2 (.int k a)).run P w = .ok v' w ∧ VRel P E v v'
  | [], r', a, v, h, he => by
    cases h
    simp [minAcc] at he; subst he
    exact ⟨_, rfl, .int _ _⟩
  | x :: r, r', a, v, h, he => by
    cases h with
    | cons c d =>
      cases c with
      | int k' b =>
        simp only [minAcc, cond_true] at he
        obtain ⟨v', h1, h2⟩ := minAcc_max E w k r _ _ v d he
        exact ⟨v', by simpa [Builtin.max2] using h1, h2⟩
      | _ => simp [minAcc] at he
theorem minAcc_min (E : Env) (w : World) (k : IntKind) : ∀ (r r' : List Value) (a : Int) (v : Value), LRel P E r r' → minAcc false k a r = some v →
    ∃ v', (r'.foldlM Builtin.min2 (.int k a)).run P w = .ok v' w ∧ VRel P E v v'
  | [], r', a, v, h, he => by
    cases h
    simp [minAcc] at he; subst he
    exact ⟨_, rfl, .int _ _⟩
  | x :: r, r', a, v, h, he => by
    cases h with
    | cons c d =>
      cases c with
      | int k' b =>
        simp only [minAcc, cond_false] at he
        obtain ⟨v', h1, h2⟩ := minAcc_min E w k r _ _ v d he
        exact ⟨v', by simpa [Builtin.min2] using h1, h2⟩
      | _ => simp [minAcc] at he
theorem evMin_max {E : Env} {ts : Array TypeId} {ty : TypeId} {xs xs' : List Value} {v : Value} (h : LRel P E xs xs') (he : evMin true xs = some v) (w : World) :
    ∃ v', (Builtin.max_ ts ty ⟨xs'⟩).run P w = .ok v' w ∧ VRel P E v v' := by
  cases h with
  | nil => simp [evMin] at he
  | cons a b =>
    cases a with
    | int k m => exact minAcc_max E w k _ _ m v b he
    | _ => simp [evMin] at he
theorem evMin_min {E : Env} {ts : Array TypeId} {ty : TypeId} {xs xs' : List Value} {v : Value} (h : LRel P E xs xs') (he : evMin false xs = some v) (w : World) :
    ∃ v', (Builtin.min_ ts ty ⟨xs'⟩).run P w = .ok v' w ∧ VRel P E v v' := by
  cases h with
  | nil => simp [evMin] at he
  | cons a b =>
    cases a with
    | int k m => exact minAcc_min E w k _ _ m v b he
    | _ => simp [evMin] at he
end Go.Ev
end
end

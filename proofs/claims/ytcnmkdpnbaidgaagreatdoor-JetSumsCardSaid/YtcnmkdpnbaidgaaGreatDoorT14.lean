/- Part of the proof that whatever the two series: JetSums answers true -/
import Derived.Test.YtcnmkdpnbaidgaaGreatDoorT13
set_option linter.all false
noncomputable section
section
namespace Go.Sx.Tz
open Go Go.Ev Go.Ev.Tz Go.Sx Go.Proofs Go.RowKit Go.ChangeShapes Go.WideShapes Go.Proofs.YtcnmkdpnbaidgaaGreatDoor
attribute [local irreducible] Tryz.types Tryz.funcs
theorem ar0 {W : World} (h : GlobsAt W) : Ar Tryz.prog cxA.T X W gE (withGlob 13 []) (fun _ => none) := by
  have hg : ∀ i o, (withGlob 13 []).get i = some o → (∃ e cs l p k, o = .cells e cs true l p k) ∧ i < 13 := fun i o q => by
    have hm := globs_get q
    simp only [globs, List.mem_cons, Prod.mk.injEq, List.not_mem_nil, or_false] at hm
    rcases hm with ⟨rfl, rfl⟩ | ⟨rfl, rfl⟩ | ⟨rfl, rfl⟩ | ⟨rfl, rfl⟩ | ⟨rfl, rfl⟩ | ⟨rfl, rfl⟩ | ⟨rfl, rfl⟩ | ⟨rfl, rfl⟩ | ⟨rfl, rfl⟩ | ⟨rfl, rfl⟩ <;> exact ⟨⟨_, _, _, _, _, rfl⟩, by decide⟩
  exact ⟨rel_globs h, fun i o q => (hg i o q).1, ⟨fun i o q => (by cases q), fun i o q => (hg i o q).2, fun g row q => (by cases q)⟩, gE_glob⟩
def errR : ByteArray := ⟨#[118, 97, 108, 117, 101, 32, 111, 117, 116, 32, 111, 102, 32, 114, 97, 110, 103, 101]⟩
def errS : ByteArray := ⟨#[105, 110, 118, 97, 108, 105, 100, 32, 115, 121, 110, 116, 97, 120]⟩
def blocks13 (lo : Nat) : List Obj := [.cells ⟨g0⟩ 258, .cells ⟨g1⟩ 261, .cells #[.int .i64 0] 3, .cells ⟨g3⟩ 316, .cells ⟨g4⟩ 352, .cells ⟨g5⟩ 364, .cells ⟨g6⟩ 367, .cells #[.iface 426 (.pointer (some ⟨lo + 1, 0, none⟩))] 252,
  .cells #[.iface 426 (.pointer (some ⟨lo, 0, none⟩))] 252, .cells ⟨g9⟩ 415, .cells ⟨g10⟩ 423, .cells ⟨g11⟩ 429, .cells ⟨g12⟩ 430]
noncomputable def laidWorld (os : Os) : World :=
  let w0 := World.holding Tryz.prog os ⟨#[.cells #[.string errR] 428, .cells #[.string errS] 428], #[], []⟩
  { w0 with heap := ⟨blocks13 18 ++ w0.heap.toList.drop 13⟩ }
noncomputable def calledW (os : Os) (args : Array Value) : World := ((laidWorld os).forCall (fun _ _ => 0) ⟨#[], args, []⟩).memory
set_option maxRecDepth 100000
def lrow (b n : Nat) : List MemPlace := MemPlace.row ⟨b, 0, none⟩ n
def places : List MemPlace := lrow 11 32 ++ (lrow 12 64 ++ (lrow 9 20 ++ (lrow 6 32 ++ (lrow 8 1 ++ lrow 18 1 ++ (lrow 7 1 ++ lrow 19 1 ++ (lrow 3 4 ++ (lrow 1 4 ++ (lrow 0 216 ++ (lrow 4 24 ++ (lrow 10 24 ++ (lrow 5 256 ++ [])))))))))))
theorem laid_run (os : Os) (args : Array Value) : DataW.laidRun Tryz.prog (calledW os args) 8 (Rows.dualUnitsRow.laid.map (·.1)) = some (Rows.dualUnitsRow.laid, places) := by kernel_rfl
theorem laid_rows (os : Os) (args : Array Value) : laidRowsB Tryz.prog (calledW os args) places = true := by kernel_rfl
def rank : Nat → Nat
  | 11 => 0
  | 12 => 1
  | 9 => 2
  | 6 => 3
  | 8 => 4
  | 18 => 5
  | 7 => 6
  | 19 => 7
  | 3 => 8
  | 1 => 9
  | 0 => 10
  | 4 => 11
  | 10 => 12
  | _ => 13
def keyP : MemPlace → Nat
  | .cell b o => rank b * 1000 + o
  | .map _ => 0
def rising : Nat → List MemPlace → Bool
  | _, [] => true
  | n, p :: r => Nat.blt n (keyP p + 1) && rising (keyP p + 1) r
theorem rising_lt : ∀ {l : List MemPlace} {n : Nat}, rising n l = true → ∀ p, p ∈ l → n ≤ keyP p
  | q :: r, n, h, p, hp => by
    simp only [rising, Bool.and_eq_true] at h
    have h1 : n < keyP q + 1 := Nat.le_of_ble_eq_true h.1
    rcases List.mem_cons.1 hp with rfl | hp
    · omega
    · have := rising_lt h.2 p hp
      omega
theorem rising_nodup : ∀ {l : List MemPlace} {n : Nat}, rising n l = true → l.Nodup
  | [], _, _ => List.nodup_nil
  | q :: r, n, h => by
    simp only [rising, Bool.and_eq_true] at h
    refine List.nodup_cons.2 ⟨fun hq => ?_, rising_nodup h.2⟩
    have := rising_lt h.2 q hq
    omega
theorem laid_nodup : places.Nodup := rising_nodup (n := 0) (by kernel_rfl)
theorem laid_met (os : Os) (args : Array Value) : laidMet Tryz.prog Rows.dualUnitsRow.laid (calledW os args) := laidMet_of_run 8 (laid_run os args) (decide_eq_true laid_nodup) (laid_rows os args)
theorem wit_vars (os : Os) (args : Array Value) : ((laidWorld os).forCall (fun _ _ => 0) ⟨#[], args, []⟩).variablesB Tryz.checked.prog = true := by kernel_rfl
theorem wit_rest (os : Os) (args : Array Value) : (((laidWorld os).forCall (fun _ _ => 0) ⟨#[], args, []⟩).heap.toList.drop Tryz.checked.prog.globals.size).take ((begin Tryz.checked.prog (fun _ _ => 0) default).world.heap.size - Tryz.checked.prog.globals.size) =
      (begin Tryz.checked.prog (fun _ _ => 0) default).world.heap.toList.drop Tryz.checked.prog.globals.size := by kernel_rfl
end Go.Sx.Tz
end
end

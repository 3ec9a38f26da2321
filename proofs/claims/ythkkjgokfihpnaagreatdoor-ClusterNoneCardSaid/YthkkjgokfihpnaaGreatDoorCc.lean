/- ClusterNone runs true for whatever step and number, by the kernel. -/
import Derived.Test.YthkkjgokfihpnaaGreatDoorCb
import Derived.KernelRfl
set_option linter.all false
namespace Go.Ev.Gd
open Go
set_option maxRecDepth 1000000
noncomputable def runN (k r a n : Int) (sl : CV) (i : Int) : Option Unit := (sem Em Unit 100000).callv (.o (.fn 7)) [stp k r a n sl, .cv (.int .i64 i)] H4 (giveF (.cv (.bool true)))
def isU : Option Unit → Bool | some _ => true | none => false
def kinds (m : Nat) : List Int := [.negSucc m, .ofNat 0, .ofNat 1, .ofNat 2, .ofNat 3, .ofNat 4, .ofNat 5, .ofNat 6, .ofNat 7, .ofNat (m + 8)]
theorem nLong (k r a n i : Int) (m c : Nat) : runN k r a n (.slice 3 0 1 (m + 13) (some c)) i = some () := by kernel_rfl
theorem nNil (m : Nat) (r a n i : Int) : ((kinds m).all fun k => isU (runN k r a n (.oth .nilS) i)) = true := by kernel_rfl
theorem nA0 (m : Nat) (r a n i : Int) (c : Nat) : ((kinds m).all fun k => isU (runN k r a n (.slice 3 0 1 0 (some c)) i)) = true := by kernel_rfl
theorem nA1 (m : Nat) (r a n i : Int) (c : Nat) : ((kinds m).all fun k => isU (runN k r a n (.slice 3 0 1 1 (some c)) i)) = true := by kernel_rfl
theorem nA2 (m : Nat) (r a n i : Int) (c : Nat) : ((kinds m).all fun k => isU (runN k r a n (.slice 3 0 1 2 (some c)) i)) = true := by kernel_rfl
theorem nA3 (m : Nat) (r a n i : Int) (c : Nat) : ((kinds m).all fun k => isU (runN k r a n (.slice 3 0 1 3 (some c)) i)) = true := by kernel_rfl
theorem nA4 (m : Nat) (r a n i : Int) (c : Nat) : ((kinds m).all fun k => isU (runN k r a n (.slice 3 0 1 4 (some c)) i)) = true := by kernel_rfl
theorem nA5 (m : Nat) (r a n i : Int) (c : Nat) : ((kinds m).all fun k => isU (runN k r a n (.slice 3 0 1 5 (some c)) i)) = true := by kernel_rfl
theorem nA6 (m : Nat) (r a n i : Int) (c : Nat) : ((kinds m).all fun k => isU (runN k r a n (.slice 3 0 1 6 (some c)) i)) = true := by kernel_rfl
theorem nA7 (m : Nat) (r a n i : Int) (c : Nat) : ((kinds m).all fun k => isU (runN k r a n (.slice 3 0 1 7 (some c)) i)) = true := by kernel_rfl
theorem nA8 (m : Nat) (r a n i : Int) (c : Nat) : ((kinds m).all fun k => isU (runN k r a n (.slice 3 0 1 8 (some c)) i)) = true := by kernel_rfl
theorem nA9 (m : Nat) (r a n i : Int) (c : Nat) : ((kinds m).all fun k => isU (runN k r a n (.slice 3 0 1 9 (some c)) i)) = true := by kernel_rfl
theorem nA10 (m : Nat) (r a n i : Int) (c : Nat) : ((kinds m).all fun k => isU (runN k r a n (.slice 3 0 1 10 (some c)) i)) = true := by kernel_rfl
theorem nA11 (m : Nat) (r a n i : Int) (c : Nat) : ((kinds m).all fun k => isU (runN k r a n (.slice 3 0 1 11 (some c)) i)) = true := by kernel_rfl
theorem nA12 (m : Nat) (r a n i : Int) (c : Nat) : ((kinds m).all fun k => isU (runN k r a n (.slice 3 0 1 12 (some c)) i)) = true := by kernel_rfl
theorem nAll (m : Nat) (r a n i : Int) (c : Nat) (len : Nat) (h : len < 13) : ((kinds m).all fun k => isU (runN k r a n (.slice 3 0 1 len (some c)) i)) = true := by
  match len, h with
  | 0, _ => exact nA0 m r a n i c
  | 1, _ => exact nA1 m r a n i c
  | 2, _ => exact nA2 m r a n i c
  | 3, _ => exact nA3 m r a n i c
  | 4, _ => exact nA4 m r a n i c
  | 5, _ => exact nA5 m r a n i c
  | 6, _ => exact nA6 m r a n i c
  | 7, _ => exact nA7 m r a n i c
  | 8, _ => exact nA8 m r a n i c
  | 9, _ => exact nA9 m r a n i c
  | 10, _ => exact nA10 m r a n i c
  | 11, _ => exact nA11 m r a n i c
  | 12, _ => exact nA12 m r a n i c
theorem kinds_mem (k : Int) : ∃ m, k ∈ kinds m := by
  match k with
  | .negSucc m => exact ⟨m, by simp [kinds]⟩
  | .ofNat 0 | .ofNat 1 | .ofNat 2 | .ofNat 3 | .ofNat 4 | .ofNat 5 | .ofNat 6 | .ofNat 7 => exact ⟨0, by simp [kinds]⟩
  | .ofNat (m + 8) => exact ⟨m, by simp [kinds]⟩
theorem isU_some {x : Option Unit} (h : isU x = true) : x = some () := by
  cases x with
  | none => cases h
  | some u => rfl
theorem n_nil (k r a n i : Int) : runN k r a n (.oth .nilS) i = some () := by
  obtain ⟨m, hm⟩ := kinds_mem k
  exact isU_some (List.all_eq_true.1 (nNil m r a n i) k hm)
theorem n_slice (k r a n i : Int) (len c : Nat) : runN k r a n (.slice 3 0 1 len (some c)) i = some () := by
  rcases Nat.lt_or_ge len 13 with h | h
  · obtain ⟨m, hm⟩ := kinds_mem k
    exact isU_some (List.all_eq_true.1 (nAll m r a n i c len h) k hm)
  · obtain ⟨m, rfl⟩ : ∃ m, len = m + 13 := ⟨len - 13, by omega⟩
    exact nLong k r a n i m c
end Go.Ev.Gd

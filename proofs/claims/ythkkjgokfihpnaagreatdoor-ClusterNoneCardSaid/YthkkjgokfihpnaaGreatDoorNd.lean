/- ClusterNone: for every input the law returns true and its arguments read behind the call as before; the listed variables are tied to the program's text. No further condition. -/
import Derived.Test.YthkkjgokfihpnaaGreatDoorNc
import Derived.Test.YthkkjgokfihpnaaGreatDoorFa
import Derived.Test.YthkkjgokfihpnaaGreatDoorFb
import Derived.SevenTiedAt
set_option linter.all false
namespace Go.Ev.Gd
open Go Go.Proofs Go.RowKit Go.ChangeShapes Go.WideShapes Go.ChangeAt
open Go.Proofs.YthkkjgokfihpnaaGreatDoor
set_option maxRecDepth 1000000
theorem and_i {a b : Bool} (h : a = true) (g : b = true) : (a && b) = true := by rw [h, g]; rfl
theorem closed7 : joinedFacts Tryz.prog 7 Tryz.f7 (OpenSpec.ofChange Rows.clusterNoneSpec).bare Rows.clusterNoneRow = true := by
  unfold joinedFacts
  exact and_i (and_i (and_i (and_i (and_i (and_i (and_i (and_i (and_i (and_i (and_i (and_i (and_i (and_i (and_i (and_i (and_i (and_i (and_i (and_i (and_i (and_i (and_i (and_i (and_i (and_i (and_i (and_i (and_i (and_i (and_i (by kernel_rfl) (laidOut)) (f_rowed)) (by kernel_rfl)) (by kernel_rfl)) (rfl)) (by kernel_rfl)) (rfl)) (by kernel_rfl)) (f_inPlace)) (f_unf)) (f_rec)) (f_named)) (by kernel_rfl)) (by kernel_rfl)) (by kernel_rfl)) (by kernel_rfl)) (by kernel_rfl)) (by kernel_rfl)) (by kernel_rfl)) (by kernel_rfl)) (by kernel_rfl)) ((by rw [f_plainKeys]; rfl))) (rfl)) (f_heard)) (f_enter)) (f_lifts)) (f_make)) (by kernel_rfl)) (by kernel_rfl)) (by kernel_rfl)) (by kernel_rfl)
theorem said : Rows.ClusterNoneSaid :=
  OpenClaim.holds_of_cond 7 Tryz.f7 rfl rfl rfl rfl rfl rfl rfl ⟨rfl, rfl, rfl, rfl, rfl⟩ rfl rfl rfl rfl rfl (by kernel_rfl) Tryz.func7 closed7
    (of_decide_eq_true (by kernel_rfl)) (by unfold Func.isWrapper; first | (rw [if_pos (by decide +kernel)]; kernel_rfl) | (rw [if_neg (by decide +kernel)]; exact ⟨rfl, rfl⟩))
    (fun os started H enc _ F => by rw [OpenClaim.pre_eq_preRow]; exact lifted os started H enc F)
end Go.Ev.Gd

namespace Go.Ev.Gd
open Go Go.Proofs
open Go.Proofs.YthkkjgokfihpnaaGreatDoor
set_option maxRecDepth 1000000
theorem f_looks : true = Tryz.prog.looks [] := by kernel_rfl
theorem plain7 (f : FuncId) (fn : Func) (hf : Tryz.pinned.checked.prog.funcNamed "redpencil/redpencillaw30.ClusterNone" = some f) (hfn : Tryz.pinned.checked.prog.funcs[f]? = some fn) :
    true = Tryz.pinned.checked.prog.looks [] ∧ ∀ (j : Nat) t, fn.params[j]? = some t → Tryz.pinned.checked.prog.wantsStandIn t = false := by
  obtain rfl : f = 7 := Option.some.inj ((show Tryz.prog.funcNamed "redpencil/redpencillaw30.ClusterNone" = some 7 by kernel_rfl).symm.trans hf) |>.symm
  obtain rfl : fn = Tryz.f7 := (Option.some.inj (Tryz.func7.symm.trans hfn)).symm
  refine ⟨f_looks, fun j t ht => ?_⟩
  rw [params7] at ht
  have : t = 37 ∨ t = 3 := by simpa using Array.mem_of_getElem? ht
  rcases this with rfl | rfl
  · exact (show Tryz.prog.wantsStandIn 37 = false by kernel_rfl)
  · exact (show Tryz.prog.wantsStandIn 3 = false by kernel_rfl)
theorem card : Rows.ClusterNoneCardSaid :=
  Claim7.holds_tied_plain_at .later [] _ _ _ _ said (fun _ h => by cases h) (by kernel_rfl) (fun _ h => by cases h) clusterNone_row_tie rfl ⟨rfl, rfl⟩ (by kernel_rfl) rfl plain7 (goesBy_none rfl)
end Go.Ev.Gd

namespace Go.Proofs.YthkkjgokfihpnaaGreatDoor
theorem clusterNone_card : Rows.ClusterNoneCardSaid := Go.Ev.Gd.card
#print axioms clusterNone_card
end Go.Proofs.YthkkjgokfihpnaaGreatDoor

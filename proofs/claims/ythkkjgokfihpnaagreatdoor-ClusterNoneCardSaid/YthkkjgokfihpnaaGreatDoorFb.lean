/- Closed facts of the row: no go statement; the rest. -/
import Derived.Test.YthkkjgokfihpnaaGreatDoorCards
import Derived.KernelRfl
import Derived.JoinedCond
set_option linter.all false
namespace Go.Ev.Gd
open Go Go.Proofs
open Go.Proofs.YthkkjgokfihpnaaGreatDoor
set_option maxRecDepth 1000000
theorem noGo : Tryz.prog.funcs.toList.any Func.goes = false := by kernel_rfl
theorem goes_none {P : Program} (h : P.funcs.toList.any Func.goes = false) (f : FuncId) : P.goes f = false := by
  have key : ∀ g : FuncId, (P.funcs[g]?).any Func.goes = false := by
    intro g
    cases hg : P.funcs[g]? with
    | none => rfl
    | some fn =>
      rw [List.any_eq_false] at h
      have := h fn (by simpa using Array.mem_of_getElem? hg)
      simpa using this
  unfold Program.goes
  rw [Bool.or_eq_false_iff]
  refine ⟨?_, ?_⟩
  · rw [List.any_eq_false]
    intro g _
    rw [key g]
    simp
  · rw [Bool.and_eq_false_iff]
    right
    rw [← Array.any_toList]
    exact h
theorem goesBy_none {c : OpenClaim} (hs : c.start = .entering) : false = c.goesBy Tryz.pinned.checked.prog := by
  show false = c.goesBy Tryz.prog
  unfold OpenClaim.goesBy Program.goesAt Program.goesFrom
  rw [hs]
  cases Tryz.prog.funcNamed c.func with
  | none => rfl
  | some f => simp [goes_none noGo f]
end Go.Ev.Gd

namespace Go.Ev.Gd
open Go Go.Proofs
open Go.Proofs.YthkkjgokfihpnaaGreatDoor
set_option maxRecDepth 1000000
theorem f_rowed : mapsRowed Tryz.prog = true := by kernel_rfl
theorem f_heard : Tryz.prog.stopsHeard = true := by kernel_rfl
theorem f_enter : Tryz.prog.mayEnter = true := by kernel_rfl
theorem f_plainKeys : Tryz.prog.plainKeys = false := by kernel_rfl
theorem f_lifts : (Rows.clusterNoneRow.lifted == Tryz.prog.liftsFinal) = true := by kernel_rfl
theorem f_make : (Tryz.prog.make == some Rows.clusterNoneRow.make) = true := by kernel_rfl
end Go.Ev.Gd

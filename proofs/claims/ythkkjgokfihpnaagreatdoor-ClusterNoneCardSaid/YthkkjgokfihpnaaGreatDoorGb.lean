/- Those tables are right, by the kernel. -/
import Derived.Test.YthkkjgokfihpnaaGreatDoorGa
import Derived.Test.YthkkjgokfihpnaaGreatDoorEe
import Derived.KernelRfl
set_option linter.all false
namespace Go.Ev.Gd
open Go Go.Proofs
set_option maxRecDepth 1000000
theorem tyU : tyTree.toL.map (fun x => Tryz.prog.underlying x.1) = tyTree.toL.map (fun x => some x.2.desc) := by kernel_rfl
theorem tyB : tyTree.toL.all (tyB1 Tryz.prog) = true := by kernel_rfl
theorem fnU : fnTree.toL.map (fun x => Tryz.prog.funcs[x.1]?) = fnTree.toL.map (fun x => some x.2) := by kernel_rfl
theorem fnN : fnTree.toL.all (fun x => x.2.name != "runtime.NumGoroutine") = true := by kernel_rfl
theorem follows : Tryz.prog.follows .mixedOrders = true := by kernel_rfl
end Go.Ev.Gd

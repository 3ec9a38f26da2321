/- Runs of known()'s calls by the kernel. -/
import Derived.Test.YthkkjgokfihpnaaGreatDoorKb
import Derived.KernelRfl
set_option linter.all false
namespace Go.Ev.Gd
open Go
set_option maxRecDepth 1000000
theorem run5 : (sem E5 Unit 100000).callv (.o (.fn cp5.f)) cp5.args cp5.H (chk cp5.v cp5.H') = some () := by kernel_rfl
end Go.Ev.Gd

namespace Go.Ev.Gd
open Go
set_option maxRecDepth 1000000
theorem run7 : (sem E5 Unit 100000).callv (.o (.fn cp7.f)) cp7.args cp7.H (chk cp7.v cp7.H') = some () := by kernel_rfl
end Go.Ev.Gd

namespace Go.Ev.Gd
open Go
set_option maxRecDepth 1000000
theorem run9 : (sem E5 Unit 100000).callv (.o (.fn cp9.f)) cp9.args cp9.H (chk cp9.v cp9.H') = some () := by kernel_rfl
end Go.Ev.Gd

/- Runs of known()'s calls by the kernel. -/
import Derived.Test.YthkkjgokfihpnaaGreatDoorKb
import Derived.KernelRfl
set_option linter.all false
namespace Go.Ev.Gd
open Go
set_option maxRecDepth 1000000
theorem run27 : (sem E5 Unit 100000).callv (.o (.fn cp27.f)) cp27.args cp27.H (chk cp27.v cp27.H') = some () := by kernel_rfl
end Go.Ev.Gd

namespace Go.Ev.Gd
open Go
set_option maxRecDepth 1000000
theorem run29 : (sem E5 Unit 100000).callv (.o (.fn cp29.f)) cp29.args cp29.H (chk cp29.v cp29.H') = some () := by kernel_rfl
end Go.Ev.Gd

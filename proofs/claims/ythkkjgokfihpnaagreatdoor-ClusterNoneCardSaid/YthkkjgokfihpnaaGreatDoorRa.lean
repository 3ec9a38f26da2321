/- Runs of known()'s calls by the kernel. -/
import Derived.Test.YthkkjgokfihpnaaGreatDoorKa
import Derived.KernelRfl
import Derived.Test.YthkkjgokfihpnaaGreatDoorKb
set_option linter.all false
namespace Go.Ev.Gd
open Go
set_option maxRecDepth 1000000
theorem runM : (sem Ec Unit 100000).callv (.o (.fn 454)) [] Hz (giveF (.agg crcT)) = some () := by kernel_rfl
end Go.Ev.Gd

namespace Go.Ev.Gd
open Go
set_option maxRecDepth 1000000
theorem run1 : (sem E5 Unit 100000).callv (.o (.fn cp1.f)) cp1.args cp1.H (chk cp1.v cp1.H') = some () := by kernel_rfl
end Go.Ev.Gd

namespace Go.Ev.Gd
open Go
set_option maxRecDepth 1000000
theorem run3 : (sem E5 Unit 100000).callv (.o (.fn cp3.f)) cp3.args cp3.H (chk cp3.v cp3.H') = some () := by kernel_rfl
end Go.Ev.Gd

/- Runs of known()'s calls by the kernel. -/
import Derived.Test.YthkkjgokfihpnaaGreatDoorKb
import Derived.KernelRfl
set_option linter.all false
namespace Go.Ev.Gd
open Go
set_option maxRecDepth 1000000
theorem run11 : (sem E5 Unit 100000).callv (.o (.fn cp11.f)) cp11.args cp11.H (chk cp11.v cp11.H') = some () := by kernel_rfl
end Go.Ev.Gd

namespace Go.Ev.Gd
open Go
set_option maxRecDepth 1000000
theorem run15 : (sem E5 Unit 100000).callv (.o (.fn cp15.f)) cp15.args cp15.H (chk cp15.v cp15.H') = some () := by kernel_rfl
end Go.Ev.Gd

namespace Go.Ev.Gd
open Go
set_option maxRecDepth 1000000
theorem run19 : (sem E5 Unit 100000).callv (.o (.fn cp19.f)) cp19.args cp19.H (chk cp19.v cp19.H') = some () := by kernel_rfl
end Go.Ev.Gd

namespace Go.Ev.Gd
open Go
set_option maxRecDepth 1000000
theorem run21 : (sem E5 Unit 100000).callv (.o (.fn cp21.f)) cp21.args cp21.H (chk cp21.v cp21.H') = some () := by kernel_rfl
end Go.Ev.Gd

namespace Go.Ev.Gd
open Go
set_option maxRecDepth 1000000
theorem run23 : (sem E5 Unit 100000).callv (.o (.fn cp23.f)) cp23.args cp23.H (chk cp23.v cp23.H') = some () := by kernel_rfl
end Go.Ev.Gd

/- Runs of known()'s calls by the kernel, and known() over its checkpoints. -/
import Derived.Test.YthkkjgokfihpnaaGreatDoorKb
import Derived.KernelRfl
set_option linter.all false
namespace Go.Ev.Gd
open Go
set_option maxRecDepth 1000000
theorem run31 : (sem E5 Unit 100000).callv (.o (.fn cp31.f)) cp31.args cp31.H (chk cp31.v cp31.H') = some () := by kernel_rfl
end Go.Ev.Gd

namespace Go.Ev.Gd
open Go
set_option maxRecDepth 1000000
theorem run33 : (sem E5 Unit 100000).callv (.o (.fn cp33.f)) cp33.args cp33.H (chk cp33.v cp33.H') = some () := by kernel_rfl
end Go.Ev.Gd

namespace Go.Ev.Gd
open Go
set_option maxRecDepth 1000000
theorem run35 : (sem E5 Unit 100000).callv (.o (.fn cp35.f)) cp35.args cp35.H (chk cp35.v cp35.H') = some () := by kernel_rfl
end Go.Ev.Gd

namespace Go.Ev.Gd
open Go
set_option maxRecDepth 1000000
theorem run37 : (sem E5 Unit 100000).callv (.o (.fn cp37.f)) cp37.args cp37.H (chk cp37.v cp37.H') = some () := by kernel_rfl
end Go.Ev.Gd

namespace Go.Ev.Gd
open Go
set_option maxRecDepth 1000000
theorem run38 : (sem E5 Unit 100000).callv (.o (.fn cp38.f)) cp38.args cp38.H (chk cp38.v cp38.H') = some () := by kernel_rfl
end Go.Ev.Gd

namespace Go.Ev.Gd
open Go
set_option maxRecDepth 1000000
theorem run39 : (sem E5 Unit 100000).callv (.o (.fn cp39.f)) cp39.args cp39.H (chk cp39.v cp39.H') = some () := by kernel_rfl
end Go.Ev.Gd

namespace Go.Ev.Gd
open Go
set_option maxRecDepth 1000000
theorem run40 : (sem E5 Unit 100000).callv (.o (.fn cp40.f)) cp40.args cp40.H (chk cp40.v cp40.H') = some () := by kernel_rfl
end Go.Ev.Gd

namespace Go.Ev.Gd
open Go
set_option maxRecDepth 1000000
theorem runK : (sem (E5.cut cps) Unit 100000).callv (.o (.fn 10)) [] H0 (giveF (.cv (.bool true))) = some () := by kernel_rfl
end Go.Ev.Gd

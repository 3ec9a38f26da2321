/- Known() returns true in every world that holds the laid variables. -/
import Derived.Test.YthkkjgokfihpnaaGreatDoorCa
import Derived.Test.YthkkjgokfihpnaaGreatDoorRa
import Derived.Test.YthkkjgokfihpnaaGreatDoorRe
import Derived.Test.YthkkjgokfihpnaaGreatDoorRb
import Derived.Test.YthkkjgokfihpnaaGreatDoorRc
import Derived.Test.YthkkjgokfihpnaaGreatDoorRd
import Derived.Test.YthkkjgokfihpnaaGreatDoorEe
import Derived.KernelRfl
set_option linter.all false
namespace Go.Ev.Gd
open Go Go.Proofs
set_option maxRecDepth 1000000
theorem envc : EnvOk Tryz.prog Ec := envb.with 161 cloneF
theorem plainZ : Plain Ec.nglob Hz := ⟨rfl, fun b _ => rfl, fun b x h => by cases h⟩
theorem env2_5 : EnvOk2 Tryz.prog E5 := with_ok env2c (Go.Ev.closed_ok envc env2c follows plainZ (n := 99999) rfl (by kernel_rfl) runM)
theorem env5 : EnvOk Tryz.prog E5 := envc.with 454 _
theorem cps_ok : ∀ c ∈ cps, CpOk Tryz.prog E5 c := by
  intro c hc
  simp only [cps, List.mem_cons, List.mem_nil_iff, or_false] at hc
  rcases hc with rfl | rfl | rfl | rfl | rfl | rfl | rfl | rfl | rfl | rfl | rfl | rfl | rfl | rfl | rfl | rfl | rfl | rfl | rfl
  · exact cp_ok env5 env2_5 follows (n := 99999) run1
  · exact cp_ok env5 env2_5 follows (n := 99999) run3
  · exact cp_ok env5 env2_5 follows (n := 99999) run5
  · exact cp_ok env5 env2_5 follows (n := 99999) run7
  · exact cp_ok env5 env2_5 follows (n := 99999) run9
  · exact cp_ok env5 env2_5 follows (n := 99999) run11
  · exact cp_ok env5 env2_5 follows (n := 99999) run15
  · exact cp_ok env5 env2_5 follows (n := 99999) run19
  · exact cp_ok env5 env2_5 follows (n := 99999) run21
  · exact cp_ok env5 env2_5 follows (n := 99999) run23
  · exact cp_ok env5 env2_5 follows (n := 99999) run27
  · exact cp_ok env5 env2_5 follows (n := 99999) run29
  · exact cp_ok env5 env2_5 follows (n := 99999) run31
  · exact cp_ok env5 env2_5 follows (n := 99999) run33
  · exact cp_ok env5 env2_5 follows (n := 99999) run35
  · exact cp_ok env5 env2_5 follows (n := 99999) run37
  · exact cp_ok env5 env2_5 follows (n := 99999) run38
  · exact cp_ok env5 env2_5 follows (n := 99999) run39
  · exact cp_ok env5 env2_5 follows (n := 99999) run40
theorem env2K : EnvOk2 Tryz.prog (E5.cut cps) := cut_ok env2_5 cps_ok
theorem envK : EnvOk Tryz.prog (E5.cut cps) := env5.cut cps
theorem plain0 : Plain E5.nglob H0 := by
  have hg : ∀ b x, H0.get b = some x → b < 3 ∧ ∃ cs, x = .row cs false false ∧ cs.all closedC = true := by
    intro b x h
    match b, h with
    | 0, h => cases h; exact ⟨by omega, _, rfl, rfl⟩
    | b + 1, h =>
      exfalso
      unfold H0 Hp.get at h
      rw [Tr.get_n, if_neg (by omega)] at h
      split at h <;> cases h
  refine ⟨rfl, fun b hb => ?_, fun b x h => (hg b x h).2⟩
  cases hx : H0.get b with
  | none => rfl
  | some x => have := (hg b x hx).1; have hn : E5.nglob = 3 := rfl; omega
/-- known() is true -/
theorem known_ok : IntrOk Tryz.prog E5 10 (closedF [] H0 (.cv (.bool true))) :=
  IntrOk.env (E := E5.cut cps) (E' := E5) rfl (Go.Ev.closed_ok envK env2K follows (E := E5.cut cps) (n := 99999) plain0 rfl rfl runK)
end Go.Ev.Gd

namespace Go.Ev.Gd
open Go
set_option maxRecDepth 1000000
noncomputable def En : Env := E5.with 10 (closedF [] H0 (.cv (.bool true)))
noncomputable def H4 : Hp := ⟨4, H0.t⟩
noncomputable def stp (k r a n : Int) (sl : CV) : AV := .agg [.int .i64 k, .int .i64 r, .int .i64 a, .int .i64 n, sl]
end Go.Ev.Gd

namespace Go.Ev.Gd
open Go
set_option maxRecDepth 1000000
noncomputable def fpN : Fp := ⟨11, [.agg ([.int .i64 2, .slice 7 0 2 1 (some 1), .int .i64 8, .int .i64 64, .int .i64 4])], [(0, [.int .i64 0, .int .i64 7, .int .i64 2, .int .i64 8, .int .i64 6, .int .i64 6]), (7, [.int .i64 1, .int .i64 2])], 8, .tup [(false, [.ptr 12 0]), (false, [.int .i64 0])], [(10, .row ([.int .i64 1, .int .i64 2]) true true),
  (11, .row ([.oth .nilS, .int .i64 0]) true false),
  (12, .row ([.int .i64 2, .slice 10 0 2 1 none, .int .i64 8, .int .i64 64, .int .i64 4, .slice 270 0 1 2 none, .ptr 11 0]) true false),
  (21, .row ([.int .i64 2]) true true),
  (22, .row (apz [.int .u8 0, .int .u8 0, .int .u8 0, .int .u8 0, .int .u8 0, .int .u8 0, .int .u8 0, .int .u8 0, .int .u8 0, .int .u8 0, .int .u8 0, .int .u8 0, .int .u8 0, .int .u8 0, .int .u8 0, .int .u8 0, .int .u8 0, .int .u8 0, .int .u8 0, .int .u8 0, .int .u8 0, .int .u8 0, .int .u8 0, .int .u8 0, .int .u8 0, .int .u8 0, .int .u8 0, .int .u8 0, .int .u8 0, .int .u8 0, .int .u8 0, .int .u8 0, .int .u8 0, .int .u8 0, .int .u8 0, .int .u8 0, .int .u8 0, .int .u8 0, .int .u8 0, .int .u8 0, .int .u8 0, .int .u8 0, .int .u8 0, .int .u8 0, .int .u8 0, .int .u8 0, .int .u8 0, .int .u8 0, .int .u8 0, .int .u8 0, .int .u8 0, .int .u8 0, .int .u8 0, .int .u8 0, .int .u8 0, .int .u8 0, .int .u8 0, .int .u8 0, .int .u8 0, .int .u8 0, .int .u8 0, .int .u8 0, .int .u8 0, .int .u8 0, .int .u8 0, .int .u8 0, .int .u8 0, .int .u8 0, .int .u8 0, .int .u8 0, .int .u8 0, .int .u8 0, .int .u8 0, .int .u8 0, .int .u8 0, .int .u8 0, .int .u8 0, .int .u8 0, .int .u8 0, .int .u8 0, .int .u8 0, .int .u8 0, .int .u8 0, .int .u8 0, .int .u8 0, .int .u8 0, .int .u8 0, .int .u8 0, .int .u8 0, .int .u8 0, .int .u8 0, .int .u8 0, .int .u8 0, .int .u8 0, .int .u8 0, .int .u8 0, .int .u8 0, .int .u8 0, .int .u8 0, .int .u8 0, .int .u8 0, .int .u8 0, .int .u8 0, .int .u8 0, .int .u8 0, .int .u8 0, .int .u8 0, .int .u8 0, .int .u8 0, .int .u8 0, .int .u8 0, .int .u8 0, .int .u8 0, .int .u8 0, .int .u8 0, .int .u8 0, .int .u8 0, .int .u8 0, .int .u8 0, .int .u8 0, .int .u8 0, .int .u8 0, .int .u8 0, .int .u8 0, .int .u8 0, .int .u8 0, .int .u8 0, .int .u8 0, .int .u8 0, .int .u8 0, .int .u8 0, .int .u8 0, .int .u8 0, .int .u8 0, .int .u8 0, .int .u8 0, .int .u8 0, .int .u8 0, .int .u8 0, .int .u8 0, .int .u8 0, .int .u8 0, .int .u8 0, .int .u8 0, .int .u8 0, .int .u8 0, .int .u8 0, .int .u8 0, .int .u8 0, .int .u8 0, .int .u8 0, .int .u8 0, .int .u8 0, .int .u8 0, .int .u8 0, .int .u8 0, .int .u8 0, .int .u8 0, .int .u8 0, .int .u8 0, .int .u8 0, .int .u8 0, .int .u8 0, .int .u8 0, .int .u8 0, .int .u8 0, .int .u8 0, .int .u8 0, .int .u8 0, .int .u8 0, .int .u8 0, .int .u8 0, .int .u8 0, .int .u8 0, .int .u8 0, .int .u8 0, .int .u8 0, .int .u8 0, .int .u8 0, .int .u8 0, .int .u8 0, .int .u8 0, .int .u8 0, .int .u8 0, .int .u8 0, .int .u8 0, .int .u8 0, .int .u8 0, .int .u8 0, .int .u8 0, .int .u8 0, .int .u8 0, .int .u8 0, .int .u8 0, .int .u8 0, .int .u8 0, .int .u8 0, .int .u8 0, .int .u8 0, .int .u8 0, .int .u8 0, .int .u8 0, .int .u8 0, .int .u8 0, .int .u8 0, .int .u8 0, .int .u8 0, .int .u8 0, .int .u8 0, .int .u8 0, .int .u8 0, .int .u8 0, .int .u8 0, .int .u8 0, .int .u8 0, .int .u8 0, .int .u8 0, .int .u8 0, .int .u8 0, .int .u8 0, .int .u8 0, .int .u8 0, .int .u8 0, .int .u8 0, .int .u8 0, .int .u8 0, .int .u8 0, .int .u8 0, .int .u8 0, .int .u8 0, .int .u8 0, .int .u8 0, .int .u8 0, .int .u8 0, .int .u8 0, .int .u8 0, .int .u8 0, .int .u8 0, .int .u8 0, .int .u8 0, .int .u8 0, .int .u8 0, .int .u8 0, .int .u8 0, .int .u8 0, .int .u8 0, .int .u8 0, .int .u8 0, .int .u8 0, .int .u8 0, .int .u8 0, .int .u8 0, .int .u8 0, .int .u8 0, .int .u8 0, .int .u8 0, .int .u8 165, .int .u8 0, .int .u8 0, .int .u8 0, .int .u8 0, .int .u8 0, .int .u8 0, .int .u8 0, .int .u8 1, .int .u8 0, .int .u8 0, .int .u8 0, .int .u8 5, .int .u8 116, .int .u8 111, .int .u8 235, .int .u8 142, .int .u8 90, .int .u8 0, .int .u8 0, .int .u8 0, .int .u8 0, .int .u8 0, .int .u8 0, .int .u8 0, .int .u8 0, .int .u8 0, .int .u8 0, .int .u8 0, .int .u8 0, .int .u8 0, .int .u8 0, .int .u8 0, .int .u8 0, .int .u8 0, .int .u8 0, .int .u8 0, .int .u8 0, .int .u8 0, .int .u8 0, .int .u8 0, .int .u8 0, .int .u8 0, .int .u8 0, .int .u8 0, .int .u8 0, .int .u8 0, .int .u8 0, .int .u8 0, .int .u8 0, .int .u8 0, .int .u8 0, .int .u8 0, .int .u8 0, .int .u8 0, .int .u8 0, .int .u8 0, .int .u8 0, .int .u8 0, .int .u8 0, .int .u8 0, .int .u8 0, .int .u8 0, .int .u8 0, .int .u8 1] 191 (.int .u8 0)) true false),
  (23, .row ([.int .i64 64, .slice 22 0 1 512 (some 512)]) true false),
  (24, .row ([.int .i64 1, .slice 21 0 1 1 none, .int .i64 8, .int .i64 64, .int .i64 4, .ptr 23 0, .oth .nilS, .ptr 29 0, .ptr 42 0]) true false),
  (28, .row ([.int .i64 1, .int .i64 0, .int .i64 0]) true false),
  (29, .row ([.ptr 28 0, .int .i64 4]) true false),
  (30, .row ([.int .i64 1, .slice 39 0 4 1 none]) true false),
  (39, .row ([.int .i64 2, .int .i64 0, .int .i64 0, .int .i64 0]) true true),
  (40, .row ([.int .i64 0, .oth .nilS]) true false),
  (41, .map [] 0),
  (42, .row ([.int .i64 1, .int .i64 0, .ptr 40 0, .ptr 30 0, .oth (.map 41)]) true false),
  (150, .row ([.int .i64 1]) true true),
  (151, .row (apz [.int .u8 0, .int .u8 0, .int .u8 0, .int .u8 0, .int .u8 0, .int .u8 0, .int .u8 0, .int .u8 0, .int .u8 0, .int .u8 0, .int .u8 0, .int .u8 0, .int .u8 0, .int .u8 0, .int .u8 0, .int .u8 0, .int .u8 0, .int .u8 0, .int .u8 0, .int .u8 0, .int .u8 0, .int .u8 0, .int .u8 0, .int .u8 0, .int .u8 0, .int .u8 0, .int .u8 0, .int .u8 0, .int .u8 0, .int .u8 0, .int .u8 0, .int .u8 0, .int .u8 0, .int .u8 0, .int .u8 0, .int .u8 0, .int .u8 0, .int .u8 0, .int .u8 0, .int .u8 0, .int .u8 0, .int .u8 0, .int .u8 0, .int .u8 0, .int .u8 0, .int .u8 0, .int .u8 0, .int .u8 0, .int .u8 0, .int .u8 0, .int .u8 0, .int .u8 0, .int .u8 0, .int .u8 0, .int .u8 0, .int .u8 0, .int .u8 0, .int .u8 0, .int .u8 0, .int .u8 0, .int .u8 0, .int .u8 0, .int .u8 0, .int .u8 0, .int .u8 0, .int .u8 0, .int .u8 0, .int .u8 0, .int .u8 0, .int .u8 0, .int .u8 0, .int .u8 0, .int .u8 0, .int .u8 0, .int .u8 0, .int .u8 0, .int .u8 0, .int .u8 0, .int .u8 0, .int .u8 0, .int .u8 0, .int .u8 0, .int .u8 0, .int .u8 0, .int .u8 0, .int .u8 0, .int .u8 0, .int .u8 0, .int .u8 0, .int .u8 0, .int .u8 0, .int .u8 0, .int .u8 0, .int .u8 0, .int .u8 0, .int .u8 0, .int .u8 0, .int .u8 0, .int .u8 0, .int .u8 0, .int .u8 0, .int .u8 0, .int .u8 0, .int .u8 0, .int .u8 0, .int .u8 0, .int .u8 0, .int .u8 0, .int .u8 0, .int .u8 0, .int .u8 0, .int .u8 0, .int .u8 0, .int .u8 0, .int .u8 0, .int .u8 0, .int .u8 0, .int .u8 0, .int .u8 0, .int .u8 0, .int .u8 0, .int .u8 0, .int .u8 0, .int .u8 0, .int .u8 0, .int .u8 0, .int .u8 0, .int .u8 0, .int .u8 0, .int .u8 0, .int .u8 0, .int .u8 0, .int .u8 0, .int .u8 0, .int .u8 0, .int .u8 0, .int .u8 0, .int .u8 0, .int .u8 0, .int .u8 0, .int .u8 0, .int .u8 0, .int .u8 0, .int .u8 0, .int .u8 0, .int .u8 0, .int .u8 0, .int .u8 0, .int .u8 0, .int .u8 0, .int .u8 0, .int .u8 0, .int .u8 0, .int .u8 0, .int .u8 0, .int .u8 0, .int .u8 0, .int .u8 0, .int .u8 0, .int .u8 0, .int .u8 0, .int .u8 0, .int .u8 0, .int .u8 0, .int .u8 0, .int .u8 0, .int .u8 0, .int .u8 0, .int .u8 0, .int .u8 0, .int .u8 0, .int .u8 0, .int .u8 0, .int .u8 0, .int .u8 0, .int .u8 0, .int .u8 0, .int .u8 0, .int .u8 0, .int .u8 0, .int .u8 0, .int .u8 0, .int .u8 0, .int .u8 0, .int .u8 0, .int .u8 0, .int .u8 0, .int .u8 0, .int .u8 0, .int .u8 0, .int .u8 0, .int .u8 0, .int .u8 0, .int .u8 0, .int .u8 0, .int .u8 0, .int .u8 0, .int .u8 0, .int .u8 0, .int .u8 0, .int .u8 0, .int .u8 0, .int .u8 0, .int .u8 0, .int .u8 0, .int .u8 0, .int .u8 0, .int .u8 0, .int .u8 0, .int .u8 0, .int .u8 0, .int .u8 0, .int .u8 0, .int .u8 0, .int .u8 0, .int .u8 0, .int .u8 0, .int .u8 0, .int .u8 0, .int .u8 0, .int .u8 0, .int .u8 0, .int .u8 0, .int .u8 0, .int .u8 0, .int .u8 0, .int .u8 0, .int .u8 0, .int .u8 0, .int .u8 0, .int .u8 0, .int .u8 0, .int .u8 0, .int .u8 0, .int .u8 0, .int .u8 0, .int .u8 0, .int .u8 0, .int .u8 0, .int .u8 0, .int .u8 0, .int .u8 0, .int .u8 0, .int .u8 0, .int .u8 0, .int .u8 0, .int .u8 0, .int .u8 0, .int .u8 0, .int .u8 0, .int .u8 0, .int .u8 0, .int .u8 0, .int .u8 0, .int .u8 0, .int .u8 0, .int .u8 165, .int .u8 0, .int .u8 0, .int .u8 0, .int .u8 0, .int .u8 0, .int .u8 0, .int .u8 0, .int .u8 1, .int .u8 0, .int .u8 0, .int .u8 0, .int .u8 5, .int .u8 60, .int .u8 92, .int .u8 91, .int .u8 122, .int .u8 90, .int .u8 0, .int .u8 0, .int .u8 0, .int .u8 0, .int .u8 0, .int .u8 0, .int .u8 0, .int .u8 0, .int .u8 0, .int .u8 0, .int .u8 0, .int .u8 0, .int .u8 0, .int .u8 0, .int .u8 0, .int .u8 0, .int .u8 0, .int .u8 0, .int .u8 0, .int .u8 0, .int .u8 0, .int .u8 0, .int .u8 0, .int .u8 0, .int .u8 0, .int .u8 0, .int .u8 0, .int .u8 0, .int .u8 0, .int .u8 0, .int .u8 0, .int .u8 0, .int .u8 0, .int .u8 0, .int .u8 0, .int .u8 0, .int .u8 0, .int .u8 0, .int .u8 0, .int .u8 0, .int .u8 0, .int .u8 0, .int .u8 0, .int .u8 0, .int .u8 0, .int .u8 0, .int .u8 2] 191 (.int .u8 0)) true false),
  (152, .row ([.int .i64 64, .slice 151 0 1 512 (some 512)]) true false),
  (153, .row ([.int .i64 2, .slice 150 0 1 1 none, .int .i64 8, .int .i64 64, .int .i64 4, .ptr 152 0, .oth .nilS, .ptr 158 0, .ptr 171 0]) true false),
  (157, .row ([.int .i64 2, .int .i64 0, .int .i64 0]) true false),
  (158, .row ([.ptr 157 0, .int .i64 4]) true false),
  (159, .row ([.int .i64 2, .slice 168 0 4 1 none]) true false),
  (168, .row ([.int .i64 1, .int .i64 0, .int .i64 0, .int .i64 0]) true true),
  (169, .row ([.int .i64 0, .oth .nilS]) true false),
  (170, .map [] 0),
  (171, .row ([.int .i64 2, .int .i64 0, .ptr 169 0, .ptr 159 0, .oth (.map 170)]) true false),
  (270, .row ([.ptr 24 0, .ptr 153 0]) true true)], 271⟩
theorem runNf : (sem En Unit 100000).callv (.o (.fn fpN.f)) fpN.args fpN.H (fpChk fpN) = some () := by kernel_rfl
noncomputable def Em : Env := En.with 11 (fpF fpN)
end Go.Ev.Gd

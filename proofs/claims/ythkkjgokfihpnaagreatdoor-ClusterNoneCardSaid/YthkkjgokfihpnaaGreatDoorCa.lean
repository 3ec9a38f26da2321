/- Maps.Clone and the deferred closure of decode.read; the evaluator's environment holds of the program. -/
import Derived.Test.YthkkjgokfihpnaaGreatDoorKa
import Derived.Test.YthkkjgokfihpnaaGreatDoorGb
import Derived.WalkKit
import Derived.Laws.Externs
import Derived.MapKept
import Derived.Recover
set_option linter.all false
namespace Go.Ev.Gd
open Go Go.Proofs Go.RowKit
set_option maxRecDepth 1000000
section
variable {P : Program} (w : World)
theorem run_equalIn_map_nil (d : Nat) (t k e : TypeId) (p : Option Nat) (h : P.underlying t = some (.map k e)) :
    (Op.equalIn (d + 1) t (.map p) (.map none)).run P w = .ok p.isNone w := by
  cases p <;> simp [Op.equalIn, run_underlying h]
theorem run_eql_map_nil (t k e : TypeId) (p : Option Nat) (h : P.underlying t = some (.map k e)) :
    (binOp .eql t (.map p) (.map none)).run P w = .ok (.bool p.isNone) w := by
  simp only [binOp]
  simp [show Op.equal t (.map p) (.map none) = Op.equalIn (9999 + 1) t (.map p) (.map none) from rfl, run_equalIn_map_nil w 9999 t k e p h]
theorem run_typeAssert_map (t xT k e : TypeId) (v : Value) (h : P.underlying t = some (.map k e)) : (Instr.typeAssert (.iface t v) xT t false).run P w = .ok v w := by
  simp [Instr.typeAssert, run_underlying h, go_sem, Result.andThen]
theorem run_maps_clone {r : Nat} {es : Array MapEntry} {clock : Nat} (t : TypeId) (hb : w.heap[r]? = some (.map es clock)) :
    (Extern.MapsClone.clone #[.iface t (.map (some r))]).run P w = .ok (.iface t (.map (some w.heap.size))) (w.alloc (.map es clock)) := by
  have e : Extern.MapsClone.clone #[.iface t (.map (some r))] = (getObj r >>= fun o => match o with
      | .map entries clock => (newObj (.map entries clock) >>= fun n => pure (.iface t (.map (some n))))
      | _ => stuck "maps.clone: a map expected") := rfl
  rw [e]
  simp [MapKept.run_getObj_map hb, Result.andThen, go_sem]
end
theorem und246 : Tryz.prog.underlying 246 = some (.map 3 4) := by kernel_rfl
set_option maxHeartbeats 2000000 in
theorem clone_any (b : Nat) (es : Array MapEntry) (clock : Nat) (w : World) (hb : w.heap[b]? = some (.map es clock)) :
    Calls Tryz.prog 161 #[.map (some b)] w fun e w' => e = .returned (.map (some w.heap.size)) ∧ w' = w.alloc (.map es clock) := by
  have hq := fun w => run_eql_map_nil (P := Tryz.prog) w 246 _ _ (some b) und246
  go_enter Tryz.func161, Tryz.ntmps161
  go_wp2
  rw [run_callFunc_extern Tryz.func262 (by kernel_rfl) (by kernel_rfl) (by kernel_rfl) (e := Extern.MapsClone.clone) (by kernel_rfl), run_maps_clone w 246 hb]
  simp only [Result.andThen]
  rw [Oper.upon_value]
  go_wp2
  rw [run_typeAssert_map _ 246 20 _ _ _ und246]
  simp only [Result.andThen]
  rw [Oper.upon_value]
  go_wp2
  go_ret
  exact ⟨rfl, rfl⟩
end Go.Ev.Gd

namespace Go.Ev
open Go.RowKit (Below)
theorem callFunc_enter {P : Program} {f : Nat} {fn : Func} {body : Code} (hP : P.funcs[f]? = some fn) (hname : fn.name ≠ "runtime.NumGoroutine") (hbody : fn.body = some body) (xs : Array Value) (w : World) : (callFunc f xs).run P w = .ok (.enter f xs) w := by
  unfold callFunc
  rw [Sem.run_bind, run_program]
  simp only [Result.andThen_ok, hP]
  have : (fn.name == "runtime.NumGoroutine") = false := beq_eq_false_iff_ne.2 hname
  simp [this, hbody]
theorem clone_ok {P : Program} {E : Env} {f : Nat} {fn : Func} {body : Code} (hP : P.funcs[f]? = some fn) (hname : fn.name ≠ "runtime.NumGoroutine") (hbody : fn.body = some body)
    (hc : ∀ (b : Nat) (es : Array MapEntry) (clock : Nat) (w : World), w.heap[b]? = some (.map es clock) → Calls P f #[.map (some b)] w fun e w' => e = .returned (.map (some w.heap.size)) ∧ w' = w.alloc (.map es clock)) : IntrOk P E f Gd.cloneF := by
  intro args H v H' hg w0 B ρ xs w hst ha
  refine ⟨callFunc_enter hP hname hbody xs w, ?_⟩
  unfold Gd.cloneF at hg
  split at hg
  case h_2 => cases hg
  rename_i b
  split at hg
  case h_2 => cases hg
  rename_i es clock hb
  cases hg
  obtain ⟨u, us, hu, hr, hnil⟩ := ha.cons_left
  obtain ⟨Bb, O, L, hρ, rfl⟩ := hr
  have hus : us = [] := hnil.nil_left
  subst hus
  obtain rfl : xs = #[.map (some Bb)] := by cases xs; simp_all
  obtain ⟨arr, h1, h2⟩ := hst.rel.ok b _ _ hb hρ
  intro k hk F rd n hF
  refine hF.calls ((hc Bb arr clock w h1).mono fun e w' he => ?_)
  obtain ⟨rfl, rfl⟩ := he
  have hsub : Sub ρ (upd ρ H.next (.at w.heap.size 0 0)) := hst.rel.sub (upd_ext _ _ _)
  have hr := hst.rel.alloc (.map arr clock) (.map es clock) 0 0 ⟨arr, heap_alloc_at w _, h2.imp fun _ _ g => ⟨g.1.mono hsub, g.2.1.mono hsub, g.2.2⟩⟩
  have ht : To ρ H (upd ρ H.next (.at w.heap.size 0 0)) (H.new (.map es clock)) := ⟨by simp, upd_ext _ _ _⟩
  exact ⟨_, _, _, _, rfl, hk, hst.to hr ht, ht, w.heap.size, 0, 0, upd_self _ _ _, rfl⟩
end Go.Ev
namespace Go.Ev.Gd
open Go Go.Proofs
set_option maxRecDepth 1000000
theorem envb : EnvOk Tryz.prog Eb := envOk_of rfl tyU tyB
theorem dfr_any (args : Array Value) (F : Fence) (rd : Bool) (n : Nat) (w : World) (hF : FenceOk F rd) :
    CallsDIn F n Tryz.prog 520 args .returning w fun e u' w' => (∃ v, e = .returned v) ∧ u' = .returning ∧ RowKit.Below w.heap.size w w' := by
  refine hF.callsD Tryz.func520 rfl fun c₀ cs hu => ?_
  have hsz : 8 ≤ (args ++ Array.replicate (Tryz.f520.ntmps - args.size) undef).size := by rw [Tryz.ntmps520]; simp; omega
  generalize args ++ Array.replicate (Tryz.f520.ntmps - args.size) undef = tm at hsz
  have h2 : 2 < tm.size := by omega
  have h3 : 3 < tm.size := by omega
  have h4 : 4 < tm.size := by omega
  have h5 : 5 < tm.size := by omega
  apply wpS_seq
  apply wpS_region
  simp [wpOpsS, go_sem, recoverD, hu, Exit.thenS, h2, h3, h4, h5]
  apply wpS_seq
  apply wpS_region
  simp [wpOpsS, go_sem, recoverD, hu, Exit.thenS, h2, h3, h4, h5]
  refine wpS_cond (t := false) (by simp [Act.eval, h5]) ?_
  simp only [Bool.false_eq_true, if_false]
  refine wpS_of_wp (wp_skip ?_)
  cases c₀
  simp_all [bodyPostS, results, Tryz.results520, Exit.thenS]
  exact RowKit.Below.refl _ _
theorem fn_ok (f : Nat) (fn : Func) (h : fnTree.get f = some fn) : Tryz.prog.funcs[f]? = some fn ∧ fn.name ≠ "runtime.NumGoroutine" := by
  have hm := Tr.mem_toL h
  exact ⟨zip_all fnU _ hm, by simpa using List.all_eq_true.1 fnN _ hm⟩
theorem env2b : EnvOk2 Tryz.prog Eb := by
  refine ⟨fn_ok, fun f g h => (by cases h), fun f hf args F rd n w hF => ?_⟩
  have : f = 520 := Nat.eq_of_beq_eq_true hf
  subst this
  exact ⟨callFunc_enter Tryz.func520 (by decide) rfl args w, dfr_any args F rd n w hF⟩
theorem env2c : EnvOk2 Tryz.prog Ec := with_ok env2b (clone_ok Tryz.func161 (by decide) rfl clone_any)
end Go.Ev.Gd

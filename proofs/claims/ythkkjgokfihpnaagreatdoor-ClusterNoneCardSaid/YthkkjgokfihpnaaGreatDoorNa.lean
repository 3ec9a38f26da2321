/- ClusterNone at the world's own values. -/
import Derived.Test.YthkkjgokfihpnaaGreatDoorCc
import Derived.Test.YthkkjgokfihpnaaGreatDoorCards
import Derived.Test.YthkkjgokfihpnaaGreatDoorTie
import Derived.WalkKit
import Derived.ProofKit
import Derived.OpenShut
import Derived.Carry
import Derived.Below
import Derived.ChangeSame
import Derived.Deep.DeepHandedRow
import Derived.JoinedCond
import Derived.Lib.LaidTab
set_option linter.all false
namespace Go.Ev.Gd
open Go Go.Proofs Go.RowKit
set_option maxRecDepth 1000000
theorem env_n : EnvOk Tryz.prog En := env5.with 10 _
theorem env2_n : EnvOk2 Tryz.prog En := with_ok env2_5 known_ok
theorem fpN_ok : IntrOk Tryz.prog En 11 (fpF fpN) := fp_ok (c := fpN) env_n env2_n follows (n := 99999) (by kernel_rfl) runNf
theorem env_m : EnvOk Tryz.prog Em := env_n.with 11 _
theorem env2_m : EnvOk2 Tryz.prog Em := with_ok env2_n fpN_ok
/-- the globals as they are laid -/
def Laid (W : World) : Prop := (∃ el fz, W.heap[0]? = some (.cells #[.int .i64 0, .int .i64 7, .int .i64 2, .int .i64 8, .int .i64 6, .int .i64 6] el fz)) ∧ 3 ≤ W.heap.size
theorem H4_get {b : Nat} {x : Blk} (h : H4.get b = some x) : b = 0 ∧ x = .row [.int .i64 0, .int .i64 7, .int .i64 2, .int .i64 8, .int .i64 6, .int .i64 6] false false := by
  match b, h with
  | 0, h => cases h; exact ⟨rfl, rfl⟩
  | b + 1, h =>
    exfalso
    unfold H4 H0 Hp.get at h
    rw [Tr.get_n, if_neg (by omega)] at h
    split at h <;> cases h
theorem st_init {W : World} (hl : Laid W) (p : Option Pl) (hp : ∀ q c, p = some q → q.blk? = some c → c < W.heap.size) :
    St Em W W.heap.size (fun b => if b = 0 then some (.at 0 0 6) else if b < 3 then some (.at b 0 0) else if b = 3 then p else none) H4 W := by
  obtain ⟨⟨el, fz, h0⟩, h3⟩ := hl
  refine ⟨⟨fun b hb => ?_, fun b hb => ?_, fun b x q h1 h2 => ?_, fun b b' x x' q q' c h1 _ _ _ _ hw => ?_, fun b x q c h1 _ hw => ?_, Below.refl _ _, Nat.le_refl _, fun b q c h1 h2 => ?_⟩, fun g hg => ?_, by show 3 ≤ 4; omega⟩
  · have hb : 4 ≤ b := hb
    rw [if_neg (by omega), if_neg (by omega), if_neg (by omega)]
  · cases hx : H4.get b with
    | none => rfl
    | some x => have := (H4_get hx).1; have hb : 4 ≤ b := hb; omega
  · obtain ⟨rfl, rfl⟩ := H4_get h1
    simp only [if_true] at h2
    cases h2
    refine ⟨_, el, fz, h0, (fun e => by cases e), by simp, by simp, fun i c hi => ?_⟩
    match i, hi with
    | 0, hi => cases hi; exact ⟨_, rfl, rfl⟩
    | 1, hi => cases hi; exact ⟨_, rfl, rfl⟩
    | 2, hi => cases hi; exact ⟨_, rfl, rfl⟩
    | 3, hi => cases hi; exact ⟨_, rfl, rfl⟩
    | 4, hi => cases hi; exact ⟨_, rfl, rfl⟩
    | 5, hi => cases hi; exact ⟨_, rfl, rfl⟩
    | i + 6, hi => simp at hi
  · obtain ⟨rfl, rfl⟩ := H4_get h1; cases hw
  · obtain ⟨rfl, rfl⟩ := H4_get h1; cases hw
  · by_cases e0 : b = 0
    · rw [if_pos e0] at h1; cases h1; cases h2; omega
    · rw [if_neg e0] at h1
      by_cases e1 : b < 3
      · rw [if_pos e1] at h1; cases h1; cases h2; omega
      · rw [if_neg e1] at h1
        by_cases e2 : b = 3
        · rw [if_pos e2] at h1; exact hp q c h1 h2
        · rw [if_neg e2] at h1; cases h1
  · have hg : g < 3 := hg
    by_cases e0 : g = 0
    · subst e0; exact ⟨6, by simp⟩
    · exact ⟨0, by rw [if_neg e0, if_pos hg]⟩
/-- a call that ends true, from the evaluator's word -/
theorem calls_of_run {W : World} {f : Nat} {args : List AV} {xs : Array Value} {ρ : Rho} (hst : St Em W W.heap.size ρ H4 W) (ha : All2 (RV ρ) args xs.toList) (h : (sem Em Unit 100000).callv (.o (.fn f)) args H4 (giveF (.cv (.bool true))) = some ()) :
    Calls Tryz.prog f xs W fun e W' => e = .returned (.bool true) ∧ Below W.heap.size W W' := by
  obtain ⟨_, h2⟩ := run_enter env_m env2_m follows (n := 99999) h hst ha
  refine (callsIn_wide.1 (h2 Fence.wide false 0 FenceOk.wide)).mono fun e W' hp => ?_
  obtain ⟨u, v, H2, ρ', g1, g2, g3, g4, g5⟩ := hp
  unfold giveF at g2
  obtain ⟨g6, _⟩ := cond_some g2
  have := AV.eq_of_beq g6
  subst this
  have : u = .bool true := g5
  subst this
  exact ⟨g1, g3.rel.below⟩
theorem none_nil {W : World} (hl : Laid W) (k r a n i : Int) :
    Calls Tryz.prog 7 #[.agg #[.int .i64 k, .int .i64 r, .int .i64 a, .int .i64 n, .slice none 0 0], .int .i64 i] W fun e W' => e = .returned (.bool true) ∧ Below W.heap.size W W' :=
  calls_of_run (st_init hl none (fun q c h => by cases h)) (show All2 (RV _) [stp k r a n (.oth .nilS), .cv (.int .i64 i)] _ from ⟨⟨_, rfl, rfl, rfl, rfl, rfl, rfl, trivial⟩, rfl, trivial⟩) (n_nil k r a n i)
theorem none_slice {W : World} (hl : Laid W) (k r a n i : Int) (ad : Addr) (len cap : Nat) (hle : len ≤ cap) (had : cap ≠ 0 → ad.spot = none ∧ ad.block < W.heap.size) :
    Calls Tryz.prog 7 #[.agg #[.int .i64 k, .int .i64 r, .int .i64 a, .int .i64 n, .slice (some ad) len cap], .int .i64 i] W fun e W' => e = .returned (.bool true) ∧ Below W.heap.size W W' := by
  by_cases hc : cap = 0
  · exact calls_of_run (st_init hl none (fun q c h => by cases h)) (show All2 (RV _) [stp k r a n (.slice 3 0 1 len (some cap)), .cv (.int .i64 i)] _ from
      ⟨⟨_, rfl, rfl, rfl, rfl, rfl, ⟨ad, cap, rfl, hle, rfl, .inl hc⟩, trivial⟩, rfl, trivial⟩) (n_slice k r a n i len cap)
  · obtain ⟨h1, h2⟩ := had hc
    obtain ⟨B, O, sp⟩ := ad
    cases h1
    exact calls_of_run (st_init hl (some (.at B O 0)) (fun q c h hq => by cases h; cases hq; exact h2)) (show All2 (RV _) [stp k r a n (.slice 3 0 1 len (some cap)), .cv (.int .i64 i)] _ from
      ⟨⟨_, rfl, rfl, rfl, rfl, rfl, ⟨_, cap, rfl, hle, rfl, .inr ⟨B, O, 0, rfl, rfl⟩⟩, trivial⟩, rfl, trivial⟩) (n_slice k r a n i len cap)
end Go.Ev.Gd

namespace Go.Ev.Gd
open Go Go.Proofs
set_option maxRecDepth 1000000
theorem own : ownKnob Tryz.prog.godebug = none := by kernel_rfl
theorem laidOut : laidOutB Tryz.prog = true := by kernel_rfl
end Go.Ev.Gd

/- The witness of the row. -/
import Derived.Test.YthkkjgokfihpnaaGreatDoorNb
set_option linter.all false
namespace Go.Ev.Gd
open Go Go.Proofs Go.RowKit Go.ChangeShapes Go.WideShapes Go.ChangeAt
open Go.Proofs.YthkkjgokfihpnaaGreatDoor
set_option maxRecDepth 1000000
/-! A world for the witness: the settled one, the tables laid. -/
def litOf : DataW Unit → Value
  | .lit (.int k n) => .int k n
  | _ => undef
def cellsOne : DataW Unit → List Value
  | .agg l => l.map litOf
  | _ => []
def cellsTwo : DataW Unit → List Value
  | .agg l => l.flatMap cellsOne
  | _ => []
def layAt (h : Array Obj) (g : Nat) (l : List Value) : Array Obj := h.modify g fun
  | .cells _ t frozen => .cells l.toArray t frozen
  | o => o
noncomputable def laidWorld (os : Os) : World :=
  { World.holding Tryz.prog os ⟨#[], #[], []⟩ with heap := layAt (layAt (layAt (World.holding Tryz.prog os ⟨#[], #[], []⟩).heap 0 (cellsOne Rows.laid_redpencil_message_parts)) 1 (cellsOne Rows.laid_unicode_utf8_first)) 2 (cellsTwo Rows.laid_unicode_utf8_acceptRanges) }
noncomputable def noneArgs : Array Value := #[.agg #[.int .i64 0, .int .i64 0, .int .i64 0, .int .i64 0, .slice none 0 0], .int .i64 0]
theorem laid_met (os : Os) (args : Array Value) : laidMet Tryz.prog laids ((laidWorld os).forCall (fun _ _ => 0) ⟨#[], args, []⟩).memory :=
  laidMet_of_run' 8 (by kernel_rfl) (by kernel_rfl)
theorem reads (os : Os) {H : Type} (enc : TypeId × Value → H) : ∃ places, DataW.whole enc Tryz.prog ((laidWorld os).forCall (fun _ _ => 0) ⟨#[], noneArgs, []⟩).memory Tryz.f7.params.toList Rows.clusterNoneSpec.vars false noneArgs.toList 8 = some ([.agg [.lit (.int .i64 0), .lit (.int .i64 0), .lit (.int .i64 0), .lit (.int .i64 0), .nil], .lit (.int .i64 0)], [], places) :=
  ⟨[], by kernel_rfl⟩
theorem lifted (os : Os) (started : os.Started) (H : Type) (enc : TypeId × Value → H) (F : Stop.Interp) :
    ReturnsInHanded {} Tryz.checked os 7 .any ((OpenSpec.ofChange Rows.clusterNoneSpec).preRow enc Tryz.prog Tryz.f7 Rows.clusterNoneRow.domain false Rows.clusterNoneRow.laid) (((OpenSpec.ofChange Rows.clusterNoneSpec).at F).post enc Tryz.prog Tryz.f7 false true false false) := by
  obtain ⟨places, hx⟩ := reads os enc
  refine returnsInHanded_of_row (C := Tryz.checked) (s := OpenSpec.ofChange Rows.clusterNoneSpec) own started (by kernel_rfl) Tryz.func7
    (witness_row_at (enc := enc) (C := Tryz.checked) false (laidWorld os) noneArgs rfl (by kernel_rfl) (by kernel_rfl) (by kernel_rfl)
      (OpenSpec.preRow_of_cond 8 hx (by kernel_rfl) (fun k hk => by cases hk) (by kernel_rfl) (laid_met os _))) ?_
  intro W base args ds gs before hval hW _ _ _ hL _ _
  exact contract H enc W base args ds gs before hval hW hL
end Go.Ev.Gd

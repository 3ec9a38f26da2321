/-
  DERIVED. GIVEN WITH THE SEED: THE CARDS: each row of YthkkjgokfihpnaaGreatDoorRows.lean that lists a variable, with what it lists TIED to the program's text (the seventh form; the later family's looks); each row that meets fmt, with fmt's text TOLD by the authors' own Lean function (tested against real Go, not proved from fmt's source: count such statements apart). THE CARD IS WHAT COUNTS. Prove the row's statement (the work); the ties are given (YthkkjgokfihpnaaGreatDoorTie.lean); close each card by the builder's one call (the guide's Derived/Test/ToyasCard.lean, 'card_holds'). Laid BY PROGRAM, IN A SANDBOX (cutbox-door.mjs). By AI agents, Wed Nov 11 2026. No macro, syntax, notation, axiom, sorry.
-/
import Derived.Test.YthkkjgokfihpnaaGreatDoorRows
import GoSem.ClaimSeven
namespace Go.Proofs.YthkkjgokfihpnaaGreatDoor
namespace Rows

/-- THE TIED CARD OF 'redpencillaw30.ClusterHolds'. -/
def clusterHoldsCard : Claim7 := { stood := { row := clusterHoldsRow, standIns := [], harness := (true, "9a458932561c0f2cf210f159640ff2f55265cc87becb8ec43b400be60bcf6f35"), looks := true }, kinds := [], alts := [], laidByText := true, laidKinds := [.data, .data, .pinned], laidTests := true, laidLooks := .later }
def ClusterHoldsCardSaid : Prop := Claim7.holds Tryz.pinned (.plain (OpenSpec.ofChange clusterHoldsSpec)) clusterHoldsCard

/-- THE TIED CARD OF 'redpencillaw30.ClusterNew'. -/
def clusterNewCard : Claim7 := { stood := { row := clusterNewRow, standIns := [], harness := (true, "9a458932561c0f2cf210f159640ff2f55265cc87becb8ec43b400be60bcf6f35"), looks := true }, kinds := [], alts := [], laidByText := true, laidKinds := [.data, .data, .pinned], laidTests := true, laidLooks := .later }
def ClusterNewCardSaid : Prop := Claim7.holds Tryz.pinned (.plain (OpenSpec.ofChange clusterNewSpec)) clusterNewCard

/-- THE TIED CARD OF 'redpencillaw30.ClusterSame'. -/
def clusterSameCard : Claim7 := { stood := { row := clusterSameRow, standIns := [], harness := (true, "9a458932561c0f2cf210f159640ff2f55265cc87becb8ec43b400be60bcf6f35"), looks := true }, kinds := [], alts := [], laidByText := true, laidKinds := [.data, .data, .pinned], laidTests := true, laidLooks := .later }
def ClusterSameCardSaid : Prop := Claim7.holds Tryz.pinned (.plain (OpenSpec.ofChange clusterSameSpec)) clusterSameCard

/-- THE TIED CARD OF 'redpencillaw30.ClusterPlays'. -/
def clusterPlaysCard : Claim7 := { stood := { row := clusterPlaysRow, standIns := [], harness := (true, "9a458932561c0f2cf210f159640ff2f55265cc87becb8ec43b400be60bcf6f35"), looks := true }, kinds := [], alts := [], laidByText := true, laidKinds := [.data, .data, .pinned], laidTests := true, laidLooks := .later }
def ClusterPlaysCardSaid : Prop := Claim7.holds Tryz.pinned (.plain (OpenSpec.ofChange clusterPlaysSpec)) clusterPlaysCard

/-- THE TIED CARD OF 'redpencillaw30.ClusterNone'. -/
def clusterNoneCard : Claim7 := { stood := { row := clusterNoneRow, standIns := [], harness := (true, "9a458932561c0f2cf210f159640ff2f55265cc87becb8ec43b400be60bcf6f35"), looks := true }, kinds := [], alts := [], laidByText := true, laidKinds := [.data, .data, .pinned], laidTests := true, laidLooks := .later }
def ClusterNoneCardSaid : Prop := Claim7.holds Tryz.pinned (.plain (OpenSpec.ofChange clusterNoneSpec)) clusterNoneCard

/-- THE SECOND FORM's CARD OF 'redpencillaw30.ClusterHolds'. -/
def clusterHoldsUptoCard : Claim7 := { stood := { row := clusterHoldsUptoRow, standIns := [], harness := (true, "9a458932561c0f2cf210f159640ff2f55265cc87becb8ec43b400be60bcf6f35"), looks := true }, kinds := [], alts := [], laidByText := true, laidKinds := [.data, .data, .pinned], laidTests := true, laidLooks := .later }
def ClusterHoldsUptoCardSaid : Prop := Claim7.holds Tryz.pinned (.plain (OpenSpec.upto clusterHoldsSpec)) clusterHoldsUptoCard

/-- THE SECOND FORM's CARD OF 'redpencillaw30.ClusterNew'. -/
def clusterNewUptoCard : Claim7 := { stood := { row := clusterNewUptoRow, standIns := [], harness := (true, "9a458932561c0f2cf210f159640ff2f55265cc87becb8ec43b400be60bcf6f35"), looks := true }, kinds := [], alts := [], laidByText := true, laidKinds := [.data, .data, .pinned], laidTests := true, laidLooks := .later }
def ClusterNewUptoCardSaid : Prop := Claim7.holds Tryz.pinned (.plain (OpenSpec.upto clusterNewSpec)) clusterNewUptoCard

/-- THE SECOND FORM's CARD OF 'redpencillaw30.ClusterSame'. -/
def clusterSameUptoCard : Claim7 := { stood := { row := clusterSameUptoRow, standIns := [], harness := (true, "9a458932561c0f2cf210f159640ff2f55265cc87becb8ec43b400be60bcf6f35"), looks := true }, kinds := [], alts := [], laidByText := true, laidKinds := [.data, .data, .pinned], laidTests := true, laidLooks := .later }
def ClusterSameUptoCardSaid : Prop := Claim7.holds Tryz.pinned (.plain (OpenSpec.upto clusterSameSpec)) clusterSameUptoCard

/-- THE SECOND FORM's CARD OF 'redpencillaw30.ClusterPlays'. -/
def clusterPlaysUptoCard : Claim7 := { stood := { row := clusterPlaysUptoRow, standIns := [], harness := (true, "9a458932561c0f2cf210f159640ff2f55265cc87becb8ec43b400be60bcf6f35"), looks := true }, kinds := [], alts := [], laidByText := true, laidKinds := [.data, .data, .pinned], laidTests := true, laidLooks := .later }
def ClusterPlaysUptoCardSaid : Prop := Claim7.holds Tryz.pinned (.plain (OpenSpec.upto clusterPlaysSpec)) clusterPlaysUptoCard

/-- THE SECOND FORM's CARD OF 'redpencillaw30.ClusterNone'. -/
def clusterNoneUptoCard : Claim7 := { stood := { row := clusterNoneUptoRow, standIns := [], harness := (true, "9a458932561c0f2cf210f159640ff2f55265cc87becb8ec43b400be60bcf6f35"), looks := true }, kinds := [], alts := [], laidByText := true, laidKinds := [.data, .data, .pinned], laidTests := true, laidLooks := .later }
def ClusterNoneUptoCardSaid : Prop := Claim7.holds Tryz.pinned (.plain (OpenSpec.upto clusterNoneSpec)) clusterNoneUptoCard
end Rows
end Go.Proofs.YthkkjgokfihpnaaGreatDoor

/-
  NARROWER THAN 'FOR EVERY INPUT', by the rows' own cells (each row's printed sentence says how): ClusterHolds: laid · ClusterNew: laid · ClusterSame: laid · ClusterPlays: laid · ClusterNone: laid.
  DERIVED. THE GIVEN ROWS OF THIS SEAT. 5 by the template 'for every input the law returns true; each argument reads behind the call as it read before'; 0 by the template 'total and deterministic' (their statements: YthkkjgokfihpnaaGreatDoorTotals.lean).
  GIVEN WITH THE SEED: the statements are not yours to turn. If you find one false, say at which input.
  Laid BY PROGRAM, IN A SANDBOX (cutbox-rows.mjs): the forced cells as the released guide's own fill.sh prints them over the translation ebe3c00acca774d5… (all of the seat's roots in one cut). By AI agents, Wed Nov 11 2026. No macro, syntax, notation, axiom, sorry.
-/
import Derived.Test.YthkkjgokfihpnaaGreatDoorChecked
import GoSem.PinnedTables
import GoSem.Claim
import GoSem.ClaimJoined
import GoSem.ClaimMapViews
import Derived.JoinedTies
import Derived.KernelRfl
namespace Go.Proofs.YthkkjgokfihpnaaGreatDoor
/- THE CELL 'sum', in the pinned program and in every row, IS THE sha256 OF THE DUMP (.gsa) THAT YthkkjgokfihpnaaGreatDoorProg.lean LOADS. Nothing in Lean hashes anything: it is a label: what it is worth is what the hold of that sum in a sandbox is worth. -/
noncomputable def Tryz.pinned : Pinned := { name := "ythkkjgokfihpnaagreatdoor", sum := "ebe3c00acca774d53118461c6de0392c3f5b5b8815a32baf7b011392ec2a50fd", checked := Tryz.checked }
namespace Rows
def none {H : Type} : Left H := { results := [], args := [] }

/- WHAT THE LISTED PACKAGE-LEVEL VARIABLES READ AS WHEN THE CALL BEGINS. Each datum BY PROGRAM (the guide's laid-datum.mjs) off the statement by which the dump's own 'gosem.cut.vars' lays the variable. In a bare row this is a premise. The card (YthkkjgokfihpnaaGreatDoorCards.lean) ties it to the program's text. -/
def laid_unicode_utf8_acceptRanges {H : Type} : DataW H := .agg [.agg [.lit (.int .u8 128), .lit (.int .u8 191)], .agg [.lit (.int .u8 160), .lit (.int .u8 191)], .agg [.lit (.int .u8 128), .lit (.int .u8 159)], .agg [.lit (.int .u8 144), .lit (.int .u8 191)], .agg [.lit (.int .u8 128), .lit (.int .u8 143)], .agg [.lit (.int .u8 0), .lit (.int .u8 0)], .agg [.lit (.int .u8 0), .lit (.int .u8 0)], .agg [.lit (.int .u8 0), .lit (.int .u8 0)], .agg [.lit (.int .u8 0), .lit (.int .u8 0)], .agg [.lit (.int .u8 0), .lit (.int .u8 0)], .agg [.lit (.int .u8 0), .lit (.int .u8 0)], .agg [.lit (.int .u8 0), .lit (.int .u8 0)], .agg [.lit (.int .u8 0), .lit (.int .u8 0)], .agg [.lit (.int .u8 0), .lit (.int .u8 0)], .agg [.lit (.int .u8 0), .lit (.int .u8 0)], .agg [.lit (.int .u8 0), .lit (.int .u8 0)]]
def laid_redpencil_message_parts {H : Type} : DataW H := .agg [.lit (.int .i64 0), .lit (.int .i64 7), .lit (.int .i64 2), .lit (.int .i64 8), .lit (.int .i64 6), .lit (.int .i64 6)]
/-- One of Go's own tables, pinned by name: the form's constant. -/
def laid_unicode_utf8_first : DataW Unit := Go.Pinned.utf8First

/-- 'redpencillaw30.ClusterHolds': WHATEVER THE INPUT: true; the input reads as it did. -/
def clusterHoldsSpec : ChangeSpec := { name := "clusterHolds", fn := fun _ => fun
  | [d1, d2] => { results := [.lit (.bool true)], args := [d1, d2] }
  | _ => none }
def clusterHoldsRow : OpenClaim := { program := "ythkkjgokfihpnaagreatdoor", sum := "ebe3c00acca774d53118461c6de0392c3f5b5b8815a32baf7b011392ec2a50fd", func := "redpencil/redpencillaw30.ClusterHolds", spec := "clusterHolds", inPlace := ["slices.overlaps[redpencil/omap.entry[redpencil/api.Dot, []redpencil/api.Node]]", "maps.clone"], unfollowed := true, recurses := true, named := ["redpencil/message.parts", "unicode/utf8.first", "unicode/utf8.acceptRanges"], plainKeys := false, apart := false, laid := [("unicode/utf8.acceptRanges", laid_unicode_utf8_acceptRanges), ("redpencil/message.parts", laid_redpencil_message_parts), ("unicode/utf8.first", laid_unicode_utf8_first)] }
def ClusterHoldsSaid : Prop := clusterHoldsRow.holds Tryz.pinned (OpenSpec.ofChange clusterHoldsSpec)

/-- ITS FALSE NEIGHBOUR: 'it returns false'. Refute it at one input. -/
def clusterHoldsWrong : ChangeSpec := { name := "clusterHolds", fn := fun _ => fun
  | [d1, d2] => { results := [.lit (.bool false)], args := [d1, d2] }
  | _ => none }
def ClusterHoldsWrongFalsely : Prop := clusterHoldsRow.holds Tryz.pinned (OpenSpec.ofChange clusterHoldsWrong)

/-- 'redpencillaw30.ClusterNew': WHATEVER THE INPUT: true; the input reads as it did. -/
def clusterNewSpec : ChangeSpec := { name := "clusterNew", fn := fun _ => fun
  | [d] => { results := [.lit (.bool true)], args := [d] }
  | _ => none }
def clusterNewRow : OpenClaim := { program := "ythkkjgokfihpnaagreatdoor", sum := "ebe3c00acca774d53118461c6de0392c3f5b5b8815a32baf7b011392ec2a50fd", func := "redpencil/redpencillaw30.ClusterNew", spec := "clusterNew", inPlace := ["slices.overlaps[redpencil/omap.entry[redpencil/api.Dot, []redpencil/api.Node]]", "maps.clone"], unfollowed := true, recurses := true, named := ["redpencil/message.parts", "unicode/utf8.first", "unicode/utf8.acceptRanges"], plainKeys := false, apart := false, laid := [("unicode/utf8.acceptRanges", laid_unicode_utf8_acceptRanges), ("redpencil/message.parts", laid_redpencil_message_parts), ("unicode/utf8.first", laid_unicode_utf8_first)] }
def ClusterNewSaid : Prop := clusterNewRow.holds Tryz.pinned (OpenSpec.ofChange clusterNewSpec)

/-- ITS FALSE NEIGHBOUR: 'it returns false'. Refute it at one input. -/
def clusterNewWrong : ChangeSpec := { name := "clusterNew", fn := fun _ => fun
  | [d] => { results := [.lit (.bool false)], args := [d] }
  | _ => none }
def ClusterNewWrongFalsely : Prop := clusterNewRow.holds Tryz.pinned (OpenSpec.ofChange clusterNewWrong)

/-- 'redpencillaw30.ClusterSame': WHATEVER THE INPUT: true; the input reads as it did. -/
def clusterSameSpec : ChangeSpec := { name := "clusterSame", fn := fun _ => fun
  | [d1, d2, d3, d4] => { results := [.lit (.bool true)], args := [d1, d2, d3, d4] }
  | _ => none }
def clusterSameRow : OpenClaim := { program := "ythkkjgokfihpnaagreatdoor", sum := "ebe3c00acca774d53118461c6de0392c3f5b5b8815a32baf7b011392ec2a50fd", func := "redpencil/redpencillaw30.ClusterSame", spec := "clusterSame", inPlace := ["slices.overlaps[redpencil/omap.entry[redpencil/api.Dot, []redpencil/api.Node]]", "maps.clone"], unfollowed := true, recurses := true, named := ["redpencil/message.parts", "unicode/utf8.first", "unicode/utf8.acceptRanges"], plainKeys := false, apart := false, laid := [("unicode/utf8.acceptRanges", laid_unicode_utf8_acceptRanges), ("redpencil/message.parts", laid_redpencil_message_parts), ("unicode/utf8.first", laid_unicode_utf8_first)] }
def ClusterSameSaid : Prop := clusterSameRow.holds Tryz.pinned (OpenSpec.ofChange clusterSameSpec)

/-- ITS FALSE NEIGHBOUR: 'it returns false'. Refute it at one input. -/
def clusterSameWrong : ChangeSpec := { name := "clusterSame", fn := fun _ => fun
  | [d1, d2, d3, d4] => { results := [.lit (.bool false)], args := [d1, d2, d3, d4] }
  | _ => none }
def ClusterSameWrongFalsely : Prop := clusterSameRow.holds Tryz.pinned (OpenSpec.ofChange clusterSameWrong)

/-- 'redpencillaw30.ClusterPlays': WHATEVER THE INPUT: true; the input reads as it did. -/
def clusterPlaysSpec : ChangeSpec := { name := "clusterPlays", fn := fun _ => fun
  | [d1, d2, d3] => { results := [.lit (.bool true)], args := [d1, d2, d3] }
  | _ => none }
def clusterPlaysRow : OpenClaim := { program := "ythkkjgokfihpnaagreatdoor", sum := "ebe3c00acca774d53118461c6de0392c3f5b5b8815a32baf7b011392ec2a50fd", func := "redpencil/redpencillaw30.ClusterPlays", spec := "clusterPlays", inPlace := ["slices.overlaps[redpencil/omap.entry[redpencil/api.Dot, []redpencil/api.Node]]", "maps.clone"], unfollowed := true, recurses := true, named := ["redpencil/message.parts", "unicode/utf8.first", "unicode/utf8.acceptRanges"], plainKeys := false, apart := false, laid := [("unicode/utf8.acceptRanges", laid_unicode_utf8_acceptRanges), ("redpencil/message.parts", laid_redpencil_message_parts), ("unicode/utf8.first", laid_unicode_utf8_first)] }
def ClusterPlaysSaid : Prop := clusterPlaysRow.holds Tryz.pinned (OpenSpec.ofChange clusterPlaysSpec)

/-- ITS FALSE NEIGHBOUR: 'it returns false'. Refute it at one input. -/
def clusterPlaysWrong : ChangeSpec := { name := "clusterPlays", fn := fun _ => fun
  | [d1, d2, d3] => { results := [.lit (.bool false)], args := [d1, d2, d3] }
  | _ => none }
def ClusterPlaysWrongFalsely : Prop := clusterPlaysRow.holds Tryz.pinned (OpenSpec.ofChange clusterPlaysWrong)

/-- 'redpencillaw30.ClusterNone': WHATEVER THE INPUT: true; the input reads as it did. -/
def clusterNoneSpec : ChangeSpec := { name := "clusterNone", fn := fun _ => fun
  | [d1, d2] => { results := [.lit (.bool true)], args := [d1, d2] }
  | _ => none }
def clusterNoneRow : OpenClaim := { program := "ythkkjgokfihpnaagreatdoor", sum := "ebe3c00acca774d53118461c6de0392c3f5b5b8815a32baf7b011392ec2a50fd", func := "redpencil/redpencillaw30.ClusterNone", spec := "clusterNone", inPlace := ["slices.overlaps[redpencil/omap.entry[redpencil/api.Dot, []redpencil/api.Node]]", "maps.clone"], unfollowed := true, recurses := true, named := ["redpencil/message.parts", "unicode/utf8.first", "unicode/utf8.acceptRanges"], plainKeys := false, apart := false, laid := [("unicode/utf8.acceptRanges", laid_unicode_utf8_acceptRanges), ("redpencil/message.parts", laid_redpencil_message_parts), ("unicode/utf8.first", laid_unicode_utf8_first)] }
def ClusterNoneSaid : Prop := clusterNoneRow.holds Tryz.pinned (OpenSpec.ofChange clusterNoneSpec)

/-- ITS FALSE NEIGHBOUR: 'it returns false'. Refute it at one input. -/
def clusterNoneWrong : ChangeSpec := { name := "clusterNone", fn := fun _ => fun
  | [d1, d2] => { results := [.lit (.bool false)], args := [d1, d2] }
  | _ => none }
def ClusterNoneWrongFalsely : Prop := clusterNoneRow.holds Tryz.pinned (OpenSpec.ofChange clusterNoneWrong)

/- THE SECOND FORM. 'bulk': how many values and letters a reading holds, each counted each time it is reached (what is shared counts as often as it is met; a slice's spare places count too). A statement '..UptoSaid' is the law's where the arguments, and the package variables that the reading takes, are together of bulk at most 1048576: NARROWER than '..Said'. Prove '..Said' where nothing that the law and all that it calls make is longer than what came in: it says more and counts as full. Else prove '..UptoSaid'. A law counts once. -/
mutual
def uptoBulk {H : Type} : DataW H → Nat
  | .lit (.string bytes) => bytes.length + 1
  | .lit _ => 1
  | .nil => 1
  | .ptr d => uptoBulk d + 1
  | .slice elems spare => uptoBulkAll elems + uptoBulkAll spare + 1
  | .agg parts => uptoBulkAll parts + 1
  | .iface _ d => uptoBulk d + 1
  | .map entries => uptoBulkEntries entries + 1
  | .held _ => 1
def uptoBulkAll {H : Type} : List (DataW H) → Nat
  | [] => 0
  | d :: r => uptoBulk d + uptoBulkAll r
def uptoBulkEntries {H : Type} : List (Lit × DataW H) → Nat
  | [] => 0
  | x :: r => uptoBulkEntry x + uptoBulkEntries r
def uptoBulkEntry {H : Type} : Lit × DataW H → Nat
  | (.string bytes, d) => bytes.length + uptoBulk d + 1
  | (_, d) => uptoBulk d + 1
 end
def uptoSmall : (H : Type) → List (DataW H) → Bool := fun _ ds => decide (uptoBulkAll ds ≤ 1048576)
def OpenSpec.upto (s : _root_.Go.ChangeSpec) : _root_.Go.OpenSpec := { _root_.Go.OpenSpec.ofChange s with cond := some uptoSmall }

/-- 'redpencillaw30.ClusterHolds', WHERE WHAT IT READS IS OF BULK AT MOST 1048576: true; the input reads as it did. -/
def clusterHoldsUptoRow : OpenClaim := { program := "ythkkjgokfihpnaagreatdoor", sum := "ebe3c00acca774d53118461c6de0392c3f5b5b8815a32baf7b011392ec2a50fd", func := "redpencil/redpencillaw30.ClusterHolds", spec := "clusterHolds", inPlace := ["slices.overlaps[redpencil/omap.entry[redpencil/api.Dot, []redpencil/api.Node]]", "maps.clone"], unfollowed := true, recurses := true, named := ["redpencil/message.parts", "unicode/utf8.first", "unicode/utf8.acceptRanges"], plainKeys := false, apart := false, laid := [("unicode/utf8.acceptRanges", laid_unicode_utf8_acceptRanges), ("redpencil/message.parts", laid_redpencil_message_parts), ("unicode/utf8.first", laid_unicode_utf8_first)], narrowed := true }
def ClusterHoldsUptoSaid : Prop := clusterHoldsUptoRow.holds Tryz.pinned (OpenSpec.upto clusterHoldsSpec)

/-- 'redpencillaw30.ClusterNew', WHERE WHAT IT READS IS OF BULK AT MOST 1048576: true; the input reads as it did. -/
def clusterNewUptoRow : OpenClaim := { program := "ythkkjgokfihpnaagreatdoor", sum := "ebe3c00acca774d53118461c6de0392c3f5b5b8815a32baf7b011392ec2a50fd", func := "redpencil/redpencillaw30.ClusterNew", spec := "clusterNew", inPlace := ["slices.overlaps[redpencil/omap.entry[redpencil/api.Dot, []redpencil/api.Node]]", "maps.clone"], unfollowed := true, recurses := true, named := ["redpencil/message.parts", "unicode/utf8.first", "unicode/utf8.acceptRanges"], plainKeys := false, apart := false, laid := [("unicode/utf8.acceptRanges", laid_unicode_utf8_acceptRanges), ("redpencil/message.parts", laid_redpencil_message_parts), ("unicode/utf8.first", laid_unicode_utf8_first)], narrowed := true }
def ClusterNewUptoSaid : Prop := clusterNewUptoRow.holds Tryz.pinned (OpenSpec.upto clusterNewSpec)

/-- 'redpencillaw30.ClusterSame', WHERE WHAT IT READS IS OF BULK AT MOST 1048576: true; the input reads as it did. -/
def clusterSameUptoRow : OpenClaim := { program := "ythkkjgokfihpnaagreatdoor", sum := "ebe3c00acca774d53118461c6de0392c3f5b5b8815a32baf7b011392ec2a50fd", func := "redpencil/redpencillaw30.ClusterSame", spec := "clusterSame", inPlace := ["slices.overlaps[redpencil/omap.entry[redpencil/api.Dot, []redpencil/api.Node]]", "maps.clone"], unfollowed := true, recurses := true, named := ["redpencil/message.parts", "unicode/utf8.first", "unicode/utf8.acceptRanges"], plainKeys := false, apart := false, laid := [("unicode/utf8.acceptRanges", laid_unicode_utf8_acceptRanges), ("redpencil/message.parts", laid_redpencil_message_parts), ("unicode/utf8.first", laid_unicode_utf8_first)], narrowed := true }
def ClusterSameUptoSaid : Prop := clusterSameUptoRow.holds Tryz.pinned (OpenSpec.upto clusterSameSpec)

/-- 'redpencillaw30.ClusterPlays', WHERE WHAT IT READS IS OF BULK AT MOST 1048576: true; the input reads as it did. -/
def clusterPlaysUptoRow : OpenClaim := { program := "ythkkjgokfihpnaagreatdoor", sum := "ebe3c00acca774d53118461c6de0392c3f5b5b8815a32baf7b011392ec2a50fd", func := "redpencil/redpencillaw30.ClusterPlays", spec := "clusterPlays", inPlace := ["slices.overlaps[redpencil/omap.entry[redpencil/api.Dot, []redpencil/api.Node]]", "maps.clone"], unfollowed := true, recurses := true, named := ["redpencil/message.parts", "unicode/utf8.first", "unicode/utf8.acceptRanges"], plainKeys := false, apart := false, laid := [("unicode/utf8.acceptRanges", laid_unicode_utf8_acceptRanges), ("redpencil/message.parts", laid_redpencil_message_parts), ("unicode/utf8.first", laid_unicode_utf8_first)], narrowed := true }
def ClusterPlaysUptoSaid : Prop := clusterPlaysUptoRow.holds Tryz.pinned (OpenSpec.upto clusterPlaysSpec)

/-- 'redpencillaw30.ClusterNone', WHERE WHAT IT READS IS OF BULK AT MOST 1048576: true; the input reads as it did. -/
def clusterNoneUptoRow : OpenClaim := { program := "ythkkjgokfihpnaagreatdoor", sum := "ebe3c00acca774d53118461c6de0392c3f5b5b8815a32baf7b011392ec2a50fd", func := "redpencil/redpencillaw30.ClusterNone", spec := "clusterNone", inPlace := ["slices.overlaps[redpencil/omap.entry[redpencil/api.Dot, []redpencil/api.Node]]", "maps.clone"], unfollowed := true, recurses := true, named := ["redpencil/message.parts", "unicode/utf8.first", "unicode/utf8.acceptRanges"], plainKeys := false, apart := false, laid := [("unicode/utf8.acceptRanges", laid_unicode_utf8_acceptRanges), ("redpencil/message.parts", laid_redpencil_message_parts), ("unicode/utf8.first", laid_unicode_utf8_first)], narrowed := true }
def ClusterNoneUptoSaid : Prop := clusterNoneUptoRow.holds Tryz.pinned (OpenSpec.upto clusterNoneSpec)

end Rows
end Go.Proofs.YthkkjgokfihpnaaGreatDoor

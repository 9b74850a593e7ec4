/-
  No cell of these rows narrows 'for every input' (looked for: loops, veiled, ifaces, maps, wideKeys, modest, calm, conditions, laid).
  DERIVED. THE GIVEN ROWS OF THIS SEAT. 9 by the template 'for every input the law returns true; each argument reads behind the call as it read before'; 0 by the template 'total and deterministic' (their statements: YtnijapaaickifaaTotals.lean).
  GIVEN WITH THE SEED: the statements are not yours to turn. If you find one false, say at which input.
  Laid BY PROGRAM, IN A SANDBOX (cutbox-rows.mjs): the forced cells as the released guide's own fill.sh prints them over the translation 08b5e4a1aa4ce33f… (all of the seat's roots in one cut). By AI agents, Wed Nov 11 2026. No macro, syntax, notation, axiom, sorry.
-/
import Derived.Test.YtnijapaaickifaaChecked
import GoSem.Claim
import GoSem.ClaimJoined
import GoSem.ClaimMapViews
import Derived.JoinedTies
import Derived.KernelRfl
namespace Go.Proofs.Ytnijapaaickifaa
/- THE CELL 'sum', in the pinned program and in every row, IS THE sha256 OF THE DUMP (.gsa) THAT YtnijapaaickifaaProg.lean LOADS. Nothing in Lean hashes anything: it is a label: what it is worth is what the hold of that sum in a sandbox is worth. -/
noncomputable def Try.pinned : Pinned := { name := "ytnijapaaickifaa", sum := "08b5e4a1aa4ce33fccd307bbddd261c0436d850251aaebdfde5914c007e67497", checked := Try.checked }
namespace Rows
def none {H : Type} : Left H := { results := [], args := [] }

/-- 'imageeditorlaw10.BlendParts': WHATEVER THE INPUT: true; the input reads as it did. -/
def blendPartsSpec : ChangeSpec := { name := "blendParts", fn := fun _ => fun
  | [d] => { results := [.lit (.bool true)], args := [d] }
  | _ => none }
def blendPartsRow : OpenClaim := { program := "ytnijapaaickifaa", sum := "08b5e4a1aa4ce33fccd307bbddd261c0436d850251aaebdfde5914c007e67497", func := "imageeditor/imageeditorlaw10.BlendParts", spec := "blendParts", unfollowed := true, recurses := true, apart := false }
def BlendPartsSaid : Prop := blendPartsRow.holds Try.pinned (OpenSpec.ofChange blendPartsSpec)

/-- ITS FALSE NEIGHBOUR: 'it returns false'. Refute it at one input. -/
def blendPartsWrong : ChangeSpec := { name := "blendParts", fn := fun _ => fun
  | [d] => { results := [.lit (.bool false)], args := [d] }
  | _ => none }
def BlendPartsWrongFalsely : Prop := blendPartsRow.holds Try.pinned (OpenSpec.ofChange blendPartsWrong)

/-- 'imageeditorlaw10.BlendNames': WHATEVER THE INPUT: true; the input reads as it did. -/
def blendNamesSpec : ChangeSpec := { name := "blendNames", fn := fun _ => fun
  | [d1, d2] => { results := [.lit (.bool true)], args := [d1, d2] }
  | _ => none }
def blendNamesRow : OpenClaim := { program := "ytnijapaaickifaa", sum := "08b5e4a1aa4ce33fccd307bbddd261c0436d850251aaebdfde5914c007e67497", func := "imageeditor/imageeditorlaw10.BlendNames", spec := "blendNames", unfollowed := true, recurses := true, apart := false }
def BlendNamesSaid : Prop := blendNamesRow.holds Try.pinned (OpenSpec.ofChange blendNamesSpec)

/-- ITS FALSE NEIGHBOUR: 'it returns false'. Refute it at one input. -/
def blendNamesWrong : ChangeSpec := { name := "blendNames", fn := fun _ => fun
  | [d1, d2] => { results := [.lit (.bool false)], args := [d1, d2] }
  | _ => none }
def BlendNamesWrongFalsely : Prop := blendNamesRow.holds Try.pinned (OpenSpec.ofChange blendNamesWrong)

/-- 'imageeditorlaw10.BlendChannels': WHATEVER THE INPUT: true; the input reads as it did. -/
def blendChannelsSpec : ChangeSpec := { name := "blendChannels", fn := fun _ => fun
  | [d1, d2, d3] => { results := [.lit (.bool true)], args := [d1, d2, d3] }
  | _ => none }
def blendChannelsRow : OpenClaim := { program := "ytnijapaaickifaa", sum := "08b5e4a1aa4ce33fccd307bbddd261c0436d850251aaebdfde5914c007e67497", func := "imageeditor/imageeditorlaw10.BlendChannels", spec := "blendChannels", unfollowed := true, recurses := true, apart := false }
def BlendChannelsSaid : Prop := blendChannelsRow.holds Try.pinned (OpenSpec.ofChange blendChannelsSpec)

/-- ITS FALSE NEIGHBOUR: 'it returns false'. Refute it at one input. -/
def blendChannelsWrong : ChangeSpec := { name := "blendChannels", fn := fun _ => fun
  | [d1, d2, d3] => { results := [.lit (.bool false)], args := [d1, d2, d3] }
  | _ => none }
def BlendChannelsWrongFalsely : Prop := blendChannelsRow.holds Try.pinned (OpenSpec.ofChange blendChannelsWrong)

/-- 'imageeditorlaw10.BlendColors': WHATEVER THE INPUT: true; the input reads as it did. -/
def blendColorsSpec : ChangeSpec := { name := "blendColors", fn := fun _ => fun
  | [d1, d2, d3] => { results := [.lit (.bool true)], args := [d1, d2, d3] }
  | _ => none }
def blendColorsRow : OpenClaim := { program := "ytnijapaaickifaa", sum := "08b5e4a1aa4ce33fccd307bbddd261c0436d850251aaebdfde5914c007e67497", func := "imageeditor/imageeditorlaw10.BlendColors", spec := "blendColors", unfollowed := true, recurses := true, apart := false }
def BlendColorsSaid : Prop := blendColorsRow.holds Try.pinned (OpenSpec.ofChange blendColorsSpec)

/-- ITS FALSE NEIGHBOUR: 'it returns false'. Refute it at one input. -/
def blendColorsWrong : ChangeSpec := { name := "blendColors", fn := fun _ => fun
  | [d1, d2, d3] => { results := [.lit (.bool false)], args := [d1, d2, d3] }
  | _ => none }
def BlendColorsWrongFalsely : Prop := blendColorsRow.holds Try.pinned (OpenSpec.ofChange blendColorsWrong)

/-- 'imageeditorlaw10.BlendOvers': WHATEVER THE INPUT: true; the input reads as it did. -/
def blendOversSpec : ChangeSpec := { name := "blendOvers", fn := fun _ => fun
  | [d1, d2, d3] => { results := [.lit (.bool true)], args := [d1, d2, d3] }
  | _ => none }
def blendOversRow : OpenClaim := { program := "ytnijapaaickifaa", sum := "08b5e4a1aa4ce33fccd307bbddd261c0436d850251aaebdfde5914c007e67497", func := "imageeditor/imageeditorlaw10.BlendOvers", spec := "blendOvers", unfollowed := true, recurses := true, apart := false }
def BlendOversSaid : Prop := blendOversRow.holds Try.pinned (OpenSpec.ofChange blendOversSpec)

/-- ITS FALSE NEIGHBOUR: 'it returns false'. Refute it at one input. -/
def blendOversWrong : ChangeSpec := { name := "blendOvers", fn := fun _ => fun
  | [d1, d2, d3] => { results := [.lit (.bool false)], args := [d1, d2, d3] }
  | _ => none }
def BlendOversWrongFalsely : Prop := blendOversRow.holds Try.pinned (OpenSpec.ofChange blendOversWrong)

/-- 'imageeditorlaw10.BlendImages': WHATEVER THE INPUT: true; the input reads as it did. -/
def blendImagesSpec : ChangeSpec := { name := "blendImages", fn := fun _ => fun
  | [d] => { results := [.lit (.bool true)], args := [d] }
  | _ => none }
def blendImagesRow : OpenClaim := { program := "ytnijapaaickifaa", sum := "08b5e4a1aa4ce33fccd307bbddd261c0436d850251aaebdfde5914c007e67497", func := "imageeditor/imageeditorlaw10.BlendImages", spec := "blendImages", unfollowed := true, recurses := true, apart := false }
def BlendImagesSaid : Prop := blendImagesRow.holds Try.pinned (OpenSpec.ofChange blendImagesSpec)

/-- ITS FALSE NEIGHBOUR: 'it returns false'. Refute it at one input. -/
def blendImagesWrong : ChangeSpec := { name := "blendImages", fn := fun _ => fun
  | [d] => { results := [.lit (.bool false)], args := [d] }
  | _ => none }
def BlendImagesWrongFalsely : Prop := blendImagesRow.holds Try.pinned (OpenSpec.ofChange blendImagesWrong)

/-- 'imageeditorlaw10.BlendRanges': WHATEVER THE INPUT: true; the input reads as it did. -/
def blendRangesSpec : ChangeSpec := { name := "blendRanges", fn := fun _ => fun
  | [d1, d2, d3] => { results := [.lit (.bool true)], args := [d1, d2, d3] }
  | _ => none }
def blendRangesRow : OpenClaim := { program := "ytnijapaaickifaa", sum := "08b5e4a1aa4ce33fccd307bbddd261c0436d850251aaebdfde5914c007e67497", func := "imageeditor/imageeditorlaw10.BlendRanges", spec := "blendRanges", unfollowed := true, recurses := true, apart := false }
def BlendRangesSaid : Prop := blendRangesRow.holds Try.pinned (OpenSpec.ofChange blendRangesSpec)

/-- ITS FALSE NEIGHBOUR: 'it returns false'. Refute it at one input. -/
def blendRangesWrong : ChangeSpec := { name := "blendRanges", fn := fun _ => fun
  | [d1, d2, d3] => { results := [.lit (.bool false)], args := [d1, d2, d3] }
  | _ => none }
def BlendRangesWrongFalsely : Prop := blendRangesRow.holds Try.pinned (OpenSpec.ofChange blendRangesWrong)

/-- 'imageeditorlaw10.BlendClears': WHATEVER THE INPUT: true; the input reads as it did. -/
def blendClearsSpec : ChangeSpec := { name := "blendClears", fn := fun _ => fun
  | [d1, d2, d3] => { results := [.lit (.bool true)], args := [d1, d2, d3] }
  | _ => none }
def blendClearsRow : OpenClaim := { program := "ytnijapaaickifaa", sum := "08b5e4a1aa4ce33fccd307bbddd261c0436d850251aaebdfde5914c007e67497", func := "imageeditor/imageeditorlaw10.BlendClears", spec := "blendClears", unfollowed := true, recurses := true, apart := false }
def BlendClearsSaid : Prop := blendClearsRow.holds Try.pinned (OpenSpec.ofChange blendClearsSpec)

/-- ITS FALSE NEIGHBOUR: 'it returns false'. Refute it at one input. -/
def blendClearsWrong : ChangeSpec := { name := "blendClears", fn := fun _ => fun
  | [d1, d2, d3] => { results := [.lit (.bool false)], args := [d1, d2, d3] }
  | _ => none }
def BlendClearsWrongFalsely : Prop := blendClearsRow.holds Try.pinned (OpenSpec.ofChange blendClearsWrong)

/-- 'imageeditorlaw10.BlendTurns': WHATEVER THE INPUT: true; the input reads as it did. -/
def blendTurnsSpec : ChangeSpec := { name := "blendTurns", fn := fun _ => fun
  | [d1, d2] => { results := [.lit (.bool true)], args := [d1, d2] }
  | _ => none }
def blendTurnsRow : OpenClaim := { program := "ytnijapaaickifaa", sum := "08b5e4a1aa4ce33fccd307bbddd261c0436d850251aaebdfde5914c007e67497", func := "imageeditor/imageeditorlaw10.BlendTurns", spec := "blendTurns", unfollowed := true, recurses := true, apart := false }
def BlendTurnsSaid : Prop := blendTurnsRow.holds Try.pinned (OpenSpec.ofChange blendTurnsSpec)

/-- ITS FALSE NEIGHBOUR: 'it returns false'. Refute it at one input. -/
def blendTurnsWrong : ChangeSpec := { name := "blendTurns", fn := fun _ => fun
  | [d1, d2] => { results := [.lit (.bool false)], args := [d1, d2] }
  | _ => none }
def BlendTurnsWrongFalsely : Prop := blendTurnsRow.holds Try.pinned (OpenSpec.ofChange blendTurnsWrong)

/- THE SECOND FORM. 'bulk': how many values and letters a reading holds, each counted each time it is reached (what is shared counts as often as it is met; a slice's spare places count too). A statement '..UptoSaid' is the law's where the arguments, and the package variables that the reading takes, are together of bulk at most 1048576: NARROWER than '..Said'. Prove '..Said' where nothing that the law and all that it calls make is longer than what came in: it says more and counts as full. Else prove '..UptoSaid'. A law counts once. -/
mutual
def uptoBulk {H : Type} : DataW H → Nat
  | .lit (.string bytes) => bytes.length + 1
  | .lit _ => 1
  | .nil => 1
  | .ptr d => uptoBulk d + 1
  | .slice elems spare => uptoBulkAll elems + uptoBulkAll spare + 1
  | .agg parts => uptoBulkAll parts + 1
  | .iface _ d => uptoBulk d + 1
  | .map entries => uptoBulkEntries entries + 1
  | .held _ => 1
def uptoBulkAll {H : Type} : List (DataW H) → Nat
  | [] => 0
  | d :: r => uptoBulk d + uptoBulkAll r
def uptoBulkEntries {H : Type} : List (Lit × DataW H) → Nat
  | [] => 0
  | x :: r => uptoBulkEntry x + uptoBulkEntries r
def uptoBulkEntry {H : Type} : Lit × DataW H → Nat
  | (.string bytes, d) => bytes.length + uptoBulk d + 1
  | (_, d) => uptoBulk d + 1
 end
def uptoSmall : (H : Type) → List (DataW H) → Bool := fun _ ds => decide (uptoBulkAll ds ≤ 1048576)
def OpenSpec.upto (s : _root_.Go.ChangeSpec) : _root_.Go.OpenSpec := { _root_.Go.OpenSpec.ofChange s with cond := some uptoSmall }

/-- 'imageeditorlaw10.BlendParts', WHERE WHAT IT READS IS OF BULK AT MOST 1048576: true; the input reads as it did. -/
def blendPartsUptoRow : OpenClaim := { program := "ytnijapaaickifaa", sum := "08b5e4a1aa4ce33fccd307bbddd261c0436d850251aaebdfde5914c007e67497", func := "imageeditor/imageeditorlaw10.BlendParts", spec := "blendParts", unfollowed := true, recurses := true, apart := false, narrowed := true }
def BlendPartsUptoSaid : Prop := blendPartsUptoRow.holds Try.pinned (OpenSpec.upto blendPartsSpec)

/-- 'imageeditorlaw10.BlendNames', WHERE WHAT IT READS IS OF BULK AT MOST 1048576: true; the input reads as it did. -/
def blendNamesUptoRow : OpenClaim := { program := "ytnijapaaickifaa", sum := "08b5e4a1aa4ce33fccd307bbddd261c0436d850251aaebdfde5914c007e67497", func := "imageeditor/imageeditorlaw10.BlendNames", spec := "blendNames", unfollowed := true, recurses := true, apart := false, narrowed := true }
def BlendNamesUptoSaid : Prop := blendNamesUptoRow.holds Try.pinned (OpenSpec.upto blendNamesSpec)

/-- 'imageeditorlaw10.BlendChannels', WHERE WHAT IT READS IS OF BULK AT MOST 1048576: true; the input reads as it did. -/
def blendChannelsUptoRow : OpenClaim := { program := "ytnijapaaickifaa", sum := "08b5e4a1aa4ce33fccd307bbddd261c0436d850251aaebdfde5914c007e67497", func := "imageeditor/imageeditorlaw10.BlendChannels", spec := "blendChannels", unfollowed := true, recurses := true, apart := false, narrowed := true }
def BlendChannelsUptoSaid : Prop := blendChannelsUptoRow.holds Try.pinned (OpenSpec.upto blendChannelsSpec)

/-- 'imageeditorlaw10.BlendColors', WHERE WHAT IT READS IS OF BULK AT MOST 1048576: true; the input reads as it did. -/
def blendColorsUptoRow : OpenClaim := { program := "ytnijapaaickifaa", sum := "08b5e4a1aa4ce33fccd307bbddd261c0436d850251aaebdfde5914c007e67497", func := "imageeditor/imageeditorlaw10.BlendColors", spec := "blendColors", unfollowed := true, recurses := true, apart := false, narrowed := true }
def BlendColorsUptoSaid : Prop := blendColorsUptoRow.holds Try.pinned (OpenSpec.upto blendColorsSpec)

/-- 'imageeditorlaw10.BlendOvers', WHERE WHAT IT READS IS OF BULK AT MOST 1048576: true; the input reads as it did. -/
def blendOversUptoRow : OpenClaim := { program := "ytnijapaaickifaa", sum := "08b5e4a1aa4ce33fccd307bbddd261c0436d850251aaebdfde5914c007e67497", func := "imageeditor/imageeditorlaw10.BlendOvers", spec := "blendOvers", unfollowed := true, recurses := true, apart := false, narrowed := true }
def BlendOversUptoSaid : Prop := blendOversUptoRow.holds Try.pinned (OpenSpec.upto blendOversSpec)

/-- 'imageeditorlaw10.BlendImages', WHERE WHAT IT READS IS OF BULK AT MOST 1048576: true; the input reads as it did. -/
def blendImagesUptoRow : OpenClaim := { program := "ytnijapaaickifaa", sum := "08b5e4a1aa4ce33fccd307bbddd261c0436d850251aaebdfde5914c007e67497", func := "imageeditor/imageeditorlaw10.BlendImages", spec := "blendImages", unfollowed := true, recurses := true, apart := false, narrowed := true }
def BlendImagesUptoSaid : Prop := blendImagesUptoRow.holds Try.pinned (OpenSpec.upto blendImagesSpec)

/-- 'imageeditorlaw10.BlendRanges', WHERE WHAT IT READS IS OF BULK AT MOST 1048576: true; the input reads as it did. -/
def blendRangesUptoRow : OpenClaim := { program := "ytnijapaaickifaa", sum := "08b5e4a1aa4ce33fccd307bbddd261c0436d850251aaebdfde5914c007e67497", func := "imageeditor/imageeditorlaw10.BlendRanges", spec := "blendRanges", unfollowed := true, recurses := true, apart := false, narrowed := true }
def BlendRangesUptoSaid : Prop := blendRangesUptoRow.holds Try.pinned (OpenSpec.upto blendRangesSpec)

/-- 'imageeditorlaw10.BlendClears', WHERE WHAT IT READS IS OF BULK AT MOST 1048576: true; the input reads as it did. -/
def blendClearsUptoRow : OpenClaim := { program := "ytnijapaaickifaa", sum := "08b5e4a1aa4ce33fccd307bbddd261c0436d850251aaebdfde5914c007e67497", func := "imageeditor/imageeditorlaw10.BlendClears", spec := "blendClears", unfollowed := true, recurses := true, apart := false, narrowed := true }
def BlendClearsUptoSaid : Prop := blendClearsUptoRow.holds Try.pinned (OpenSpec.upto blendClearsSpec)

/-- 'imageeditorlaw10.BlendTurns', WHERE WHAT IT READS IS OF BULK AT MOST 1048576: true; the input reads as it did. -/
def blendTurnsUptoRow : OpenClaim := { program := "ytnijapaaickifaa", sum := "08b5e4a1aa4ce33fccd307bbddd261c0436d850251aaebdfde5914c007e67497", func := "imageeditor/imageeditorlaw10.BlendTurns", spec := "blendTurns", unfollowed := true, recurses := true, apart := false, narrowed := true }
def BlendTurnsUptoSaid : Prop := blendTurnsUptoRow.holds Try.pinned (OpenSpec.upto blendTurnsSpec)

end Rows
end Go.Proofs.Ytnijapaaickifaa

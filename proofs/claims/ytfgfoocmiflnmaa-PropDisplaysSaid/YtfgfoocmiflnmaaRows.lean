/-
  No cell of these rows narrows 'for every input' (looked for: loops, veiled, ifaces, maps, wideKeys, modest, calm, conditions, laid).
  DERIVED. THE GIVEN ROWS OF THIS SEAT. 22 by the template 'for every input the law returns true; each argument reads behind the call as it read before'; 0 by the template 'total and deterministic' (their statements: YtfgfoocmiflnmaaTotals.lean).
  GIVEN WITH THE SEED: the statements are not yours to turn. If you find one false, say at which input.
  Laid BY PROGRAM, IN A SANDBOX (cutbox-rows.mjs): the forced cells as the released guide's own fill.sh prints them over the translation 5215d50cd1070f2f… (all of the seat's roots in one cut). By AI agents, Wed Nov 11 2026. No macro, syntax, notation, axiom, sorry.
-/
import Derived.Test.YtfgfoocmiflnmaaChecked
import GoSem.Claim
import GoSem.ClaimJoined
import GoSem.ClaimMapViews
import Derived.JoinedTies
import Derived.KernelRfl
namespace Go.Proofs.Ytfgfoocmiflnmaa
/- THE CELL 'sum', in the pinned program and in every row, IS THE sha256 OF THE DUMP (.gsa) THAT YtfgfoocmiflnmaaProg.lean LOADS. Nothing in Lean hashes anything: it is a label: what it is worth is what the hold of that sum in a sandbox is worth. -/
noncomputable def Try.pinned : Pinned := { name := "ytfgfoocmiflnmaa", sum := "5215d50cd1070f2f5a1cf83d3dccfa502b9c3102735b55fa8a79665807dc9f4b", checked := Try.checked }
namespace Rows
def none {H : Type} : Left H := { results := [], args := [] }

/-- 'arraslaw9.PropEdges': WHATEVER THE INPUT: true; the input reads as it did. -/
def propEdgesSpec : ChangeSpec := { name := "propEdges", fn := fun _ => fun
  | [d] => { results := [.lit (.bool true)], args := [d] }
  | _ => none }
def propEdgesRow : OpenClaim := { program := "ytfgfoocmiflnmaa", sum := "5215d50cd1070f2f5a1cf83d3dccfa502b9c3102735b55fa8a79665807dc9f4b", func := "arras/arraslaw9.PropEdges", spec := "propEdges", apart := false }
def PropEdgesSaid : Prop := propEdgesRow.holds Try.pinned (OpenSpec.ofChange propEdgesSpec)

/-- ITS FALSE NEIGHBOUR: 'it returns false'. Refute it at one input. -/
def propEdgesWrong : ChangeSpec := { name := "propEdges", fn := fun _ => fun
  | [d] => { results := [.lit (.bool false)], args := [d] }
  | _ => none }
def PropEdgesWrongFalsely : Prop := propEdgesRow.holds Try.pinned (OpenSpec.ofChange propEdgesWrong)

/-- 'arraslaw9.PropChecks': WHATEVER THE INPUT: true; the input reads as it did. -/
def propChecksSpec : ChangeSpec := { name := "propChecks", fn := fun _ => fun
  | [d] => { results := [.lit (.bool true)], args := [d] }
  | _ => none }
def propChecksRow : OpenClaim := { program := "ytfgfoocmiflnmaa", sum := "5215d50cd1070f2f5a1cf83d3dccfa502b9c3102735b55fa8a79665807dc9f4b", func := "arras/arraslaw9.PropChecks", spec := "propChecks", apart := false }
def PropChecksSaid : Prop := propChecksRow.holds Try.pinned (OpenSpec.ofChange propChecksSpec)

/-- ITS FALSE NEIGHBOUR: 'it returns false'. Refute it at one input. -/
def propChecksWrong : ChangeSpec := { name := "propChecks", fn := fun _ => fun
  | [d] => { results := [.lit (.bool false)], args := [d] }
  | _ => none }
def PropChecksWrongFalsely : Prop := propChecksRow.holds Try.pinned (OpenSpec.ofChange propChecksWrong)

/-- 'arraslaw9.PropStyles': WHATEVER THE INPUT: true; the input reads as it did. -/
def propStylesSpec : ChangeSpec := { name := "propStyles", fn := fun _ => fun
  | [d] => { results := [.lit (.bool true)], args := [d] }
  | _ => none }
def propStylesRow : OpenClaim := { program := "ytfgfoocmiflnmaa", sum := "5215d50cd1070f2f5a1cf83d3dccfa502b9c3102735b55fa8a79665807dc9f4b", func := "arras/arraslaw9.PropStyles", spec := "propStyles", apart := false }
def PropStylesSaid : Prop := propStylesRow.holds Try.pinned (OpenSpec.ofChange propStylesSpec)

/-- ITS FALSE NEIGHBOUR: 'it returns false'. Refute it at one input. -/
def propStylesWrong : ChangeSpec := { name := "propStyles", fn := fun _ => fun
  | [d] => { results := [.lit (.bool false)], args := [d] }
  | _ => none }
def PropStylesWrongFalsely : Prop := propStylesRow.holds Try.pinned (OpenSpec.ofChange propStylesWrong)

/-- 'arraslaw9.PropDisplays': WHATEVER THE INPUT: true; the input reads as it did. -/
def propDisplaysSpec : ChangeSpec := { name := "propDisplays", fn := fun _ => fun
  | [d] => { results := [.lit (.bool true)], args := [d] }
  | _ => none }
def propDisplaysRow : OpenClaim := { program := "ytfgfoocmiflnmaa", sum := "5215d50cd1070f2f5a1cf83d3dccfa502b9c3102735b55fa8a79665807dc9f4b", func := "arras/arraslaw9.PropDisplays", spec := "propDisplays", apart := false }
def PropDisplaysSaid : Prop := propDisplaysRow.holds Try.pinned (OpenSpec.ofChange propDisplaysSpec)

/-- ITS FALSE NEIGHBOUR: 'it returns false'. Refute it at one input. -/
def propDisplaysWrong : ChangeSpec := { name := "propDisplays", fn := fun _ => fun
  | [d] => { results := [.lit (.bool false)], args := [d] }
  | _ => none }
def PropDisplaysWrongFalsely : Prop := propDisplaysRow.holds Try.pinned (OpenSpec.ofChange propDisplaysWrong)

/-- 'arraslaw9.PropDirects': WHATEVER THE INPUT: true; the input reads as it did. -/
def propDirectsSpec : ChangeSpec := { name := "propDirects", fn := fun _ => fun
  | [d] => { results := [.lit (.bool true)], args := [d] }
  | _ => none }
def propDirectsRow : OpenClaim := { program := "ytfgfoocmiflnmaa", sum := "5215d50cd1070f2f5a1cf83d3dccfa502b9c3102735b55fa8a79665807dc9f4b", func := "arras/arraslaw9.PropDirects", spec := "propDirects", apart := false }
def PropDirectsSaid : Prop := propDirectsRow.holds Try.pinned (OpenSpec.ofChange propDirectsSpec)

/-- ITS FALSE NEIGHBOUR: 'it returns false'. Refute it at one input. -/
def propDirectsWrong : ChangeSpec := { name := "propDirects", fn := fun _ => fun
  | [d] => { results := [.lit (.bool false)], args := [d] }
  | _ => none }
def PropDirectsWrongFalsely : Prop := propDirectsRow.holds Try.pinned (OpenSpec.ofChange propDirectsWrong)

/-- 'arraslaw9.PropWraps': WHATEVER THE INPUT: true; the input reads as it did. -/
def propWrapsSpec : ChangeSpec := { name := "propWraps", fn := fun _ => fun
  | [d] => { results := [.lit (.bool true)], args := [d] }
  | _ => none }
def propWrapsRow : OpenClaim := { program := "ytfgfoocmiflnmaa", sum := "5215d50cd1070f2f5a1cf83d3dccfa502b9c3102735b55fa8a79665807dc9f4b", func := "arras/arraslaw9.PropWraps", spec := "propWraps", apart := false }
def PropWrapsSaid : Prop := propWrapsRow.holds Try.pinned (OpenSpec.ofChange propWrapsSpec)

/-- ITS FALSE NEIGHBOUR: 'it returns false'. Refute it at one input. -/
def propWrapsWrong : ChangeSpec := { name := "propWraps", fn := fun _ => fun
  | [d] => { results := [.lit (.bool false)], args := [d] }
  | _ => none }
def PropWrapsWrongFalsely : Prop := propWrapsRow.holds Try.pinned (OpenSpec.ofChange propWrapsWrong)

/-- 'arraslaw9.PropWidths': WHATEVER THE INPUT: true; the input reads as it did. -/
def propWidthsSpec : ChangeSpec := { name := "propWidths", fn := fun _ => fun
  | [d] => { results := [.lit (.bool true)], args := [d] }
  | _ => none }
def propWidthsRow : OpenClaim := { program := "ytfgfoocmiflnmaa", sum := "5215d50cd1070f2f5a1cf83d3dccfa502b9c3102735b55fa8a79665807dc9f4b", func := "arras/arraslaw9.PropWidths", spec := "propWidths", apart := false }
def PropWidthsSaid : Prop := propWidthsRow.holds Try.pinned (OpenSpec.ofChange propWidthsSpec)

/-- ITS FALSE NEIGHBOUR: 'it returns false'. Refute it at one input. -/
def propWidthsWrong : ChangeSpec := { name := "propWidths", fn := fun _ => fun
  | [d] => { results := [.lit (.bool false)], args := [d] }
  | _ => none }
def PropWidthsWrongFalsely : Prop := propWidthsRow.holds Try.pinned (OpenSpec.ofChange propWidthsWrong)

/-- 'arraslaw9.PropHeights': WHATEVER THE INPUT: true; the input reads as it did. -/
def propHeightsSpec : ChangeSpec := { name := "propHeights", fn := fun _ => fun
  | [d] => { results := [.lit (.bool true)], args := [d] }
  | _ => none }
def propHeightsRow : OpenClaim := { program := "ytfgfoocmiflnmaa", sum := "5215d50cd1070f2f5a1cf83d3dccfa502b9c3102735b55fa8a79665807dc9f4b", func := "arras/arraslaw9.PropHeights", spec := "propHeights", apart := false }
def PropHeightsSaid : Prop := propHeightsRow.holds Try.pinned (OpenSpec.ofChange propHeightsSpec)

/-- ITS FALSE NEIGHBOUR: 'it returns false'. Refute it at one input. -/
def propHeightsWrong : ChangeSpec := { name := "propHeights", fn := fun _ => fun
  | [d] => { results := [.lit (.bool false)], args := [d] }
  | _ => none }
def PropHeightsWrongFalsely : Prop := propHeightsRow.holds Try.pinned (OpenSpec.ofChange propHeightsWrong)

/-- 'arraslaw9.PropMinWs': WHATEVER THE INPUT: true; the input reads as it did. -/
def propMinWsSpec : ChangeSpec := { name := "propMinWs", fn := fun _ => fun
  | [d] => { results := [.lit (.bool true)], args := [d] }
  | _ => none }
def propMinWsRow : OpenClaim := { program := "ytfgfoocmiflnmaa", sum := "5215d50cd1070f2f5a1cf83d3dccfa502b9c3102735b55fa8a79665807dc9f4b", func := "arras/arraslaw9.PropMinWs", spec := "propMinWs", apart := false }
def PropMinWsSaid : Prop := propMinWsRow.holds Try.pinned (OpenSpec.ofChange propMinWsSpec)

/-- ITS FALSE NEIGHBOUR: 'it returns false'. Refute it at one input. -/
def propMinWsWrong : ChangeSpec := { name := "propMinWs", fn := fun _ => fun
  | [d] => { results := [.lit (.bool false)], args := [d] }
  | _ => none }
def PropMinWsWrongFalsely : Prop := propMinWsRow.holds Try.pinned (OpenSpec.ofChange propMinWsWrong)

/-- 'arraslaw9.PropMaxWs': WHATEVER THE INPUT: true; the input reads as it did. -/
def propMaxWsSpec : ChangeSpec := { name := "propMaxWs", fn := fun _ => fun
  | [d] => { results := [.lit (.bool true)], args := [d] }
  | _ => none }
def propMaxWsRow : OpenClaim := { program := "ytfgfoocmiflnmaa", sum := "5215d50cd1070f2f5a1cf83d3dccfa502b9c3102735b55fa8a79665807dc9f4b", func := "arras/arraslaw9.PropMaxWs", spec := "propMaxWs", apart := false }
def PropMaxWsSaid : Prop := propMaxWsRow.holds Try.pinned (OpenSpec.ofChange propMaxWsSpec)

/-- ITS FALSE NEIGHBOUR: 'it returns false'. Refute it at one input. -/
def propMaxWsWrong : ChangeSpec := { name := "propMaxWs", fn := fun _ => fun
  | [d] => { results := [.lit (.bool false)], args := [d] }
  | _ => none }
def PropMaxWsWrongFalsely : Prop := propMaxWsRow.holds Try.pinned (OpenSpec.ofChange propMaxWsWrong)

/-- 'arraslaw9.PropMinHs': WHATEVER THE INPUT: true; the input reads as it did. -/
def propMinHsSpec : ChangeSpec := { name := "propMinHs", fn := fun _ => fun
  | [d] => { results := [.lit (.bool true)], args := [d] }
  | _ => none }
def propMinHsRow : OpenClaim := { program := "ytfgfoocmiflnmaa", sum := "5215d50cd1070f2f5a1cf83d3dccfa502b9c3102735b55fa8a79665807dc9f4b", func := "arras/arraslaw9.PropMinHs", spec := "propMinHs", apart := false }
def PropMinHsSaid : Prop := propMinHsRow.holds Try.pinned (OpenSpec.ofChange propMinHsSpec)

/-- ITS FALSE NEIGHBOUR: 'it returns false'. Refute it at one input. -/
def propMinHsWrong : ChangeSpec := { name := "propMinHs", fn := fun _ => fun
  | [d] => { results := [.lit (.bool false)], args := [d] }
  | _ => none }
def PropMinHsWrongFalsely : Prop := propMinHsRow.holds Try.pinned (OpenSpec.ofChange propMinHsWrong)

/-- 'arraslaw9.PropMaxHs': WHATEVER THE INPUT: true; the input reads as it did. -/
def propMaxHsSpec : ChangeSpec := { name := "propMaxHs", fn := fun _ => fun
  | [d] => { results := [.lit (.bool true)], args := [d] }
  | _ => none }
def propMaxHsRow : OpenClaim := { program := "ytfgfoocmiflnmaa", sum := "5215d50cd1070f2f5a1cf83d3dccfa502b9c3102735b55fa8a79665807dc9f4b", func := "arras/arraslaw9.PropMaxHs", spec := "propMaxHs", apart := false }
def PropMaxHsSaid : Prop := propMaxHsRow.holds Try.pinned (OpenSpec.ofChange propMaxHsSpec)

/-- ITS FALSE NEIGHBOUR: 'it returns false'. Refute it at one input. -/
def propMaxHsWrong : ChangeSpec := { name := "propMaxHs", fn := fun _ => fun
  | [d] => { results := [.lit (.bool false)], args := [d] }
  | _ => none }
def PropMaxHsWrongFalsely : Prop := propMaxHsRow.holds Try.pinned (OpenSpec.ofChange propMaxHsWrong)

/-- 'arraslaw9.PropGrows': WHATEVER THE INPUT: true; the input reads as it did. -/
def propGrowsSpec : ChangeSpec := { name := "propGrows", fn := fun _ => fun
  | [d] => { results := [.lit (.bool true)], args := [d] }
  | _ => none }
def propGrowsRow : OpenClaim := { program := "ytfgfoocmiflnmaa", sum := "5215d50cd1070f2f5a1cf83d3dccfa502b9c3102735b55fa8a79665807dc9f4b", func := "arras/arraslaw9.PropGrows", spec := "propGrows", apart := false }
def PropGrowsSaid : Prop := propGrowsRow.holds Try.pinned (OpenSpec.ofChange propGrowsSpec)

/-- ITS FALSE NEIGHBOUR: 'it returns false'. Refute it at one input. -/
def propGrowsWrong : ChangeSpec := { name := "propGrows", fn := fun _ => fun
  | [d] => { results := [.lit (.bool false)], args := [d] }
  | _ => none }
def PropGrowsWrongFalsely : Prop := propGrowsRow.holds Try.pinned (OpenSpec.ofChange propGrowsWrong)

/-- 'arraslaw9.PropShrinks': WHATEVER THE INPUT: true; the input reads as it did. -/
def propShrinksSpec : ChangeSpec := { name := "propShrinks", fn := fun _ => fun
  | [d] => { results := [.lit (.bool true)], args := [d] }
  | _ => none }
def propShrinksRow : OpenClaim := { program := "ytfgfoocmiflnmaa", sum := "5215d50cd1070f2f5a1cf83d3dccfa502b9c3102735b55fa8a79665807dc9f4b", func := "arras/arraslaw9.PropShrinks", spec := "propShrinks", apart := false }
def PropShrinksSaid : Prop := propShrinksRow.holds Try.pinned (OpenSpec.ofChange propShrinksSpec)

/-- ITS FALSE NEIGHBOUR: 'it returns false'. Refute it at one input. -/
def propShrinksWrong : ChangeSpec := { name := "propShrinks", fn := fun _ => fun
  | [d] => { results := [.lit (.bool false)], args := [d] }
  | _ => none }
def PropShrinksWrongFalsely : Prop := propShrinksRow.holds Try.pinned (OpenSpec.ofChange propShrinksWrong)

/-- 'arraslaw9.PropBases': WHATEVER THE INPUT: true; the input reads as it did. -/
def propBasesSpec : ChangeSpec := { name := "propBases", fn := fun _ => fun
  | [d] => { results := [.lit (.bool true)], args := [d] }
  | _ => none }
def propBasesRow : OpenClaim := { program := "ytfgfoocmiflnmaa", sum := "5215d50cd1070f2f5a1cf83d3dccfa502b9c3102735b55fa8a79665807dc9f4b", func := "arras/arraslaw9.PropBases", spec := "propBases", apart := false }
def PropBasesSaid : Prop := propBasesRow.holds Try.pinned (OpenSpec.ofChange propBasesSpec)

/-- ITS FALSE NEIGHBOUR: 'it returns false'. Refute it at one input. -/
def propBasesWrong : ChangeSpec := { name := "propBases", fn := fun _ => fun
  | [d] => { results := [.lit (.bool false)], args := [d] }
  | _ => none }
def PropBasesWrongFalsely : Prop := propBasesRow.holds Try.pinned (OpenSpec.ofChange propBasesWrong)

/-- 'arraslaw9.PropMargins': WHATEVER THE INPUT: true; the input reads as it did. -/
def propMarginsSpec : ChangeSpec := { name := "propMargins", fn := fun _ => fun
  | [d] => { results := [.lit (.bool true)], args := [d] }
  | _ => none }
def propMarginsRow : OpenClaim := { program := "ytfgfoocmiflnmaa", sum := "5215d50cd1070f2f5a1cf83d3dccfa502b9c3102735b55fa8a79665807dc9f4b", func := "arras/arraslaw9.PropMargins", spec := "propMargins", apart := false }
def PropMarginsSaid : Prop := propMarginsRow.holds Try.pinned (OpenSpec.ofChange propMarginsSpec)

/-- ITS FALSE NEIGHBOUR: 'it returns false'. Refute it at one input. -/
def propMarginsWrong : ChangeSpec := { name := "propMargins", fn := fun _ => fun
  | [d] => { results := [.lit (.bool false)], args := [d] }
  | _ => none }
def PropMarginsWrongFalsely : Prop := propMarginsRow.holds Try.pinned (OpenSpec.ofChange propMarginsWrong)

/-- 'arraslaw9.PropPads': WHATEVER THE INPUT: true; the input reads as it did. -/
def propPadsSpec : ChangeSpec := { name := "propPads", fn := fun _ => fun
  | [d] => { results := [.lit (.bool true)], args := [d] }
  | _ => none }
def propPadsRow : OpenClaim := { program := "ytfgfoocmiflnmaa", sum := "5215d50cd1070f2f5a1cf83d3dccfa502b9c3102735b55fa8a79665807dc9f4b", func := "arras/arraslaw9.PropPads", spec := "propPads", apart := false }
def PropPadsSaid : Prop := propPadsRow.holds Try.pinned (OpenSpec.ofChange propPadsSpec)

/-- ITS FALSE NEIGHBOUR: 'it returns false'. Refute it at one input. -/
def propPadsWrong : ChangeSpec := { name := "propPads", fn := fun _ => fun
  | [d] => { results := [.lit (.bool false)], args := [d] }
  | _ => none }
def PropPadsWrongFalsely : Prop := propPadsRow.holds Try.pinned (OpenSpec.ofChange propPadsWrong)

/-- 'arraslaw9.PropGaps': WHATEVER THE INPUT: true; the input reads as it did. -/
def propGapsSpec : ChangeSpec := { name := "propGaps", fn := fun _ => fun
  | [d] => { results := [.lit (.bool true)], args := [d] }
  | _ => none }
def propGapsRow : OpenClaim := { program := "ytfgfoocmiflnmaa", sum := "5215d50cd1070f2f5a1cf83d3dccfa502b9c3102735b55fa8a79665807dc9f4b", func := "arras/arraslaw9.PropGaps", spec := "propGaps", apart := false }
def PropGapsSaid : Prop := propGapsRow.holds Try.pinned (OpenSpec.ofChange propGapsSpec)

/-- ITS FALSE NEIGHBOUR: 'it returns false'. Refute it at one input. -/
def propGapsWrong : ChangeSpec := { name := "propGaps", fn := fun _ => fun
  | [d] => { results := [.lit (.bool false)], args := [d] }
  | _ => none }
def PropGapsWrongFalsely : Prop := propGapsRow.holds Try.pinned (OpenSpec.ofChange propGapsWrong)

/-- 'arraslaw9.PropJusts': WHATEVER THE INPUT: true; the input reads as it did. -/
def propJustsSpec : ChangeSpec := { name := "propJusts", fn := fun _ => fun
  | [d] => { results := [.lit (.bool true)], args := [d] }
  | _ => none }
def propJustsRow : OpenClaim := { program := "ytfgfoocmiflnmaa", sum := "5215d50cd1070f2f5a1cf83d3dccfa502b9c3102735b55fa8a79665807dc9f4b", func := "arras/arraslaw9.PropJusts", spec := "propJusts", apart := false }
def PropJustsSaid : Prop := propJustsRow.holds Try.pinned (OpenSpec.ofChange propJustsSpec)

/-- ITS FALSE NEIGHBOUR: 'it returns false'. Refute it at one input. -/
def propJustsWrong : ChangeSpec := { name := "propJusts", fn := fun _ => fun
  | [d] => { results := [.lit (.bool false)], args := [d] }
  | _ => none }
def PropJustsWrongFalsely : Prop := propJustsRow.holds Try.pinned (OpenSpec.ofChange propJustsWrong)

/-- 'arraslaw9.PropAligns': WHATEVER THE INPUT: true; the input reads as it did. -/
def propAlignsSpec : ChangeSpec := { name := "propAligns", fn := fun _ => fun
  | [d] => { results := [.lit (.bool true)], args := [d] }
  | _ => none }
def propAlignsRow : OpenClaim := { program := "ytfgfoocmiflnmaa", sum := "5215d50cd1070f2f5a1cf83d3dccfa502b9c3102735b55fa8a79665807dc9f4b", func := "arras/arraslaw9.PropAligns", spec := "propAligns", apart := false }
def PropAlignsSaid : Prop := propAlignsRow.holds Try.pinned (OpenSpec.ofChange propAlignsSpec)

/-- ITS FALSE NEIGHBOUR: 'it returns false'. Refute it at one input. -/
def propAlignsWrong : ChangeSpec := { name := "propAligns", fn := fun _ => fun
  | [d] => { results := [.lit (.bool false)], args := [d] }
  | _ => none }
def PropAlignsWrongFalsely : Prop := propAlignsRow.holds Try.pinned (OpenSpec.ofChange propAlignsWrong)

/-- 'arraslaw9.PropColors': WHATEVER THE INPUT: true; the input reads as it did. -/
def propColorsSpec : ChangeSpec := { name := "propColors", fn := fun _ => fun
  | [d] => { results := [.lit (.bool true)], args := [d] }
  | _ => none }
def propColorsRow : OpenClaim := { program := "ytfgfoocmiflnmaa", sum := "5215d50cd1070f2f5a1cf83d3dccfa502b9c3102735b55fa8a79665807dc9f4b", func := "arras/arraslaw9.PropColors", spec := "propColors", apart := false }
def PropColorsSaid : Prop := propColorsRow.holds Try.pinned (OpenSpec.ofChange propColorsSpec)

/-- ITS FALSE NEIGHBOUR: 'it returns false'. Refute it at one input. -/
def propColorsWrong : ChangeSpec := { name := "propColors", fn := fun _ => fun
  | [d] => { results := [.lit (.bool false)], args := [d] }
  | _ => none }
def PropColorsWrongFalsely : Prop := propColorsRow.holds Try.pinned (OpenSpec.ofChange propColorsWrong)

/-- 'arraslaw9.PropFonts': WHATEVER THE INPUT: true; the input reads as it did. -/
def propFontsSpec : ChangeSpec := { name := "propFonts", fn := fun _ => fun
  | [d] => { results := [.lit (.bool true)], args := [d] }
  | _ => none }
def propFontsRow : OpenClaim := { program := "ytfgfoocmiflnmaa", sum := "5215d50cd1070f2f5a1cf83d3dccfa502b9c3102735b55fa8a79665807dc9f4b", func := "arras/arraslaw9.PropFonts", spec := "propFonts", apart := false }
def PropFontsSaid : Prop := propFontsRow.holds Try.pinned (OpenSpec.ofChange propFontsSpec)

/-- ITS FALSE NEIGHBOUR: 'it returns false'. Refute it at one input. -/
def propFontsWrong : ChangeSpec := { name := "propFonts", fn := fun _ => fun
  | [d] => { results := [.lit (.bool false)], args := [d] }
  | _ => none }
def PropFontsWrongFalsely : Prop := propFontsRow.holds Try.pinned (OpenSpec.ofChange propFontsWrong)

/- THE SECOND FORM. 'bulk': how many values and letters a reading holds, each counted each time it is reached (what is shared counts as often as it is met; a slice's spare places count too). A statement '..UptoSaid' is the law's where the arguments, and the package variables that the reading takes, are together of bulk at most 1048576: NARROWER than '..Said'. Prove '..Said' where nothing that the law and all that it calls make is longer than what came in: it says more and counts as full. Else prove '..UptoSaid'. A law counts once. -/
mutual
def uptoBulk {H : Type} : DataW H → Nat
  | .lit (.string bytes) => bytes.length + 1
  | .lit _ => 1
  | .nil => 1
  | .ptr d => uptoBulk d + 1
  | .slice elems spare => uptoBulkAll elems + uptoBulkAll spare + 1
  | .agg parts => uptoBulkAll parts + 1
  | .iface _ d => uptoBulk d + 1
  | .map entries => uptoBulkEntries entries + 1
  | .held _ => 1
def uptoBulkAll {H : Type} : List (DataW H) → Nat
  | [] => 0
  | d :: r => uptoBulk d + uptoBulkAll r
def uptoBulkEntries {H : Type} : List (Lit × DataW H) → Nat
  | [] => 0
  | x :: r => uptoBulkEntry x + uptoBulkEntries r
def uptoBulkEntry {H : Type} : Lit × DataW H → Nat
  | (.string bytes, d) => bytes.length + uptoBulk d + 1
  | (_, d) => uptoBulk d + 1
 end
def uptoSmall : (H : Type) → List (DataW H) → Bool := fun _ ds => decide (uptoBulkAll ds ≤ 1048576)
def OpenSpec.upto (s : _root_.Go.ChangeSpec) : _root_.Go.OpenSpec := { _root_.Go.OpenSpec.ofChange s with cond := some uptoSmall }

/-- 'arraslaw9.PropEdges', WHERE WHAT IT READS IS OF BULK AT MOST 1048576: true; the input reads as it did. -/
def propEdgesUptoRow : OpenClaim := { program := "ytfgfoocmiflnmaa", sum := "5215d50cd1070f2f5a1cf83d3dccfa502b9c3102735b55fa8a79665807dc9f4b", func := "arras/arraslaw9.PropEdges", spec := "propEdges", apart := false, narrowed := true }
def PropEdgesUptoSaid : Prop := propEdgesUptoRow.holds Try.pinned (OpenSpec.upto propEdgesSpec)

/-- 'arraslaw9.PropChecks', WHERE WHAT IT READS IS OF BULK AT MOST 1048576: true; the input reads as it did. -/
def propChecksUptoRow : OpenClaim := { program := "ytfgfoocmiflnmaa", sum := "5215d50cd1070f2f5a1cf83d3dccfa502b9c3102735b55fa8a79665807dc9f4b", func := "arras/arraslaw9.PropChecks", spec := "propChecks", apart := false, narrowed := true }
def PropChecksUptoSaid : Prop := propChecksUptoRow.holds Try.pinned (OpenSpec.upto propChecksSpec)

/-- 'arraslaw9.PropStyles', WHERE WHAT IT READS IS OF BULK AT MOST 1048576: true; the input reads as it did. -/
def propStylesUptoRow : OpenClaim := { program := "ytfgfoocmiflnmaa", sum := "5215d50cd1070f2f5a1cf83d3dccfa502b9c3102735b55fa8a79665807dc9f4b", func := "arras/arraslaw9.PropStyles", spec := "propStyles", apart := false, narrowed := true }
def PropStylesUptoSaid : Prop := propStylesUptoRow.holds Try.pinned (OpenSpec.upto propStylesSpec)

/-- 'arraslaw9.PropDisplays', WHERE WHAT IT READS IS OF BULK AT MOST 1048576: true; the input reads as it did. -/
def propDisplaysUptoRow : OpenClaim := { program := "ytfgfoocmiflnmaa", sum := "5215d50cd1070f2f5a1cf83d3dccfa502b9c3102735b55fa8a79665807dc9f4b", func := "arras/arraslaw9.PropDisplays", spec := "propDisplays", apart := false, narrowed := true }
def PropDisplaysUptoSaid : Prop := propDisplaysUptoRow.holds Try.pinned (OpenSpec.upto propDisplaysSpec)

/-- 'arraslaw9.PropDirects', WHERE WHAT IT READS IS OF BULK AT MOST 1048576: true; the input reads as it did. -/
def propDirectsUptoRow : OpenClaim := { program := "ytfgfoocmiflnmaa", sum := "5215d50cd1070f2f5a1cf83d3dccfa502b9c3102735b55fa8a79665807dc9f4b", func := "arras/arraslaw9.PropDirects", spec := "propDirects", apart := false, narrowed := true }
def PropDirectsUptoSaid : Prop := propDirectsUptoRow.holds Try.pinned (OpenSpec.upto propDirectsSpec)

/-- 'arraslaw9.PropWraps', WHERE WHAT IT READS IS OF BULK AT MOST 1048576: true; the input reads as it did. -/
def propWrapsUptoRow : OpenClaim := { program := "ytfgfoocmiflnmaa", sum := "5215d50cd1070f2f5a1cf83d3dccfa502b9c3102735b55fa8a79665807dc9f4b", func := "arras/arraslaw9.PropWraps", spec := "propWraps", apart := false, narrowed := true }
def PropWrapsUptoSaid : Prop := propWrapsUptoRow.holds Try.pinned (OpenSpec.upto propWrapsSpec)

/-- 'arraslaw9.PropWidths', WHERE WHAT IT READS IS OF BULK AT MOST 1048576: true; the input reads as it did. -/
def propWidthsUptoRow : OpenClaim := { program := "ytfgfoocmiflnmaa", sum := "5215d50cd1070f2f5a1cf83d3dccfa502b9c3102735b55fa8a79665807dc9f4b", func := "arras/arraslaw9.PropWidths", spec := "propWidths", apart := false, narrowed := true }
def PropWidthsUptoSaid : Prop := propWidthsUptoRow.holds Try.pinned (OpenSpec.upto propWidthsSpec)

/-- 'arraslaw9.PropHeights', WHERE WHAT IT READS IS OF BULK AT MOST 1048576: true; the input reads as it did. -/
def propHeightsUptoRow : OpenClaim := { program := "ytfgfoocmiflnmaa", sum := "5215d50cd1070f2f5a1cf83d3dccfa502b9c3102735b55fa8a79665807dc9f4b", func := "arras/arraslaw9.PropHeights", spec := "propHeights", apart := false, narrowed := true }
def PropHeightsUptoSaid : Prop := propHeightsUptoRow.holds Try.pinned (OpenSpec.upto propHeightsSpec)

/-- 'arraslaw9.PropMinWs', WHERE WHAT IT READS IS OF BULK AT MOST 1048576: true; the input reads as it did. -/
def propMinWsUptoRow : OpenClaim := { program := "ytfgfoocmiflnmaa", sum := "5215d50cd1070f2f5a1cf83d3dccfa502b9c3102735b55fa8a79665807dc9f4b", func := "arras/arraslaw9.PropMinWs", spec := "propMinWs", apart := false, narrowed := true }
def PropMinWsUptoSaid : Prop := propMinWsUptoRow.holds Try.pinned (OpenSpec.upto propMinWsSpec)

/-- 'arraslaw9.PropMaxWs', WHERE WHAT IT READS IS OF BULK AT MOST 1048576: true; the input reads as it did. -/
def propMaxWsUptoRow : OpenClaim := { program := "ytfgfoocmiflnmaa", sum := "5215d50cd1070f2f5a1cf83d3dccfa502b9c3102735b55fa8a79665807dc9f4b", func := "arras/arraslaw9.PropMaxWs", spec := "propMaxWs", apart := false, narrowed := true }
def PropMaxWsUptoSaid : Prop := propMaxWsUptoRow.holds Try.pinned (OpenSpec.upto propMaxWsSpec)

/-- 'arraslaw9.PropMinHs', WHERE WHAT IT READS IS OF BULK AT MOST 1048576: true; the input reads as it did. -/
def propMinHsUptoRow : OpenClaim := { program := "ytfgfoocmiflnmaa", sum := "5215d50cd1070f2f5a1cf83d3dccfa502b9c3102735b55fa8a79665807dc9f4b", func := "arras/arraslaw9.PropMinHs", spec := "propMinHs", apart := false, narrowed := true }
def PropMinHsUptoSaid : Prop := propMinHsUptoRow.holds Try.pinned (OpenSpec.upto propMinHsSpec)

/-- 'arraslaw9.PropMaxHs', WHERE WHAT IT READS IS OF BULK AT MOST 1048576: true; the input reads as it did. -/
def propMaxHsUptoRow : OpenClaim := { program := "ytfgfoocmiflnmaa", sum := "5215d50cd1070f2f5a1cf83d3dccfa502b9c3102735b55fa8a79665807dc9f4b", func := "arras/arraslaw9.PropMaxHs", spec := "propMaxHs", apart := false, narrowed := true }
def PropMaxHsUptoSaid : Prop := propMaxHsUptoRow.holds Try.pinned (OpenSpec.upto propMaxHsSpec)

/-- 'arraslaw9.PropGrows', WHERE WHAT IT READS IS OF BULK AT MOST 1048576: true; the input reads as it did. -/
def propGrowsUptoRow : OpenClaim := { program := "ytfgfoocmiflnmaa", sum := "5215d50cd1070f2f5a1cf83d3dccfa502b9c3102735b55fa8a79665807dc9f4b", func := "arras/arraslaw9.PropGrows", spec := "propGrows", apart := false, narrowed := true }
def PropGrowsUptoSaid : Prop := propGrowsUptoRow.holds Try.pinned (OpenSpec.upto propGrowsSpec)

/-- 'arraslaw9.PropShrinks', WHERE WHAT IT READS IS OF BULK AT MOST 1048576: true; the input reads as it did. -/
def propShrinksUptoRow : OpenClaim := { program := "ytfgfoocmiflnmaa", sum := "5215d50cd1070f2f5a1cf83d3dccfa502b9c3102735b55fa8a79665807dc9f4b", func := "arras/arraslaw9.PropShrinks", spec := "propShrinks", apart := false, narrowed := true }
def PropShrinksUptoSaid : Prop := propShrinksUptoRow.holds Try.pinned (OpenSpec.upto propShrinksSpec)

/-- 'arraslaw9.PropBases', WHERE WHAT IT READS IS OF BULK AT MOST 1048576: true; the input reads as it did. -/
def propBasesUptoRow : OpenClaim := { program := "ytfgfoocmiflnmaa", sum := "5215d50cd1070f2f5a1cf83d3dccfa502b9c3102735b55fa8a79665807dc9f4b", func := "arras/arraslaw9.PropBases", spec := "propBases", apart := false, narrowed := true }
def PropBasesUptoSaid : Prop := propBasesUptoRow.holds Try.pinned (OpenSpec.upto propBasesSpec)

/-- 'arraslaw9.PropMargins', WHERE WHAT IT READS IS OF BULK AT MOST 1048576: true; the input reads as it did. -/
def propMarginsUptoRow : OpenClaim := { program := "ytfgfoocmiflnmaa", sum := "5215d50cd1070f2f5a1cf83d3dccfa502b9c3102735b55fa8a79665807dc9f4b", func := "arras/arraslaw9.PropMargins", spec := "propMargins", apart := false, narrowed := true }
def PropMarginsUptoSaid : Prop := propMarginsUptoRow.holds Try.pinned (OpenSpec.upto propMarginsSpec)

/-- 'arraslaw9.PropPads', WHERE WHAT IT READS IS OF BULK AT MOST 1048576: true; the input reads as it did. -/
def propPadsUptoRow : OpenClaim := { program := "ytfgfoocmiflnmaa", sum := "5215d50cd1070f2f5a1cf83d3dccfa502b9c3102735b55fa8a79665807dc9f4b", func := "arras/arraslaw9.PropPads", spec := "propPads", apart := false, narrowed := true }
def PropPadsUptoSaid : Prop := propPadsUptoRow.holds Try.pinned (OpenSpec.upto propPadsSpec)

/-- 'arraslaw9.PropGaps', WHERE WHAT IT READS IS OF BULK AT MOST 1048576: true; the input reads as it did. -/
def propGapsUptoRow : OpenClaim := { program := "ytfgfoocmiflnmaa", sum := "5215d50cd1070f2f5a1cf83d3dccfa502b9c3102735b55fa8a79665807dc9f4b", func := "arras/arraslaw9.PropGaps", spec := "propGaps", apart := false, narrowed := true }
def PropGapsUptoSaid : Prop := propGapsUptoRow.holds Try.pinned (OpenSpec.upto propGapsSpec)

/-- 'arraslaw9.PropJusts', WHERE WHAT IT READS IS OF BULK AT MOST 1048576: true; the input reads as it did. -/
def propJustsUptoRow : OpenClaim := { program := "ytfgfoocmiflnmaa", sum := "5215d50cd1070f2f5a1cf83d3dccfa502b9c3102735b55fa8a79665807dc9f4b", func := "arras/arraslaw9.PropJusts", spec := "propJusts", apart := false, narrowed := true }
def PropJustsUptoSaid : Prop := propJustsUptoRow.holds Try.pinned (OpenSpec.upto propJustsSpec)

/-- 'arraslaw9.PropAligns', WHERE WHAT IT READS IS OF BULK AT MOST 1048576: true; the input reads as it did. -/
def propAlignsUptoRow : OpenClaim := { program := "ytfgfoocmiflnmaa", sum := "5215d50cd1070f2f5a1cf83d3dccfa502b9c3102735b55fa8a79665807dc9f4b", func := "arras/arraslaw9.PropAligns", spec := "propAligns", apart := false, narrowed := true }
def PropAlignsUptoSaid : Prop := propAlignsUptoRow.holds Try.pinned (OpenSpec.upto propAlignsSpec)

/-- 'arraslaw9.PropColors', WHERE WHAT IT READS IS OF BULK AT MOST 1048576: true; the input reads as it did. -/
def propColorsUptoRow : OpenClaim := { program := "ytfgfoocmiflnmaa", sum := "5215d50cd1070f2f5a1cf83d3dccfa502b9c3102735b55fa8a79665807dc9f4b", func := "arras/arraslaw9.PropColors", spec := "propColors", apart := false, narrowed := true }
def PropColorsUptoSaid : Prop := propColorsUptoRow.holds Try.pinned (OpenSpec.upto propColorsSpec)

/-- 'arraslaw9.PropFonts', WHERE WHAT IT READS IS OF BULK AT MOST 1048576: true; the input reads as it did. -/
def propFontsUptoRow : OpenClaim := { program := "ytfgfoocmiflnmaa", sum := "5215d50cd1070f2f5a1cf83d3dccfa502b9c3102735b55fa8a79665807dc9f4b", func := "arras/arraslaw9.PropFonts", spec := "propFonts", apart := false, narrowed := true }
def PropFontsUptoSaid : Prop := propFontsUptoRow.holds Try.pinned (OpenSpec.upto propFontsSpec)

end Rows
end Go.Proofs.Ytfgfoocmiflnmaa

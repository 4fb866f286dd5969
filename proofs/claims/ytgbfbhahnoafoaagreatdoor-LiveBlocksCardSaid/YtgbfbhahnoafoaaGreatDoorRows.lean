/-
  NARROWER THAN 'FOR EVERY INPUT', by the rows' own cells (each row's printed sentence says how): LiveClashes: loops, laid · LiveChecks: loops, laid · LiveDoes: loops, laid · LivePaths: loops, laid · LiveBlocks: loops, laid · LiveCuts: loops, laid · LiveRight: loops, laid · LiveFew: loops, laid.
  DERIVED. THE GIVEN ROWS OF THIS SEAT. 8 by the template 'for every input the law returns true; each argument reads behind the call as it read before'; 0 by the template 'total and deterministic' (their statements: YtgbfbhahnoafoaaGreatDoorTotals.lean).
  GIVEN WITH THE SEED: the statements are not yours to turn. If you find one false, say at which input.
  Laid BY PROGRAM, IN A SANDBOX (cutbox-rows.mjs): the forced cells as the released guide's own fill.sh prints them over the translation 7dfc03c3a1a4ab75… (all of the seat's roots in one cut). By AI agents, Wed Nov 11 2026. No macro, syntax, notation, axiom, sorry.
-/
import Derived.Test.YtgbfbhahnoafoaaGreatDoorChecked
import GoSem.Claim
import GoSem.ClaimJoined
import GoSem.ClaimMapViews
import Derived.JoinedTies
import Derived.KernelRfl
namespace Go.Proofs.YtgbfbhahnoafoaaGreatDoor
/- THE CELL 'sum', in the pinned program and in every row, IS THE sha256 OF THE DUMP (.gsa) THAT YtgbfbhahnoafoaaGreatDoorProg.lean LOADS. Nothing in Lean hashes anything: it is a label: what it is worth is what the hold of that sum in a sandbox is worth. -/
noncomputable def Tryz.pinned : Pinned := { name := "ytgbfbhahnoafoaagreatdoor", sum := "7dfc03c3a1a4ab75381393221a0d5661c261d078a740d74219f31a15d6cb314b", checked := Tryz.checked }
namespace Rows
def none {H : Type} : Left H := { results := [], args := [] }

/- WHAT THE LISTED PACKAGE-LEVEL VARIABLES READ AS WHEN THE CALL BEGINS. Each datum BY PROGRAM (the guide's laid-datum.mjs) off the statement by which the dump's own 'gosem.cut.vars' lays the variable. In a bare row this is a premise. The card (YtgbfbhahnoafoaaGreatDoorCards.lean) ties it to the program's text. -/
def laid_math_bits_deBruijn64tab {H : Type} : DataW H := .agg [.lit (.int .u8 0), .lit (.int .u8 1), .lit (.int .u8 56), .lit (.int .u8 2), .lit (.int .u8 57), .lit (.int .u8 49), .lit (.int .u8 28), .lit (.int .u8 3), .lit (.int .u8 61), .lit (.int .u8 58), .lit (.int .u8 42), .lit (.int .u8 50), .lit (.int .u8 38), .lit (.int .u8 29), .lit (.int .u8 17), .lit (.int .u8 4), .lit (.int .u8 62), .lit (.int .u8 47), .lit (.int .u8 59), .lit (.int .u8 36), .lit (.int .u8 45), .lit (.int .u8 43), .lit (.int .u8 51), .lit (.int .u8 22), .lit (.int .u8 53), .lit (.int .u8 39), .lit (.int .u8 33), .lit (.int .u8 30), .lit (.int .u8 24), .lit (.int .u8 18), .lit (.int .u8 12), .lit (.int .u8 5), .lit (.int .u8 63), .lit (.int .u8 55), .lit (.int .u8 48), .lit (.int .u8 27), .lit (.int .u8 60), .lit (.int .u8 41), .lit (.int .u8 37), .lit (.int .u8 16), .lit (.int .u8 46), .lit (.int .u8 35), .lit (.int .u8 44), .lit (.int .u8 21), .lit (.int .u8 52), .lit (.int .u8 32), .lit (.int .u8 23), .lit (.int .u8 11), .lit (.int .u8 54), .lit (.int .u8 26), .lit (.int .u8 40), .lit (.int .u8 15), .lit (.int .u8 34), .lit (.int .u8 20), .lit (.int .u8 31), .lit (.int .u8 10), .lit (.int .u8 25), .lit (.int .u8 14), .lit (.int .u8 19), .lit (.int .u8 9), .lit (.int .u8 13), .lit (.int .u8 8), .lit (.int .u8 7), .lit (.int .u8 6)]

/-- 'hearthlaw12.LiveClashes': WHATEVER THE INPUT: true; the input reads as it did. -/
def liveClashesSpec : ChangeSpec := { name := "liveClashes", fn := fun _ => fun
  | [d1, d2] => { results := [.lit (.bool true)], args := [d1, d2] }
  | _ => none }
def liveClashesRow : OpenClaim := { program := "ytgbfbhahnoafoaagreatdoor", sum := "7dfc03c3a1a4ab75381393221a0d5661c261d078a740d74219f31a15d6cb314b", func := "hearth/hearthlaw12.LiveClashes", spec := "liveClashes", unfollowed := true, recurses := true, named := ["math/bits.deBruijn64tab"], loops := true, plainKeys := false, apart := false, laid := [("math/bits.deBruijn64tab", laid_math_bits_deBruijn64tab)] }
def LiveClashesSaid : Prop := liveClashesRow.holds Tryz.pinned (OpenSpec.ofChange liveClashesSpec)

/-- ITS FALSE NEIGHBOUR: 'it returns false'. Refute it at one input. -/
def liveClashesWrong : ChangeSpec := { name := "liveClashes", fn := fun _ => fun
  | [d1, d2] => { results := [.lit (.bool false)], args := [d1, d2] }
  | _ => none }
def LiveClashesWrongFalsely : Prop := liveClashesRow.holds Tryz.pinned (OpenSpec.ofChange liveClashesWrong)

/-- 'hearthlaw12.LiveChecks': WHATEVER THE INPUT: true; the input reads as it did. -/
def liveChecksSpec : ChangeSpec := { name := "liveChecks", fn := fun _ => fun
  | [d1, d2, d3, d4] => { results := [.lit (.bool true)], args := [d1, d2, d3, d4] }
  | _ => none }
def liveChecksRow : OpenClaim := { program := "ytgbfbhahnoafoaagreatdoor", sum := "7dfc03c3a1a4ab75381393221a0d5661c261d078a740d74219f31a15d6cb314b", func := "hearth/hearthlaw12.LiveChecks", spec := "liveChecks", unfollowed := true, recurses := true, named := ["math/bits.deBruijn64tab"], loops := true, plainKeys := false, apart := false, laid := [("math/bits.deBruijn64tab", laid_math_bits_deBruijn64tab)] }
def LiveChecksSaid : Prop := liveChecksRow.holds Tryz.pinned (OpenSpec.ofChange liveChecksSpec)

/-- ITS FALSE NEIGHBOUR: 'it returns false'. Refute it at one input. -/
def liveChecksWrong : ChangeSpec := { name := "liveChecks", fn := fun _ => fun
  | [d1, d2, d3, d4] => { results := [.lit (.bool false)], args := [d1, d2, d3, d4] }
  | _ => none }
def LiveChecksWrongFalsely : Prop := liveChecksRow.holds Tryz.pinned (OpenSpec.ofChange liveChecksWrong)

/-- 'hearthlaw12.LiveDoes': WHATEVER THE INPUT: true; the input reads as it did. -/
def liveDoesSpec : ChangeSpec := { name := "liveDoes", fn := fun _ => fun
  | [d1, d2] => { results := [.lit (.bool true)], args := [d1, d2] }
  | _ => none }
def liveDoesRow : OpenClaim := { program := "ytgbfbhahnoafoaagreatdoor", sum := "7dfc03c3a1a4ab75381393221a0d5661c261d078a740d74219f31a15d6cb314b", func := "hearth/hearthlaw12.LiveDoes", spec := "liveDoes", unfollowed := true, recurses := true, named := ["math/bits.deBruijn64tab"], loops := true, plainKeys := false, apart := false, laid := [("math/bits.deBruijn64tab", laid_math_bits_deBruijn64tab)] }
def LiveDoesSaid : Prop := liveDoesRow.holds Tryz.pinned (OpenSpec.ofChange liveDoesSpec)

/-- ITS FALSE NEIGHBOUR: 'it returns false'. Refute it at one input. -/
def liveDoesWrong : ChangeSpec := { name := "liveDoes", fn := fun _ => fun
  | [d1, d2] => { results := [.lit (.bool false)], args := [d1, d2] }
  | _ => none }
def LiveDoesWrongFalsely : Prop := liveDoesRow.holds Tryz.pinned (OpenSpec.ofChange liveDoesWrong)

/-- 'hearthlaw12.LivePaths': WHATEVER THE INPUT: true; the input reads as it did. -/
def livePathsSpec : ChangeSpec := { name := "livePaths", fn := fun _ => fun
  | [d] => { results := [.lit (.bool true)], args := [d] }
  | _ => none }
def livePathsRow : OpenClaim := { program := "ytgbfbhahnoafoaagreatdoor", sum := "7dfc03c3a1a4ab75381393221a0d5661c261d078a740d74219f31a15d6cb314b", func := "hearth/hearthlaw12.LivePaths", spec := "livePaths", unfollowed := true, recurses := true, named := ["math/bits.deBruijn64tab"], loops := true, plainKeys := false, apart := false, laid := [("math/bits.deBruijn64tab", laid_math_bits_deBruijn64tab)] }
def LivePathsSaid : Prop := livePathsRow.holds Tryz.pinned (OpenSpec.ofChange livePathsSpec)

/-- ITS FALSE NEIGHBOUR: 'it returns false'. Refute it at one input. -/
def livePathsWrong : ChangeSpec := { name := "livePaths", fn := fun _ => fun
  | [d] => { results := [.lit (.bool false)], args := [d] }
  | _ => none }
def LivePathsWrongFalsely : Prop := livePathsRow.holds Tryz.pinned (OpenSpec.ofChange livePathsWrong)

/-- 'hearthlaw12.LiveBlocks': WHATEVER THE INPUT: true; the input reads as it did. -/
def liveBlocksSpec : ChangeSpec := { name := "liveBlocks", fn := fun _ => fun
  | [d] => { results := [.lit (.bool true)], args := [d] }
  | _ => none }
def liveBlocksRow : OpenClaim := { program := "ytgbfbhahnoafoaagreatdoor", sum := "7dfc03c3a1a4ab75381393221a0d5661c261d078a740d74219f31a15d6cb314b", func := "hearth/hearthlaw12.LiveBlocks", spec := "liveBlocks", unfollowed := true, recurses := true, named := ["math/bits.deBruijn64tab"], loops := true, plainKeys := false, apart := false, laid := [("math/bits.deBruijn64tab", laid_math_bits_deBruijn64tab)] }
def LiveBlocksSaid : Prop := liveBlocksRow.holds Tryz.pinned (OpenSpec.ofChange liveBlocksSpec)

/-- ITS FALSE NEIGHBOUR: 'it returns false'. Refute it at one input. -/
def liveBlocksWrong : ChangeSpec := { name := "liveBlocks", fn := fun _ => fun
  | [d] => { results := [.lit (.bool false)], args := [d] }
  | _ => none }
def LiveBlocksWrongFalsely : Prop := liveBlocksRow.holds Tryz.pinned (OpenSpec.ofChange liveBlocksWrong)

/-- 'hearthlaw12.LiveCuts': WHATEVER THE INPUT: true; the input reads as it did. -/
def liveCutsSpec : ChangeSpec := { name := "liveCuts", fn := fun _ => fun
  | [d] => { results := [.lit (.bool true)], args := [d] }
  | _ => none }
def liveCutsRow : OpenClaim := { program := "ytgbfbhahnoafoaagreatdoor", sum := "7dfc03c3a1a4ab75381393221a0d5661c261d078a740d74219f31a15d6cb314b", func := "hearth/hearthlaw12.LiveCuts", spec := "liveCuts", unfollowed := true, recurses := true, named := ["math/bits.deBruijn64tab"], loops := true, plainKeys := false, apart := false, laid := [("math/bits.deBruijn64tab", laid_math_bits_deBruijn64tab)] }
def LiveCutsSaid : Prop := liveCutsRow.holds Tryz.pinned (OpenSpec.ofChange liveCutsSpec)

/-- ITS FALSE NEIGHBOUR: 'it returns false'. Refute it at one input. -/
def liveCutsWrong : ChangeSpec := { name := "liveCuts", fn := fun _ => fun
  | [d] => { results := [.lit (.bool false)], args := [d] }
  | _ => none }
def LiveCutsWrongFalsely : Prop := liveCutsRow.holds Tryz.pinned (OpenSpec.ofChange liveCutsWrong)

/-- 'hearthlaw12.LiveRight': WHATEVER THE INPUT: true; the input reads as it did. -/
def liveRightSpec : ChangeSpec := { name := "liveRight", fn := fun _ => fun
  | [d1, d2, d3, d4] => { results := [.lit (.bool true)], args := [d1, d2, d3, d4] }
  | _ => none }
def liveRightRow : OpenClaim := { program := "ytgbfbhahnoafoaagreatdoor", sum := "7dfc03c3a1a4ab75381393221a0d5661c261d078a740d74219f31a15d6cb314b", func := "hearth/hearthlaw12.LiveRight", spec := "liveRight", unfollowed := true, recurses := true, named := ["math/bits.deBruijn64tab"], loops := true, plainKeys := false, apart := false, laid := [("math/bits.deBruijn64tab", laid_math_bits_deBruijn64tab)] }
def LiveRightSaid : Prop := liveRightRow.holds Tryz.pinned (OpenSpec.ofChange liveRightSpec)

/-- ITS FALSE NEIGHBOUR: 'it returns false'. Refute it at one input. -/
def liveRightWrong : ChangeSpec := { name := "liveRight", fn := fun _ => fun
  | [d1, d2, d3, d4] => { results := [.lit (.bool false)], args := [d1, d2, d3, d4] }
  | _ => none }
def LiveRightWrongFalsely : Prop := liveRightRow.holds Tryz.pinned (OpenSpec.ofChange liveRightWrong)

/-- 'hearthlaw12.LiveFew': WHATEVER THE INPUT: true; the input reads as it did. -/
def liveFewSpec : ChangeSpec := { name := "liveFew", fn := fun _ => fun
  | [d1, d2] => { results := [.lit (.bool true)], args := [d1, d2] }
  | _ => none }
def liveFewRow : OpenClaim := { program := "ytgbfbhahnoafoaagreatdoor", sum := "7dfc03c3a1a4ab75381393221a0d5661c261d078a740d74219f31a15d6cb314b", func := "hearth/hearthlaw12.LiveFew", spec := "liveFew", unfollowed := true, recurses := true, named := ["math/bits.deBruijn64tab"], loops := true, plainKeys := false, apart := false, laid := [("math/bits.deBruijn64tab", laid_math_bits_deBruijn64tab)] }
def LiveFewSaid : Prop := liveFewRow.holds Tryz.pinned (OpenSpec.ofChange liveFewSpec)

/-- ITS FALSE NEIGHBOUR: 'it returns false'. Refute it at one input. -/
def liveFewWrong : ChangeSpec := { name := "liveFew", fn := fun _ => fun
  | [d1, d2] => { results := [.lit (.bool false)], args := [d1, d2] }
  | _ => none }
def LiveFewWrongFalsely : Prop := liveFewRow.holds Tryz.pinned (OpenSpec.ofChange liveFewWrong)

/- THE SECOND FORM. 'bulk': how many values and letters a reading holds, each counted each time it is reached (what is shared counts as often as it is met; a slice's spare places count too). A statement '..UptoSaid' is the law's where the arguments, and the package variables that the reading takes, are together of bulk at most 1048576: NARROWER than '..Said'. Prove '..Said' where nothing that the law and all that it calls make is longer than what came in: it says more and counts as full. Else prove '..UptoSaid'. A law counts once. -/
mutual
def uptoBulk {H : Type} : DataW H → Nat
  | .lit (.string bytes) => bytes.length + 1
  | .lit _ => 1
  | .nil => 1
  | .ptr d => uptoBulk d + 1
  | .slice elems spare => uptoBulkAll elems + uptoBulkAll spare + 1
  | .agg parts => uptoBulkAll parts + 1
  | .iface _ d => uptoBulk d + 1
  | .map entries => uptoBulkEntries entries + 1
  | .held _ => 1
def uptoBulkAll {H : Type} : List (DataW H) → Nat
  | [] => 0
  | d :: r => uptoBulk d + uptoBulkAll r
def uptoBulkEntries {H : Type} : List (Lit × DataW H) → Nat
  | [] => 0
  | x :: r => uptoBulkEntry x + uptoBulkEntries r
def uptoBulkEntry {H : Type} : Lit × DataW H → Nat
  | (.string bytes, d) => bytes.length + uptoBulk d + 1
  | (_, d) => uptoBulk d + 1
 end
def uptoSmall : (H : Type) → List (DataW H) → Bool := fun _ ds => decide (uptoBulkAll ds ≤ 1048576)
def OpenSpec.upto (s : _root_.Go.ChangeSpec) : _root_.Go.OpenSpec := { _root_.Go.OpenSpec.ofChange s with cond := some uptoSmall }

/-- 'hearthlaw12.LiveClashes', WHERE WHAT IT READS IS OF BULK AT MOST 1048576: true; the input reads as it did. -/
def liveClashesUptoRow : OpenClaim := { program := "ytgbfbhahnoafoaagreatdoor", sum := "7dfc03c3a1a4ab75381393221a0d5661c261d078a740d74219f31a15d6cb314b", func := "hearth/hearthlaw12.LiveClashes", spec := "liveClashes", unfollowed := true, recurses := true, named := ["math/bits.deBruijn64tab"], loops := true, plainKeys := false, apart := false, laid := [("math/bits.deBruijn64tab", laid_math_bits_deBruijn64tab)], narrowed := true }
def LiveClashesUptoSaid : Prop := liveClashesUptoRow.holds Tryz.pinned (OpenSpec.upto liveClashesSpec)

/-- 'hearthlaw12.LiveChecks', WHERE WHAT IT READS IS OF BULK AT MOST 1048576: true; the input reads as it did. -/
def liveChecksUptoRow : OpenClaim := { program := "ytgbfbhahnoafoaagreatdoor", sum := "7dfc03c3a1a4ab75381393221a0d5661c261d078a740d74219f31a15d6cb314b", func := "hearth/hearthlaw12.LiveChecks", spec := "liveChecks", unfollowed := true, recurses := true, named := ["math/bits.deBruijn64tab"], loops := true, plainKeys := false, apart := false, laid := [("math/bits.deBruijn64tab", laid_math_bits_deBruijn64tab)], narrowed := true }
def LiveChecksUptoSaid : Prop := liveChecksUptoRow.holds Tryz.pinned (OpenSpec.upto liveChecksSpec)

/-- 'hearthlaw12.LiveDoes', WHERE WHAT IT READS IS OF BULK AT MOST 1048576: true; the input reads as it did. -/
def liveDoesUptoRow : OpenClaim := { program := "ytgbfbhahnoafoaagreatdoor", sum := "7dfc03c3a1a4ab75381393221a0d5661c261d078a740d74219f31a15d6cb314b", func := "hearth/hearthlaw12.LiveDoes", spec := "liveDoes", unfollowed := true, recurses := true, named := ["math/bits.deBruijn64tab"], loops := true, plainKeys := false, apart := false, laid := [("math/bits.deBruijn64tab", laid_math_bits_deBruijn64tab)], narrowed := true }
def LiveDoesUptoSaid : Prop := liveDoesUptoRow.holds Tryz.pinned (OpenSpec.upto liveDoesSpec)

/-- 'hearthlaw12.LivePaths', WHERE WHAT IT READS IS OF BULK AT MOST 1048576: true; the input reads as it did. -/
def livePathsUptoRow : OpenClaim := { program := "ytgbfbhahnoafoaagreatdoor", sum := "7dfc03c3a1a4ab75381393221a0d5661c261d078a740d74219f31a15d6cb314b", func := "hearth/hearthlaw12.LivePaths", spec := "livePaths", unfollowed := true, recurses := true, named := ["math/bits.deBruijn64tab"], loops := true, plainKeys := false, apart := false, laid := [("math/bits.deBruijn64tab", laid_math_bits_deBruijn64tab)], narrowed := true }
def LivePathsUptoSaid : Prop := livePathsUptoRow.holds Tryz.pinned (OpenSpec.upto livePathsSpec)

/-- 'hearthlaw12.LiveBlocks', WHERE WHAT IT READS IS OF BULK AT MOST 1048576: true; the input reads as it did. -/
def liveBlocksUptoRow : OpenClaim := { program := "ytgbfbhahnoafoaagreatdoor", sum := "7dfc03c3a1a4ab75381393221a0d5661c261d078a740d74219f31a15d6cb314b", func := "hearth/hearthlaw12.LiveBlocks", spec := "liveBlocks", unfollowed := true, recurses := true, named := ["math/bits.deBruijn64tab"], loops := true, plainKeys := false, apart := false, laid := [("math/bits.deBruijn64tab", laid_math_bits_deBruijn64tab)], narrowed := true }
def LiveBlocksUptoSaid : Prop := liveBlocksUptoRow.holds Tryz.pinned (OpenSpec.upto liveBlocksSpec)

/-- 'hearthlaw12.LiveCuts', WHERE WHAT IT READS IS OF BULK AT MOST 1048576: true; the input reads as it did. -/
def liveCutsUptoRow : OpenClaim := { program := "ytgbfbhahnoafoaagreatdoor", sum := "7dfc03c3a1a4ab75381393221a0d5661c261d078a740d74219f31a15d6cb314b", func := "hearth/hearthlaw12.LiveCuts", spec := "liveCuts", unfollowed := true, recurses := true, named := ["math/bits.deBruijn64tab"], loops := true, plainKeys := false, apart := false, laid := [("math/bits.deBruijn64tab", laid_math_bits_deBruijn64tab)], narrowed := true }
def LiveCutsUptoSaid : Prop := liveCutsUptoRow.holds Tryz.pinned (OpenSpec.upto liveCutsSpec)

/-- 'hearthlaw12.LiveRight', WHERE WHAT IT READS IS OF BULK AT MOST 1048576: true; the input reads as it did. -/
def liveRightUptoRow : OpenClaim := { program := "ytgbfbhahnoafoaagreatdoor", sum := "7dfc03c3a1a4ab75381393221a0d5661c261d078a740d74219f31a15d6cb314b", func := "hearth/hearthlaw12.LiveRight", spec := "liveRight", unfollowed := true, recurses := true, named := ["math/bits.deBruijn64tab"], loops := true, plainKeys := false, apart := false, laid := [("math/bits.deBruijn64tab", laid_math_bits_deBruijn64tab)], narrowed := true }
def LiveRightUptoSaid : Prop := liveRightUptoRow.holds Tryz.pinned (OpenSpec.upto liveRightSpec)

/-- 'hearthlaw12.LiveFew', WHERE WHAT IT READS IS OF BULK AT MOST 1048576: true; the input reads as it did. -/
def liveFewUptoRow : OpenClaim := { program := "ytgbfbhahnoafoaagreatdoor", sum := "7dfc03c3a1a4ab75381393221a0d5661c261d078a740d74219f31a15d6cb314b", func := "hearth/hearthlaw12.LiveFew", spec := "liveFew", unfollowed := true, recurses := true, named := ["math/bits.deBruijn64tab"], loops := true, plainKeys := false, apart := false, laid := [("math/bits.deBruijn64tab", laid_math_bits_deBruijn64tab)], narrowed := true }
def LiveFewUptoSaid : Prop := liveFewUptoRow.holds Tryz.pinned (OpenSpec.upto liveFewSpec)

end Rows
end Go.Proofs.YtgbfbhahnoafoaaGreatDoor

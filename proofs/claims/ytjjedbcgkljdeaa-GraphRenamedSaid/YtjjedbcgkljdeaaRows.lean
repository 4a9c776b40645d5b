/-
  No cell of these rows narrows 'for every input' (looked for: loops, veiled, ifaces, maps, wideKeys, modest, calm, conditions, laid).
  DERIVED. THE GIVEN ROWS OF THIS SEAT. 10 by the template 'for every input the law returns true; each argument reads behind the call as it read before'; 0 by the template 'total and deterministic' (their statements: YtjjedbcgkljdeaaTotals.lean).
  GIVEN WITH THE SEED: the statements are not yours to turn. If you find one false, say at which input.
  Laid BY PROGRAM, IN A SANDBOX (cutbox-rows.mjs): the forced cells as the released guide's own fill.sh prints them over the translation d1ed332248fc5dd4… (all of the seat's roots in one cut). By AI agents, Wed Nov 11 2026. No macro, syntax, notation, axiom, sorry.
-/
import Derived.Test.YtjjedbcgkljdeaaChecked
import GoSem.Claim
import GoSem.ClaimJoined
import GoSem.ClaimMapViews
import Derived.JoinedTies
import Derived.KernelRfl
namespace Go.Proofs.Ytjjedbcgkljdeaa
/- THE CELL 'sum', in the pinned program and in every row, IS THE sha256 OF THE DUMP (.gsa) THAT YtjjedbcgkljdeaaProg.lean LOADS. Nothing in Lean hashes anything: it is a label: what it is worth is what the hold of that sum in a sandbox is worth. -/
noncomputable def Try.pinned : Pinned := { name := "ytjjedbcgkljdeaa", sum := "d1ed332248fc5dd41a3964d797a66ed7c253cd579470e5b6a8e9b732e40aba71", checked := Try.checked }
namespace Rows
def none {H : Type} : Left H := { results := [], args := [] }

/-- 'drawloomlaw07.GraphLoops': WHATEVER THE INPUT: true; the input reads as it did. -/
def graphLoopsSpec : ChangeSpec := { name := "graphLoops", fn := fun _ => fun
  | [d] => { results := [.lit (.bool true)], args := [d] }
  | _ => none }
def graphLoopsRow : OpenClaim := { program := "ytjjedbcgkljdeaa", sum := "d1ed332248fc5dd41a3964d797a66ed7c253cd579470e5b6a8e9b732e40aba71", func := "drawloom/drawloomlaw07.GraphLoops", spec := "graphLoops", unfollowed := true, recurses := true, apart := false }
def GraphLoopsSaid : Prop := graphLoopsRow.holds Try.pinned (OpenSpec.ofChange graphLoopsSpec)

/-- ITS FALSE NEIGHBOUR: 'it returns false'. Refute it at one input. -/
def graphLoopsWrong : ChangeSpec := { name := "graphLoops", fn := fun _ => fun
  | [d] => { results := [.lit (.bool false)], args := [d] }
  | _ => none }
def GraphLoopsWrongFalsely : Prop := graphLoopsRow.holds Try.pinned (OpenSpec.ofChange graphLoopsWrong)

/-- 'drawloomlaw07.GraphRegions': WHATEVER THE INPUT: true; the input reads as it did. -/
def graphRegionsSpec : ChangeSpec := { name := "graphRegions", fn := fun _ => fun
  | [d1, d2] => { results := [.lit (.bool true)], args := [d1, d2] }
  | _ => none }
def graphRegionsRow : OpenClaim := { program := "ytjjedbcgkljdeaa", sum := "d1ed332248fc5dd41a3964d797a66ed7c253cd579470e5b6a8e9b732e40aba71", func := "drawloom/drawloomlaw07.GraphRegions", spec := "graphRegions", unfollowed := true, recurses := true, apart := false }
def GraphRegionsSaid : Prop := graphRegionsRow.holds Try.pinned (OpenSpec.ofChange graphRegionsSpec)

/-- ITS FALSE NEIGHBOUR: 'it returns false'. Refute it at one input. -/
def graphRegionsWrong : ChangeSpec := { name := "graphRegions", fn := fun _ => fun
  | [d1, d2] => { results := [.lit (.bool false)], args := [d1, d2] }
  | _ => none }
def GraphRegionsWrongFalsely : Prop := graphRegionsRow.holds Try.pinned (OpenSpec.ofChange graphRegionsWrong)

/-- 'drawloomlaw07.GraphLeaves': WHATEVER THE INPUT: true; the input reads as it did. -/
def graphLeavesSpec : ChangeSpec := { name := "graphLeaves", fn := fun _ => fun
  | [d1, d2, d3] => { results := [.lit (.bool true)], args := [d1, d2, d3] }
  | _ => none }
def graphLeavesRow : OpenClaim := { program := "ytjjedbcgkljdeaa", sum := "d1ed332248fc5dd41a3964d797a66ed7c253cd579470e5b6a8e9b732e40aba71", func := "drawloom/drawloomlaw07.GraphLeaves", spec := "graphLeaves", unfollowed := true, recurses := true, apart := false }
def GraphLeavesSaid : Prop := graphLeavesRow.holds Try.pinned (OpenSpec.ofChange graphLeavesSpec)

/-- ITS FALSE NEIGHBOUR: 'it returns false'. Refute it at one input. -/
def graphLeavesWrong : ChangeSpec := { name := "graphLeaves", fn := fun _ => fun
  | [d1, d2, d3] => { results := [.lit (.bool false)], args := [d1, d2, d3] }
  | _ => none }
def GraphLeavesWrongFalsely : Prop := graphLeavesRow.holds Try.pinned (OpenSpec.ofChange graphLeavesWrong)

/-- 'drawloomlaw07.GraphRenamed': WHATEVER THE INPUT: true; the input reads as it did. -/
def graphRenamedSpec : ChangeSpec := { name := "graphRenamed", fn := fun _ => fun
  | [d1, d2] => { results := [.lit (.bool true)], args := [d1, d2] }
  | _ => none }
def graphRenamedRow : OpenClaim := { program := "ytjjedbcgkljdeaa", sum := "d1ed332248fc5dd41a3964d797a66ed7c253cd579470e5b6a8e9b732e40aba71", func := "drawloom/drawloomlaw07.GraphRenamed", spec := "graphRenamed", unfollowed := true, recurses := true, apart := false }
def GraphRenamedSaid : Prop := graphRenamedRow.holds Try.pinned (OpenSpec.ofChange graphRenamedSpec)

/-- ITS FALSE NEIGHBOUR: 'it returns false'. Refute it at one input. -/
def graphRenamedWrong : ChangeSpec := { name := "graphRenamed", fn := fun _ => fun
  | [d1, d2] => { results := [.lit (.bool false)], args := [d1, d2] }
  | _ => none }
def GraphRenamedWrongFalsely : Prop := graphRenamedRow.holds Try.pinned (OpenSpec.ofChange graphRenamedWrong)

/-- 'drawloomlaw07.GraphFronts': WHATEVER THE INPUT: true; the input reads as it did. -/
def graphFrontsSpec : ChangeSpec := { name := "graphFronts", fn := fun _ => fun
  | [d] => { results := [.lit (.bool true)], args := [d] }
  | _ => none }
def graphFrontsRow : OpenClaim := { program := "ytjjedbcgkljdeaa", sum := "d1ed332248fc5dd41a3964d797a66ed7c253cd579470e5b6a8e9b732e40aba71", func := "drawloom/drawloomlaw07.GraphFronts", spec := "graphFronts", unfollowed := true, recurses := true, apart := false }
def GraphFrontsSaid : Prop := graphFrontsRow.holds Try.pinned (OpenSpec.ofChange graphFrontsSpec)

/-- ITS FALSE NEIGHBOUR: 'it returns false'. Refute it at one input. -/
def graphFrontsWrong : ChangeSpec := { name := "graphFronts", fn := fun _ => fun
  | [d] => { results := [.lit (.bool false)], args := [d] }
  | _ => none }
def GraphFrontsWrongFalsely : Prop := graphFrontsRow.holds Try.pinned (OpenSpec.ofChange graphFrontsWrong)

/-- 'drawloomlaw07.GraphNests': WHATEVER THE INPUT: true; the input reads as it did. -/
def graphNestsSpec : ChangeSpec := { name := "graphNests", fn := fun _ => fun
  | [d] => { results := [.lit (.bool true)], args := [d] }
  | _ => none }
def graphNestsRow : OpenClaim := { program := "ytjjedbcgkljdeaa", sum := "d1ed332248fc5dd41a3964d797a66ed7c253cd579470e5b6a8e9b732e40aba71", func := "drawloom/drawloomlaw07.GraphNests", spec := "graphNests", unfollowed := true, recurses := true, apart := false }
def GraphNestsSaid : Prop := graphNestsRow.holds Try.pinned (OpenSpec.ofChange graphNestsSpec)

/-- ITS FALSE NEIGHBOUR: 'it returns false'. Refute it at one input. -/
def graphNestsWrong : ChangeSpec := { name := "graphNests", fn := fun _ => fun
  | [d] => { results := [.lit (.bool false)], args := [d] }
  | _ => none }
def GraphNestsWrongFalsely : Prop := graphNestsRow.holds Try.pinned (OpenSpec.ofChange graphNestsWrong)

/-- 'drawloomlaw07.GraphTurned': WHATEVER THE INPUT: true; the input reads as it did. -/
def graphTurnedSpec : ChangeSpec := { name := "graphTurned", fn := fun _ => fun
  | [d] => { results := [.lit (.bool true)], args := [d] }
  | _ => none }
def graphTurnedRow : OpenClaim := { program := "ytjjedbcgkljdeaa", sum := "d1ed332248fc5dd41a3964d797a66ed7c253cd579470e5b6a8e9b732e40aba71", func := "drawloom/drawloomlaw07.GraphTurned", spec := "graphTurned", unfollowed := true, recurses := true, apart := false }
def GraphTurnedSaid : Prop := graphTurnedRow.holds Try.pinned (OpenSpec.ofChange graphTurnedSpec)

/-- ITS FALSE NEIGHBOUR: 'it returns false'. Refute it at one input. -/
def graphTurnedWrong : ChangeSpec := { name := "graphTurned", fn := fun _ => fun
  | [d] => { results := [.lit (.bool false)], args := [d] }
  | _ => none }
def GraphTurnedWrongFalsely : Prop := graphTurnedRow.holds Try.pinned (OpenSpec.ofChange graphTurnedWrong)

/-- 'drawloomlaw07.GraphReaches': WHATEVER THE INPUT: true; the input reads as it did. -/
def graphReachesSpec : ChangeSpec := { name := "graphReaches", fn := fun _ => fun
  | [d] => { results := [.lit (.bool true)], args := [d] }
  | _ => none }
def graphReachesRow : OpenClaim := { program := "ytjjedbcgkljdeaa", sum := "d1ed332248fc5dd41a3964d797a66ed7c253cd579470e5b6a8e9b732e40aba71", func := "drawloom/drawloomlaw07.GraphReaches", spec := "graphReaches", unfollowed := true, recurses := true, apart := false }
def GraphReachesSaid : Prop := graphReachesRow.holds Try.pinned (OpenSpec.ofChange graphReachesSpec)

/-- ITS FALSE NEIGHBOUR: 'it returns false'. Refute it at one input. -/
def graphReachesWrong : ChangeSpec := { name := "graphReaches", fn := fun _ => fun
  | [d] => { results := [.lit (.bool false)], args := [d] }
  | _ => none }
def GraphReachesWrongFalsely : Prop := graphReachesRow.holds Try.pinned (OpenSpec.ofChange graphReachesWrong)

/-- 'drawloomlaw07.GraphDominates': WHATEVER THE INPUT: true; the input reads as it did. -/
def graphDominatesSpec : ChangeSpec := { name := "graphDominates", fn := fun _ => fun
  | [d1, d2, d3] => { results := [.lit (.bool true)], args := [d1, d2, d3] }
  | _ => none }
def graphDominatesRow : OpenClaim := { program := "ytjjedbcgkljdeaa", sum := "d1ed332248fc5dd41a3964d797a66ed7c253cd579470e5b6a8e9b732e40aba71", func := "drawloom/drawloomlaw07.GraphDominates", spec := "graphDominates", unfollowed := true, recurses := true, apart := false }
def GraphDominatesSaid : Prop := graphDominatesRow.holds Try.pinned (OpenSpec.ofChange graphDominatesSpec)

/-- ITS FALSE NEIGHBOUR: 'it returns false'. Refute it at one input. -/
def graphDominatesWrong : ChangeSpec := { name := "graphDominates", fn := fun _ => fun
  | [d1, d2, d3] => { results := [.lit (.bool false)], args := [d1, d2, d3] }
  | _ => none }
def GraphDominatesWrongFalsely : Prop := graphDominatesRow.holds Try.pinned (OpenSpec.ofChange graphDominatesWrong)

/-- 'drawloomlaw07.GraphTree': WHATEVER THE INPUT: true; the input reads as it did. -/
def graphTreeSpec : ChangeSpec := { name := "graphTree", fn := fun _ => fun
  | [d] => { results := [.lit (.bool true)], args := [d] }
  | _ => none }
def graphTreeRow : OpenClaim := { program := "ytjjedbcgkljdeaa", sum := "d1ed332248fc5dd41a3964d797a66ed7c253cd579470e5b6a8e9b732e40aba71", func := "drawloom/drawloomlaw07.GraphTree", spec := "graphTree", unfollowed := true, recurses := true, apart := false }
def GraphTreeSaid : Prop := graphTreeRow.holds Try.pinned (OpenSpec.ofChange graphTreeSpec)

/-- ITS FALSE NEIGHBOUR: 'it returns false'. Refute it at one input. -/
def graphTreeWrong : ChangeSpec := { name := "graphTree", fn := fun _ => fun
  | [d] => { results := [.lit (.bool false)], args := [d] }
  | _ => none }
def GraphTreeWrongFalsely : Prop := graphTreeRow.holds Try.pinned (OpenSpec.ofChange graphTreeWrong)

/- THE SECOND FORM. 'bulk': how many values and letters a reading holds, each counted each time it is reached (what is shared counts as often as it is met; a slice's spare places count too). A statement '..UptoSaid' is the law's where the arguments, and the package variables that the reading takes, are together of bulk at most 1048576: NARROWER than '..Said'. Prove '..Said' where nothing that the law and all that it calls make is longer than what came in: it says more and counts as full. Else prove '..UptoSaid'. A law counts once. -/
mutual
def uptoBulk {H : Type} : DataW H → Nat
  | .lit (.string bytes) => bytes.length + 1
  | .lit _ => 1
  | .nil => 1
  | .ptr d => uptoBulk d + 1
  | .slice elems spare => uptoBulkAll elems + uptoBulkAll spare + 1
  | .agg parts => uptoBulkAll parts + 1
  | .iface _ d => uptoBulk d + 1
  | .map entries => uptoBulkEntries entries + 1
  | .held _ => 1
def uptoBulkAll {H : Type} : List (DataW H) → Nat
  | [] => 0
  | d :: r => uptoBulk d + uptoBulkAll r
def uptoBulkEntries {H : Type} : List (Lit × DataW H) → Nat
  | [] => 0
  | x :: r => uptoBulkEntry x + uptoBulkEntries r
def uptoBulkEntry {H : Type} : Lit × DataW H → Nat
  | (.string bytes, d) => bytes.length + uptoBulk d + 1
  | (_, d) => uptoBulk d + 1
 end
def uptoSmall : (H : Type) → List (DataW H) → Bool := fun _ ds => decide (uptoBulkAll ds ≤ 1048576)
def OpenSpec.upto (s : _root_.Go.ChangeSpec) : _root_.Go.OpenSpec := { _root_.Go.OpenSpec.ofChange s with cond := some uptoSmall }

/-- 'drawloomlaw07.GraphLoops', WHERE WHAT IT READS IS OF BULK AT MOST 1048576: true; the input reads as it did. -/
def graphLoopsUptoRow : OpenClaim := { program := "ytjjedbcgkljdeaa", sum := "d1ed332248fc5dd41a3964d797a66ed7c253cd579470e5b6a8e9b732e40aba71", func := "drawloom/drawloomlaw07.GraphLoops", spec := "graphLoops", unfollowed := true, recurses := true, apart := false, narrowed := true }
def GraphLoopsUptoSaid : Prop := graphLoopsUptoRow.holds Try.pinned (OpenSpec.upto graphLoopsSpec)

/-- 'drawloomlaw07.GraphRegions', WHERE WHAT IT READS IS OF BULK AT MOST 1048576: true; the input reads as it did. -/
def graphRegionsUptoRow : OpenClaim := { program := "ytjjedbcgkljdeaa", sum := "d1ed332248fc5dd41a3964d797a66ed7c253cd579470e5b6a8e9b732e40aba71", func := "drawloom/drawloomlaw07.GraphRegions", spec := "graphRegions", unfollowed := true, recurses := true, apart := false, narrowed := true }
def GraphRegionsUptoSaid : Prop := graphRegionsUptoRow.holds Try.pinned (OpenSpec.upto graphRegionsSpec)

/-- 'drawloomlaw07.GraphLeaves', WHERE WHAT IT READS IS OF BULK AT MOST 1048576: true; the input reads as it did. -/
def graphLeavesUptoRow : OpenClaim := { program := "ytjjedbcgkljdeaa", sum := "d1ed332248fc5dd41a3964d797a66ed7c253cd579470e5b6a8e9b732e40aba71", func := "drawloom/drawloomlaw07.GraphLeaves", spec := "graphLeaves", unfollowed := true, recurses := true, apart := false, narrowed := true }
def GraphLeavesUptoSaid : Prop := graphLeavesUptoRow.holds Try.pinned (OpenSpec.upto graphLeavesSpec)

/-- 'drawloomlaw07.GraphRenamed', WHERE WHAT IT READS IS OF BULK AT MOST 1048576: true; the input reads as it did. -/
def graphRenamedUptoRow : OpenClaim := { program := "ytjjedbcgkljdeaa", sum := "d1ed332248fc5dd41a3964d797a66ed7c253cd579470e5b6a8e9b732e40aba71", func := "drawloom/drawloomlaw07.GraphRenamed", spec := "graphRenamed", unfollowed := true, recurses := true, apart := false, narrowed := true }
def GraphRenamedUptoSaid : Prop := graphRenamedUptoRow.holds Try.pinned (OpenSpec.upto graphRenamedSpec)

/-- 'drawloomlaw07.GraphFronts', WHERE WHAT IT READS IS OF BULK AT MOST 1048576: true; the input reads as it did. -/
def graphFrontsUptoRow : OpenClaim := { program := "ytjjedbcgkljdeaa", sum := "d1ed332248fc5dd41a3964d797a66ed7c253cd579470e5b6a8e9b732e40aba71", func := "drawloom/drawloomlaw07.GraphFronts", spec := "graphFronts", unfollowed := true, recurses := true, apart := false, narrowed := true }
def GraphFrontsUptoSaid : Prop := graphFrontsUptoRow.holds Try.pinned (OpenSpec.upto graphFrontsSpec)

/-- 'drawloomlaw07.GraphNests', WHERE WHAT IT READS IS OF BULK AT MOST 1048576: true; the input reads as it did. -/
def graphNestsUptoRow : OpenClaim := { program := "ytjjedbcgkljdeaa", sum := "d1ed332248fc5dd41a3964d797a66ed7c253cd579470e5b6a8e9b732e40aba71", func := "drawloom/drawloomlaw07.GraphNests", spec := "graphNests", unfollowed := true, recurses := true, apart := false, narrowed := true }
def GraphNestsUptoSaid : Prop := graphNestsUptoRow.holds Try.pinned (OpenSpec.upto graphNestsSpec)

/-- 'drawloomlaw07.GraphTurned', WHERE WHAT IT READS IS OF BULK AT MOST 1048576: true; the input reads as it did. -/
def graphTurnedUptoRow : OpenClaim := { program := "ytjjedbcgkljdeaa", sum := "d1ed332248fc5dd41a3964d797a66ed7c253cd579470e5b6a8e9b732e40aba71", func := "drawloom/drawloomlaw07.GraphTurned", spec := "graphTurned", unfollowed := true, recurses := true, apart := false, narrowed := true }
def GraphTurnedUptoSaid : Prop := graphTurnedUptoRow.holds Try.pinned (OpenSpec.upto graphTurnedSpec)

/-- 'drawloomlaw07.GraphReaches', WHERE WHAT IT READS IS OF BULK AT MOST 1048576: true; the input reads as it did. -/
def graphReachesUptoRow : OpenClaim := { program := "ytjjedbcgkljdeaa", sum := "d1ed332248fc5dd41a3964d797a66ed7c253cd579470e5b6a8e9b732e40aba71", func := "drawloom/drawloomlaw07.GraphReaches", spec := "graphReaches", unfollowed := true, recurses := true, apart := false, narrowed := true }
def GraphReachesUptoSaid : Prop := graphReachesUptoRow.holds Try.pinned (OpenSpec.upto graphReachesSpec)

/-- 'drawloomlaw07.GraphDominates', WHERE WHAT IT READS IS OF BULK AT MOST 1048576: true; the input reads as it did. -/
def graphDominatesUptoRow : OpenClaim := { program := "ytjjedbcgkljdeaa", sum := "d1ed332248fc5dd41a3964d797a66ed7c253cd579470e5b6a8e9b732e40aba71", func := "drawloom/drawloomlaw07.GraphDominates", spec := "graphDominates", unfollowed := true, recurses := true, apart := false, narrowed := true }
def GraphDominatesUptoSaid : Prop := graphDominatesUptoRow.holds Try.pinned (OpenSpec.upto graphDominatesSpec)

/-- 'drawloomlaw07.GraphTree', WHERE WHAT IT READS IS OF BULK AT MOST 1048576: true; the input reads as it did. -/
def graphTreeUptoRow : OpenClaim := { program := "ytjjedbcgkljdeaa", sum := "d1ed332248fc5dd41a3964d797a66ed7c253cd579470e5b6a8e9b732e40aba71", func := "drawloom/drawloomlaw07.GraphTree", spec := "graphTree", unfollowed := true, recurses := true, apart := false, narrowed := true }
def GraphTreeUptoSaid : Prop := graphTreeUptoRow.holds Try.pinned (OpenSpec.upto graphTreeSpec)

end Rows
end Go.Proofs.Ytjjedbcgkljdeaa

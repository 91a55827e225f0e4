/-
  NARROWER THAN 'FOR EVERY INPUT', by the rows' own cells (each row's printed sentence says how): TreeTells: loops · TreeWalk: loops · TreeSeen: loops · RejectTells: loops · RejectGrows: loops · RejectMeans: loops · PredTells: loops · PredTwins: loops · PredTurns: loops.
  DERIVED. THE GIVEN ROWS OF THIS SEAT. 9 by the template 'for every input the law returns true; each argument reads behind the call as it read before'; 0 by the template 'total and deterministic' (their statements: YtigkkfhpnfjmhaaTotals.lean).
  GIVEN WITH THE SEED: the statements are not yours to turn. If you find one false, say at which input.
  Laid BY PROGRAM, IN A SANDBOX (cutbox-rows.mjs): the forced cells as the released guide's own fill.sh prints them over the translation 9c0da1a883282850… (all of the seat's roots in one cut). By AI agents, Wed Nov 11 2026. No macro, syntax, notation, axiom, sorry.
-/
import Derived.Test.YtigkkfhpnfjmhaaChecked
import GoSem.Claim
import GoSem.ClaimJoined
import GoSem.ClaimMapViews
import Derived.JoinedTies
import Derived.KernelRfl
namespace Go.Proofs.Ytigkkfhpnfjmhaa
/- THE CELL 'sum', in the pinned program and in every row, IS THE sha256 OF THE DUMP (.gsa) THAT YtigkkfhpnfjmhaaProg.lean LOADS. Nothing in Lean hashes anything: it is a label: what it is worth is what the hold of that sum in a sandbox is worth. -/
noncomputable def Try.pinned : Pinned := { name := "ytigkkfhpnfjmhaa", sum := "9c0da1a883282850a38e91afb4946b04b538f2f42b8751fc242511323361d8fb", checked := Try.checked }
namespace Rows
def none {H : Type} : Left H := { results := [], args := [] }

/-- 'watersmeetlaw10.TreeTells': WHATEVER THE INPUT: true; the input reads as it did. -/
def treeTellsSpec : ChangeSpec := { name := "treeTells", fn := fun _ => fun
  | [d1, d2] => { results := [.lit (.bool true)], args := [d1, d2] }
  | _ => none }
def treeTellsRow : OpenClaim := { program := "ytigkkfhpnfjmhaa", sum := "9c0da1a883282850a38e91afb4946b04b538f2f42b8751fc242511323361d8fb", func := "watersmeet/watersmeetlaw10.TreeTells", spec := "treeTells", unfollowed := true, recurses := true, loops := true, apart := false }
def TreeTellsSaid : Prop := treeTellsRow.holds Try.pinned (OpenSpec.ofChange treeTellsSpec)

/-- ITS FALSE NEIGHBOUR: 'it returns false'. Refute it at one input. -/
def treeTellsWrong : ChangeSpec := { name := "treeTells", fn := fun _ => fun
  | [d1, d2] => { results := [.lit (.bool false)], args := [d1, d2] }
  | _ => none }
def TreeTellsWrongFalsely : Prop := treeTellsRow.holds Try.pinned (OpenSpec.ofChange treeTellsWrong)

/-- 'watersmeetlaw10.TreeWalk': WHATEVER THE INPUT: true; the input reads as it did. -/
def treeWalkSpec : ChangeSpec := { name := "treeWalk", fn := fun _ => fun
  | [d1, d2] => { results := [.lit (.bool true)], args := [d1, d2] }
  | _ => none }
def treeWalkRow : OpenClaim := { program := "ytigkkfhpnfjmhaa", sum := "9c0da1a883282850a38e91afb4946b04b538f2f42b8751fc242511323361d8fb", func := "watersmeet/watersmeetlaw10.TreeWalk", spec := "treeWalk", unfollowed := true, recurses := true, loops := true, apart := false }
def TreeWalkSaid : Prop := treeWalkRow.holds Try.pinned (OpenSpec.ofChange treeWalkSpec)

/-- ITS FALSE NEIGHBOUR: 'it returns false'. Refute it at one input. -/
def treeWalkWrong : ChangeSpec := { name := "treeWalk", fn := fun _ => fun
  | [d1, d2] => { results := [.lit (.bool false)], args := [d1, d2] }
  | _ => none }
def TreeWalkWrongFalsely : Prop := treeWalkRow.holds Try.pinned (OpenSpec.ofChange treeWalkWrong)

/-- 'watersmeetlaw10.TreeSeen': WHATEVER THE INPUT: true; the input reads as it did. -/
def treeSeenSpec : ChangeSpec := { name := "treeSeen", fn := fun _ => fun
  | [d] => { results := [.lit (.bool true)], args := [d] }
  | _ => none }
def treeSeenRow : OpenClaim := { program := "ytigkkfhpnfjmhaa", sum := "9c0da1a883282850a38e91afb4946b04b538f2f42b8751fc242511323361d8fb", func := "watersmeet/watersmeetlaw10.TreeSeen", spec := "treeSeen", unfollowed := true, recurses := true, loops := true, apart := false }
def TreeSeenSaid : Prop := treeSeenRow.holds Try.pinned (OpenSpec.ofChange treeSeenSpec)

/-- ITS FALSE NEIGHBOUR: 'it returns false'. Refute it at one input. -/
def treeSeenWrong : ChangeSpec := { name := "treeSeen", fn := fun _ => fun
  | [d] => { results := [.lit (.bool false)], args := [d] }
  | _ => none }
def TreeSeenWrongFalsely : Prop := treeSeenRow.holds Try.pinned (OpenSpec.ofChange treeSeenWrong)

/-- 'watersmeetlaw07.RejectTells': WHATEVER THE INPUT: true; the input reads as it did. -/
def rejectTellsSpec : ChangeSpec := { name := "rejectTells", fn := fun _ => fun
  | [d1, d2] => { results := [.lit (.bool true)], args := [d1, d2] }
  | _ => none }
def rejectTellsRow : OpenClaim := { program := "ytigkkfhpnfjmhaa", sum := "9c0da1a883282850a38e91afb4946b04b538f2f42b8751fc242511323361d8fb", func := "watersmeet/watersmeetlaw07.RejectTells", spec := "rejectTells", unfollowed := true, recurses := true, loops := true, apart := false }
def RejectTellsSaid : Prop := rejectTellsRow.holds Try.pinned (OpenSpec.ofChange rejectTellsSpec)

/-- ITS FALSE NEIGHBOUR: 'it returns false'. Refute it at one input. -/
def rejectTellsWrong : ChangeSpec := { name := "rejectTells", fn := fun _ => fun
  | [d1, d2] => { results := [.lit (.bool false)], args := [d1, d2] }
  | _ => none }
def RejectTellsWrongFalsely : Prop := rejectTellsRow.holds Try.pinned (OpenSpec.ofChange rejectTellsWrong)

/-- 'watersmeetlaw07.RejectGrows': WHATEVER THE INPUT: true; the input reads as it did. -/
def rejectGrowsSpec : ChangeSpec := { name := "rejectGrows", fn := fun _ => fun
  | [d1, d2, d3] => { results := [.lit (.bool true)], args := [d1, d2, d3] }
  | _ => none }
def rejectGrowsRow : OpenClaim := { program := "ytigkkfhpnfjmhaa", sum := "9c0da1a883282850a38e91afb4946b04b538f2f42b8751fc242511323361d8fb", func := "watersmeet/watersmeetlaw07.RejectGrows", spec := "rejectGrows", unfollowed := true, recurses := true, loops := true, apart := false }
def RejectGrowsSaid : Prop := rejectGrowsRow.holds Try.pinned (OpenSpec.ofChange rejectGrowsSpec)

/-- ITS FALSE NEIGHBOUR: 'it returns false'. Refute it at one input. -/
def rejectGrowsWrong : ChangeSpec := { name := "rejectGrows", fn := fun _ => fun
  | [d1, d2, d3] => { results := [.lit (.bool false)], args := [d1, d2, d3] }
  | _ => none }
def RejectGrowsWrongFalsely : Prop := rejectGrowsRow.holds Try.pinned (OpenSpec.ofChange rejectGrowsWrong)

/-- 'watersmeetlaw07.RejectMeans': WHATEVER THE INPUT: true; the input reads as it did. -/
def rejectMeansSpec : ChangeSpec := { name := "rejectMeans", fn := fun _ => fun
  | [d1, d2, d3] => { results := [.lit (.bool true)], args := [d1, d2, d3] }
  | _ => none }
def rejectMeansRow : OpenClaim := { program := "ytigkkfhpnfjmhaa", sum := "9c0da1a883282850a38e91afb4946b04b538f2f42b8751fc242511323361d8fb", func := "watersmeet/watersmeetlaw07.RejectMeans", spec := "rejectMeans", unfollowed := true, recurses := true, loops := true, apart := false }
def RejectMeansSaid : Prop := rejectMeansRow.holds Try.pinned (OpenSpec.ofChange rejectMeansSpec)

/-- ITS FALSE NEIGHBOUR: 'it returns false'. Refute it at one input. -/
def rejectMeansWrong : ChangeSpec := { name := "rejectMeans", fn := fun _ => fun
  | [d1, d2, d3] => { results := [.lit (.bool false)], args := [d1, d2, d3] }
  | _ => none }
def RejectMeansWrongFalsely : Prop := rejectMeansRow.holds Try.pinned (OpenSpec.ofChange rejectMeansWrong)

/-- 'watersmeetlaw06.PredTells': WHATEVER THE INPUT: true; the input reads as it did. -/
def predTellsSpec : ChangeSpec := { name := "predTells", fn := fun _ => fun
  | [d1, d2, d3] => { results := [.lit (.bool true)], args := [d1, d2, d3] }
  | _ => none }
def predTellsRow : OpenClaim := { program := "ytigkkfhpnfjmhaa", sum := "9c0da1a883282850a38e91afb4946b04b538f2f42b8751fc242511323361d8fb", func := "watersmeet/watersmeetlaw06.PredTells", spec := "predTells", unfollowed := true, recurses := true, loops := true, apart := false }
def PredTellsSaid : Prop := predTellsRow.holds Try.pinned (OpenSpec.ofChange predTellsSpec)

/-- ITS FALSE NEIGHBOUR: 'it returns false'. Refute it at one input. -/
def predTellsWrong : ChangeSpec := { name := "predTells", fn := fun _ => fun
  | [d1, d2, d3] => { results := [.lit (.bool false)], args := [d1, d2, d3] }
  | _ => none }
def PredTellsWrongFalsely : Prop := predTellsRow.holds Try.pinned (OpenSpec.ofChange predTellsWrong)

/-- 'watersmeetlaw06.PredTwins': WHATEVER THE INPUT: true; the input reads as it did. -/
def predTwinsSpec : ChangeSpec := { name := "predTwins", fn := fun _ => fun
  | [d1, d2, d3] => { results := [.lit (.bool true)], args := [d1, d2, d3] }
  | _ => none }
def predTwinsRow : OpenClaim := { program := "ytigkkfhpnfjmhaa", sum := "9c0da1a883282850a38e91afb4946b04b538f2f42b8751fc242511323361d8fb", func := "watersmeet/watersmeetlaw06.PredTwins", spec := "predTwins", unfollowed := true, recurses := true, loops := true, apart := false }
def PredTwinsSaid : Prop := predTwinsRow.holds Try.pinned (OpenSpec.ofChange predTwinsSpec)

/-- ITS FALSE NEIGHBOUR: 'it returns false'. Refute it at one input. -/
def predTwinsWrong : ChangeSpec := { name := "predTwins", fn := fun _ => fun
  | [d1, d2, d3] => { results := [.lit (.bool false)], args := [d1, d2, d3] }
  | _ => none }
def PredTwinsWrongFalsely : Prop := predTwinsRow.holds Try.pinned (OpenSpec.ofChange predTwinsWrong)

/-- 'watersmeetlaw06.PredTurns': WHATEVER THE INPUT: true; the input reads as it did. -/
def predTurnsSpec : ChangeSpec := { name := "predTurns", fn := fun _ => fun
  | [d1, d2, d3] => { results := [.lit (.bool true)], args := [d1, d2, d3] }
  | _ => none }
def predTurnsRow : OpenClaim := { program := "ytigkkfhpnfjmhaa", sum := "9c0da1a883282850a38e91afb4946b04b538f2f42b8751fc242511323361d8fb", func := "watersmeet/watersmeetlaw06.PredTurns", spec := "predTurns", unfollowed := true, recurses := true, loops := true, apart := false }
def PredTurnsSaid : Prop := predTurnsRow.holds Try.pinned (OpenSpec.ofChange predTurnsSpec)

/-- ITS FALSE NEIGHBOUR: 'it returns false'. Refute it at one input. -/
def predTurnsWrong : ChangeSpec := { name := "predTurns", fn := fun _ => fun
  | [d1, d2, d3] => { results := [.lit (.bool false)], args := [d1, d2, d3] }
  | _ => none }
def PredTurnsWrongFalsely : Prop := predTurnsRow.holds Try.pinned (OpenSpec.ofChange predTurnsWrong)

/- THE SECOND FORM. 'bulk': how many values and letters a reading holds, each counted each time it is reached (what is shared counts as often as it is met; a slice's spare places count too). A statement '..UptoSaid' is the law's where the arguments, and the package variables that the reading takes, are together of bulk at most 1048576: NARROWER than '..Said'. Prove '..Said' where nothing that the law and all that it calls make is longer than what came in: it says more and counts as full. Else prove '..UptoSaid'. A law counts once. -/
mutual
def uptoBulk {H : Type} : DataW H → Nat
  | .lit (.string bytes) => bytes.length + 1
  | .lit _ => 1
  | .nil => 1
  | .ptr d => uptoBulk d + 1
  | .slice elems spare => uptoBulkAll elems + uptoBulkAll spare + 1
  | .agg parts => uptoBulkAll parts + 1
  | .iface _ d => uptoBulk d + 1
  | .map entries => uptoBulkEntries entries + 1
  | .held _ => 1
def uptoBulkAll {H : Type} : List (DataW H) → Nat
  | [] => 0
  | d :: r => uptoBulk d + uptoBulkAll r
def uptoBulkEntries {H : Type} : List (Lit × DataW H) → Nat
  | [] => 0
  | x :: r => uptoBulkEntry x + uptoBulkEntries r
def uptoBulkEntry {H : Type} : Lit × DataW H → Nat
  | (.string bytes, d) => bytes.length + uptoBulk d + 1
  | (_, d) => uptoBulk d + 1
 end
def uptoSmall : (H : Type) → List (DataW H) → Bool := fun _ ds => decide (uptoBulkAll ds ≤ 1048576)
def OpenSpec.upto (s : _root_.Go.ChangeSpec) : _root_.Go.OpenSpec := { _root_.Go.OpenSpec.ofChange s with cond := some uptoSmall }

/-- 'watersmeetlaw10.TreeTells', WHERE WHAT IT READS IS OF BULK AT MOST 1048576: true; the input reads as it did. -/
def treeTellsUptoRow : OpenClaim := { program := "ytigkkfhpnfjmhaa", sum := "9c0da1a883282850a38e91afb4946b04b538f2f42b8751fc242511323361d8fb", func := "watersmeet/watersmeetlaw10.TreeTells", spec := "treeTells", unfollowed := true, recurses := true, loops := true, apart := false, narrowed := true }
def TreeTellsUptoSaid : Prop := treeTellsUptoRow.holds Try.pinned (OpenSpec.upto treeTellsSpec)

/-- 'watersmeetlaw10.TreeWalk', WHERE WHAT IT READS IS OF BULK AT MOST 1048576: true; the input reads as it did. -/
def treeWalkUptoRow : OpenClaim := { program := "ytigkkfhpnfjmhaa", sum := "9c0da1a883282850a38e91afb4946b04b538f2f42b8751fc242511323361d8fb", func := "watersmeet/watersmeetlaw10.TreeWalk", spec := "treeWalk", unfollowed := true, recurses := true, loops := true, apart := false, narrowed := true }
def TreeWalkUptoSaid : Prop := treeWalkUptoRow.holds Try.pinned (OpenSpec.upto treeWalkSpec)

/-- 'watersmeetlaw10.TreeSeen', WHERE WHAT IT READS IS OF BULK AT MOST 1048576: true; the input reads as it did. -/
def treeSeenUptoRow : OpenClaim := { program := "ytigkkfhpnfjmhaa", sum := "9c0da1a883282850a38e91afb4946b04b538f2f42b8751fc242511323361d8fb", func := "watersmeet/watersmeetlaw10.TreeSeen", spec := "treeSeen", unfollowed := true, recurses := true, loops := true, apart := false, narrowed := true }
def TreeSeenUptoSaid : Prop := treeSeenUptoRow.holds Try.pinned (OpenSpec.upto treeSeenSpec)

/-- 'watersmeetlaw07.RejectTells', WHERE WHAT IT READS IS OF BULK AT MOST 1048576: true; the input reads as it did. -/
def rejectTellsUptoRow : OpenClaim := { program := "ytigkkfhpnfjmhaa", sum := "9c0da1a883282850a38e91afb4946b04b538f2f42b8751fc242511323361d8fb", func := "watersmeet/watersmeetlaw07.RejectTells", spec := "rejectTells", unfollowed := true, recurses := true, loops := true, apart := false, narrowed := true }
def RejectTellsUptoSaid : Prop := rejectTellsUptoRow.holds Try.pinned (OpenSpec.upto rejectTellsSpec)

/-- 'watersmeetlaw07.RejectGrows', WHERE WHAT IT READS IS OF BULK AT MOST 1048576: true; the input reads as it did. -/
def rejectGrowsUptoRow : OpenClaim := { program := "ytigkkfhpnfjmhaa", sum := "9c0da1a883282850a38e91afb4946b04b538f2f42b8751fc242511323361d8fb", func := "watersmeet/watersmeetlaw07.RejectGrows", spec := "rejectGrows", unfollowed := true, recurses := true, loops := true, apart := false, narrowed := true }
def RejectGrowsUptoSaid : Prop := rejectGrowsUptoRow.holds Try.pinned (OpenSpec.upto rejectGrowsSpec)

/-- 'watersmeetlaw07.RejectMeans', WHERE WHAT IT READS IS OF BULK AT MOST 1048576: true; the input reads as it did. -/
def rejectMeansUptoRow : OpenClaim := { program := "ytigkkfhpnfjmhaa", sum := "9c0da1a883282850a38e91afb4946b04b538f2f42b8751fc242511323361d8fb", func := "watersmeet/watersmeetlaw07.RejectMeans", spec := "rejectMeans", unfollowed := true, recurses := true, loops := true, apart := false, narrowed := true }
def RejectMeansUptoSaid : Prop := rejectMeansUptoRow.holds Try.pinned (OpenSpec.upto rejectMeansSpec)

/-- 'watersmeetlaw06.PredTells', WHERE WHAT IT READS IS OF BULK AT MOST 1048576: true; the input reads as it did. -/
def predTellsUptoRow : OpenClaim := { program := "ytigkkfhpnfjmhaa", sum := "9c0da1a883282850a38e91afb4946b04b538f2f42b8751fc242511323361d8fb", func := "watersmeet/watersmeetlaw06.PredTells", spec := "predTells", unfollowed := true, recurses := true, loops := true, apart := false, narrowed := true }
def PredTellsUptoSaid : Prop := predTellsUptoRow.holds Try.pinned (OpenSpec.upto predTellsSpec)

/-- 'watersmeetlaw06.PredTwins', WHERE WHAT IT READS IS OF BULK AT MOST 1048576: true; the input reads as it did. -/
def predTwinsUptoRow : OpenClaim := { program := "ytigkkfhpnfjmhaa", sum := "9c0da1a883282850a38e91afb4946b04b538f2f42b8751fc242511323361d8fb", func := "watersmeet/watersmeetlaw06.PredTwins", spec := "predTwins", unfollowed := true, recurses := true, loops := true, apart := false, narrowed := true }
def PredTwinsUptoSaid : Prop := predTwinsUptoRow.holds Try.pinned (OpenSpec.upto predTwinsSpec)

/-- 'watersmeetlaw06.PredTurns', WHERE WHAT IT READS IS OF BULK AT MOST 1048576: true; the input reads as it did. -/
def predTurnsUptoRow : OpenClaim := { program := "ytigkkfhpnfjmhaa", sum := "9c0da1a883282850a38e91afb4946b04b538f2f42b8751fc242511323361d8fb", func := "watersmeet/watersmeetlaw06.PredTurns", spec := "predTurns", unfollowed := true, recurses := true, loops := true, apart := false, narrowed := true }
def PredTurnsUptoSaid : Prop := predTurnsUptoRow.holds Try.pinned (OpenSpec.upto predTurnsSpec)

end Rows
end Go.Proofs.Ytigkkfhpnfjmhaa

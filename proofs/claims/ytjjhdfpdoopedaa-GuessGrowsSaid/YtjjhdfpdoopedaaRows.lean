/-
  NARROWER THAN 'FOR EVERY INPUT', by the rows' own cells (each row's printed sentence says how): GuessTells: loops · GuessGrows: loops · GuessSet: loops.
  DERIVED. THE GIVEN ROWS OF THIS SEAT. 7 by the template 'for every input the law returns true; each argument reads behind the call as it read before'; 0 by the template 'total and deterministic' (their statements: YtjjhdfpdoopedaaTotals.lean).
  GIVEN WITH THE SEED: the statements are not yours to turn. If you find one false, say at which input.
  Laid BY PROGRAM, IN A SANDBOX (cutbox-rows.mjs): the forced cells as the released guide's own fill.sh prints them over the translation c44329fd0e3656ae… (all of the seat's roots in one cut). By AI agents, Wed Nov 11 2026. No macro, syntax, notation, axiom, sorry.
-/
import Derived.Test.YtjjhdfpdoopedaaChecked
import GoSem.Claim
import GoSem.ClaimJoined
import GoSem.ClaimMapViews
import Derived.JoinedTies
import Derived.KernelRfl
namespace Go.Proofs.Ytjjhdfpdoopedaa
/- THE CELL 'sum', in the pinned program and in every row, IS THE sha256 OF THE DUMP (.gsa) THAT YtjjhdfpdoopedaaProg.lean LOADS. Nothing in Lean hashes anything: it is a label: what it is worth is what the hold of that sum in a sandbox is worth. -/
noncomputable def Try.pinned : Pinned := { name := "ytjjhdfpdoopedaa", sum := "c44329fd0e3656aee23436cb40c9b3806245dfa0c668b25215147144b586294f", checked := Try.checked }
namespace Rows
def none {H : Type} : Left H := { results := [], args := [] }

/-- 'watersmeetlaw02.SatTells': WHATEVER THE INPUT: true; the input reads as it did. -/
def satTellsSpec : ChangeSpec := { name := "satTells", fn := fun _ => fun
  | [d1, d2, d3] => { results := [.lit (.bool true)], args := [d1, d2, d3] }
  | _ => none }
def satTellsRow : OpenClaim := { program := "ytjjhdfpdoopedaa", sum := "c44329fd0e3656aee23436cb40c9b3806245dfa0c668b25215147144b586294f", func := "watersmeet/watersmeetlaw02.SatTells", spec := "satTells", unfollowed := true, recurses := true, apart := false }
def SatTellsSaid : Prop := satTellsRow.holds Try.pinned (OpenSpec.ofChange satTellsSpec)

/-- ITS FALSE NEIGHBOUR: 'it returns false'. Refute it at one input. -/
def satTellsWrong : ChangeSpec := { name := "satTells", fn := fun _ => fun
  | [d1, d2, d3] => { results := [.lit (.bool false)], args := [d1, d2, d3] }
  | _ => none }
def SatTellsWrongFalsely : Prop := satTellsRow.holds Try.pinned (OpenSpec.ofChange satTellsWrong)

/-- 'watersmeetlaw02.SatMonotone': WHATEVER THE INPUT: true; the input reads as it did. -/
def satMonotoneSpec : ChangeSpec := { name := "satMonotone", fn := fun _ => fun
  | [d1, d2, d3] => { results := [.lit (.bool true)], args := [d1, d2, d3] }
  | _ => none }
def satMonotoneRow : OpenClaim := { program := "ytjjhdfpdoopedaa", sum := "c44329fd0e3656aee23436cb40c9b3806245dfa0c668b25215147144b586294f", func := "watersmeet/watersmeetlaw02.SatMonotone", spec := "satMonotone", unfollowed := true, recurses := true, apart := false }
def SatMonotoneSaid : Prop := satMonotoneRow.holds Try.pinned (OpenSpec.ofChange satMonotoneSpec)

/-- ITS FALSE NEIGHBOUR: 'it returns false'. Refute it at one input. -/
def satMonotoneWrong : ChangeSpec := { name := "satMonotone", fn := fun _ => fun
  | [d1, d2, d3] => { results := [.lit (.bool false)], args := [d1, d2, d3] }
  | _ => none }
def SatMonotoneWrongFalsely : Prop := satMonotoneRow.holds Try.pinned (OpenSpec.ofChange satMonotoneWrong)

/-- 'watersmeetlaw05.TermTells': WHATEVER THE INPUT: true; the input reads as it did. -/
def termTellsSpec : ChangeSpec := { name := "termTells", fn := fun _ => fun
  | [d1, d2, d3] => { results := [.lit (.bool true)], args := [d1, d2, d3] }
  | _ => none }
def termTellsRow : OpenClaim := { program := "ytjjhdfpdoopedaa", sum := "c44329fd0e3656aee23436cb40c9b3806245dfa0c668b25215147144b586294f", func := "watersmeet/watersmeetlaw05.TermTells", spec := "termTells", apart := false }
def TermTellsSaid : Prop := termTellsRow.holds Try.pinned (OpenSpec.ofChange termTellsSpec)

/-- ITS FALSE NEIGHBOUR: 'it returns false'. Refute it at one input. -/
def termTellsWrong : ChangeSpec := { name := "termTells", fn := fun _ => fun
  | [d1, d2, d3] => { results := [.lit (.bool false)], args := [d1, d2, d3] }
  | _ => none }
def TermTellsWrongFalsely : Prop := termTellsRow.holds Try.pinned (OpenSpec.ofChange termTellsWrong)

/-- 'watersmeetlaw05.TermRows': WHATEVER THE INPUT: true; the input reads as it did. -/
def termRowsSpec : ChangeSpec := { name := "termRows", fn := fun _ => fun
  | [d1, d2, d3] => { results := [.lit (.bool true)], args := [d1, d2, d3] }
  | _ => none }
def termRowsRow : OpenClaim := { program := "ytjjhdfpdoopedaa", sum := "c44329fd0e3656aee23436cb40c9b3806245dfa0c668b25215147144b586294f", func := "watersmeet/watersmeetlaw05.TermRows", spec := "termRows", apart := false }
def TermRowsSaid : Prop := termRowsRow.holds Try.pinned (OpenSpec.ofChange termRowsSpec)

/-- ITS FALSE NEIGHBOUR: 'it returns false'. Refute it at one input. -/
def termRowsWrong : ChangeSpec := { name := "termRows", fn := fun _ => fun
  | [d1, d2, d3] => { results := [.lit (.bool false)], args := [d1, d2, d3] }
  | _ => none }
def TermRowsWrongFalsely : Prop := termRowsRow.holds Try.pinned (OpenSpec.ofChange termRowsWrong)

/-- 'watersmeetlaw27.GuessTells': WHATEVER THE INPUT: true; the input reads as it did. -/
def guessTellsSpec : ChangeSpec := { name := "guessTells", fn := fun _ => fun
  | [d1, d2, d3] => { results := [.lit (.bool true)], args := [d1, d2, d3] }
  | _ => none }
def guessTellsRow : OpenClaim := { program := "ytjjhdfpdoopedaa", sum := "c44329fd0e3656aee23436cb40c9b3806245dfa0c668b25215147144b586294f", func := "watersmeet/watersmeetlaw27.GuessTells", spec := "guessTells", unfollowed := true, recurses := true, loops := true, apart := false }
def GuessTellsSaid : Prop := guessTellsRow.holds Try.pinned (OpenSpec.ofChange guessTellsSpec)

/-- ITS FALSE NEIGHBOUR: 'it returns false'. Refute it at one input. -/
def guessTellsWrong : ChangeSpec := { name := "guessTells", fn := fun _ => fun
  | [d1, d2, d3] => { results := [.lit (.bool false)], args := [d1, d2, d3] }
  | _ => none }
def GuessTellsWrongFalsely : Prop := guessTellsRow.holds Try.pinned (OpenSpec.ofChange guessTellsWrong)

/-- 'watersmeetlaw27.GuessGrows': WHATEVER THE INPUT: true; the input reads as it did. -/
def guessGrowsSpec : ChangeSpec := { name := "guessGrows", fn := fun _ => fun
  | [d1, d2, d3] => { results := [.lit (.bool true)], args := [d1, d2, d3] }
  | _ => none }
def guessGrowsRow : OpenClaim := { program := "ytjjhdfpdoopedaa", sum := "c44329fd0e3656aee23436cb40c9b3806245dfa0c668b25215147144b586294f", func := "watersmeet/watersmeetlaw27.GuessGrows", spec := "guessGrows", unfollowed := true, recurses := true, loops := true, apart := false }
def GuessGrowsSaid : Prop := guessGrowsRow.holds Try.pinned (OpenSpec.ofChange guessGrowsSpec)

/-- ITS FALSE NEIGHBOUR: 'it returns false'. Refute it at one input. -/
def guessGrowsWrong : ChangeSpec := { name := "guessGrows", fn := fun _ => fun
  | [d1, d2, d3] => { results := [.lit (.bool false)], args := [d1, d2, d3] }
  | _ => none }
def GuessGrowsWrongFalsely : Prop := guessGrowsRow.holds Try.pinned (OpenSpec.ofChange guessGrowsWrong)

/-- 'watersmeetlaw27.GuessSet': WHATEVER THE INPUT: true; the input reads as it did. -/
def guessSetSpec : ChangeSpec := { name := "guessSet", fn := fun _ => fun
  | [d1, d2, d3] => { results := [.lit (.bool true)], args := [d1, d2, d3] }
  | _ => none }
def guessSetRow : OpenClaim := { program := "ytjjhdfpdoopedaa", sum := "c44329fd0e3656aee23436cb40c9b3806245dfa0c668b25215147144b586294f", func := "watersmeet/watersmeetlaw27.GuessSet", spec := "guessSet", unfollowed := true, recurses := true, loops := true, apart := false }
def GuessSetSaid : Prop := guessSetRow.holds Try.pinned (OpenSpec.ofChange guessSetSpec)

/-- ITS FALSE NEIGHBOUR: 'it returns false'. Refute it at one input. -/
def guessSetWrong : ChangeSpec := { name := "guessSet", fn := fun _ => fun
  | [d1, d2, d3] => { results := [.lit (.bool false)], args := [d1, d2, d3] }
  | _ => none }
def GuessSetWrongFalsely : Prop := guessSetRow.holds Try.pinned (OpenSpec.ofChange guessSetWrong)

/- THE SECOND FORM. 'bulk': how many values and letters a reading holds, each counted each time it is reached (what is shared counts as often as it is met; a slice's spare places count too). A statement '..UptoSaid' is the law's where the arguments, and the package variables that the reading takes, are together of bulk at most 1048576: NARROWER than '..Said'. Prove '..Said' where nothing that the law and all that it calls make is longer than what came in: it says more and counts as full. Else prove '..UptoSaid'. A law counts once. -/
mutual
def uptoBulk {H : Type} : DataW H → Nat
  | .lit (.string bytes) => bytes.length + 1
  | .lit _ => 1
  | .nil => 1
  | .ptr d => uptoBulk d + 1
  | .slice elems spare => uptoBulkAll elems + uptoBulkAll spare + 1
  | .agg parts => uptoBulkAll parts + 1
  | .iface _ d => uptoBulk d + 1
  | .map entries => uptoBulkEntries entries + 1
  | .held _ => 1
def uptoBulkAll {H : Type} : List (DataW H) → Nat
  | [] => 0
  | d :: r => uptoBulk d + uptoBulkAll r
def uptoBulkEntries {H : Type} : List (Lit × DataW H) → Nat
  | [] => 0
  | x :: r => uptoBulkEntry x + uptoBulkEntries r
def uptoBulkEntry {H : Type} : Lit × DataW H → Nat
  | (.string bytes, d) => bytes.length + uptoBulk d + 1
  | (_, d) => uptoBulk d + 1
 end
def uptoSmall : (H : Type) → List (DataW H) → Bool := fun _ ds => decide (uptoBulkAll ds ≤ 1048576)
def OpenSpec.upto (s : _root_.Go.ChangeSpec) : _root_.Go.OpenSpec := { _root_.Go.OpenSpec.ofChange s with cond := some uptoSmall }

/-- 'watersmeetlaw02.SatTells', WHERE WHAT IT READS IS OF BULK AT MOST 1048576: true; the input reads as it did. -/
def satTellsUptoRow : OpenClaim := { program := "ytjjhdfpdoopedaa", sum := "c44329fd0e3656aee23436cb40c9b3806245dfa0c668b25215147144b586294f", func := "watersmeet/watersmeetlaw02.SatTells", spec := "satTells", unfollowed := true, recurses := true, apart := false, narrowed := true }
def SatTellsUptoSaid : Prop := satTellsUptoRow.holds Try.pinned (OpenSpec.upto satTellsSpec)

/-- 'watersmeetlaw02.SatMonotone', WHERE WHAT IT READS IS OF BULK AT MOST 1048576: true; the input reads as it did. -/
def satMonotoneUptoRow : OpenClaim := { program := "ytjjhdfpdoopedaa", sum := "c44329fd0e3656aee23436cb40c9b3806245dfa0c668b25215147144b586294f", func := "watersmeet/watersmeetlaw02.SatMonotone", spec := "satMonotone", unfollowed := true, recurses := true, apart := false, narrowed := true }
def SatMonotoneUptoSaid : Prop := satMonotoneUptoRow.holds Try.pinned (OpenSpec.upto satMonotoneSpec)

/-- 'watersmeetlaw05.TermTells', WHERE WHAT IT READS IS OF BULK AT MOST 1048576: true; the input reads as it did. -/
def termTellsUptoRow : OpenClaim := { program := "ytjjhdfpdoopedaa", sum := "c44329fd0e3656aee23436cb40c9b3806245dfa0c668b25215147144b586294f", func := "watersmeet/watersmeetlaw05.TermTells", spec := "termTells", apart := false, narrowed := true }
def TermTellsUptoSaid : Prop := termTellsUptoRow.holds Try.pinned (OpenSpec.upto termTellsSpec)

/-- 'watersmeetlaw05.TermRows', WHERE WHAT IT READS IS OF BULK AT MOST 1048576: true; the input reads as it did. -/
def termRowsUptoRow : OpenClaim := { program := "ytjjhdfpdoopedaa", sum := "c44329fd0e3656aee23436cb40c9b3806245dfa0c668b25215147144b586294f", func := "watersmeet/watersmeetlaw05.TermRows", spec := "termRows", apart := false, narrowed := true }
def TermRowsUptoSaid : Prop := termRowsUptoRow.holds Try.pinned (OpenSpec.upto termRowsSpec)

/-- 'watersmeetlaw27.GuessTells', WHERE WHAT IT READS IS OF BULK AT MOST 1048576: true; the input reads as it did. -/
def guessTellsUptoRow : OpenClaim := { program := "ytjjhdfpdoopedaa", sum := "c44329fd0e3656aee23436cb40c9b3806245dfa0c668b25215147144b586294f", func := "watersmeet/watersmeetlaw27.GuessTells", spec := "guessTells", unfollowed := true, recurses := true, loops := true, apart := false, narrowed := true }
def GuessTellsUptoSaid : Prop := guessTellsUptoRow.holds Try.pinned (OpenSpec.upto guessTellsSpec)

/-- 'watersmeetlaw27.GuessGrows', WHERE WHAT IT READS IS OF BULK AT MOST 1048576: true; the input reads as it did. -/
def guessGrowsUptoRow : OpenClaim := { program := "ytjjhdfpdoopedaa", sum := "c44329fd0e3656aee23436cb40c9b3806245dfa0c668b25215147144b586294f", func := "watersmeet/watersmeetlaw27.GuessGrows", spec := "guessGrows", unfollowed := true, recurses := true, loops := true, apart := false, narrowed := true }
def GuessGrowsUptoSaid : Prop := guessGrowsUptoRow.holds Try.pinned (OpenSpec.upto guessGrowsSpec)

/-- 'watersmeetlaw27.GuessSet', WHERE WHAT IT READS IS OF BULK AT MOST 1048576: true; the input reads as it did. -/
def guessSetUptoRow : OpenClaim := { program := "ytjjhdfpdoopedaa", sum := "c44329fd0e3656aee23436cb40c9b3806245dfa0c668b25215147144b586294f", func := "watersmeet/watersmeetlaw27.GuessSet", spec := "guessSet", unfollowed := true, recurses := true, loops := true, apart := false, narrowed := true }
def GuessSetUptoSaid : Prop := guessSetUptoRow.holds Try.pinned (OpenSpec.upto guessSetSpec)

end Rows
end Go.Proofs.Ytjjhdfpdoopedaa

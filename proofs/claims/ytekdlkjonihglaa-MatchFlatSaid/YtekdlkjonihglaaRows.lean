/-
  NARROWER THAN 'FOR EVERY INPUT', by the rows' own cells (each row's printed sentence says how): NestTells: loops · NestParts: loops · MatchTells: loops · MatchKinds: loops · SimpleTells: loops · SimpleLess: loops · SimpleSame: loops.
  DERIVED. THE GIVEN ROWS OF THIS SEAT. 8 by the template 'for every input the law returns true; each argument reads behind the call as it read before'; 0 by the template 'total and deterministic' (their statements: YtekdlkjonihglaaTotals.lean).
  GIVEN WITH THE SEED: the statements are not yours to turn. If you find one false, say at which input.
  Laid BY PROGRAM, IN A SANDBOX (cutbox-rows.mjs): the forced cells as the released guide's own fill.sh prints them over the translation 5d261cc67ac4db96… (all of the seat's roots in one cut). By AI agents, Wed Nov 11 2026. No macro, syntax, notation, axiom, sorry.
-/
import Derived.Test.YtekdlkjonihglaaChecked
import GoSem.Claim
import GoSem.ClaimJoined
import GoSem.ClaimMapViews
import Derived.JoinedTies
import Derived.KernelRfl
namespace Go.Proofs.Ytekdlkjonihglaa
/- THE CELL 'sum', in the pinned program and in every row, IS THE sha256 OF THE DUMP (.gsa) THAT YtekdlkjonihglaaProg.lean LOADS. Nothing in Lean hashes anything: it is a label: what it is worth is what the hold of that sum in a sandbox is worth. -/
noncomputable def Try.pinned : Pinned := { name := "ytekdlkjonihglaa", sum := "5d261cc67ac4db963bdba98db38c99979e678e9640011a8ed7a7c8c6d66d1162", checked := Try.checked }
namespace Rows
def none {H : Type} : Left H := { results := [], args := [] }

/-- 'watersmeetlaw14.NestTells': WHATEVER THE INPUT: true; the input reads as it did. -/
def nestTellsSpec : ChangeSpec := { name := "nestTells", fn := fun _ => fun
  | [d1, d2, d3] => { results := [.lit (.bool true)], args := [d1, d2, d3] }
  | _ => none }
def nestTellsRow : OpenClaim := { program := "ytekdlkjonihglaa", sum := "5d261cc67ac4db963bdba98db38c99979e678e9640011a8ed7a7c8c6d66d1162", func := "watersmeet/watersmeetlaw14.NestTells", spec := "nestTells", unfollowed := true, recurses := true, loops := true, apart := false }
def NestTellsSaid : Prop := nestTellsRow.holds Try.pinned (OpenSpec.ofChange nestTellsSpec)

/-- ITS FALSE NEIGHBOUR: 'it returns false'. Refute it at one input. -/
def nestTellsWrong : ChangeSpec := { name := "nestTells", fn := fun _ => fun
  | [d1, d2, d3] => { results := [.lit (.bool false)], args := [d1, d2, d3] }
  | _ => none }
def NestTellsWrongFalsely : Prop := nestTellsRow.holds Try.pinned (OpenSpec.ofChange nestTellsWrong)

/-- 'watersmeetlaw14.NestParts': WHATEVER THE INPUT: true; the input reads as it did. -/
def nestPartsSpec : ChangeSpec := { name := "nestParts", fn := fun _ => fun
  | [d1, d2, d3] => { results := [.lit (.bool true)], args := [d1, d2, d3] }
  | _ => none }
def nestPartsRow : OpenClaim := { program := "ytekdlkjonihglaa", sum := "5d261cc67ac4db963bdba98db38c99979e678e9640011a8ed7a7c8c6d66d1162", func := "watersmeet/watersmeetlaw14.NestParts", spec := "nestParts", unfollowed := true, recurses := true, loops := true, apart := false }
def NestPartsSaid : Prop := nestPartsRow.holds Try.pinned (OpenSpec.ofChange nestPartsSpec)

/-- ITS FALSE NEIGHBOUR: 'it returns false'. Refute it at one input. -/
def nestPartsWrong : ChangeSpec := { name := "nestParts", fn := fun _ => fun
  | [d1, d2, d3] => { results := [.lit (.bool false)], args := [d1, d2, d3] }
  | _ => none }
def NestPartsWrongFalsely : Prop := nestPartsRow.holds Try.pinned (OpenSpec.ofChange nestPartsWrong)

/-- 'watersmeetlaw13.MatchTells': WHATEVER THE INPUT: true; the input reads as it did. -/
def matchTellsSpec : ChangeSpec := { name := "matchTells", fn := fun _ => fun
  | [d1, d2, d3] => { results := [.lit (.bool true)], args := [d1, d2, d3] }
  | _ => none }
def matchTellsRow : OpenClaim := { program := "ytekdlkjonihglaa", sum := "5d261cc67ac4db963bdba98db38c99979e678e9640011a8ed7a7c8c6d66d1162", func := "watersmeet/watersmeetlaw13.MatchTells", spec := "matchTells", unfollowed := true, recurses := true, loops := true, apart := false }
def MatchTellsSaid : Prop := matchTellsRow.holds Try.pinned (OpenSpec.ofChange matchTellsSpec)

/-- ITS FALSE NEIGHBOUR: 'it returns false'. Refute it at one input. -/
def matchTellsWrong : ChangeSpec := { name := "matchTells", fn := fun _ => fun
  | [d1, d2, d3] => { results := [.lit (.bool false)], args := [d1, d2, d3] }
  | _ => none }
def MatchTellsWrongFalsely : Prop := matchTellsRow.holds Try.pinned (OpenSpec.ofChange matchTellsWrong)

/-- 'watersmeetlaw13.MatchKinds': WHATEVER THE INPUT: true; the input reads as it did. -/
def matchKindsSpec : ChangeSpec := { name := "matchKinds", fn := fun _ => fun
  | [d1, d2, d3] => { results := [.lit (.bool true)], args := [d1, d2, d3] }
  | _ => none }
def matchKindsRow : OpenClaim := { program := "ytekdlkjonihglaa", sum := "5d261cc67ac4db963bdba98db38c99979e678e9640011a8ed7a7c8c6d66d1162", func := "watersmeet/watersmeetlaw13.MatchKinds", spec := "matchKinds", unfollowed := true, recurses := true, loops := true, apart := false }
def MatchKindsSaid : Prop := matchKindsRow.holds Try.pinned (OpenSpec.ofChange matchKindsSpec)

/-- ITS FALSE NEIGHBOUR: 'it returns false'. Refute it at one input. -/
def matchKindsWrong : ChangeSpec := { name := "matchKinds", fn := fun _ => fun
  | [d1, d2, d3] => { results := [.lit (.bool false)], args := [d1, d2, d3] }
  | _ => none }
def MatchKindsWrongFalsely : Prop := matchKindsRow.holds Try.pinned (OpenSpec.ofChange matchKindsWrong)

/-- 'watersmeetlaw13.MatchFlat': WHATEVER THE INPUT: true; the input reads as it did. -/
def matchFlatSpec : ChangeSpec := { name := "matchFlat", fn := fun _ => fun
  | [d1, d2, d3] => { results := [.lit (.bool true)], args := [d1, d2, d3] }
  | _ => none }
def matchFlatRow : OpenClaim := { program := "ytekdlkjonihglaa", sum := "5d261cc67ac4db963bdba98db38c99979e678e9640011a8ed7a7c8c6d66d1162", func := "watersmeet/watersmeetlaw13.MatchFlat", spec := "matchFlat", unfollowed := true, recurses := true, apart := false }
def MatchFlatSaid : Prop := matchFlatRow.holds Try.pinned (OpenSpec.ofChange matchFlatSpec)

/-- ITS FALSE NEIGHBOUR: 'it returns false'. Refute it at one input. -/
def matchFlatWrong : ChangeSpec := { name := "matchFlat", fn := fun _ => fun
  | [d1, d2, d3] => { results := [.lit (.bool false)], args := [d1, d2, d3] }
  | _ => none }
def MatchFlatWrongFalsely : Prop := matchFlatRow.holds Try.pinned (OpenSpec.ofChange matchFlatWrong)

/-- 'watersmeetlaw39.SimpleTells': WHATEVER THE INPUT: true; the input reads as it did. -/
def simpleTellsSpec : ChangeSpec := { name := "simpleTells", fn := fun _ => fun
  | [d] => { results := [.lit (.bool true)], args := [d] }
  | _ => none }
def simpleTellsRow : OpenClaim := { program := "ytekdlkjonihglaa", sum := "5d261cc67ac4db963bdba98db38c99979e678e9640011a8ed7a7c8c6d66d1162", func := "watersmeet/watersmeetlaw39.SimpleTells", spec := "simpleTells", unfollowed := true, recurses := true, loops := true, apart := false }
def SimpleTellsSaid : Prop := simpleTellsRow.holds Try.pinned (OpenSpec.ofChange simpleTellsSpec)

/-- ITS FALSE NEIGHBOUR: 'it returns false'. Refute it at one input. -/
def simpleTellsWrong : ChangeSpec := { name := "simpleTells", fn := fun _ => fun
  | [d] => { results := [.lit (.bool false)], args := [d] }
  | _ => none }
def SimpleTellsWrongFalsely : Prop := simpleTellsRow.holds Try.pinned (OpenSpec.ofChange simpleTellsWrong)

/-- 'watersmeetlaw39.SimpleLess': WHATEVER THE INPUT: true; the input reads as it did. -/
def simpleLessSpec : ChangeSpec := { name := "simpleLess", fn := fun _ => fun
  | [d] => { results := [.lit (.bool true)], args := [d] }
  | _ => none }
def simpleLessRow : OpenClaim := { program := "ytekdlkjonihglaa", sum := "5d261cc67ac4db963bdba98db38c99979e678e9640011a8ed7a7c8c6d66d1162", func := "watersmeet/watersmeetlaw39.SimpleLess", spec := "simpleLess", unfollowed := true, recurses := true, loops := true, apart := false }
def SimpleLessSaid : Prop := simpleLessRow.holds Try.pinned (OpenSpec.ofChange simpleLessSpec)

/-- ITS FALSE NEIGHBOUR: 'it returns false'. Refute it at one input. -/
def simpleLessWrong : ChangeSpec := { name := "simpleLess", fn := fun _ => fun
  | [d] => { results := [.lit (.bool false)], args := [d] }
  | _ => none }
def SimpleLessWrongFalsely : Prop := simpleLessRow.holds Try.pinned (OpenSpec.ofChange simpleLessWrong)

/-- 'watersmeetlaw39.SimpleSame': WHATEVER THE INPUT: true; the input reads as it did. -/
def simpleSameSpec : ChangeSpec := { name := "simpleSame", fn := fun _ => fun
  | [d1, d2] => { results := [.lit (.bool true)], args := [d1, d2] }
  | _ => none }
def simpleSameRow : OpenClaim := { program := "ytekdlkjonihglaa", sum := "5d261cc67ac4db963bdba98db38c99979e678e9640011a8ed7a7c8c6d66d1162", func := "watersmeet/watersmeetlaw39.SimpleSame", spec := "simpleSame", unfollowed := true, recurses := true, loops := true, apart := false }
def SimpleSameSaid : Prop := simpleSameRow.holds Try.pinned (OpenSpec.ofChange simpleSameSpec)

/-- ITS FALSE NEIGHBOUR: 'it returns false'. Refute it at one input. -/
def simpleSameWrong : ChangeSpec := { name := "simpleSame", fn := fun _ => fun
  | [d1, d2] => { results := [.lit (.bool false)], args := [d1, d2] }
  | _ => none }
def SimpleSameWrongFalsely : Prop := simpleSameRow.holds Try.pinned (OpenSpec.ofChange simpleSameWrong)

/- THE SECOND FORM. 'bulk': how many values and letters a reading holds, each counted each time it is reached (what is shared counts as often as it is met; a slice's spare places count too). A statement '..UptoSaid' is the law's where the arguments, and the package variables that the reading takes, are together of bulk at most 1048576: NARROWER than '..Said'. Prove '..Said' where nothing that the law and all that it calls make is longer than what came in: it says more and counts as full. Else prove '..UptoSaid'. A law counts once. -/
mutual
def uptoBulk {H : Type} : DataW H → Nat
  | .lit (.string bytes) => bytes.length + 1
  | .lit _ => 1
  | .nil => 1
  | .ptr d => uptoBulk d + 1
  | .slice elems spare => uptoBulkAll elems + uptoBulkAll spare + 1
  | .agg parts => uptoBulkAll parts + 1
  | .iface _ d => uptoBulk d + 1
  | .map entries => uptoBulkEntries entries + 1
  | .held _ => 1
def uptoBulkAll {H : Type} : List (DataW H) → Nat
  | [] => 0
  | d :: r => uptoBulk d + uptoBulkAll r
def uptoBulkEntries {H : Type} : List (Lit × DataW H) → Nat
  | [] => 0
  | x :: r => uptoBulkEntry x + uptoBulkEntries r
def uptoBulkEntry {H : Type} : Lit × DataW H → Nat
  | (.string bytes, d) => bytes.length + uptoBulk d + 1
  | (_, d) => uptoBulk d + 1
 end
def uptoSmall : (H : Type) → List (DataW H) → Bool := fun _ ds => decide (uptoBulkAll ds ≤ 1048576)
def OpenSpec.upto (s : _root_.Go.ChangeSpec) : _root_.Go.OpenSpec := { _root_.Go.OpenSpec.ofChange s with cond := some uptoSmall }

/-- 'watersmeetlaw14.NestTells', WHERE WHAT IT READS IS OF BULK AT MOST 1048576: true; the input reads as it did. -/
def nestTellsUptoRow : OpenClaim := { program := "ytekdlkjonihglaa", sum := "5d261cc67ac4db963bdba98db38c99979e678e9640011a8ed7a7c8c6d66d1162", func := "watersmeet/watersmeetlaw14.NestTells", spec := "nestTells", unfollowed := true, recurses := true, loops := true, apart := false, narrowed := true }
def NestTellsUptoSaid : Prop := nestTellsUptoRow.holds Try.pinned (OpenSpec.upto nestTellsSpec)

/-- 'watersmeetlaw14.NestParts', WHERE WHAT IT READS IS OF BULK AT MOST 1048576: true; the input reads as it did. -/
def nestPartsUptoRow : OpenClaim := { program := "ytekdlkjonihglaa", sum := "5d261cc67ac4db963bdba98db38c99979e678e9640011a8ed7a7c8c6d66d1162", func := "watersmeet/watersmeetlaw14.NestParts", spec := "nestParts", unfollowed := true, recurses := true, loops := true, apart := false, narrowed := true }
def NestPartsUptoSaid : Prop := nestPartsUptoRow.holds Try.pinned (OpenSpec.upto nestPartsSpec)

/-- 'watersmeetlaw13.MatchTells', WHERE WHAT IT READS IS OF BULK AT MOST 1048576: true; the input reads as it did. -/
def matchTellsUptoRow : OpenClaim := { program := "ytekdlkjonihglaa", sum := "5d261cc67ac4db963bdba98db38c99979e678e9640011a8ed7a7c8c6d66d1162", func := "watersmeet/watersmeetlaw13.MatchTells", spec := "matchTells", unfollowed := true, recurses := true, loops := true, apart := false, narrowed := true }
def MatchTellsUptoSaid : Prop := matchTellsUptoRow.holds Try.pinned (OpenSpec.upto matchTellsSpec)

/-- 'watersmeetlaw13.MatchKinds', WHERE WHAT IT READS IS OF BULK AT MOST 1048576: true; the input reads as it did. -/
def matchKindsUptoRow : OpenClaim := { program := "ytekdlkjonihglaa", sum := "5d261cc67ac4db963bdba98db38c99979e678e9640011a8ed7a7c8c6d66d1162", func := "watersmeet/watersmeetlaw13.MatchKinds", spec := "matchKinds", unfollowed := true, recurses := true, loops := true, apart := false, narrowed := true }
def MatchKindsUptoSaid : Prop := matchKindsUptoRow.holds Try.pinned (OpenSpec.upto matchKindsSpec)

/-- 'watersmeetlaw13.MatchFlat', WHERE WHAT IT READS IS OF BULK AT MOST 1048576: true; the input reads as it did. -/
def matchFlatUptoRow : OpenClaim := { program := "ytekdlkjonihglaa", sum := "5d261cc67ac4db963bdba98db38c99979e678e9640011a8ed7a7c8c6d66d1162", func := "watersmeet/watersmeetlaw13.MatchFlat", spec := "matchFlat", unfollowed := true, recurses := true, apart := false, narrowed := true }
def MatchFlatUptoSaid : Prop := matchFlatUptoRow.holds Try.pinned (OpenSpec.upto matchFlatSpec)

/-- 'watersmeetlaw39.SimpleTells', WHERE WHAT IT READS IS OF BULK AT MOST 1048576: true; the input reads as it did. -/
def simpleTellsUptoRow : OpenClaim := { program := "ytekdlkjonihglaa", sum := "5d261cc67ac4db963bdba98db38c99979e678e9640011a8ed7a7c8c6d66d1162", func := "watersmeet/watersmeetlaw39.SimpleTells", spec := "simpleTells", unfollowed := true, recurses := true, loops := true, apart := false, narrowed := true }
def SimpleTellsUptoSaid : Prop := simpleTellsUptoRow.holds Try.pinned (OpenSpec.upto simpleTellsSpec)

/-- 'watersmeetlaw39.SimpleLess', WHERE WHAT IT READS IS OF BULK AT MOST 1048576: true; the input reads as it did. -/
def simpleLessUptoRow : OpenClaim := { program := "ytekdlkjonihglaa", sum := "5d261cc67ac4db963bdba98db38c99979e678e9640011a8ed7a7c8c6d66d1162", func := "watersmeet/watersmeetlaw39.SimpleLess", spec := "simpleLess", unfollowed := true, recurses := true, loops := true, apart := false, narrowed := true }
def SimpleLessUptoSaid : Prop := simpleLessUptoRow.holds Try.pinned (OpenSpec.upto simpleLessSpec)

/-- 'watersmeetlaw39.SimpleSame', WHERE WHAT IT READS IS OF BULK AT MOST 1048576: true; the input reads as it did. -/
def simpleSameUptoRow : OpenClaim := { program := "ytekdlkjonihglaa", sum := "5d261cc67ac4db963bdba98db38c99979e678e9640011a8ed7a7c8c6d66d1162", func := "watersmeet/watersmeetlaw39.SimpleSame", spec := "simpleSame", unfollowed := true, recurses := true, loops := true, apart := false, narrowed := true }
def SimpleSameUptoSaid : Prop := simpleSameUptoRow.holds Try.pinned (OpenSpec.upto simpleSameSpec)

end Rows
end Go.Proofs.Ytekdlkjonihglaa

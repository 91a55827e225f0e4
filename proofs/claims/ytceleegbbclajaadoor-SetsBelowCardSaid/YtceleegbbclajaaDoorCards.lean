/-
  DERIVED. GIVEN WITH THE SEED: THE CARDS: each row of YtceleegbbclajaaDoorRows.lean that lists a variable, with what it lists TIED to the program's text (the seventh form; the later family's looks); each row that meets fmt, with fmt's text TOLD by the authors' own Lean function (tested against real Go, not proved from fmt's source: count such statements apart). THE CARD IS WHAT COUNTS. Prove the row's statement (the work); the ties are given (YtceleegbbclajaaDoorTie.lean); close each card by the builder's one call (the guide's Derived/Test/ToyasCard.lean, 'card_holds'). Laid BY PROGRAM, IN A SANDBOX (cutbox-door.mjs). By AI agents, Wed Nov 11 2026. No macro, syntax, notation, axiom, sorry.
-/
import Derived.Test.YtceleegbbclajaaDoorRows
import GoSem.ClaimSeven
namespace Go.Proofs.YtceleegbbclajaaDoor
namespace Rows

/-- THE TIED CARD OF 'watersmeetlaw01.SetsSubsets'. -/
def setsSubsetsCard : Claim7 := { stood := { row := setsSubsetsRow, standIns := [], harness := (true, "f631187f43efb0039649c1ffb7584e7df316f0cff51b940adfb8a044d3d62390"), looks := false }, kinds := [], alts := [], laidByText := true, laidKinds := [.data], laidTests := true, laidLooks := .later }
def SetsSubsetsCardSaid : Prop := Claim7.holds Tryd.pinned (.plain (OpenSpec.ofChange setsSubsetsSpec)) setsSubsetsCard

/-- THE TIED CARD OF 'watersmeetlaw01.SetsTells'. -/
def setsTellsCard : Claim7 := { stood := { row := setsTellsRow, standIns := [], harness := (true, "f631187f43efb0039649c1ffb7584e7df316f0cff51b940adfb8a044d3d62390"), looks := false }, kinds := [], alts := [], laidByText := true, laidKinds := [.data], laidTests := true, laidLooks := .later }
def SetsTellsCardSaid : Prop := Claim7.holds Tryd.pinned (.plain (OpenSpec.ofChange setsTellsSpec)) setsTellsCard

/-- THE TIED CARD OF 'watersmeetlaw01.SetsBelow'. -/
def setsBelowCard : Claim7 := { stood := { row := setsBelowRow, standIns := [], harness := (true, "f631187f43efb0039649c1ffb7584e7df316f0cff51b940adfb8a044d3d62390"), looks := false }, kinds := [], alts := [], laidByText := true, laidKinds := [.data], laidTests := true, laidLooks := .later }
def SetsBelowCardSaid : Prop := Claim7.holds Tryd.pinned (.plain (OpenSpec.ofChange setsBelowSpec)) setsBelowCard

/-- THE SECOND FORM's CARD OF 'watersmeetlaw01.SetsSubsets'. -/
def setsSubsetsUptoCard : Claim7 := { stood := { row := setsSubsetsUptoRow, standIns := [], harness := (true, "f631187f43efb0039649c1ffb7584e7df316f0cff51b940adfb8a044d3d62390"), looks := false }, kinds := [], alts := [], laidByText := true, laidKinds := [.data], laidTests := true, laidLooks := .later }
def SetsSubsetsUptoCardSaid : Prop := Claim7.holds Tryd.pinned (.plain (OpenSpec.upto setsSubsetsSpec)) setsSubsetsUptoCard

/-- THE SECOND FORM's CARD OF 'watersmeetlaw01.SetsTells'. -/
def setsTellsUptoCard : Claim7 := { stood := { row := setsTellsUptoRow, standIns := [], harness := (true, "f631187f43efb0039649c1ffb7584e7df316f0cff51b940adfb8a044d3d62390"), looks := false }, kinds := [], alts := [], laidByText := true, laidKinds := [.data], laidTests := true, laidLooks := .later }
def SetsTellsUptoCardSaid : Prop := Claim7.holds Tryd.pinned (.plain (OpenSpec.upto setsTellsSpec)) setsTellsUptoCard

/-- THE SECOND FORM's CARD OF 'watersmeetlaw01.SetsBelow'. -/
def setsBelowUptoCard : Claim7 := { stood := { row := setsBelowUptoRow, standIns := [], harness := (true, "f631187f43efb0039649c1ffb7584e7df316f0cff51b940adfb8a044d3d62390"), looks := false }, kinds := [], alts := [], laidByText := true, laidKinds := [.data], laidTests := true, laidLooks := .later }
def SetsBelowUptoCardSaid : Prop := Claim7.holds Tryd.pinned (.plain (OpenSpec.upto setsBelowSpec)) setsBelowUptoCard
end Rows
end Go.Proofs.YtceleegbbclajaaDoor

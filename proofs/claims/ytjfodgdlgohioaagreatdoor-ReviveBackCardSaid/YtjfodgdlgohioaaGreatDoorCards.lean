/-
  DERIVED. GIVEN WITH THE SEED: THE CARDS: each row of YtjfodgdlgohioaaGreatDoorRows.lean that lists a variable, with what it lists TIED to the program's text (the seventh form; the later family's looks); each row that meets fmt, with fmt's text TOLD by the authors' own Lean function (tested against real Go, not proved from fmt's source: count such statements apart). THE CARD IS WHAT COUNTS. Prove the row's statement (the work); the ties are given (YtjfodgdlgohioaaGreatDoorTie.lean); close each card by the builder's one call (the guide's Derived/Test/ToyasCard.lean, 'card_holds'). Laid BY PROGRAM, IN A SANDBOX (cutbox-door.mjs). By AI agents, Wed Nov 11 2026. No macro, syntax, notation, axiom, sorry.
-/
import Derived.Test.YtjfodgdlgohioaaGreatDoorRows
import GoSem.ClaimSeven
namespace Go.Proofs.YtjfodgdlgohioaaGreatDoor
namespace Rows

/-- THE TIED CARD OF 'gossamerlaw36.ReviveCodes'. -/
def reviveCodesCard : Claim7 := { stood := { row := reviveCodesRow, standIns := [], harness := (true, "fb684c1914dfdc8fa47f1e418312ef85178f21eb709a184f938601baea2f4ba6"), looks := false }, kinds := [], alts := [], laidByText := true, laidKinds := [.data, .data, .data, .data, .pinned], laidTests := true, laidLooks := .later }
def ReviveCodesCardSaid : Prop := Claim7.holds Tryz.pinned (.plain (OpenSpec.ofChange reviveCodesSpec)) reviveCodesCard

/-- THE TIED CARD OF 'gossamerlaw36.ReviveBack'. -/
def reviveBackCard : Claim7 := { stood := { row := reviveBackRow, standIns := [], harness := (true, "fb684c1914dfdc8fa47f1e418312ef85178f21eb709a184f938601baea2f4ba6"), looks := false }, kinds := [], alts := [], laidByText := true, laidKinds := [.data, .data, .data, .data, .pinned], laidTests := true, laidLooks := .later }
def ReviveBackCardSaid : Prop := Claim7.holds Tryz.pinned (.plain (OpenSpec.ofChange reviveBackSpec)) reviveBackCard

/-- THE SECOND FORM's CARD OF 'gossamerlaw36.ReviveCodes'. -/
def reviveCodesUptoCard : Claim7 := { stood := { row := reviveCodesUptoRow, standIns := [], harness := (true, "fb684c1914dfdc8fa47f1e418312ef85178f21eb709a184f938601baea2f4ba6"), looks := false }, kinds := [], alts := [], laidByText := true, laidKinds := [.data, .data, .data, .data, .pinned], laidTests := true, laidLooks := .later }
def ReviveCodesUptoCardSaid : Prop := Claim7.holds Tryz.pinned (.plain (OpenSpec.upto reviveCodesSpec)) reviveCodesUptoCard

/-- THE SECOND FORM's CARD OF 'gossamerlaw36.ReviveBack'. -/
def reviveBackUptoCard : Claim7 := { stood := { row := reviveBackUptoRow, standIns := [], harness := (true, "fb684c1914dfdc8fa47f1e418312ef85178f21eb709a184f938601baea2f4ba6"), looks := false }, kinds := [], alts := [], laidByText := true, laidKinds := [.data, .data, .data, .data, .pinned], laidTests := true, laidLooks := .later }
def ReviveBackUptoCardSaid : Prop := Claim7.holds Tryz.pinned (.plain (OpenSpec.upto reviveBackSpec)) reviveBackUptoCard
end Rows
end Go.Proofs.YtjfodgdlgohioaaGreatDoor

/-
  DERIVED. GIVEN WITH THE SEED: THE CARDS: each row of YtelecjnabeokeaaGreatDoorRows.lean that lists a variable, with what it lists TIED to the program's text (the seventh form; the later family's looks); each row that meets fmt, with fmt's text TOLD by the authors' own Lean function (tested against real Go, not proved from fmt's source: count such statements apart). THE CARD IS WHAT COUNTS. Prove the row's statement (the work); the ties are given (YtelecjnabeokeaaGreatDoorTie.lean); close each card by the builder's one call (the guide's Derived/Test/ToyasCard.lean, 'card_holds'). Laid BY PROGRAM, IN A SANDBOX (cutbox-door.mjs). By AI agents, Wed Nov 11 2026. No macro, syntax, notation, axiom, sorry.
-/
import Derived.Test.YtelecjnabeokeaaGreatDoorRows
import GoSem.ClaimSeven
namespace Go.Proofs.YtelecjnabeokeaaGreatDoor
namespace Rows

/-- THE TIED CARD OF 'coeditlaw.Folds'. -/
def foldsCard : Claim7 := { stood := { row := foldsRow, standIns := [], harness := (true, "8c5abe41b93dd14ae8e6a00164918cde08a37410e3389aedc40f367685b32515"), looks := true }, kinds := [], alts := [], goes := true, laidByText := true, laidKinds := [.handle, .sentinel, .sentinel, .sentinel, .sentinel, .sentinel, .sentinel, .sentinel, .wider, .sentinel, .sentinel, .sentinel], laidTests := true, laidLooks := .later }
def FoldsCardSaid : Prop := Claim7.holds Tryz.pinned (.plain (OpenSpec.ofChange foldsSpec)) foldsCard

/-- THE TIED CARD OF 'coeditlaw.Orders'. -/
def ordersCard : Claim7 := { stood := { row := ordersRow, standIns := [], harness := (true, "8c5abe41b93dd14ae8e6a00164918cde08a37410e3389aedc40f367685b32515"), looks := true }, kinds := [], alts := [], goes := true, laidByText := true, laidKinds := [.handle, .sentinel, .sentinel, .sentinel, .sentinel, .sentinel, .sentinel, .sentinel, .wider, .sentinel, .sentinel, .sentinel], laidTests := true, laidLooks := .later }
def OrdersCardSaid : Prop := Claim7.holds Tryz.pinned (.plain (OpenSpec.ofChange ordersSpec)) ordersCard

/-- THE TIED CARD OF 'coeditlaw.Meets'. -/
def meetsCard : Claim7 := { stood := { row := meetsRow, standIns := [], harness := (true, "8c5abe41b93dd14ae8e6a00164918cde08a37410e3389aedc40f367685b32515"), looks := true }, kinds := [], alts := [], goes := true, laidByText := true, laidKinds := [.handle, .sentinel, .sentinel, .sentinel, .sentinel, .sentinel, .sentinel, .sentinel, .wider, .sentinel, .sentinel, .sentinel], laidTests := true, laidLooks := .later }
def MeetsCardSaid : Prop := Claim7.holds Tryz.pinned (.plain (OpenSpec.ofChange meetsSpec)) meetsCard
end Rows
end Go.Proofs.YtelecjnabeokeaaGreatDoor

/-
  DERIVED. GIVEN WITH THE SEED: THE PROGRAM's TIES (one call each: nine closed facts by the kernel) AND EACH ROW's TIE, after the 31st guide's Derived/Test/Toyas{Tie, Card}.lean. No idea stands in it: it is a product of the set-up. Laid BY PROGRAM, IN A SANDBOX (cutbox-door.mjs). By AI agents, Wed Nov 11 2026. No macro, syntax, notation, axiom, sorry.
-/
import Derived.Test.YtelecjnabeokeaaGreatDoorRows
import Derived.LaidByTextLater
import Derived.SevenTiedAt
import Derived.LaidSub
import Derived.LaidOnce
namespace Go.Proofs.YtelecjnabeokeaaGreatDoor
open Go
set_option maxRecDepth 100000
theorem seatTie1 : Tryz.prog.laidByTextLater [("errors.errorType", Rows.laid_errors_errorType), ("coedit/coedit.ErrShape", Rows.laid_coedit_coedit_ErrShape), ("coedit/coedit.ErrClient", Rows.laid_coedit_coedit_ErrClient), ("coedit/coedit.ErrRune", Rows.laid_coedit_coedit_ErrRune), ("coedit/coedit.ErrRange", Rows.laid_coedit_coedit_ErrRange), ("coedit/coedit.ErrFull", Rows.laid_coedit_coedit_ErrFull), ("coedit/coedit.ErrMany", Rows.laid_coedit_coedit_ErrMany), ("coedit/coedit.ErrEmpty", Rows.laid_coedit_coedit_ErrEmpty), ("coedit/coedit.ErrFrame", Rows.laid_coedit_coedit_ErrFrame), ("coedit/coedit.ErrOrder", Rows.laid_coedit_coedit_ErrOrder), ("coedit/coedit.ErrAck", Rows.laid_coedit_coedit_ErrAck), ("coedit/coedit.ErrStopped", Rows.laid_coedit_coedit_ErrStopped)] [.handle, .sentinel, .sentinel, .sentinel, .sentinel, .sentinel, .sentinel, .sentinel, .wider, .sentinel, .sentinel, .sentinel] true :=
  Program.laidByTextLater_by_one 230 8 2 (by kernel_rfl) (by kernel_rfl) (by kernel_rfl) (by kernel_rfl) (by kernel_rfl) (by kernel_rfl) (fun _ _ => by kernel_rfl)
theorem noOwnUnsafe : Tryz.pinned.checked.prog.headLifts.contains "ownunsafe" = false := by kernel_rfl
theorem tie : Tryz.prog.laidByTextLater [("errors.errorType", Rows.laid_errors_errorType), ("coedit/coedit.ErrShape", Rows.laid_coedit_coedit_ErrShape), ("coedit/coedit.ErrClient", Rows.laid_coedit_coedit_ErrClient), ("coedit/coedit.ErrRune", Rows.laid_coedit_coedit_ErrRune), ("coedit/coedit.ErrRange", Rows.laid_coedit_coedit_ErrRange), ("coedit/coedit.ErrFull", Rows.laid_coedit_coedit_ErrFull), ("coedit/coedit.ErrMany", Rows.laid_coedit_coedit_ErrMany), ("coedit/coedit.ErrEmpty", Rows.laid_coedit_coedit_ErrEmpty), ("coedit/coedit.ErrFrame", Rows.laid_coedit_coedit_ErrFrame), ("coedit/coedit.ErrOrder", Rows.laid_coedit_coedit_ErrOrder), ("coedit/coedit.ErrAck", Rows.laid_coedit_coedit_ErrAck), ("coedit/coedit.ErrStopped", Rows.laid_coedit_coedit_ErrStopped)] [.handle, .sentinel, .sentinel, .sentinel, .sentinel, .sentinel, .sentinel, .sentinel, .wider, .sentinel, .sentinel, .sentinel] true :=
  Program.laidByTextLater.sub seatTie1 ["errors.errorType", "coedit/coedit.ErrShape", "coedit/coedit.ErrClient", "coedit/coedit.ErrRune", "coedit/coedit.ErrRange", "coedit/coedit.ErrFull", "coedit/coedit.ErrMany", "coedit/coedit.ErrEmpty", "coedit/coedit.ErrFrame", "coedit/coedit.ErrOrder", "coedit/coedit.ErrAck", "coedit/coedit.ErrStopped"] (by kernel_rfl) (by kernel_rfl)
theorem folds_row_tie : Rows.foldsRow.laidByTextAt .later Tryz.pinned [.handle, .sentinel, .sentinel, .sentinel, .sentinel, .sentinel, .sentinel, .sentinel, .wider, .sentinel, .sentinel, .sentinel] true :=
  OpenClaim.laidByTextAt_later rfl rfl tie noOwnUnsafe
theorem orders_row_tie : Rows.ordersRow.laidByTextAt .later Tryz.pinned [.handle, .sentinel, .sentinel, .sentinel, .sentinel, .sentinel, .sentinel, .sentinel, .wider, .sentinel, .sentinel, .sentinel] true :=
  OpenClaim.laidByTextAt_later rfl rfl tie noOwnUnsafe
theorem meets_row_tie : Rows.meetsRow.laidByTextAt .later Tryz.pinned [.handle, .sentinel, .sentinel, .sentinel, .sentinel, .sentinel, .sentinel, .sentinel, .wider, .sentinel, .sentinel, .sentinel] true :=
  OpenClaim.laidByTextAt_later rfl rfl tie noOwnUnsafe
end Go.Proofs.YtelecjnabeokeaaGreatDoor

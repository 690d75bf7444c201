/-
  DERIVED. GIVEN WITH THE SEED: THE PROGRAM's TIES (one call each: nine closed facts by the kernel) AND EACH ROW's TIE, after the 31st guide's Derived/Test/Toyas{Tie, Card}.lean. No idea stands in it: it is a product of the set-up. Laid BY PROGRAM, IN A SANDBOX (cutbox-door.mjs). By AI agents, Wed Nov 11 2026. No macro, syntax, notation, axiom, sorry.
-/
import Derived.Test.YtelecjnabeokeaaDoorRows
import Derived.LaidByTextLater
import Derived.SevenTiedAt
import Derived.LaidSub
import Derived.LaidOnce
namespace Go.Proofs.YtelecjnabeokeaaDoor
open Go
set_option maxRecDepth 100000
theorem seatTie1 : Tryd.prog.laidByTextLater [("coedit/coedit.ErrShape", Rows.laid_coedit_coedit_ErrShape), ("coedit/coedit.ErrClient", Rows.laid_coedit_coedit_ErrClient), ("coedit/coedit.ErrRune", Rows.laid_coedit_coedit_ErrRune), ("coedit/coedit.ErrRange", Rows.laid_coedit_coedit_ErrRange), ("coedit/coedit.ErrFull", Rows.laid_coedit_coedit_ErrFull), ("coedit/coedit.ErrMany", Rows.laid_coedit_coedit_ErrMany), ("coedit/coedit.ErrEmpty", Rows.laid_coedit_coedit_ErrEmpty), ("coedit/coedit.ErrFrame", Rows.laid_coedit_coedit_ErrFrame), ("coedit/coedit.ErrOrder", Rows.laid_coedit_coedit_ErrOrder), ("coedit/coedit.ErrAck", Rows.laid_coedit_coedit_ErrAck), ("coedit/coedit.ErrStopped", Rows.laid_coedit_coedit_ErrStopped)] [.sentinel, .sentinel, .sentinel, .sentinel, .sentinel, .sentinel, .sentinel, .wider, .sentinel, .sentinel, .sentinel] true :=
  Program.laidByTextLater_by_one 223 8 2 (by kernel_rfl) (by kernel_rfl) (by kernel_rfl) (by kernel_rfl) (by kernel_rfl) (by kernel_rfl) (fun _ _ => by kernel_rfl)
theorem noOwnUnsafe : Tryd.pinned.checked.prog.headLifts.contains "ownunsafe" = false := by kernel_rfl
theorem tie : Tryd.prog.laidByTextLater [("coedit/coedit.ErrShape", Rows.laid_coedit_coedit_ErrShape), ("coedit/coedit.ErrClient", Rows.laid_coedit_coedit_ErrClient), ("coedit/coedit.ErrRune", Rows.laid_coedit_coedit_ErrRune), ("coedit/coedit.ErrRange", Rows.laid_coedit_coedit_ErrRange), ("coedit/coedit.ErrFull", Rows.laid_coedit_coedit_ErrFull), ("coedit/coedit.ErrMany", Rows.laid_coedit_coedit_ErrMany), ("coedit/coedit.ErrEmpty", Rows.laid_coedit_coedit_ErrEmpty), ("coedit/coedit.ErrFrame", Rows.laid_coedit_coedit_ErrFrame), ("coedit/coedit.ErrOrder", Rows.laid_coedit_coedit_ErrOrder), ("coedit/coedit.ErrAck", Rows.laid_coedit_coedit_ErrAck), ("coedit/coedit.ErrStopped", Rows.laid_coedit_coedit_ErrStopped)] [.sentinel, .sentinel, .sentinel, .sentinel, .sentinel, .sentinel, .sentinel, .wider, .sentinel, .sentinel, .sentinel] true :=
  Program.laidByTextLater.sub seatTie1 ["coedit/coedit.ErrShape", "coedit/coedit.ErrClient", "coedit/coedit.ErrRune", "coedit/coedit.ErrRange", "coedit/coedit.ErrFull", "coedit/coedit.ErrMany", "coedit/coedit.ErrEmpty", "coedit/coedit.ErrFrame", "coedit/coedit.ErrOrder", "coedit/coedit.ErrAck", "coedit/coedit.ErrStopped"] (by kernel_rfl) (by kernel_rfl)
theorem names_row_tie : Rows.namesRow.laidByTextAt .later Tryd.pinned [.sentinel, .sentinel, .sentinel, .sentinel, .sentinel, .sentinel, .sentinel, .wider, .sentinel, .sentinel, .sentinel] true :=
  OpenClaim.laidByTextAt_later rfl rfl tie noOwnUnsafe
theorem namesUpto_row_tie : Rows.namesUptoRow.laidByTextAt .later Tryd.pinned [.sentinel, .sentinel, .sentinel, .sentinel, .sentinel, .sentinel, .sentinel, .wider, .sentinel, .sentinel, .sentinel] true :=
  OpenClaim.laidByTextAt_later rfl rfl tie noOwnUnsafe
end Go.Proofs.YtelecjnabeokeaaDoor

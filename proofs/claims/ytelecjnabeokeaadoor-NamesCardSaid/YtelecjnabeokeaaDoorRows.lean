/-
  NARROWER THAN 'FOR EVERY INPUT', by the rows' own cells (each row's printed sentence says how): Names: laid.
  DERIVED. THE GIVEN ROWS OF THIS SEAT. 1 by the template 'for every input the law returns true; each argument reads behind the call as it read before'; 0 by the template 'total and deterministic' (their statements: YtelecjnabeokeaaDoorTotals.lean).
  GIVEN WITH THE SEED: the statements are not yours to turn. If you find one false, say at which input.
  Laid BY PROGRAM, IN A SANDBOX (cutbox-rows.mjs): the forced cells as the released guide's own fill.sh prints them over the translation 35041ba5bb6e6dbc… (all of the seat's roots in one cut). By AI agents, Wed Nov 11 2026. No macro, syntax, notation, axiom, sorry.
-/
import Derived.Test.YtelecjnabeokeaaDoorChecked
import GoSem.Claim
import GoSem.ClaimJoined
import GoSem.ClaimMapViews
import Derived.JoinedTies
import Derived.KernelRfl
namespace Go.Proofs.YtelecjnabeokeaaDoor
/- THE CELL 'sum', in the pinned program and in every row, IS THE sha256 OF THE DUMP (.gsa) THAT YtelecjnabeokeaaDoorProg.lean LOADS. Nothing in Lean hashes anything: it is a label: what it is worth is what the hold of that sum in a sandbox is worth. -/
noncomputable def Tryd.pinned : Pinned := { name := "ytelecjnabeokeaadoor", sum := "35041ba5bb6e6dbc9594b918addca3188d3d394395bafb3287589d37425cf4a0", checked := Tryd.checked }
namespace Rows
def none {H : Type} : Left H := { results := [], args := [] }

/- WHAT THE LISTED PACKAGE-LEVEL VARIABLES READ AS WHEN THE CALL BEGINS. Each datum BY PROGRAM (the guide's laid-datum.mjs) off the statement by which the dump's own 'gosem.cut.vars' lays the variable. In a bare row this is a premise. The card (YtelecjnabeokeaaDoorCards.lean) ties it to the program's text. -/
def laid_coedit_coedit_ErrShape {H : Type} : DataW H := .iface "*errors.errorString" (.ptr (.agg [.lit (.string [110, 111, 32, 115, 117, 99, 104, 32, 115, 101, 115, 115, 105, 111, 110])]))
def laid_coedit_coedit_ErrClient {H : Type} : DataW H := .iface "*errors.errorString" (.ptr (.agg [.lit (.string [110, 111, 32, 115, 117, 99, 104, 32, 99, 108, 105, 101, 110, 116])]))
def laid_coedit_coedit_ErrRune {H : Type} : DataW H := .iface "*errors.errorString" (.ptr (.agg [.lit (.string [110, 111, 32, 114, 117, 110, 101])]))
def laid_coedit_coedit_ErrRange {H : Type} : DataW H := .iface "*errors.errorString" (.ptr (.agg [.lit (.string [111, 117, 116, 32, 111, 102, 32, 114, 97, 110, 103, 101])]))
def laid_coedit_coedit_ErrFull {H : Type} : DataW H := .iface "*errors.errorString" (.ptr (.agg [.lit (.string [97, 32, 108, 105, 110, 107, 32, 105, 115, 32, 102, 117, 108, 108])]))
def laid_coedit_coedit_ErrMany {H : Type} : DataW H := .iface "*errors.errorString" (.ptr (.agg [.lit (.string [116, 111, 111, 32, 109, 97, 110, 121, 32, 99, 104, 97, 110, 103, 101, 115])]))
def laid_coedit_coedit_ErrEmpty {H : Type} : DataW H := .iface "*errors.errorString" (.ptr (.agg [.lit (.string [97, 32, 108, 105, 110, 107, 32, 105, 115, 32, 101, 109, 112, 116, 121])]))
def laid_coedit_coedit_ErrFrame {H : Type} : DataW H := .iface "*errors.errorString" (.ptr (.agg [.lit (.string [110, 111, 32, 102, 114, 97, 109, 101])]))
def laid_coedit_coedit_ErrOrder {H : Type} : DataW H := .iface "*errors.errorString" (.ptr (.agg [.lit (.string [97, 32, 102, 114, 97, 109, 101, 32, 111, 117, 116, 32, 111, 102, 32, 111, 114, 100, 101, 114])]))
def laid_coedit_coedit_ErrAck {H : Type} : DataW H := .iface "*errors.errorString" (.ptr (.agg [.lit (.string [97, 32, 102, 114, 97, 109, 101, 32, 116, 104, 97, 116, 32, 116, 101, 108, 108, 115, 32, 111, 102, 32, 119, 104, 97, 116, 32, 119, 97, 115, 32, 110, 111, 116, 32, 115, 101, 110, 116])]))
def laid_coedit_coedit_ErrStopped {H : Type} : DataW H := .iface "*errors.errorString" (.ptr (.agg [.lit (.string [116, 104, 101, 32, 115, 101, 115, 115, 105, 111, 110, 32, 104, 97, 115, 32, 98, 101, 101, 110, 32, 115, 116, 111, 112, 112, 101, 100])]))

/-- 'coeditlaw.Names': WHATEVER THE INPUT: true; the input reads as it did. -/
def namesSpec : ChangeSpec := { name := "names", fn := fun _ => fun
  | [] => { results := [.lit (.bool true)], args := [] }
  | _ => none }
def namesRow : OpenClaim := { program := "ytelecjnabeokeaadoor", sum := "35041ba5bb6e6dbc9594b918addca3188d3d394395bafb3287589d37425cf4a0", func := "coedit/coeditlaw.Names", spec := "names", named := ["coedit/coedit.ErrShape", "coedit/coedit.ErrClient", "coedit/coedit.ErrRune", "coedit/coedit.ErrRange", "coedit/coedit.ErrFull", "coedit/coedit.ErrMany", "coedit/coedit.ErrEmpty", "coedit/coedit.ErrFrame", "coedit/coedit.ErrOrder", "coedit/coedit.ErrAck", "coedit/coedit.ErrStopped"], apart := false, laid := [("coedit/coedit.ErrShape", laid_coedit_coedit_ErrShape), ("coedit/coedit.ErrClient", laid_coedit_coedit_ErrClient), ("coedit/coedit.ErrRune", laid_coedit_coedit_ErrRune), ("coedit/coedit.ErrRange", laid_coedit_coedit_ErrRange), ("coedit/coedit.ErrFull", laid_coedit_coedit_ErrFull), ("coedit/coedit.ErrMany", laid_coedit_coedit_ErrMany), ("coedit/coedit.ErrEmpty", laid_coedit_coedit_ErrEmpty), ("coedit/coedit.ErrFrame", laid_coedit_coedit_ErrFrame), ("coedit/coedit.ErrOrder", laid_coedit_coedit_ErrOrder), ("coedit/coedit.ErrAck", laid_coedit_coedit_ErrAck), ("coedit/coedit.ErrStopped", laid_coedit_coedit_ErrStopped)] }
def NamesSaid : Prop := namesRow.holds Tryd.pinned (OpenSpec.ofChange namesSpec)

/-- ITS FALSE NEIGHBOUR: 'it returns false'. Refute it at one input. -/
def namesWrong : ChangeSpec := { name := "names", fn := fun _ => fun
  | [] => { results := [.lit (.bool false)], args := [] }
  | _ => none }
def NamesWrongFalsely : Prop := namesRow.holds Tryd.pinned (OpenSpec.ofChange namesWrong)

/- THE SECOND FORM. 'bulk': how many values and letters a reading holds, each counted each time it is reached (what is shared counts as often as it is met; a slice's spare places count too). A statement '..UptoSaid' is the law's where the arguments, and the package variables that the reading takes, are together of bulk at most 1048576: NARROWER than '..Said'. Prove '..Said' where nothing that the law and all that it calls make is longer than what came in: it says more and counts as full. Else prove '..UptoSaid'. A law counts once. -/
mutual
def uptoBulk {H : Type} : DataW H → Nat
  | .lit (.string bytes) => bytes.length + 1
  | .lit _ => 1
  | .nil => 1
  | .ptr d => uptoBulk d + 1
  | .slice elems spare => uptoBulkAll elems + uptoBulkAll spare + 1
  | .agg parts => uptoBulkAll parts + 1
  | .iface _ d => uptoBulk d + 1
  | .map entries => uptoBulkEntries entries + 1
  | .held _ => 1
def uptoBulkAll {H : Type} : List (DataW H) → Nat
  | [] => 0
  | d :: r => uptoBulk d + uptoBulkAll r
def uptoBulkEntries {H : Type} : List (Lit × DataW H) → Nat
  | [] => 0
  | x :: r => uptoBulkEntry x + uptoBulkEntries r
def uptoBulkEntry {H : Type} : Lit × DataW H → Nat
  | (.string bytes, d) => bytes.length + uptoBulk d + 1
  | (_, d) => uptoBulk d + 1
 end
def uptoSmall : (H : Type) → List (DataW H) → Bool := fun _ ds => decide (uptoBulkAll ds ≤ 1048576)
def OpenSpec.upto (s : _root_.Go.ChangeSpec) : _root_.Go.OpenSpec := { _root_.Go.OpenSpec.ofChange s with cond := some uptoSmall }

/-- 'coeditlaw.Names', WHERE WHAT IT READS IS OF BULK AT MOST 1048576: true; the input reads as it did. -/
def namesUptoRow : OpenClaim := { program := "ytelecjnabeokeaadoor", sum := "35041ba5bb6e6dbc9594b918addca3188d3d394395bafb3287589d37425cf4a0", func := "coedit/coeditlaw.Names", spec := "names", named := ["coedit/coedit.ErrShape", "coedit/coedit.ErrClient", "coedit/coedit.ErrRune", "coedit/coedit.ErrRange", "coedit/coedit.ErrFull", "coedit/coedit.ErrMany", "coedit/coedit.ErrEmpty", "coedit/coedit.ErrFrame", "coedit/coedit.ErrOrder", "coedit/coedit.ErrAck", "coedit/coedit.ErrStopped"], apart := false, laid := [("coedit/coedit.ErrShape", laid_coedit_coedit_ErrShape), ("coedit/coedit.ErrClient", laid_coedit_coedit_ErrClient), ("coedit/coedit.ErrRune", laid_coedit_coedit_ErrRune), ("coedit/coedit.ErrRange", laid_coedit_coedit_ErrRange), ("coedit/coedit.ErrFull", laid_coedit_coedit_ErrFull), ("coedit/coedit.ErrMany", laid_coedit_coedit_ErrMany), ("coedit/coedit.ErrEmpty", laid_coedit_coedit_ErrEmpty), ("coedit/coedit.ErrFrame", laid_coedit_coedit_ErrFrame), ("coedit/coedit.ErrOrder", laid_coedit_coedit_ErrOrder), ("coedit/coedit.ErrAck", laid_coedit_coedit_ErrAck), ("coedit/coedit.ErrStopped", laid_coedit_coedit_ErrStopped)], narrowed := true }
def NamesUptoSaid : Prop := namesUptoRow.holds Tryd.pinned (OpenSpec.upto namesSpec)

end Rows
end Go.Proofs.YtelecjnabeokeaaDoor

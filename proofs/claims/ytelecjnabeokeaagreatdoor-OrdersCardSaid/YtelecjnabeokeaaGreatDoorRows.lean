/-
  NARROWER THAN 'FOR EVERY INPUT', by the rows' own cells (each row's printed sentence says how): Folds: calm, laid · Orders: calm, laid · Meets: calm, laid.
  DERIVED. THE GIVEN ROWS OF THIS SEAT. 3 by the template 'for every input the law returns true; each argument reads behind the call as it read before'; 0 by the template 'total and deterministic' (their statements: YtelecjnabeokeaaGreatDoorTotals.lean).
  GIVEN WITH THE SEED: the statements are not yours to turn. If you find one false, say at which input.
  Laid BY PROGRAM, IN A SANDBOX (cutbox-rows.mjs): the forced cells as the released guide's own fill.sh prints them over the translation 20ff110e3eaf1c71… (all of the seat's roots in one cut). By AI agents, Wed Nov 11 2026. No macro, syntax, notation, axiom, sorry.
-/
import Derived.Test.YtelecjnabeokeaaGreatDoorChecked
import GoSem.Claim
import GoSem.ClaimJoined
import GoSem.ClaimMapViews
import Derived.JoinedTies
import Derived.KernelRfl
namespace Go.Proofs.YtelecjnabeokeaaGreatDoor
/- THE CELL 'sum', in the pinned program and in every row, IS THE sha256 OF THE DUMP (.gsa) THAT YtelecjnabeokeaaGreatDoorProg.lean LOADS. Nothing in Lean hashes anything: it is a label: what it is worth is what the hold of that sum in a sandbox is worth. -/
noncomputable def Tryz.pinned : Pinned := { name := "ytelecjnabeokeaagreatdoor", sum := "20ff110e3eaf1c718a8798ec4a6ff60633c656b3ab4c834ec6a975ddc88b47ae", checked := Tryz.checked }
namespace Rows
def none {H : Type} : Left H := { results := [], args := [] }

/- WHAT THE LISTED PACKAGE-LEVEL VARIABLES READ AS WHEN THE CALL BEGINS. Each datum BY PROGRAM (the guide's laid-datum.mjs) off the statement by which the dump's own 'gosem.cut.vars' lays the variable. In a bare row this is a premise. The card (YtelecjnabeokeaaGreatDoorCards.lean) ties it to the program's text. -/
def laid_errors_errorType {H : Type} : DataW H := .iface "internal/reflectlite.rtype" (.agg [.ptr (.lit (.string [101, 114, 114, 111, 114]))])
def laid_coedit_coedit_ErrShape {H : Type} : DataW H := .iface "*errors.errorString" (.ptr (.agg [.lit (.string [110, 111, 32, 115, 117, 99, 104, 32, 115, 101, 115, 115, 105, 111, 110])]))
def laid_coedit_coedit_ErrClient {H : Type} : DataW H := .iface "*errors.errorString" (.ptr (.agg [.lit (.string [110, 111, 32, 115, 117, 99, 104, 32, 99, 108, 105, 101, 110, 116])]))
def laid_coedit_coedit_ErrRune {H : Type} : DataW H := .iface "*errors.errorString" (.ptr (.agg [.lit (.string [110, 111, 32, 114, 117, 110, 101])]))
def laid_coedit_coedit_ErrRange {H : Type} : DataW H := .iface "*errors.errorString" (.ptr (.agg [.lit (.string [111, 117, 116, 32, 111, 102, 32, 114, 97, 110, 103, 101])]))
def laid_coedit_coedit_ErrFull {H : Type} : DataW H := .iface "*errors.errorString" (.ptr (.agg [.lit (.string [97, 32, 108, 105, 110, 107, 32, 105, 115, 32, 102, 117, 108, 108])]))
def laid_coedit_coedit_ErrMany {H : Type} : DataW H := .iface "*errors.errorString" (.ptr (.agg [.lit (.string [116, 111, 111, 32, 109, 97, 110, 121, 32, 99, 104, 97, 110, 103, 101, 115])]))
def laid_coedit_coedit_ErrEmpty {H : Type} : DataW H := .iface "*errors.errorString" (.ptr (.agg [.lit (.string [97, 32, 108, 105, 110, 107, 32, 105, 115, 32, 101, 109, 112, 116, 121])]))
def laid_coedit_coedit_ErrFrame {H : Type} : DataW H := .iface "*errors.errorString" (.ptr (.agg [.lit (.string [110, 111, 32, 102, 114, 97, 109, 101])]))
def laid_coedit_coedit_ErrOrder {H : Type} : DataW H := .iface "*errors.errorString" (.ptr (.agg [.lit (.string [97, 32, 102, 114, 97, 109, 101, 32, 111, 117, 116, 32, 111, 102, 32, 111, 114, 100, 101, 114])]))
def laid_coedit_coedit_ErrAck {H : Type} : DataW H := .iface "*errors.errorString" (.ptr (.agg [.lit (.string [97, 32, 102, 114, 97, 109, 101, 32, 116, 104, 97, 116, 32, 116, 101, 108, 108, 115, 32, 111, 102, 32, 119, 104, 97, 116, 32, 119, 97, 115, 32, 110, 111, 116, 32, 115, 101, 110, 116])]))
def laid_coedit_coedit_ErrStopped {H : Type} : DataW H := .iface "*errors.errorString" (.ptr (.agg [.lit (.string [116, 104, 101, 32, 115, 101, 115, 115, 105, 111, 110, 32, 104, 97, 115, 32, 98, 101, 101, 110, 32, 115, 116, 111, 112, 112, 101, 100])]))

/-- 'coeditlaw.Folds': WHATEVER THE INPUT: true; the input reads as it did. -/
def foldsSpec : ChangeSpec := { name := "folds", fn := fun _ => fun
  | [d] => { results := [.lit (.bool true)], args := [d] }
  | _ => none }
def foldsRow : OpenClaim := { program := "ytelecjnabeokeaagreatdoor", sum := "20ff110e3eaf1c718a8798ec4a6ff60633c656b3ab4c834ec6a975ddc88b47ae", func := "coedit/coeditlaw.Folds", spec := "folds", inPlace := ["(*sync.WaitGroup).Add", "internal/race.ReleaseMerge", "internal/race.Disable", "internal/race.Enable", "internal/synctest.IsInBubble", "internal/synctest.Associate[sync.WaitGroup]", "sync.fatal", "sync/atomic.OrUint64", "sync/atomic.AddUint64", "internal/race.Read", "sync/atomic.LoadUint64", "sync/atomic.StoreUint64", "internal/synctest.Disassociate[sync.WaitGroup]", "sync.runtime_Semrelease", "(*sync.WaitGroup).Done", "internal/reflectlite.ValueOf", "(internal/reflectlite.Value).Type", "(internal/reflectlite.Value).IsNil", "internal/reflectlite.TypeOf", "(internal/reflectlite.Value).Elem", "(internal/reflectlite.Value).Set", "(*internal/sync.Mutex).Lock", "sync/atomic.CompareAndSwapInt32", "internal/race.Acquire", "(*internal/sync.Mutex).lockSlow", "internal/sync.runtime_canSpin", "internal/sync.runtime_doSpin", "internal/sync.throw", "internal/sync.runtime_nanotime", "internal/sync.runtime_SemacquireMutex", "sync/atomic.AddInt32", "(*internal/sync.Mutex).Unlock", "(*internal/sync.Mutex).unlockSlow", "internal/sync.fatal", "internal/sync.runtime_Semrelease", "internal/abi.NoEscape", "(*sync.WaitGroup).Wait", "internal/synctest.IsAssociated[sync.WaitGroup]", "sync/atomic.CompareAndSwapUint64", "internal/race.Write", "sync.runtime_SemacquireWaitGroup"], unfollowed := true, recurses := true, named := ["coedit/coedit.ErrShape", "errors.errorType", "coedit/coedit.ErrClient", "coedit/coedit.ErrRune", "coedit/coedit.ErrRange", "coedit/coedit.ErrFull", "coedit/coedit.ErrMany", "coedit/coedit.ErrEmpty", "coedit/coedit.ErrFrame", "coedit/coedit.ErrOrder", "coedit/coedit.ErrAck", "coedit/coedit.ErrStopped"], leaving := true, apart := false, calm := true, outside := [.timePasses], laid := [("errors.errorType", laid_errors_errorType), ("coedit/coedit.ErrShape", laid_coedit_coedit_ErrShape), ("coedit/coedit.ErrClient", laid_coedit_coedit_ErrClient), ("coedit/coedit.ErrRune", laid_coedit_coedit_ErrRune), ("coedit/coedit.ErrRange", laid_coedit_coedit_ErrRange), ("coedit/coedit.ErrFull", laid_coedit_coedit_ErrFull), ("coedit/coedit.ErrMany", laid_coedit_coedit_ErrMany), ("coedit/coedit.ErrEmpty", laid_coedit_coedit_ErrEmpty), ("coedit/coedit.ErrFrame", laid_coedit_coedit_ErrFrame), ("coedit/coedit.ErrOrder", laid_coedit_coedit_ErrOrder), ("coedit/coedit.ErrAck", laid_coedit_coedit_ErrAck), ("coedit/coedit.ErrStopped", laid_coedit_coedit_ErrStopped)] }
def FoldsSaid : Prop := foldsRow.holds Tryz.pinned (OpenSpec.ofChange foldsSpec)

/-- ITS FALSE NEIGHBOUR: 'it returns false'. Refute it at one input. -/
def foldsWrong : ChangeSpec := { name := "folds", fn := fun _ => fun
  | [d] => { results := [.lit (.bool false)], args := [d] }
  | _ => none }
def FoldsWrongFalsely : Prop := foldsRow.holds Tryz.pinned (OpenSpec.ofChange foldsWrong)

/-- 'coeditlaw.Orders': WHATEVER THE INPUT: true; the input reads as it did. -/
def ordersSpec : ChangeSpec := { name := "orders", fn := fun _ => fun
  | [d] => { results := [.lit (.bool true)], args := [d] }
  | _ => none }
def ordersRow : OpenClaim := { program := "ytelecjnabeokeaagreatdoor", sum := "20ff110e3eaf1c718a8798ec4a6ff60633c656b3ab4c834ec6a975ddc88b47ae", func := "coedit/coeditlaw.Orders", spec := "orders", inPlace := ["(*sync.WaitGroup).Add", "internal/race.ReleaseMerge", "internal/race.Disable", "internal/race.Enable", "internal/synctest.IsInBubble", "internal/synctest.Associate[sync.WaitGroup]", "sync.fatal", "sync/atomic.OrUint64", "sync/atomic.AddUint64", "internal/race.Read", "sync/atomic.LoadUint64", "sync/atomic.StoreUint64", "internal/synctest.Disassociate[sync.WaitGroup]", "sync.runtime_Semrelease", "(*sync.WaitGroup).Done", "internal/reflectlite.ValueOf", "(internal/reflectlite.Value).Type", "(internal/reflectlite.Value).IsNil", "internal/reflectlite.TypeOf", "(internal/reflectlite.Value).Elem", "(internal/reflectlite.Value).Set", "(*internal/sync.Mutex).Lock", "sync/atomic.CompareAndSwapInt32", "internal/race.Acquire", "(*internal/sync.Mutex).lockSlow", "internal/sync.runtime_canSpin", "internal/sync.runtime_doSpin", "internal/sync.throw", "internal/sync.runtime_nanotime", "internal/sync.runtime_SemacquireMutex", "sync/atomic.AddInt32", "(*internal/sync.Mutex).Unlock", "(*internal/sync.Mutex).unlockSlow", "internal/sync.fatal", "internal/sync.runtime_Semrelease", "internal/abi.NoEscape", "(*sync.WaitGroup).Wait", "internal/synctest.IsAssociated[sync.WaitGroup]", "sync/atomic.CompareAndSwapUint64", "internal/race.Write", "sync.runtime_SemacquireWaitGroup"], unfollowed := true, recurses := true, named := ["coedit/coedit.ErrShape", "errors.errorType", "coedit/coedit.ErrClient", "coedit/coedit.ErrRune", "coedit/coedit.ErrRange", "coedit/coedit.ErrFull", "coedit/coedit.ErrMany", "coedit/coedit.ErrEmpty", "coedit/coedit.ErrFrame", "coedit/coedit.ErrOrder", "coedit/coedit.ErrAck", "coedit/coedit.ErrStopped"], leaving := true, apart := false, calm := true, outside := [.timePasses], laid := [("errors.errorType", laid_errors_errorType), ("coedit/coedit.ErrShape", laid_coedit_coedit_ErrShape), ("coedit/coedit.ErrClient", laid_coedit_coedit_ErrClient), ("coedit/coedit.ErrRune", laid_coedit_coedit_ErrRune), ("coedit/coedit.ErrRange", laid_coedit_coedit_ErrRange), ("coedit/coedit.ErrFull", laid_coedit_coedit_ErrFull), ("coedit/coedit.ErrMany", laid_coedit_coedit_ErrMany), ("coedit/coedit.ErrEmpty", laid_coedit_coedit_ErrEmpty), ("coedit/coedit.ErrFrame", laid_coedit_coedit_ErrFrame), ("coedit/coedit.ErrOrder", laid_coedit_coedit_ErrOrder), ("coedit/coedit.ErrAck", laid_coedit_coedit_ErrAck), ("coedit/coedit.ErrStopped", laid_coedit_coedit_ErrStopped)] }
def OrdersSaid : Prop := ordersRow.holds Tryz.pinned (OpenSpec.ofChange ordersSpec)

/-- ITS FALSE NEIGHBOUR: 'it returns false'. Refute it at one input. -/
def ordersWrong : ChangeSpec := { name := "orders", fn := fun _ => fun
  | [d] => { results := [.lit (.bool false)], args := [d] }
  | _ => none }
def OrdersWrongFalsely : Prop := ordersRow.holds Tryz.pinned (OpenSpec.ofChange ordersWrong)

/-- 'coeditlaw.Meets': WHATEVER THE INPUT: true; the input reads as it did. -/
def meetsSpec : ChangeSpec := { name := "meets", fn := fun _ => fun
  | [d] => { results := [.lit (.bool true)], args := [d] }
  | _ => none }
def meetsRow : OpenClaim := { program := "ytelecjnabeokeaagreatdoor", sum := "20ff110e3eaf1c718a8798ec4a6ff60633c656b3ab4c834ec6a975ddc88b47ae", func := "coedit/coeditlaw.Meets", spec := "meets", inPlace := ["(*sync.WaitGroup).Add", "internal/race.ReleaseMerge", "internal/race.Disable", "internal/race.Enable", "internal/synctest.IsInBubble", "internal/synctest.Associate[sync.WaitGroup]", "sync.fatal", "sync/atomic.OrUint64", "sync/atomic.AddUint64", "internal/race.Read", "sync/atomic.LoadUint64", "sync/atomic.StoreUint64", "internal/synctest.Disassociate[sync.WaitGroup]", "sync.runtime_Semrelease", "(*sync.WaitGroup).Done", "internal/reflectlite.ValueOf", "(internal/reflectlite.Value).Type", "(internal/reflectlite.Value).IsNil", "internal/reflectlite.TypeOf", "(internal/reflectlite.Value).Elem", "(internal/reflectlite.Value).Set", "(*internal/sync.Mutex).Lock", "sync/atomic.CompareAndSwapInt32", "internal/race.Acquire", "(*internal/sync.Mutex).lockSlow", "internal/sync.runtime_canSpin", "internal/sync.runtime_doSpin", "internal/sync.throw", "internal/sync.runtime_nanotime", "internal/sync.runtime_SemacquireMutex", "sync/atomic.AddInt32", "(*internal/sync.Mutex).Unlock", "(*internal/sync.Mutex).unlockSlow", "internal/sync.fatal", "internal/sync.runtime_Semrelease", "internal/abi.NoEscape", "(*sync.WaitGroup).Wait", "internal/synctest.IsAssociated[sync.WaitGroup]", "sync/atomic.CompareAndSwapUint64", "internal/race.Write", "sync.runtime_SemacquireWaitGroup", "maps.clone"], unfollowed := true, recurses := true, named := ["coedit/coedit.ErrShape", "errors.errorType", "coedit/coedit.ErrClient", "coedit/coedit.ErrRune", "coedit/coedit.ErrRange", "coedit/coedit.ErrFull", "coedit/coedit.ErrMany", "coedit/coedit.ErrEmpty", "coedit/coedit.ErrFrame", "coedit/coedit.ErrOrder", "coedit/coedit.ErrAck", "coedit/coedit.ErrStopped"], leaving := true, apart := false, calm := true, outside := [.timePasses], laid := [("errors.errorType", laid_errors_errorType), ("coedit/coedit.ErrShape", laid_coedit_coedit_ErrShape), ("coedit/coedit.ErrClient", laid_coedit_coedit_ErrClient), ("coedit/coedit.ErrRune", laid_coedit_coedit_ErrRune), ("coedit/coedit.ErrRange", laid_coedit_coedit_ErrRange), ("coedit/coedit.ErrFull", laid_coedit_coedit_ErrFull), ("coedit/coedit.ErrMany", laid_coedit_coedit_ErrMany), ("coedit/coedit.ErrEmpty", laid_coedit_coedit_ErrEmpty), ("coedit/coedit.ErrFrame", laid_coedit_coedit_ErrFrame), ("coedit/coedit.ErrOrder", laid_coedit_coedit_ErrOrder), ("coedit/coedit.ErrAck", laid_coedit_coedit_ErrAck), ("coedit/coedit.ErrStopped", laid_coedit_coedit_ErrStopped)] }
def MeetsSaid : Prop := meetsRow.holds Tryz.pinned (OpenSpec.ofChange meetsSpec)

/-- ITS FALSE NEIGHBOUR: 'it returns false'. Refute it at one input. -/
def meetsWrong : ChangeSpec := { name := "meets", fn := fun _ => fun
  | [d] => { results := [.lit (.bool false)], args := [d] }
  | _ => none }
def MeetsWrongFalsely : Prop := meetsRow.holds Tryz.pinned (OpenSpec.ofChange meetsWrong)

end Rows
end Go.Proofs.YtelecjnabeokeaaGreatDoor

/-
  NARROWER THAN 'FOR EVERY INPUT', by the rows' own cells (each row's printed sentence says how): StripStates: laid · StripShut: laid · StripMore: laid · StripNews: laid · StripFewest: laid · StripClashes: laid.
  DERIVED. THE GIVEN ROWS OF THIS SEAT. 6 by the template 'for every input the law returns true; each argument reads behind the call as it read before'; 0 by the template 'total and deterministic' (their statements: YtcoalekambhghaaGreatDoorTotals.lean).
  GIVEN WITH THE SEED: the statements are not yours to turn. If you find one false, say at which input.
  Laid BY PROGRAM, IN A SANDBOX (cutbox-rows.mjs): the forced cells as the released guide's own fill.sh prints them over the translation 89812680035fd522… (all of the seat's roots in one cut). By AI agents, Wed Nov 11 2026. No macro, syntax, notation, axiom, sorry.
-/
import Derived.Test.YtcoalekambhghaaGreatDoorChecked
import GoSem.Claim
import GoSem.ClaimJoined
import GoSem.ClaimMapViews
import Derived.JoinedTies
import Derived.KernelRfl
namespace Go.Proofs.YtcoalekambhghaaGreatDoor
/- THE CELL 'sum', in the pinned program and in every row, IS THE sha256 OF THE DUMP (.gsa) THAT YtcoalekambhghaaGreatDoorProg.lean LOADS. Nothing in Lean hashes anything: it is a label: what it is worth is what the hold of that sum in a sandbox is worth. -/
noncomputable def Tryz.pinned : Pinned := { name := "ytcoalekambhghaagreatdoor", sum := "89812680035fd522ea54f3a7a1042eb08ee6789be057e5da335686597821026a", checked := Tryz.checked }
namespace Rows
def none {H : Type} : Left H := { results := [], args := [] }

/- WHAT THE LISTED PACKAGE-LEVEL VARIABLES READ AS WHEN THE CALL BEGINS. Each datum BY PROGRAM (the guide's laid-datum.mjs) off the statement by which the dump's own 'gosem.cut.vars' lays the variable. In a bare row this is a premise. The card (YtcoalekambhghaaGreatDoorCards.lean) ties it to the program's text. -/
def laid_velarium_strip_checks {H : Type} : DataW H := .iface "func table" (.agg [.iface "func" (.lit (.string [40, 118, 101, 108, 97, 114, 105, 117, 109, 47, 115, 116, 114, 105, 112, 46, 114, 111, 117, 110, 100, 41, 46, 110, 117, 109, 98, 101, 114, 115])), .iface "func" (.lit (.string [40, 118, 101, 108, 97, 114, 105, 117, 109, 47, 115, 116, 114, 105, 112, 46, 114, 111, 117, 110, 100, 41, 46, 100, 114, 97, 119, 110])), .iface "func" (.lit (.string [40, 118, 101, 108, 97, 114, 105, 117, 109, 47, 115, 116, 114, 105, 112, 46, 114, 111, 117, 110, 100, 41, 46, 119, 97, 121, 115]))])

/-- 'velariumlaw01.StripStates': WHATEVER THE INPUT: true; the input reads as it did. -/
def stripStatesSpec : ChangeSpec := { name := "stripStates", fn := fun _ => fun
  | [d1, d2, d3, d4] => { results := [.lit (.bool true)], args := [d1, d2, d3, d4] }
  | _ => none }
def stripStatesRow : OpenClaim := { program := "ytcoalekambhghaagreatdoor", sum := "89812680035fd522ea54f3a7a1042eb08ee6789be057e5da335686597821026a", func := "velarium/velariumlaw01.StripStates", spec := "stripStates", inPlace := ["(*sync.WaitGroup).Add", "internal/race.ReleaseMerge", "internal/race.Disable", "internal/race.Enable", "internal/synctest.IsInBubble", "internal/synctest.Associate[sync.WaitGroup]", "sync.fatal", "sync/atomic.OrUint64", "sync/atomic.AddUint64", "internal/race.Read", "sync/atomic.LoadUint64", "sync/atomic.StoreUint64", "internal/synctest.Disassociate[sync.WaitGroup]", "sync.runtime_Semrelease", "(*sync.WaitGroup).Done", "(*sync.WaitGroup).Wait", "internal/race.Acquire", "internal/synctest.IsAssociated[sync.WaitGroup]", "sync/atomic.CompareAndSwapUint64", "internal/race.Write", "sync.runtime_SemacquireWaitGroup"], unfollowed := true, recurses := true, named := ["velarium/strip.checks"], plainKeys := false, leaving := true, apart := false, laid := [("velarium/strip.checks", laid_velarium_strip_checks)] }
def StripStatesSaid : Prop := stripStatesRow.holds Tryz.pinned (OpenSpec.ofChange stripStatesSpec)

/-- ITS FALSE NEIGHBOUR: 'it returns false'. Refute it at one input. -/
def stripStatesWrong : ChangeSpec := { name := "stripStates", fn := fun _ => fun
  | [d1, d2, d3, d4] => { results := [.lit (.bool false)], args := [d1, d2, d3, d4] }
  | _ => none }
def StripStatesWrongFalsely : Prop := stripStatesRow.holds Tryz.pinned (OpenSpec.ofChange stripStatesWrong)

/-- 'velariumlaw01.StripShut': WHATEVER THE INPUT: true; the input reads as it did. -/
def stripShutSpec : ChangeSpec := { name := "stripShut", fn := fun _ => fun
  | [d] => { results := [.lit (.bool true)], args := [d] }
  | _ => none }
def stripShutRow : OpenClaim := { program := "ytcoalekambhghaagreatdoor", sum := "89812680035fd522ea54f3a7a1042eb08ee6789be057e5da335686597821026a", func := "velarium/velariumlaw01.StripShut", spec := "stripShut", inPlace := ["(*sync.WaitGroup).Add", "internal/race.ReleaseMerge", "internal/race.Disable", "internal/race.Enable", "internal/synctest.IsInBubble", "internal/synctest.Associate[sync.WaitGroup]", "sync.fatal", "sync/atomic.OrUint64", "sync/atomic.AddUint64", "internal/race.Read", "sync/atomic.LoadUint64", "sync/atomic.StoreUint64", "internal/synctest.Disassociate[sync.WaitGroup]", "sync.runtime_Semrelease", "(*sync.WaitGroup).Done", "(*sync.WaitGroup).Wait", "internal/race.Acquire", "internal/synctest.IsAssociated[sync.WaitGroup]", "sync/atomic.CompareAndSwapUint64", "internal/race.Write", "sync.runtime_SemacquireWaitGroup"], unfollowed := true, recurses := true, named := ["velarium/strip.checks"], plainKeys := false, leaving := true, apart := false, laid := [("velarium/strip.checks", laid_velarium_strip_checks)] }
def StripShutSaid : Prop := stripShutRow.holds Tryz.pinned (OpenSpec.ofChange stripShutSpec)

/-- ITS FALSE NEIGHBOUR: 'it returns false'. Refute it at one input. -/
def stripShutWrong : ChangeSpec := { name := "stripShut", fn := fun _ => fun
  | [d] => { results := [.lit (.bool false)], args := [d] }
  | _ => none }
def StripShutWrongFalsely : Prop := stripShutRow.holds Tryz.pinned (OpenSpec.ofChange stripShutWrong)

/-- 'velariumlaw01.StripMore': WHATEVER THE INPUT: true; the input reads as it did. -/
def stripMoreSpec : ChangeSpec := { name := "stripMore", fn := fun _ => fun
  | [d1, d2, d3] => { results := [.lit (.bool true)], args := [d1, d2, d3] }
  | _ => none }
def stripMoreRow : OpenClaim := { program := "ytcoalekambhghaagreatdoor", sum := "89812680035fd522ea54f3a7a1042eb08ee6789be057e5da335686597821026a", func := "velarium/velariumlaw01.StripMore", spec := "stripMore", inPlace := ["(*sync.WaitGroup).Add", "internal/race.ReleaseMerge", "internal/race.Disable", "internal/race.Enable", "internal/synctest.IsInBubble", "internal/synctest.Associate[sync.WaitGroup]", "sync.fatal", "sync/atomic.OrUint64", "sync/atomic.AddUint64", "internal/race.Read", "sync/atomic.LoadUint64", "sync/atomic.StoreUint64", "internal/synctest.Disassociate[sync.WaitGroup]", "sync.runtime_Semrelease", "(*sync.WaitGroup).Done", "(*sync.WaitGroup).Wait", "internal/race.Acquire", "internal/synctest.IsAssociated[sync.WaitGroup]", "sync/atomic.CompareAndSwapUint64", "internal/race.Write", "sync.runtime_SemacquireWaitGroup"], unfollowed := true, recurses := true, named := ["velarium/strip.checks"], plainKeys := false, leaving := true, apart := false, laid := [("velarium/strip.checks", laid_velarium_strip_checks)] }
def StripMoreSaid : Prop := stripMoreRow.holds Tryz.pinned (OpenSpec.ofChange stripMoreSpec)

/-- ITS FALSE NEIGHBOUR: 'it returns false'. Refute it at one input. -/
def stripMoreWrong : ChangeSpec := { name := "stripMore", fn := fun _ => fun
  | [d1, d2, d3] => { results := [.lit (.bool false)], args := [d1, d2, d3] }
  | _ => none }
def StripMoreWrongFalsely : Prop := stripMoreRow.holds Tryz.pinned (OpenSpec.ofChange stripMoreWrong)

/-- 'velariumlaw01.StripNews': WHATEVER THE INPUT: true; the input reads as it did. -/
def stripNewsSpec : ChangeSpec := { name := "stripNews", fn := fun _ => fun
  | [d1, d2, d3, d4, d5] => { results := [.lit (.bool true)], args := [d1, d2, d3, d4, d5] }
  | _ => none }
def stripNewsRow : OpenClaim := { program := "ytcoalekambhghaagreatdoor", sum := "89812680035fd522ea54f3a7a1042eb08ee6789be057e5da335686597821026a", func := "velarium/velariumlaw01.StripNews", spec := "stripNews", inPlace := ["(*sync.WaitGroup).Add", "internal/race.ReleaseMerge", "internal/race.Disable", "internal/race.Enable", "internal/synctest.IsInBubble", "internal/synctest.Associate[sync.WaitGroup]", "sync.fatal", "sync/atomic.OrUint64", "sync/atomic.AddUint64", "internal/race.Read", "sync/atomic.LoadUint64", "sync/atomic.StoreUint64", "internal/synctest.Disassociate[sync.WaitGroup]", "sync.runtime_Semrelease", "(*sync.WaitGroup).Done", "(*sync.WaitGroup).Wait", "internal/race.Acquire", "internal/synctest.IsAssociated[sync.WaitGroup]", "sync/atomic.CompareAndSwapUint64", "internal/race.Write", "sync.runtime_SemacquireWaitGroup"], unfollowed := true, recurses := true, named := ["velarium/strip.checks"], plainKeys := false, leaving := true, apart := false, laid := [("velarium/strip.checks", laid_velarium_strip_checks)] }
def StripNewsSaid : Prop := stripNewsRow.holds Tryz.pinned (OpenSpec.ofChange stripNewsSpec)

/-- ITS FALSE NEIGHBOUR: 'it returns false'. Refute it at one input. -/
def stripNewsWrong : ChangeSpec := { name := "stripNews", fn := fun _ => fun
  | [d1, d2, d3, d4, d5] => { results := [.lit (.bool false)], args := [d1, d2, d3, d4, d5] }
  | _ => none }
def StripNewsWrongFalsely : Prop := stripNewsRow.holds Tryz.pinned (OpenSpec.ofChange stripNewsWrong)

/-- 'velariumlaw01.StripFewest': WHATEVER THE INPUT: true; the input reads as it did. -/
def stripFewestSpec : ChangeSpec := { name := "stripFewest", fn := fun _ => fun
  | [d1, d2] => { results := [.lit (.bool true)], args := [d1, d2] }
  | _ => none }
def stripFewestRow : OpenClaim := { program := "ytcoalekambhghaagreatdoor", sum := "89812680035fd522ea54f3a7a1042eb08ee6789be057e5da335686597821026a", func := "velarium/velariumlaw01.StripFewest", spec := "stripFewest", inPlace := ["(*sync.WaitGroup).Add", "internal/race.ReleaseMerge", "internal/race.Disable", "internal/race.Enable", "internal/synctest.IsInBubble", "internal/synctest.Associate[sync.WaitGroup]", "sync.fatal", "sync/atomic.OrUint64", "sync/atomic.AddUint64", "internal/race.Read", "sync/atomic.LoadUint64", "sync/atomic.StoreUint64", "internal/synctest.Disassociate[sync.WaitGroup]", "sync.runtime_Semrelease", "(*sync.WaitGroup).Done", "(*sync.WaitGroup).Wait", "internal/race.Acquire", "internal/synctest.IsAssociated[sync.WaitGroup]", "sync/atomic.CompareAndSwapUint64", "internal/race.Write", "sync.runtime_SemacquireWaitGroup"], unfollowed := true, recurses := true, named := ["velarium/strip.checks"], plainKeys := false, leaving := true, apart := false, laid := [("velarium/strip.checks", laid_velarium_strip_checks)] }
def StripFewestSaid : Prop := stripFewestRow.holds Tryz.pinned (OpenSpec.ofChange stripFewestSpec)

/-- ITS FALSE NEIGHBOUR: 'it returns false'. Refute it at one input. -/
def stripFewestWrong : ChangeSpec := { name := "stripFewest", fn := fun _ => fun
  | [d1, d2] => { results := [.lit (.bool false)], args := [d1, d2] }
  | _ => none }
def StripFewestWrongFalsely : Prop := stripFewestRow.holds Tryz.pinned (OpenSpec.ofChange stripFewestWrong)

/-- 'velariumlaw01.StripClashes': WHATEVER THE INPUT: true; the input reads as it did. -/
def stripClashesSpec : ChangeSpec := { name := "stripClashes", fn := fun _ => fun
  | [d1, d2] => { results := [.lit (.bool true)], args := [d1, d2] }
  | _ => none }
def stripClashesRow : OpenClaim := { program := "ytcoalekambhghaagreatdoor", sum := "89812680035fd522ea54f3a7a1042eb08ee6789be057e5da335686597821026a", func := "velarium/velariumlaw01.StripClashes", spec := "stripClashes", inPlace := ["(*sync.WaitGroup).Add", "internal/race.ReleaseMerge", "internal/race.Disable", "internal/race.Enable", "internal/synctest.IsInBubble", "internal/synctest.Associate[sync.WaitGroup]", "sync.fatal", "sync/atomic.OrUint64", "sync/atomic.AddUint64", "internal/race.Read", "sync/atomic.LoadUint64", "sync/atomic.StoreUint64", "internal/synctest.Disassociate[sync.WaitGroup]", "sync.runtime_Semrelease", "(*sync.WaitGroup).Done", "(*sync.WaitGroup).Wait", "internal/race.Acquire", "internal/synctest.IsAssociated[sync.WaitGroup]", "sync/atomic.CompareAndSwapUint64", "internal/race.Write", "sync.runtime_SemacquireWaitGroup"], unfollowed := true, recurses := true, named := ["velarium/strip.checks"], plainKeys := false, leaving := true, apart := false, laid := [("velarium/strip.checks", laid_velarium_strip_checks)] }
def StripClashesSaid : Prop := stripClashesRow.holds Tryz.pinned (OpenSpec.ofChange stripClashesSpec)

/-- ITS FALSE NEIGHBOUR: 'it returns false'. Refute it at one input. -/
def stripClashesWrong : ChangeSpec := { name := "stripClashes", fn := fun _ => fun
  | [d1, d2] => { results := [.lit (.bool false)], args := [d1, d2] }
  | _ => none }
def StripClashesWrongFalsely : Prop := stripClashesRow.holds Tryz.pinned (OpenSpec.ofChange stripClashesWrong)

/- THE SECOND FORM. 'bulk': how many values and letters a reading holds, each counted each time it is reached (what is shared counts as often as it is met; a slice's spare places count too). A statement '..UptoSaid' is the law's where the arguments, and the package variables that the reading takes, are together of bulk at most 1048576: NARROWER than '..Said'. Prove '..Said' where nothing that the law and all that it calls make is longer than what came in: it says more and counts as full. Else prove '..UptoSaid'. A law counts once. -/
mutual
def uptoBulk {H : Type} : DataW H → Nat
  | .lit (.string bytes) => bytes.length + 1
  | .lit _ => 1
  | .nil => 1
  | .ptr d => uptoBulk d + 1
  | .slice elems spare => uptoBulkAll elems + uptoBulkAll spare + 1
  | .agg parts => uptoBulkAll parts + 1
  | .iface _ d => uptoBulk d + 1
  | .map entries => uptoBulkEntries entries + 1
  | .held _ => 1
def uptoBulkAll {H : Type} : List (DataW H) → Nat
  | [] => 0
  | d :: r => uptoBulk d + uptoBulkAll r
def uptoBulkEntries {H : Type} : List (Lit × DataW H) → Nat
  | [] => 0
  | x :: r => uptoBulkEntry x + uptoBulkEntries r
def uptoBulkEntry {H : Type} : Lit × DataW H → Nat
  | (.string bytes, d) => bytes.length + uptoBulk d + 1
  | (_, d) => uptoBulk d + 1
 end
def uptoSmall : (H : Type) → List (DataW H) → Bool := fun _ ds => decide (uptoBulkAll ds ≤ 1048576)
def OpenSpec.upto (s : _root_.Go.ChangeSpec) : _root_.Go.OpenSpec := { _root_.Go.OpenSpec.ofChange s with cond := some uptoSmall }

/-- 'velariumlaw01.StripStates', WHERE WHAT IT READS IS OF BULK AT MOST 1048576: true; the input reads as it did. -/
def stripStatesUptoRow : OpenClaim := { program := "ytcoalekambhghaagreatdoor", sum := "89812680035fd522ea54f3a7a1042eb08ee6789be057e5da335686597821026a", func := "velarium/velariumlaw01.StripStates", spec := "stripStates", inPlace := ["(*sync.WaitGroup).Add", "internal/race.ReleaseMerge", "internal/race.Disable", "internal/race.Enable", "internal/synctest.IsInBubble", "internal/synctest.Associate[sync.WaitGroup]", "sync.fatal", "sync/atomic.OrUint64", "sync/atomic.AddUint64", "internal/race.Read", "sync/atomic.LoadUint64", "sync/atomic.StoreUint64", "internal/synctest.Disassociate[sync.WaitGroup]", "sync.runtime_Semrelease", "(*sync.WaitGroup).Done", "(*sync.WaitGroup).Wait", "internal/race.Acquire", "internal/synctest.IsAssociated[sync.WaitGroup]", "sync/atomic.CompareAndSwapUint64", "internal/race.Write", "sync.runtime_SemacquireWaitGroup"], unfollowed := true, recurses := true, named := ["velarium/strip.checks"], plainKeys := false, leaving := true, apart := false, laid := [("velarium/strip.checks", laid_velarium_strip_checks)], narrowed := true }
def StripStatesUptoSaid : Prop := stripStatesUptoRow.holds Tryz.pinned (OpenSpec.upto stripStatesSpec)

/-- 'velariumlaw01.StripShut', WHERE WHAT IT READS IS OF BULK AT MOST 1048576: true; the input reads as it did. -/
def stripShutUptoRow : OpenClaim := { program := "ytcoalekambhghaagreatdoor", sum := "89812680035fd522ea54f3a7a1042eb08ee6789be057e5da335686597821026a", func := "velarium/velariumlaw01.StripShut", spec := "stripShut", inPlace := ["(*sync.WaitGroup).Add", "internal/race.ReleaseMerge", "internal/race.Disable", "internal/race.Enable", "internal/synctest.IsInBubble", "internal/synctest.Associate[sync.WaitGroup]", "sync.fatal", "sync/atomic.OrUint64", "sync/atomic.AddUint64", "internal/race.Read", "sync/atomic.LoadUint64", "sync/atomic.StoreUint64", "internal/synctest.Disassociate[sync.WaitGroup]", "sync.runtime_Semrelease", "(*sync.WaitGroup).Done", "(*sync.WaitGroup).Wait", "internal/race.Acquire", "internal/synctest.IsAssociated[sync.WaitGroup]", "sync/atomic.CompareAndSwapUint64", "internal/race.Write", "sync.runtime_SemacquireWaitGroup"], unfollowed := true, recurses := true, named := ["velarium/strip.checks"], plainKeys := false, leaving := true, apart := false, laid := [("velarium/strip.checks", laid_velarium_strip_checks)], narrowed := true }
def StripShutUptoSaid : Prop := stripShutUptoRow.holds Tryz.pinned (OpenSpec.upto stripShutSpec)

/-- 'velariumlaw01.StripMore', WHERE WHAT IT READS IS OF BULK AT MOST 1048576: true; the input reads as it did. -/
def stripMoreUptoRow : OpenClaim := { program := "ytcoalekambhghaagreatdoor", sum := "89812680035fd522ea54f3a7a1042eb08ee6789be057e5da335686597821026a", func := "velarium/velariumlaw01.StripMore", spec := "stripMore", inPlace := ["(*sync.WaitGroup).Add", "internal/race.ReleaseMerge", "internal/race.Disable", "internal/race.Enable", "internal/synctest.IsInBubble", "internal/synctest.Associate[sync.WaitGroup]", "sync.fatal", "sync/atomic.OrUint64", "sync/atomic.AddUint64", "internal/race.Read", "sync/atomic.LoadUint64", "sync/atomic.StoreUint64", "internal/synctest.Disassociate[sync.WaitGroup]", "sync.runtime_Semrelease", "(*sync.WaitGroup).Done", "(*sync.WaitGroup).Wait", "internal/race.Acquire", "internal/synctest.IsAssociated[sync.WaitGroup]", "sync/atomic.CompareAndSwapUint64", "internal/race.Write", "sync.runtime_SemacquireWaitGroup"], unfollowed := true, recurses := true, named := ["velarium/strip.checks"], plainKeys := false, leaving := true, apart := false, laid := [("velarium/strip.checks", laid_velarium_strip_checks)], narrowed := true }
def StripMoreUptoSaid : Prop := stripMoreUptoRow.holds Tryz.pinned (OpenSpec.upto stripMoreSpec)

/-- 'velariumlaw01.StripNews', WHERE WHAT IT READS IS OF BULK AT MOST 1048576: true; the input reads as it did. -/
def stripNewsUptoRow : OpenClaim := { program := "ytcoalekambhghaagreatdoor", sum := "89812680035fd522ea54f3a7a1042eb08ee6789be057e5da335686597821026a", func := "velarium/velariumlaw01.StripNews", spec := "stripNews", inPlace := ["(*sync.WaitGroup).Add", "internal/race.ReleaseMerge", "internal/race.Disable", "internal/race.Enable", "internal/synctest.IsInBubble", "internal/synctest.Associate[sync.WaitGroup]", "sync.fatal", "sync/atomic.OrUint64", "sync/atomic.AddUint64", "internal/race.Read", "sync/atomic.LoadUint64", "sync/atomic.StoreUint64", "internal/synctest.Disassociate[sync.WaitGroup]", "sync.runtime_Semrelease", "(*sync.WaitGroup).Done", "(*sync.WaitGroup).Wait", "internal/race.Acquire", "internal/synctest.IsAssociated[sync.WaitGroup]", "sync/atomic.CompareAndSwapUint64", "internal/race.Write", "sync.runtime_SemacquireWaitGroup"], unfollowed := true, recurses := true, named := ["velarium/strip.checks"], plainKeys := false, leaving := true, apart := false, laid := [("velarium/strip.checks", laid_velarium_strip_checks)], narrowed := true }
def StripNewsUptoSaid : Prop := stripNewsUptoRow.holds Tryz.pinned (OpenSpec.upto stripNewsSpec)

/-- 'velariumlaw01.StripFewest', WHERE WHAT IT READS IS OF BULK AT MOST 1048576: true; the input reads as it did. -/
def stripFewestUptoRow : OpenClaim := { program := "ytcoalekambhghaagreatdoor", sum := "89812680035fd522ea54f3a7a1042eb08ee6789be057e5da335686597821026a", func := "velarium/velariumlaw01.StripFewest", spec := "stripFewest", inPlace := ["(*sync.WaitGroup).Add", "internal/race.ReleaseMerge", "internal/race.Disable", "internal/race.Enable", "internal/synctest.IsInBubble", "internal/synctest.Associate[sync.WaitGroup]", "sync.fatal", "sync/atomic.OrUint64", "sync/atomic.AddUint64", "internal/race.Read", "sync/atomic.LoadUint64", "sync/atomic.StoreUint64", "internal/synctest.Disassociate[sync.WaitGroup]", "sync.runtime_Semrelease", "(*sync.WaitGroup).Done", "(*sync.WaitGroup).Wait", "internal/race.Acquire", "internal/synctest.IsAssociated[sync.WaitGroup]", "sync/atomic.CompareAndSwapUint64", "internal/race.Write", "sync.runtime_SemacquireWaitGroup"], unfollowed := true, recurses := true, named := ["velarium/strip.checks"], plainKeys := false, leaving := true, apart := false, laid := [("velarium/strip.checks", laid_velarium_strip_checks)], narrowed := true }
def StripFewestUptoSaid : Prop := stripFewestUptoRow.holds Tryz.pinned (OpenSpec.upto stripFewestSpec)

/-- 'velariumlaw01.StripClashes', WHERE WHAT IT READS IS OF BULK AT MOST 1048576: true; the input reads as it did. -/
def stripClashesUptoRow : OpenClaim := { program := "ytcoalekambhghaagreatdoor", sum := "89812680035fd522ea54f3a7a1042eb08ee6789be057e5da335686597821026a", func := "velarium/velariumlaw01.StripClashes", spec := "stripClashes", inPlace := ["(*sync.WaitGroup).Add", "internal/race.ReleaseMerge", "internal/race.Disable", "internal/race.Enable", "internal/synctest.IsInBubble", "internal/synctest.Associate[sync.WaitGroup]", "sync.fatal", "sync/atomic.OrUint64", "sync/atomic.AddUint64", "internal/race.Read", "sync/atomic.LoadUint64", "sync/atomic.StoreUint64", "internal/synctest.Disassociate[sync.WaitGroup]", "sync.runtime_Semrelease", "(*sync.WaitGroup).Done", "(*sync.WaitGroup).Wait", "internal/race.Acquire", "internal/synctest.IsAssociated[sync.WaitGroup]", "sync/atomic.CompareAndSwapUint64", "internal/race.Write", "sync.runtime_SemacquireWaitGroup"], unfollowed := true, recurses := true, named := ["velarium/strip.checks"], plainKeys := false, leaving := true, apart := false, laid := [("velarium/strip.checks", laid_velarium_strip_checks)], narrowed := true }
def StripClashesUptoSaid : Prop := stripClashesUptoRow.holds Tryz.pinned (OpenSpec.upto stripClashesSpec)

end Rows
end Go.Proofs.YtcoalekambhghaaGreatDoor

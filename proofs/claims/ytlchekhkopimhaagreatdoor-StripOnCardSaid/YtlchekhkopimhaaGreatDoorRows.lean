/-
  NARROWER THAN 'FOR EVERY INPUT', by the rows' own cells (each row's printed sentence says how): StripOn: laid · StripMore: laid · StripNoOthers: laid · StripAsked: laid · StripKnown: laid · StripLearnt: laid · StripHung: laid · StripLifted: laid · StripAnyOrder: laid · StripReal: laid · StripCloses: laid · StripWorst: laid · StripNews: laid.
  DERIVED. THE GIVEN ROWS OF THIS SEAT. 13 by the template 'for every input the law returns true; each argument reads behind the call as it read before'; 0 by the template 'total and deterministic' (their statements: YtlchekhkopimhaaGreatDoorTotals.lean).
  GIVEN WITH THE SEED: the statements are not yours to turn. If you find one false, say at which input.
  Laid BY PROGRAM, IN A SANDBOX (cutbox-rows.mjs): the forced cells as the released guide's own fill.sh prints them over the translation 9fc9add2d416ccce… (all of the seat's roots in one cut). By AI agents, Wed Nov 11 2026. No macro, syntax, notation, axiom, sorry.
-/
import Derived.Test.YtlchekhkopimhaaGreatDoorChecked
import GoSem.Claim
import GoSem.ClaimJoined
import GoSem.ClaimMapViews
import Derived.JoinedTies
import Derived.KernelRfl
namespace Go.Proofs.YtlchekhkopimhaaGreatDoor
/- THE CELL 'sum', in the pinned program and in every row, IS THE sha256 OF THE DUMP (.gsa) THAT YtlchekhkopimhaaGreatDoorProg.lean LOADS. Nothing in Lean hashes anything: it is a label: what it is worth is what the hold of that sum in a sandbox is worth. -/
noncomputable def Tryz.pinned : Pinned := { name := "ytlchekhkopimhaagreatdoor", sum := "9fc9add2d416ccce9f740ed9c017ca07ad52770ddc4b591bead0828dcbc2aedc", checked := Tryz.checked }
namespace Rows
def none {H : Type} : Left H := { results := [], args := [] }

/- WHAT THE LISTED PACKAGE-LEVEL VARIABLES READ AS WHEN THE CALL BEGINS. Each datum BY PROGRAM (the guide's laid-datum.mjs) off the statement by which the dump's own 'gosem.cut.vars' lays the variable. In a bare row this is a premise. The card (YtlchekhkopimhaaGreatDoorCards.lean) ties it to the program's text. -/
def laid_velarium_strip_checks {H : Type} : DataW H := .iface "func table" (.agg [.iface "func" (.lit (.string [40, 118, 101, 108, 97, 114, 105, 117, 109, 47, 115, 116, 114, 105, 112, 46, 114, 111, 117, 110, 100, 41, 46, 110, 117, 109, 98, 101, 114, 115])), .iface "func" (.lit (.string [40, 118, 101, 108, 97, 114, 105, 117, 109, 47, 115, 116, 114, 105, 112, 46, 114, 111, 117, 110, 100, 41, 46, 100, 114, 97, 119, 110])), .iface "func" (.lit (.string [40, 118, 101, 108, 97, 114, 105, 117, 109, 47, 115, 116, 114, 105, 112, 46, 114, 111, 117, 110, 100, 41, 46, 119, 97, 121, 115]))])

/-- 'velariumlaw01.StripOn': WHATEVER THE INPUT: true; the input reads as it did. -/
def stripOnSpec : ChangeSpec := { name := "stripOn", fn := fun _ => fun
  | [d1, d2, d3, d4] => { results := [.lit (.bool true)], args := [d1, d2, d3, d4] }
  | _ => none }
def stripOnRow : OpenClaim := { program := "ytlchekhkopimhaagreatdoor", sum := "9fc9add2d416ccce9f740ed9c017ca07ad52770ddc4b591bead0828dcbc2aedc", func := "velarium/velariumlaw01.StripOn", spec := "stripOn", inPlace := ["(*sync.WaitGroup).Add", "internal/race.ReleaseMerge", "internal/race.Disable", "internal/race.Enable", "internal/synctest.IsInBubble", "internal/synctest.Associate[sync.WaitGroup]", "sync.fatal", "sync/atomic.OrUint64", "sync/atomic.AddUint64", "internal/race.Read", "sync/atomic.LoadUint64", "sync/atomic.StoreUint64", "internal/synctest.Disassociate[sync.WaitGroup]", "sync.runtime_Semrelease", "(*sync.WaitGroup).Done", "(*sync.WaitGroup).Wait", "internal/race.Acquire", "internal/synctest.IsAssociated[sync.WaitGroup]", "sync/atomic.CompareAndSwapUint64", "internal/race.Write", "sync.runtime_SemacquireWaitGroup"], unfollowed := true, recurses := true, named := ["velarium/strip.checks"], plainKeys := false, leaving := true, apart := false, laid := [("velarium/strip.checks", laid_velarium_strip_checks)] }
def StripOnSaid : Prop := stripOnRow.holds Tryz.pinned (OpenSpec.ofChange stripOnSpec)

/-- ITS FALSE NEIGHBOUR: 'it returns false'. Refute it at one input. -/
def stripOnWrong : ChangeSpec := { name := "stripOn", fn := fun _ => fun
  | [d1, d2, d3, d4] => { results := [.lit (.bool false)], args := [d1, d2, d3, d4] }
  | _ => none }
def StripOnWrongFalsely : Prop := stripOnRow.holds Tryz.pinned (OpenSpec.ofChange stripOnWrong)

/-- 'velariumlaw01.StripMore': WHATEVER THE INPUT: true; the input reads as it did. -/
def stripMoreSpec : ChangeSpec := { name := "stripMore", fn := fun _ => fun
  | [d1, d2, d3] => { results := [.lit (.bool true)], args := [d1, d2, d3] }
  | _ => none }
def stripMoreRow : OpenClaim := { program := "ytlchekhkopimhaagreatdoor", sum := "9fc9add2d416ccce9f740ed9c017ca07ad52770ddc4b591bead0828dcbc2aedc", func := "velarium/velariumlaw01.StripMore", spec := "stripMore", inPlace := ["(*sync.WaitGroup).Add", "internal/race.ReleaseMerge", "internal/race.Disable", "internal/race.Enable", "internal/synctest.IsInBubble", "internal/synctest.Associate[sync.WaitGroup]", "sync.fatal", "sync/atomic.OrUint64", "sync/atomic.AddUint64", "internal/race.Read", "sync/atomic.LoadUint64", "sync/atomic.StoreUint64", "internal/synctest.Disassociate[sync.WaitGroup]", "sync.runtime_Semrelease", "(*sync.WaitGroup).Done", "(*sync.WaitGroup).Wait", "internal/race.Acquire", "internal/synctest.IsAssociated[sync.WaitGroup]", "sync/atomic.CompareAndSwapUint64", "internal/race.Write", "sync.runtime_SemacquireWaitGroup"], unfollowed := true, recurses := true, named := ["velarium/strip.checks"], plainKeys := false, leaving := true, apart := false, laid := [("velarium/strip.checks", laid_velarium_strip_checks)] }
def StripMoreSaid : Prop := stripMoreRow.holds Tryz.pinned (OpenSpec.ofChange stripMoreSpec)

/-- ITS FALSE NEIGHBOUR: 'it returns false'. Refute it at one input. -/
def stripMoreWrong : ChangeSpec := { name := "stripMore", fn := fun _ => fun
  | [d1, d2, d3] => { results := [.lit (.bool false)], args := [d1, d2, d3] }
  | _ => none }
def StripMoreWrongFalsely : Prop := stripMoreRow.holds Tryz.pinned (OpenSpec.ofChange stripMoreWrong)

/-- 'velariumlaw01.StripNoOthers': WHATEVER THE INPUT: true; the input reads as it did. -/
def stripNoOthersSpec : ChangeSpec := { name := "stripNoOthers", fn := fun _ => fun
  | [d1, d2] => { results := [.lit (.bool true)], args := [d1, d2] }
  | _ => none }
def stripNoOthersRow : OpenClaim := { program := "ytlchekhkopimhaagreatdoor", sum := "9fc9add2d416ccce9f740ed9c017ca07ad52770ddc4b591bead0828dcbc2aedc", func := "velarium/velariumlaw01.StripNoOthers", spec := "stripNoOthers", inPlace := ["(*sync.WaitGroup).Add", "internal/race.ReleaseMerge", "internal/race.Disable", "internal/race.Enable", "internal/synctest.IsInBubble", "internal/synctest.Associate[sync.WaitGroup]", "sync.fatal", "sync/atomic.OrUint64", "sync/atomic.AddUint64", "internal/race.Read", "sync/atomic.LoadUint64", "sync/atomic.StoreUint64", "internal/synctest.Disassociate[sync.WaitGroup]", "sync.runtime_Semrelease", "(*sync.WaitGroup).Done", "(*sync.WaitGroup).Wait", "internal/race.Acquire", "internal/synctest.IsAssociated[sync.WaitGroup]", "sync/atomic.CompareAndSwapUint64", "internal/race.Write", "sync.runtime_SemacquireWaitGroup"], unfollowed := true, recurses := true, named := ["velarium/strip.checks"], plainKeys := false, leaving := true, apart := false, laid := [("velarium/strip.checks", laid_velarium_strip_checks)] }
def StripNoOthersSaid : Prop := stripNoOthersRow.holds Tryz.pinned (OpenSpec.ofChange stripNoOthersSpec)

/-- ITS FALSE NEIGHBOUR: 'it returns false'. Refute it at one input. -/
def stripNoOthersWrong : ChangeSpec := { name := "stripNoOthers", fn := fun _ => fun
  | [d1, d2] => { results := [.lit (.bool false)], args := [d1, d2] }
  | _ => none }
def StripNoOthersWrongFalsely : Prop := stripNoOthersRow.holds Tryz.pinned (OpenSpec.ofChange stripNoOthersWrong)

/-- 'velariumlaw01.StripAsked': WHATEVER THE INPUT: true; the input reads as it did. -/
def stripAskedSpec : ChangeSpec := { name := "stripAsked", fn := fun _ => fun
  | [d1, d2] => { results := [.lit (.bool true)], args := [d1, d2] }
  | _ => none }
def stripAskedRow : OpenClaim := { program := "ytlchekhkopimhaagreatdoor", sum := "9fc9add2d416ccce9f740ed9c017ca07ad52770ddc4b591bead0828dcbc2aedc", func := "velarium/velariumlaw01.StripAsked", spec := "stripAsked", inPlace := ["(*sync.WaitGroup).Add", "internal/race.ReleaseMerge", "internal/race.Disable", "internal/race.Enable", "internal/synctest.IsInBubble", "internal/synctest.Associate[sync.WaitGroup]", "sync.fatal", "sync/atomic.OrUint64", "sync/atomic.AddUint64", "internal/race.Read", "sync/atomic.LoadUint64", "sync/atomic.StoreUint64", "internal/synctest.Disassociate[sync.WaitGroup]", "sync.runtime_Semrelease", "(*sync.WaitGroup).Done", "(*sync.WaitGroup).Wait", "internal/race.Acquire", "internal/synctest.IsAssociated[sync.WaitGroup]", "sync/atomic.CompareAndSwapUint64", "internal/race.Write", "sync.runtime_SemacquireWaitGroup"], unfollowed := true, recurses := true, named := ["velarium/strip.checks"], plainKeys := false, leaving := true, apart := false, laid := [("velarium/strip.checks", laid_velarium_strip_checks)] }
def StripAskedSaid : Prop := stripAskedRow.holds Tryz.pinned (OpenSpec.ofChange stripAskedSpec)

/-- ITS FALSE NEIGHBOUR: 'it returns false'. Refute it at one input. -/
def stripAskedWrong : ChangeSpec := { name := "stripAsked", fn := fun _ => fun
  | [d1, d2] => { results := [.lit (.bool false)], args := [d1, d2] }
  | _ => none }
def StripAskedWrongFalsely : Prop := stripAskedRow.holds Tryz.pinned (OpenSpec.ofChange stripAskedWrong)

/-- 'velariumlaw01.StripKnown': WHATEVER THE INPUT: true; the input reads as it did. -/
def stripKnownSpec : ChangeSpec := { name := "stripKnown", fn := fun _ => fun
  | [d1, d2, d3] => { results := [.lit (.bool true)], args := [d1, d2, d3] }
  | _ => none }
def stripKnownRow : OpenClaim := { program := "ytlchekhkopimhaagreatdoor", sum := "9fc9add2d416ccce9f740ed9c017ca07ad52770ddc4b591bead0828dcbc2aedc", func := "velarium/velariumlaw01.StripKnown", spec := "stripKnown", inPlace := ["(*sync.WaitGroup).Add", "internal/race.ReleaseMerge", "internal/race.Disable", "internal/race.Enable", "internal/synctest.IsInBubble", "internal/synctest.Associate[sync.WaitGroup]", "sync.fatal", "sync/atomic.OrUint64", "sync/atomic.AddUint64", "internal/race.Read", "sync/atomic.LoadUint64", "sync/atomic.StoreUint64", "internal/synctest.Disassociate[sync.WaitGroup]", "sync.runtime_Semrelease", "(*sync.WaitGroup).Done", "(*sync.WaitGroup).Wait", "internal/race.Acquire", "internal/synctest.IsAssociated[sync.WaitGroup]", "sync/atomic.CompareAndSwapUint64", "internal/race.Write", "sync.runtime_SemacquireWaitGroup"], unfollowed := true, recurses := true, named := ["velarium/strip.checks"], plainKeys := false, leaving := true, apart := false, laid := [("velarium/strip.checks", laid_velarium_strip_checks)] }
def StripKnownSaid : Prop := stripKnownRow.holds Tryz.pinned (OpenSpec.ofChange stripKnownSpec)

/-- ITS FALSE NEIGHBOUR: 'it returns false'. Refute it at one input. -/
def stripKnownWrong : ChangeSpec := { name := "stripKnown", fn := fun _ => fun
  | [d1, d2, d3] => { results := [.lit (.bool false)], args := [d1, d2, d3] }
  | _ => none }
def StripKnownWrongFalsely : Prop := stripKnownRow.holds Tryz.pinned (OpenSpec.ofChange stripKnownWrong)

/-- 'velariumlaw01.StripLearnt': WHATEVER THE INPUT: true; the input reads as it did. -/
def stripLearntSpec : ChangeSpec := { name := "stripLearnt", fn := fun _ => fun
  | [d1, d2, d3, d4, d5, d6, d7] => { results := [.lit (.bool true)], args := [d1, d2, d3, d4, d5, d6, d7] }
  | _ => none }
def stripLearntRow : OpenClaim := { program := "ytlchekhkopimhaagreatdoor", sum := "9fc9add2d416ccce9f740ed9c017ca07ad52770ddc4b591bead0828dcbc2aedc", func := "velarium/velariumlaw01.StripLearnt", spec := "stripLearnt", inPlace := ["(*sync.WaitGroup).Add", "internal/race.ReleaseMerge", "internal/race.Disable", "internal/race.Enable", "internal/synctest.IsInBubble", "internal/synctest.Associate[sync.WaitGroup]", "sync.fatal", "sync/atomic.OrUint64", "sync/atomic.AddUint64", "internal/race.Read", "sync/atomic.LoadUint64", "sync/atomic.StoreUint64", "internal/synctest.Disassociate[sync.WaitGroup]", "sync.runtime_Semrelease", "(*sync.WaitGroup).Done", "(*sync.WaitGroup).Wait", "internal/race.Acquire", "internal/synctest.IsAssociated[sync.WaitGroup]", "sync/atomic.CompareAndSwapUint64", "internal/race.Write", "sync.runtime_SemacquireWaitGroup"], unfollowed := true, recurses := true, named := ["velarium/strip.checks"], plainKeys := false, leaving := true, apart := false, laid := [("velarium/strip.checks", laid_velarium_strip_checks)] }
def StripLearntSaid : Prop := stripLearntRow.holds Tryz.pinned (OpenSpec.ofChange stripLearntSpec)

/-- ITS FALSE NEIGHBOUR: 'it returns false'. Refute it at one input. -/
def stripLearntWrong : ChangeSpec := { name := "stripLearnt", fn := fun _ => fun
  | [d1, d2, d3, d4, d5, d6, d7] => { results := [.lit (.bool false)], args := [d1, d2, d3, d4, d5, d6, d7] }
  | _ => none }
def StripLearntWrongFalsely : Prop := stripLearntRow.holds Tryz.pinned (OpenSpec.ofChange stripLearntWrong)

/-- 'velariumlaw01.StripHung': WHATEVER THE INPUT: true; the input reads as it did. -/
def stripHungSpec : ChangeSpec := { name := "stripHung", fn := fun _ => fun
  | [d1, d2, d3, d4] => { results := [.lit (.bool true)], args := [d1, d2, d3, d4] }
  | _ => none }
def stripHungRow : OpenClaim := { program := "ytlchekhkopimhaagreatdoor", sum := "9fc9add2d416ccce9f740ed9c017ca07ad52770ddc4b591bead0828dcbc2aedc", func := "velarium/velariumlaw01.StripHung", spec := "stripHung", inPlace := ["(*sync.WaitGroup).Add", "internal/race.ReleaseMerge", "internal/race.Disable", "internal/race.Enable", "internal/synctest.IsInBubble", "internal/synctest.Associate[sync.WaitGroup]", "sync.fatal", "sync/atomic.OrUint64", "sync/atomic.AddUint64", "internal/race.Read", "sync/atomic.LoadUint64", "sync/atomic.StoreUint64", "internal/synctest.Disassociate[sync.WaitGroup]", "sync.runtime_Semrelease", "(*sync.WaitGroup).Done", "(*sync.WaitGroup).Wait", "internal/race.Acquire", "internal/synctest.IsAssociated[sync.WaitGroup]", "sync/atomic.CompareAndSwapUint64", "internal/race.Write", "sync.runtime_SemacquireWaitGroup"], unfollowed := true, recurses := true, named := ["velarium/strip.checks"], plainKeys := false, leaving := true, apart := false, laid := [("velarium/strip.checks", laid_velarium_strip_checks)] }
def StripHungSaid : Prop := stripHungRow.holds Tryz.pinned (OpenSpec.ofChange stripHungSpec)

/-- ITS FALSE NEIGHBOUR: 'it returns false'. Refute it at one input. -/
def stripHungWrong : ChangeSpec := { name := "stripHung", fn := fun _ => fun
  | [d1, d2, d3, d4] => { results := [.lit (.bool false)], args := [d1, d2, d3, d4] }
  | _ => none }
def StripHungWrongFalsely : Prop := stripHungRow.holds Tryz.pinned (OpenSpec.ofChange stripHungWrong)

/-- 'velariumlaw01.StripLifted': WHATEVER THE INPUT: true; the input reads as it did. -/
def stripLiftedSpec : ChangeSpec := { name := "stripLifted", fn := fun _ => fun
  | [d1, d2, d3, d4, d5] => { results := [.lit (.bool true)], args := [d1, d2, d3, d4, d5] }
  | _ => none }
def stripLiftedRow : OpenClaim := { program := "ytlchekhkopimhaagreatdoor", sum := "9fc9add2d416ccce9f740ed9c017ca07ad52770ddc4b591bead0828dcbc2aedc", func := "velarium/velariumlaw01.StripLifted", spec := "stripLifted", inPlace := ["(*sync.WaitGroup).Add", "internal/race.ReleaseMerge", "internal/race.Disable", "internal/race.Enable", "internal/synctest.IsInBubble", "internal/synctest.Associate[sync.WaitGroup]", "sync.fatal", "sync/atomic.OrUint64", "sync/atomic.AddUint64", "internal/race.Read", "sync/atomic.LoadUint64", "sync/atomic.StoreUint64", "internal/synctest.Disassociate[sync.WaitGroup]", "sync.runtime_Semrelease", "(*sync.WaitGroup).Done", "(*sync.WaitGroup).Wait", "internal/race.Acquire", "internal/synctest.IsAssociated[sync.WaitGroup]", "sync/atomic.CompareAndSwapUint64", "internal/race.Write", "sync.runtime_SemacquireWaitGroup"], unfollowed := true, recurses := true, named := ["velarium/strip.checks"], plainKeys := false, leaving := true, apart := false, laid := [("velarium/strip.checks", laid_velarium_strip_checks)] }
def StripLiftedSaid : Prop := stripLiftedRow.holds Tryz.pinned (OpenSpec.ofChange stripLiftedSpec)

/-- ITS FALSE NEIGHBOUR: 'it returns false'. Refute it at one input. -/
def stripLiftedWrong : ChangeSpec := { name := "stripLifted", fn := fun _ => fun
  | [d1, d2, d3, d4, d5] => { results := [.lit (.bool false)], args := [d1, d2, d3, d4, d5] }
  | _ => none }
def StripLiftedWrongFalsely : Prop := stripLiftedRow.holds Tryz.pinned (OpenSpec.ofChange stripLiftedWrong)

/-- 'velariumlaw01.StripAnyOrder': WHATEVER THE INPUT: true; the input reads as it did. -/
def stripAnyOrderSpec : ChangeSpec := { name := "stripAnyOrder", fn := fun _ => fun
  | [d1, d2, d3, d4] => { results := [.lit (.bool true)], args := [d1, d2, d3, d4] }
  | _ => none }
def stripAnyOrderRow : OpenClaim := { program := "ytlchekhkopimhaagreatdoor", sum := "9fc9add2d416ccce9f740ed9c017ca07ad52770ddc4b591bead0828dcbc2aedc", func := "velarium/velariumlaw01.StripAnyOrder", spec := "stripAnyOrder", inPlace := ["(*sync.WaitGroup).Add", "internal/race.ReleaseMerge", "internal/race.Disable", "internal/race.Enable", "internal/synctest.IsInBubble", "internal/synctest.Associate[sync.WaitGroup]", "sync.fatal", "sync/atomic.OrUint64", "sync/atomic.AddUint64", "internal/race.Read", "sync/atomic.LoadUint64", "sync/atomic.StoreUint64", "internal/synctest.Disassociate[sync.WaitGroup]", "sync.runtime_Semrelease", "(*sync.WaitGroup).Done", "(*sync.WaitGroup).Wait", "internal/race.Acquire", "internal/synctest.IsAssociated[sync.WaitGroup]", "sync/atomic.CompareAndSwapUint64", "internal/race.Write", "sync.runtime_SemacquireWaitGroup"], unfollowed := true, recurses := true, named := ["velarium/strip.checks"], plainKeys := false, leaving := true, apart := false, laid := [("velarium/strip.checks", laid_velarium_strip_checks)] }
def StripAnyOrderSaid : Prop := stripAnyOrderRow.holds Tryz.pinned (OpenSpec.ofChange stripAnyOrderSpec)

/-- ITS FALSE NEIGHBOUR: 'it returns false'. Refute it at one input. -/
def stripAnyOrderWrong : ChangeSpec := { name := "stripAnyOrder", fn := fun _ => fun
  | [d1, d2, d3, d4] => { results := [.lit (.bool false)], args := [d1, d2, d3, d4] }
  | _ => none }
def StripAnyOrderWrongFalsely : Prop := stripAnyOrderRow.holds Tryz.pinned (OpenSpec.ofChange stripAnyOrderWrong)

/-- 'velariumlaw01.StripReal': WHATEVER THE INPUT: true; the input reads as it did. -/
def stripRealSpec : ChangeSpec := { name := "stripReal", fn := fun _ => fun
  | [d1, d2, d3, d4, d5, d6] => { results := [.lit (.bool true)], args := [d1, d2, d3, d4, d5, d6] }
  | _ => none }
def stripRealRow : OpenClaim := { program := "ytlchekhkopimhaagreatdoor", sum := "9fc9add2d416ccce9f740ed9c017ca07ad52770ddc4b591bead0828dcbc2aedc", func := "velarium/velariumlaw01.StripReal", spec := "stripReal", inPlace := ["(*sync.WaitGroup).Add", "internal/race.ReleaseMerge", "internal/race.Disable", "internal/race.Enable", "internal/synctest.IsInBubble", "internal/synctest.Associate[sync.WaitGroup]", "sync.fatal", "sync/atomic.OrUint64", "sync/atomic.AddUint64", "internal/race.Read", "sync/atomic.LoadUint64", "sync/atomic.StoreUint64", "internal/synctest.Disassociate[sync.WaitGroup]", "sync.runtime_Semrelease", "(*sync.WaitGroup).Done", "(*sync.WaitGroup).Wait", "internal/race.Acquire", "internal/synctest.IsAssociated[sync.WaitGroup]", "sync/atomic.CompareAndSwapUint64", "internal/race.Write", "sync.runtime_SemacquireWaitGroup"], unfollowed := true, recurses := true, named := ["velarium/strip.checks"], plainKeys := false, leaving := true, apart := false, laid := [("velarium/strip.checks", laid_velarium_strip_checks)] }
def StripRealSaid : Prop := stripRealRow.holds Tryz.pinned (OpenSpec.ofChange stripRealSpec)

/-- ITS FALSE NEIGHBOUR: 'it returns false'. Refute it at one input. -/
def stripRealWrong : ChangeSpec := { name := "stripReal", fn := fun _ => fun
  | [d1, d2, d3, d4, d5, d6] => { results := [.lit (.bool false)], args := [d1, d2, d3, d4, d5, d6] }
  | _ => none }
def StripRealWrongFalsely : Prop := stripRealRow.holds Tryz.pinned (OpenSpec.ofChange stripRealWrong)

/-- 'velariumlaw01.StripCloses': WHATEVER THE INPUT: true; the input reads as it did. -/
def stripClosesSpec : ChangeSpec := { name := "stripCloses", fn := fun _ => fun
  | [d1, d2] => { results := [.lit (.bool true)], args := [d1, d2] }
  | _ => none }
def stripClosesRow : OpenClaim := { program := "ytlchekhkopimhaagreatdoor", sum := "9fc9add2d416ccce9f740ed9c017ca07ad52770ddc4b591bead0828dcbc2aedc", func := "velarium/velariumlaw01.StripCloses", spec := "stripCloses", inPlace := ["(*sync.WaitGroup).Add", "internal/race.ReleaseMerge", "internal/race.Disable", "internal/race.Enable", "internal/synctest.IsInBubble", "internal/synctest.Associate[sync.WaitGroup]", "sync.fatal", "sync/atomic.OrUint64", "sync/atomic.AddUint64", "internal/race.Read", "sync/atomic.LoadUint64", "sync/atomic.StoreUint64", "internal/synctest.Disassociate[sync.WaitGroup]", "sync.runtime_Semrelease", "(*sync.WaitGroup).Done", "(*sync.WaitGroup).Wait", "internal/race.Acquire", "internal/synctest.IsAssociated[sync.WaitGroup]", "sync/atomic.CompareAndSwapUint64", "internal/race.Write", "sync.runtime_SemacquireWaitGroup"], unfollowed := true, recurses := true, named := ["velarium/strip.checks"], plainKeys := false, leaving := true, apart := false, laid := [("velarium/strip.checks", laid_velarium_strip_checks)] }
def StripClosesSaid : Prop := stripClosesRow.holds Tryz.pinned (OpenSpec.ofChange stripClosesSpec)

/-- ITS FALSE NEIGHBOUR: 'it returns false'. Refute it at one input. -/
def stripClosesWrong : ChangeSpec := { name := "stripCloses", fn := fun _ => fun
  | [d1, d2] => { results := [.lit (.bool false)], args := [d1, d2] }
  | _ => none }
def StripClosesWrongFalsely : Prop := stripClosesRow.holds Tryz.pinned (OpenSpec.ofChange stripClosesWrong)

/-- 'velariumlaw01.StripWorst': WHATEVER THE INPUT: true; the input reads as it did. -/
def stripWorstSpec : ChangeSpec := { name := "stripWorst", fn := fun _ => fun
  | [d] => { results := [.lit (.bool true)], args := [d] }
  | _ => none }
def stripWorstRow : OpenClaim := { program := "ytlchekhkopimhaagreatdoor", sum := "9fc9add2d416ccce9f740ed9c017ca07ad52770ddc4b591bead0828dcbc2aedc", func := "velarium/velariumlaw01.StripWorst", spec := "stripWorst", inPlace := ["(*sync.WaitGroup).Add", "internal/race.ReleaseMerge", "internal/race.Disable", "internal/race.Enable", "internal/synctest.IsInBubble", "internal/synctest.Associate[sync.WaitGroup]", "sync.fatal", "sync/atomic.OrUint64", "sync/atomic.AddUint64", "internal/race.Read", "sync/atomic.LoadUint64", "sync/atomic.StoreUint64", "internal/synctest.Disassociate[sync.WaitGroup]", "sync.runtime_Semrelease", "(*sync.WaitGroup).Done", "(*sync.WaitGroup).Wait", "internal/race.Acquire", "internal/synctest.IsAssociated[sync.WaitGroup]", "sync/atomic.CompareAndSwapUint64", "internal/race.Write", "sync.runtime_SemacquireWaitGroup"], unfollowed := true, recurses := true, named := ["velarium/strip.checks"], plainKeys := false, leaving := true, apart := false, laid := [("velarium/strip.checks", laid_velarium_strip_checks)] }
def StripWorstSaid : Prop := stripWorstRow.holds Tryz.pinned (OpenSpec.ofChange stripWorstSpec)

/-- ITS FALSE NEIGHBOUR: 'it returns false'. Refute it at one input. -/
def stripWorstWrong : ChangeSpec := { name := "stripWorst", fn := fun _ => fun
  | [d] => { results := [.lit (.bool false)], args := [d] }
  | _ => none }
def StripWorstWrongFalsely : Prop := stripWorstRow.holds Tryz.pinned (OpenSpec.ofChange stripWorstWrong)

/-- 'velariumlaw01.StripNews': WHATEVER THE INPUT: true; the input reads as it did. -/
def stripNewsSpec : ChangeSpec := { name := "stripNews", fn := fun _ => fun
  | [d1, d2, d3, d4, d5] => { results := [.lit (.bool true)], args := [d1, d2, d3, d4, d5] }
  | _ => none }
def stripNewsRow : OpenClaim := { program := "ytlchekhkopimhaagreatdoor", sum := "9fc9add2d416ccce9f740ed9c017ca07ad52770ddc4b591bead0828dcbc2aedc", func := "velarium/velariumlaw01.StripNews", spec := "stripNews", inPlace := ["(*sync.WaitGroup).Add", "internal/race.ReleaseMerge", "internal/race.Disable", "internal/race.Enable", "internal/synctest.IsInBubble", "internal/synctest.Associate[sync.WaitGroup]", "sync.fatal", "sync/atomic.OrUint64", "sync/atomic.AddUint64", "internal/race.Read", "sync/atomic.LoadUint64", "sync/atomic.StoreUint64", "internal/synctest.Disassociate[sync.WaitGroup]", "sync.runtime_Semrelease", "(*sync.WaitGroup).Done", "(*sync.WaitGroup).Wait", "internal/race.Acquire", "internal/synctest.IsAssociated[sync.WaitGroup]", "sync/atomic.CompareAndSwapUint64", "internal/race.Write", "sync.runtime_SemacquireWaitGroup"], unfollowed := true, recurses := true, named := ["velarium/strip.checks"], plainKeys := false, leaving := true, apart := false, laid := [("velarium/strip.checks", laid_velarium_strip_checks)] }
def StripNewsSaid : Prop := stripNewsRow.holds Tryz.pinned (OpenSpec.ofChange stripNewsSpec)

/-- ITS FALSE NEIGHBOUR: 'it returns false'. Refute it at one input. -/
def stripNewsWrong : ChangeSpec := { name := "stripNews", fn := fun _ => fun
  | [d1, d2, d3, d4, d5] => { results := [.lit (.bool false)], args := [d1, d2, d3, d4, d5] }
  | _ => none }
def StripNewsWrongFalsely : Prop := stripNewsRow.holds Tryz.pinned (OpenSpec.ofChange stripNewsWrong)

/- THE SECOND FORM. 'bulk': how many values and letters a reading holds, each counted each time it is reached (what is shared counts as often as it is met; a slice's spare places count too). A statement '..UptoSaid' is the law's where the arguments, and the package variables that the reading takes, are together of bulk at most 1048576: NARROWER than '..Said'. Prove '..Said' where nothing that the law and all that it calls make is longer than what came in: it says more and counts as full. Else prove '..UptoSaid'. A law counts once. -/
mutual
def uptoBulk {H : Type} : DataW H → Nat
  | .lit (.string bytes) => bytes.length + 1
  | .lit _ => 1
  | .nil => 1
  | .ptr d => uptoBulk d + 1
  | .slice elems spare => uptoBulkAll elems + uptoBulkAll spare + 1
  | .agg parts => uptoBulkAll parts + 1
  | .iface _ d => uptoBulk d + 1
  | .map entries => uptoBulkEntries entries + 1
  | .held _ => 1
def uptoBulkAll {H : Type} : List (DataW H) → Nat
  | [] => 0
  | d :: r => uptoBulk d + uptoBulkAll r
def uptoBulkEntries {H : Type} : List (Lit × DataW H) → Nat
  | [] => 0
  | x :: r => uptoBulkEntry x + uptoBulkEntries r
def uptoBulkEntry {H : Type} : Lit × DataW H → Nat
  | (.string bytes, d) => bytes.length + uptoBulk d + 1
  | (_, d) => uptoBulk d + 1
 end
def uptoSmall : (H : Type) → List (DataW H) → Bool := fun _ ds => decide (uptoBulkAll ds ≤ 1048576)
def OpenSpec.upto (s : _root_.Go.ChangeSpec) : _root_.Go.OpenSpec := { _root_.Go.OpenSpec.ofChange s with cond := some uptoSmall }

/-- 'velariumlaw01.StripOn', WHERE WHAT IT READS IS OF BULK AT MOST 1048576: true; the input reads as it did. -/
def stripOnUptoRow : OpenClaim := { program := "ytlchekhkopimhaagreatdoor", sum := "9fc9add2d416ccce9f740ed9c017ca07ad52770ddc4b591bead0828dcbc2aedc", func := "velarium/velariumlaw01.StripOn", spec := "stripOn", inPlace := ["(*sync.WaitGroup).Add", "internal/race.ReleaseMerge", "internal/race.Disable", "internal/race.Enable", "internal/synctest.IsInBubble", "internal/synctest.Associate[sync.WaitGroup]", "sync.fatal", "sync/atomic.OrUint64", "sync/atomic.AddUint64", "internal/race.Read", "sync/atomic.LoadUint64", "sync/atomic.StoreUint64", "internal/synctest.Disassociate[sync.WaitGroup]", "sync.runtime_Semrelease", "(*sync.WaitGroup).Done", "(*sync.WaitGroup).Wait", "internal/race.Acquire", "internal/synctest.IsAssociated[sync.WaitGroup]", "sync/atomic.CompareAndSwapUint64", "internal/race.Write", "sync.runtime_SemacquireWaitGroup"], unfollowed := true, recurses := true, named := ["velarium/strip.checks"], plainKeys := false, leaving := true, apart := false, laid := [("velarium/strip.checks", laid_velarium_strip_checks)], narrowed := true }
def StripOnUptoSaid : Prop := stripOnUptoRow.holds Tryz.pinned (OpenSpec.upto stripOnSpec)

/-- 'velariumlaw01.StripMore', WHERE WHAT IT READS IS OF BULK AT MOST 1048576: true; the input reads as it did. -/
def stripMoreUptoRow : OpenClaim := { program := "ytlchekhkopimhaagreatdoor", sum := "9fc9add2d416ccce9f740ed9c017ca07ad52770ddc4b591bead0828dcbc2aedc", func := "velarium/velariumlaw01.StripMore", spec := "stripMore", inPlace := ["(*sync.WaitGroup).Add", "internal/race.ReleaseMerge", "internal/race.Disable", "internal/race.Enable", "internal/synctest.IsInBubble", "internal/synctest.Associate[sync.WaitGroup]", "sync.fatal", "sync/atomic.OrUint64", "sync/atomic.AddUint64", "internal/race.Read", "sync/atomic.LoadUint64", "sync/atomic.StoreUint64", "internal/synctest.Disassociate[sync.WaitGroup]", "sync.runtime_Semrelease", "(*sync.WaitGroup).Done", "(*sync.WaitGroup).Wait", "internal/race.Acquire", "internal/synctest.IsAssociated[sync.WaitGroup]", "sync/atomic.CompareAndSwapUint64", "internal/race.Write", "sync.runtime_SemacquireWaitGroup"], unfollowed := true, recurses := true, named := ["velarium/strip.checks"], plainKeys := false, leaving := true, apart := false, laid := [("velarium/strip.checks", laid_velarium_strip_checks)], narrowed := true }
def StripMoreUptoSaid : Prop := stripMoreUptoRow.holds Tryz.pinned (OpenSpec.upto stripMoreSpec)

/-- 'velariumlaw01.StripNoOthers', WHERE WHAT IT READS IS OF BULK AT MOST 1048576: true; the input reads as it did. -/
def stripNoOthersUptoRow : OpenClaim := { program := "ytlchekhkopimhaagreatdoor", sum := "9fc9add2d416ccce9f740ed9c017ca07ad52770ddc4b591bead0828dcbc2aedc", func := "velarium/velariumlaw01.StripNoOthers", spec := "stripNoOthers", inPlace := ["(*sync.WaitGroup).Add", "internal/race.ReleaseMerge", "internal/race.Disable", "internal/race.Enable", "internal/synctest.IsInBubble", "internal/synctest.Associate[sync.WaitGroup]", "sync.fatal", "sync/atomic.OrUint64", "sync/atomic.AddUint64", "internal/race.Read", "sync/atomic.LoadUint64", "sync/atomic.StoreUint64", "internal/synctest.Disassociate[sync.WaitGroup]", "sync.runtime_Semrelease", "(*sync.WaitGroup).Done", "(*sync.WaitGroup).Wait", "internal/race.Acquire", "internal/synctest.IsAssociated[sync.WaitGroup]", "sync/atomic.CompareAndSwapUint64", "internal/race.Write", "sync.runtime_SemacquireWaitGroup"], unfollowed := true, recurses := true, named := ["velarium/strip.checks"], plainKeys := false, leaving := true, apart := false, laid := [("velarium/strip.checks", laid_velarium_strip_checks)], narrowed := true }
def StripNoOthersUptoSaid : Prop := stripNoOthersUptoRow.holds Tryz.pinned (OpenSpec.upto stripNoOthersSpec)

/-- 'velariumlaw01.StripAsked', WHERE WHAT IT READS IS OF BULK AT MOST 1048576: true; the input reads as it did. -/
def stripAskedUptoRow : OpenClaim := { program := "ytlchekhkopimhaagreatdoor", sum := "9fc9add2d416ccce9f740ed9c017ca07ad52770ddc4b591bead0828dcbc2aedc", func := "velarium/velariumlaw01.StripAsked", spec := "stripAsked", inPlace := ["(*sync.WaitGroup).Add", "internal/race.ReleaseMerge", "internal/race.Disable", "internal/race.Enable", "internal/synctest.IsInBubble", "internal/synctest.Associate[sync.WaitGroup]", "sync.fatal", "sync/atomic.OrUint64", "sync/atomic.AddUint64", "internal/race.Read", "sync/atomic.LoadUint64", "sync/atomic.StoreUint64", "internal/synctest.Disassociate[sync.WaitGroup]", "sync.runtime_Semrelease", "(*sync.WaitGroup).Done", "(*sync.WaitGroup).Wait", "internal/race.Acquire", "internal/synctest.IsAssociated[sync.WaitGroup]", "sync/atomic.CompareAndSwapUint64", "internal/race.Write", "sync.runtime_SemacquireWaitGroup"], unfollowed := true, recurses := true, named := ["velarium/strip.checks"], plainKeys := false, leaving := true, apart := false, laid := [("velarium/strip.checks", laid_velarium_strip_checks)], narrowed := true }
def StripAskedUptoSaid : Prop := stripAskedUptoRow.holds Tryz.pinned (OpenSpec.upto stripAskedSpec)

/-- 'velariumlaw01.StripKnown', WHERE WHAT IT READS IS OF BULK AT MOST 1048576: true; the input reads as it did. -/
def stripKnownUptoRow : OpenClaim := { program := "ytlchekhkopimhaagreatdoor", sum := "9fc9add2d416ccce9f740ed9c017ca07ad52770ddc4b591bead0828dcbc2aedc", func := "velarium/velariumlaw01.StripKnown", spec := "stripKnown", inPlace := ["(*sync.WaitGroup).Add", "internal/race.ReleaseMerge", "internal/race.Disable", "internal/race.Enable", "internal/synctest.IsInBubble", "internal/synctest.Associate[sync.WaitGroup]", "sync.fatal", "sync/atomic.OrUint64", "sync/atomic.AddUint64", "internal/race.Read", "sync/atomic.LoadUint64", "sync/atomic.StoreUint64", "internal/synctest.Disassociate[sync.WaitGroup]", "sync.runtime_Semrelease", "(*sync.WaitGroup).Done", "(*sync.WaitGroup).Wait", "internal/race.Acquire", "internal/synctest.IsAssociated[sync.WaitGroup]", "sync/atomic.CompareAndSwapUint64", "internal/race.Write", "sync.runtime_SemacquireWaitGroup"], unfollowed := true, recurses := true, named := ["velarium/strip.checks"], plainKeys := false, leaving := true, apart := false, laid := [("velarium/strip.checks", laid_velarium_strip_checks)], narrowed := true }
def StripKnownUptoSaid : Prop := stripKnownUptoRow.holds Tryz.pinned (OpenSpec.upto stripKnownSpec)

/-- 'velariumlaw01.StripLearnt', WHERE WHAT IT READS IS OF BULK AT MOST 1048576: true; the input reads as it did. -/
def stripLearntUptoRow : OpenClaim := { program := "ytlchekhkopimhaagreatdoor", sum := "9fc9add2d416ccce9f740ed9c017ca07ad52770ddc4b591bead0828dcbc2aedc", func := "velarium/velariumlaw01.StripLearnt", spec := "stripLearnt", inPlace := ["(*sync.WaitGroup).Add", "internal/race.ReleaseMerge", "internal/race.Disable", "internal/race.Enable", "internal/synctest.IsInBubble", "internal/synctest.Associate[sync.WaitGroup]", "sync.fatal", "sync/atomic.OrUint64", "sync/atomic.AddUint64", "internal/race.Read", "sync/atomic.LoadUint64", "sync/atomic.StoreUint64", "internal/synctest.Disassociate[sync.WaitGroup]", "sync.runtime_Semrelease", "(*sync.WaitGroup).Done", "(*sync.WaitGroup).Wait", "internal/race.Acquire", "internal/synctest.IsAssociated[sync.WaitGroup]", "sync/atomic.CompareAndSwapUint64", "internal/race.Write", "sync.runtime_SemacquireWaitGroup"], unfollowed := true, recurses := true, named := ["velarium/strip.checks"], plainKeys := false, leaving := true, apart := false, laid := [("velarium/strip.checks", laid_velarium_strip_checks)], narrowed := true }
def StripLearntUptoSaid : Prop := stripLearntUptoRow.holds Tryz.pinned (OpenSpec.upto stripLearntSpec)

/-- 'velariumlaw01.StripHung', WHERE WHAT IT READS IS OF BULK AT MOST 1048576: true; the input reads as it did. -/
def stripHungUptoRow : OpenClaim := { program := "ytlchekhkopimhaagreatdoor", sum := "9fc9add2d416ccce9f740ed9c017ca07ad52770ddc4b591bead0828dcbc2aedc", func := "velarium/velariumlaw01.StripHung", spec := "stripHung", inPlace := ["(*sync.WaitGroup).Add", "internal/race.ReleaseMerge", "internal/race.Disable", "internal/race.Enable", "internal/synctest.IsInBubble", "internal/synctest.Associate[sync.WaitGroup]", "sync.fatal", "sync/atomic.OrUint64", "sync/atomic.AddUint64", "internal/race.Read", "sync/atomic.LoadUint64", "sync/atomic.StoreUint64", "internal/synctest.Disassociate[sync.WaitGroup]", "sync.runtime_Semrelease", "(*sync.WaitGroup).Done", "(*sync.WaitGroup).Wait", "internal/race.Acquire", "internal/synctest.IsAssociated[sync.WaitGroup]", "sync/atomic.CompareAndSwapUint64", "internal/race.Write", "sync.runtime_SemacquireWaitGroup"], unfollowed := true, recurses := true, named := ["velarium/strip.checks"], plainKeys := false, leaving := true, apart := false, laid := [("velarium/strip.checks", laid_velarium_strip_checks)], narrowed := true }
def StripHungUptoSaid : Prop := stripHungUptoRow.holds Tryz.pinned (OpenSpec.upto stripHungSpec)

/-- 'velariumlaw01.StripLifted', WHERE WHAT IT READS IS OF BULK AT MOST 1048576: true; the input reads as it did. -/
def stripLiftedUptoRow : OpenClaim := { program := "ytlchekhkopimhaagreatdoor", sum := "9fc9add2d416ccce9f740ed9c017ca07ad52770ddc4b591bead0828dcbc2aedc", func := "velarium/velariumlaw01.StripLifted", spec := "stripLifted", inPlace := ["(*sync.WaitGroup).Add", "internal/race.ReleaseMerge", "internal/race.Disable", "internal/race.Enable", "internal/synctest.IsInBubble", "internal/synctest.Associate[sync.WaitGroup]", "sync.fatal", "sync/atomic.OrUint64", "sync/atomic.AddUint64", "internal/race.Read", "sync/atomic.LoadUint64", "sync/atomic.StoreUint64", "internal/synctest.Disassociate[sync.WaitGroup]", "sync.runtime_Semrelease", "(*sync.WaitGroup).Done", "(*sync.WaitGroup).Wait", "internal/race.Acquire", "internal/synctest.IsAssociated[sync.WaitGroup]", "sync/atomic.CompareAndSwapUint64", "internal/race.Write", "sync.runtime_SemacquireWaitGroup"], unfollowed := true, recurses := true, named := ["velarium/strip.checks"], plainKeys := false, leaving := true, apart := false, laid := [("velarium/strip.checks", laid_velarium_strip_checks)], narrowed := true }
def StripLiftedUptoSaid : Prop := stripLiftedUptoRow.holds Tryz.pinned (OpenSpec.upto stripLiftedSpec)

/-- 'velariumlaw01.StripAnyOrder', WHERE WHAT IT READS IS OF BULK AT MOST 1048576: true; the input reads as it did. -/
def stripAnyOrderUptoRow : OpenClaim := { program := "ytlchekhkopimhaagreatdoor", sum := "9fc9add2d416ccce9f740ed9c017ca07ad52770ddc4b591bead0828dcbc2aedc", func := "velarium/velariumlaw01.StripAnyOrder", spec := "stripAnyOrder", inPlace := ["(*sync.WaitGroup).Add", "internal/race.ReleaseMerge", "internal/race.Disable", "internal/race.Enable", "internal/synctest.IsInBubble", "internal/synctest.Associate[sync.WaitGroup]", "sync.fatal", "sync/atomic.OrUint64", "sync/atomic.AddUint64", "internal/race.Read", "sync/atomic.LoadUint64", "sync/atomic.StoreUint64", "internal/synctest.Disassociate[sync.WaitGroup]", "sync.runtime_Semrelease", "(*sync.WaitGroup).Done", "(*sync.WaitGroup).Wait", "internal/race.Acquire", "internal/synctest.IsAssociated[sync.WaitGroup]", "sync/atomic.CompareAndSwapUint64", "internal/race.Write", "sync.runtime_SemacquireWaitGroup"], unfollowed := true, recurses := true, named := ["velarium/strip.checks"], plainKeys := false, leaving := true, apart := false, laid := [("velarium/strip.checks", laid_velarium_strip_checks)], narrowed := true }
def StripAnyOrderUptoSaid : Prop := stripAnyOrderUptoRow.holds Tryz.pinned (OpenSpec.upto stripAnyOrderSpec)

/-- 'velariumlaw01.StripReal', WHERE WHAT IT READS IS OF BULK AT MOST 1048576: true; the input reads as it did. -/
def stripRealUptoRow : OpenClaim := { program := "ytlchekhkopimhaagreatdoor", sum := "9fc9add2d416ccce9f740ed9c017ca07ad52770ddc4b591bead0828dcbc2aedc", func := "velarium/velariumlaw01.StripReal", spec := "stripReal", inPlace := ["(*sync.WaitGroup).Add", "internal/race.ReleaseMerge", "internal/race.Disable", "internal/race.Enable", "internal/synctest.IsInBubble", "internal/synctest.Associate[sync.WaitGroup]", "sync.fatal", "sync/atomic.OrUint64", "sync/atomic.AddUint64", "internal/race.Read", "sync/atomic.LoadUint64", "sync/atomic.StoreUint64", "internal/synctest.Disassociate[sync.WaitGroup]", "sync.runtime_Semrelease", "(*sync.WaitGroup).Done", "(*sync.WaitGroup).Wait", "internal/race.Acquire", "internal/synctest.IsAssociated[sync.WaitGroup]", "sync/atomic.CompareAndSwapUint64", "internal/race.Write", "sync.runtime_SemacquireWaitGroup"], unfollowed := true, recurses := true, named := ["velarium/strip.checks"], plainKeys := false, leaving := true, apart := false, laid := [("velarium/strip.checks", laid_velarium_strip_checks)], narrowed := true }
def StripRealUptoSaid : Prop := stripRealUptoRow.holds Tryz.pinned (OpenSpec.upto stripRealSpec)

/-- 'velariumlaw01.StripCloses', WHERE WHAT IT READS IS OF BULK AT MOST 1048576: true; the input reads as it did. -/
def stripClosesUptoRow : OpenClaim := { program := "ytlchekhkopimhaagreatdoor", sum := "9fc9add2d416ccce9f740ed9c017ca07ad52770ddc4b591bead0828dcbc2aedc", func := "velarium/velariumlaw01.StripCloses", spec := "stripCloses", inPlace := ["(*sync.WaitGroup).Add", "internal/race.ReleaseMerge", "internal/race.Disable", "internal/race.Enable", "internal/synctest.IsInBubble", "internal/synctest.Associate[sync.WaitGroup]", "sync.fatal", "sync/atomic.OrUint64", "sync/atomic.AddUint64", "internal/race.Read", "sync/atomic.LoadUint64", "sync/atomic.StoreUint64", "internal/synctest.Disassociate[sync.WaitGroup]", "sync.runtime_Semrelease", "(*sync.WaitGroup).Done", "(*sync.WaitGroup).Wait", "internal/race.Acquire", "internal/synctest.IsAssociated[sync.WaitGroup]", "sync/atomic.CompareAndSwapUint64", "internal/race.Write", "sync.runtime_SemacquireWaitGroup"], unfollowed := true, recurses := true, named := ["velarium/strip.checks"], plainKeys := false, leaving := true, apart := false, laid := [("velarium/strip.checks", laid_velarium_strip_checks)], narrowed := true }
def StripClosesUptoSaid : Prop := stripClosesUptoRow.holds Tryz.pinned (OpenSpec.upto stripClosesSpec)

/-- 'velariumlaw01.StripWorst', WHERE WHAT IT READS IS OF BULK AT MOST 1048576: true; the input reads as it did. -/
def stripWorstUptoRow : OpenClaim := { program := "ytlchekhkopimhaagreatdoor", sum := "9fc9add2d416ccce9f740ed9c017ca07ad52770ddc4b591bead0828dcbc2aedc", func := "velarium/velariumlaw01.StripWorst", spec := "stripWorst", inPlace := ["(*sync.WaitGroup).Add", "internal/race.ReleaseMerge", "internal/race.Disable", "internal/race.Enable", "internal/synctest.IsInBubble", "internal/synctest.Associate[sync.WaitGroup]", "sync.fatal", "sync/atomic.OrUint64", "sync/atomic.AddUint64", "internal/race.Read", "sync/atomic.LoadUint64", "sync/atomic.StoreUint64", "internal/synctest.Disassociate[sync.WaitGroup]", "sync.runtime_Semrelease", "(*sync.WaitGroup).Done", "(*sync.WaitGroup).Wait", "internal/race.Acquire", "internal/synctest.IsAssociated[sync.WaitGroup]", "sync/atomic.CompareAndSwapUint64", "internal/race.Write", "sync.runtime_SemacquireWaitGroup"], unfollowed := true, recurses := true, named := ["velarium/strip.checks"], plainKeys := false, leaving := true, apart := false, laid := [("velarium/strip.checks", laid_velarium_strip_checks)], narrowed := true }
def StripWorstUptoSaid : Prop := stripWorstUptoRow.holds Tryz.pinned (OpenSpec.upto stripWorstSpec)

/-- 'velariumlaw01.StripNews', WHERE WHAT IT READS IS OF BULK AT MOST 1048576: true; the input reads as it did. -/
def stripNewsUptoRow : OpenClaim := { program := "ytlchekhkopimhaagreatdoor", sum := "9fc9add2d416ccce9f740ed9c017ca07ad52770ddc4b591bead0828dcbc2aedc", func := "velarium/velariumlaw01.StripNews", spec := "stripNews", inPlace := ["(*sync.WaitGroup).Add", "internal/race.ReleaseMerge", "internal/race.Disable", "internal/race.Enable", "internal/synctest.IsInBubble", "internal/synctest.Associate[sync.WaitGroup]", "sync.fatal", "sync/atomic.OrUint64", "sync/atomic.AddUint64", "internal/race.Read", "sync/atomic.LoadUint64", "sync/atomic.StoreUint64", "internal/synctest.Disassociate[sync.WaitGroup]", "sync.runtime_Semrelease", "(*sync.WaitGroup).Done", "(*sync.WaitGroup).Wait", "internal/race.Acquire", "internal/synctest.IsAssociated[sync.WaitGroup]", "sync/atomic.CompareAndSwapUint64", "internal/race.Write", "sync.runtime_SemacquireWaitGroup"], unfollowed := true, recurses := true, named := ["velarium/strip.checks"], plainKeys := false, leaving := true, apart := false, laid := [("velarium/strip.checks", laid_velarium_strip_checks)], narrowed := true }
def StripNewsUptoSaid : Prop := stripNewsUptoRow.holds Tryz.pinned (OpenSpec.upto stripNewsSpec)

end Rows
end Go.Proofs.YtlchekhkopimhaaGreatDoor

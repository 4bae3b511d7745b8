/-
  NARROWER THAN 'FOR EVERY INPUT', by the rows' own cells (each row's printed sentence says how): TerrainPlans: calm, laid · TerrainStates: calm, laid · TerrainReal: calm, laid.
  DERIVED. THE GIVEN ROWS OF THIS SEAT. 3 by the template 'for every input the law returns true; each argument reads behind the call as it read before'; 0 by the template 'total and deterministic' (their statements: YtbpddfapodiemaaGreatDoorTotals.lean).
  GIVEN WITH THE SEED: the statements are not yours to turn. If you find one false, say at which input.
  Laid BY PROGRAM, IN A SANDBOX (cutbox-rows.mjs): the forced cells as the released guide's own fill.sh prints them over the translation 76e804f8251b1b24… (all of the seat's roots in one cut). By AI agents, Wed Nov 11 2026. No macro, syntax, notation, axiom, sorry.
-/
import Derived.Test.YtbpddfapodiemaaGreatDoorChecked
import GoSem.Claim
import GoSem.ClaimJoined
import GoSem.ClaimMapViews
import Derived.JoinedTies
import Derived.KernelRfl
namespace Go.Proofs.YtbpddfapodiemaaGreatDoor
/- THE CELL 'sum', in the pinned program and in every row, IS THE sha256 OF THE DUMP (.gsa) THAT YtbpddfapodiemaaGreatDoorProg.lean LOADS. Nothing in Lean hashes anything: it is a label: what it is worth is what the hold of that sum in a sandbox is worth. -/
noncomputable def Tryz.pinned : Pinned := { name := "ytbpddfapodiemaagreatdoor", sum := "76e804f8251b1b241c32213d80b55c043ff3fa4674092829f1712357d477843a", checked := Tryz.checked }
namespace Rows
def none {H : Type} : Left H := { results := [], args := [] }

/- WHAT THE LISTED PACKAGE-LEVEL VARIABLES READ AS WHEN THE CALL BEGINS. Each datum BY PROGRAM (the guide's laid-datum.mjs) off the statement by which the dump's own 'gosem.cut.vars' lays the variable. In a bare row this is a premise. The card (YtbpddfapodiemaaGreatDoorCards.lean) ties it to the program's text. -/
def laid_velarium_terrain_checks {H : Type} : DataW H := .iface "func table" (.agg [.iface "func" (.lit (.string [40, 118, 101, 108, 97, 114, 105, 117, 109, 47, 116, 101, 114, 114, 97, 105, 110, 46, 98, 111, 111, 107, 41, 46, 103, 114, 111, 117, 110, 100])), .iface "func" (.lit (.string [40, 118, 101, 108, 97, 114, 105, 117, 109, 47, 116, 101, 114, 114, 97, 105, 110, 46, 98, 111, 111, 107, 41, 46, 101, 97, 114, 116, 104])), .iface "func" (.lit (.string [40, 118, 101, 108, 97, 114, 105, 117, 109, 47, 116, 101, 114, 114, 97, 105, 110, 46, 98, 111, 111, 107, 41, 46, 112, 114, 111, 112, 115])), .iface "func" (.lit (.string [40, 118, 101, 108, 97, 114, 105, 117, 109, 47, 116, 101, 114, 114, 97, 105, 110, 46, 98, 111, 111, 107, 41, 46, 101, 121, 101, 115])), .iface "func" (.lit (.string [40, 118, 101, 108, 97, 114, 105, 117, 109, 47, 116, 101, 114, 114, 97, 105, 110, 46, 98, 111, 111, 107, 41, 46, 116, 111, 108, 100]))])

/-- 'velariumlaw04.TerrainPlans': WHATEVER THE INPUT: true; the input reads as it did. -/
def terrainPlansSpec : ChangeSpec := { name := "terrainPlans", fn := fun _ => fun
  | [d1, d2] => { results := [.lit (.bool true)], args := [d1, d2] }
  | _ => none }
def terrainPlansRow : OpenClaim := { program := "ytbpddfapodiemaagreatdoor", sum := "76e804f8251b1b241c32213d80b55c043ff3fa4674092829f1712357d477843a", func := "velarium/velariumlaw04.TerrainPlans", spec := "terrainPlans", inPlace := ["(*sync.WaitGroup).Add", "internal/race.ReleaseMerge", "internal/race.Disable", "internal/race.Enable", "internal/synctest.IsInBubble", "internal/synctest.Associate[sync.WaitGroup]", "sync.fatal", "sync/atomic.OrUint64", "sync/atomic.AddUint64", "internal/race.Read", "sync/atomic.LoadUint64", "sync/atomic.StoreUint64", "internal/synctest.Disassociate[sync.WaitGroup]", "sync.runtime_Semrelease", "(*sync.WaitGroup).Done", "(*internal/sync.Mutex).Lock", "sync/atomic.CompareAndSwapInt32", "internal/race.Acquire", "(*internal/sync.Mutex).lockSlow", "internal/sync.runtime_canSpin", "internal/sync.runtime_doSpin", "internal/sync.throw", "internal/sync.runtime_nanotime", "internal/sync.runtime_SemacquireMutex", "sync/atomic.AddInt32", "(*internal/sync.Mutex).Unlock", "(*internal/sync.Mutex).unlockSlow", "internal/sync.fatal", "internal/sync.runtime_Semrelease", "(*sync.WaitGroup).Wait", "internal/synctest.IsAssociated[sync.WaitGroup]", "sync/atomic.CompareAndSwapUint64", "internal/race.Write", "sync.runtime_SemacquireWaitGroup"], unfollowed := true, recurses := true, named := ["velarium/terrain.checks"], plainKeys := false, leaving := true, apart := false, calm := true, outside := [.timePasses], laid := [("velarium/terrain.checks", laid_velarium_terrain_checks)] }
def TerrainPlansSaid : Prop := terrainPlansRow.holds Tryz.pinned (OpenSpec.ofChange terrainPlansSpec)

/-- ITS FALSE NEIGHBOUR: 'it returns false'. Refute it at one input. -/
def terrainPlansWrong : ChangeSpec := { name := "terrainPlans", fn := fun _ => fun
  | [d1, d2] => { results := [.lit (.bool false)], args := [d1, d2] }
  | _ => none }
def TerrainPlansWrongFalsely : Prop := terrainPlansRow.holds Tryz.pinned (OpenSpec.ofChange terrainPlansWrong)

/-- 'velariumlaw04.TerrainStates': WHATEVER THE INPUT: true; the input reads as it did. -/
def terrainStatesSpec : ChangeSpec := { name := "terrainStates", fn := fun _ => fun
  | [d1, d2, d3] => { results := [.lit (.bool true)], args := [d1, d2, d3] }
  | _ => none }
def terrainStatesRow : OpenClaim := { program := "ytbpddfapodiemaagreatdoor", sum := "76e804f8251b1b241c32213d80b55c043ff3fa4674092829f1712357d477843a", func := "velarium/velariumlaw04.TerrainStates", spec := "terrainStates", inPlace := ["(*sync.WaitGroup).Add", "internal/race.ReleaseMerge", "internal/race.Disable", "internal/race.Enable", "internal/synctest.IsInBubble", "internal/synctest.Associate[sync.WaitGroup]", "sync.fatal", "sync/atomic.OrUint64", "sync/atomic.AddUint64", "internal/race.Read", "sync/atomic.LoadUint64", "sync/atomic.StoreUint64", "internal/synctest.Disassociate[sync.WaitGroup]", "sync.runtime_Semrelease", "(*sync.WaitGroup).Done", "(*internal/sync.Mutex).Lock", "sync/atomic.CompareAndSwapInt32", "internal/race.Acquire", "(*internal/sync.Mutex).lockSlow", "internal/sync.runtime_canSpin", "internal/sync.runtime_doSpin", "internal/sync.throw", "internal/sync.runtime_nanotime", "internal/sync.runtime_SemacquireMutex", "sync/atomic.AddInt32", "(*internal/sync.Mutex).Unlock", "(*internal/sync.Mutex).unlockSlow", "internal/sync.fatal", "internal/sync.runtime_Semrelease", "(*sync.WaitGroup).Wait", "internal/synctest.IsAssociated[sync.WaitGroup]", "sync/atomic.CompareAndSwapUint64", "internal/race.Write", "sync.runtime_SemacquireWaitGroup"], unfollowed := true, recurses := true, named := ["velarium/terrain.checks"], plainKeys := false, leaving := true, apart := false, calm := true, outside := [.timePasses], laid := [("velarium/terrain.checks", laid_velarium_terrain_checks)] }
def TerrainStatesSaid : Prop := terrainStatesRow.holds Tryz.pinned (OpenSpec.ofChange terrainStatesSpec)

/-- ITS FALSE NEIGHBOUR: 'it returns false'. Refute it at one input. -/
def terrainStatesWrong : ChangeSpec := { name := "terrainStates", fn := fun _ => fun
  | [d1, d2, d3] => { results := [.lit (.bool false)], args := [d1, d2, d3] }
  | _ => none }
def TerrainStatesWrongFalsely : Prop := terrainStatesRow.holds Tryz.pinned (OpenSpec.ofChange terrainStatesWrong)

/-- 'velariumlaw04.TerrainReal': WHATEVER THE INPUT: true; the input reads as it did. -/
def terrainRealSpec : ChangeSpec := { name := "terrainReal", fn := fun _ => fun
  | [d1, d2, d3] => { results := [.lit (.bool true)], args := [d1, d2, d3] }
  | _ => none }
def terrainRealRow : OpenClaim := { program := "ytbpddfapodiemaagreatdoor", sum := "76e804f8251b1b241c32213d80b55c043ff3fa4674092829f1712357d477843a", func := "velarium/velariumlaw04.TerrainReal", spec := "terrainReal", inPlace := ["(*sync.WaitGroup).Add", "internal/race.ReleaseMerge", "internal/race.Disable", "internal/race.Enable", "internal/synctest.IsInBubble", "internal/synctest.Associate[sync.WaitGroup]", "sync.fatal", "sync/atomic.OrUint64", "sync/atomic.AddUint64", "internal/race.Read", "sync/atomic.LoadUint64", "sync/atomic.StoreUint64", "internal/synctest.Disassociate[sync.WaitGroup]", "sync.runtime_Semrelease", "(*sync.WaitGroup).Done", "(*internal/sync.Mutex).Lock", "sync/atomic.CompareAndSwapInt32", "internal/race.Acquire", "(*internal/sync.Mutex).lockSlow", "internal/sync.runtime_canSpin", "internal/sync.runtime_doSpin", "internal/sync.throw", "internal/sync.runtime_nanotime", "internal/sync.runtime_SemacquireMutex", "sync/atomic.AddInt32", "(*internal/sync.Mutex).Unlock", "(*internal/sync.Mutex).unlockSlow", "internal/sync.fatal", "internal/sync.runtime_Semrelease", "(*sync.WaitGroup).Wait", "internal/synctest.IsAssociated[sync.WaitGroup]", "sync/atomic.CompareAndSwapUint64", "internal/race.Write", "sync.runtime_SemacquireWaitGroup"], unfollowed := true, recurses := true, named := ["velarium/terrain.checks"], plainKeys := false, leaving := true, apart := false, calm := true, outside := [.timePasses], laid := [("velarium/terrain.checks", laid_velarium_terrain_checks)] }
def TerrainRealSaid : Prop := terrainRealRow.holds Tryz.pinned (OpenSpec.ofChange terrainRealSpec)

/-- ITS FALSE NEIGHBOUR: 'it returns false'. Refute it at one input. -/
def terrainRealWrong : ChangeSpec := { name := "terrainReal", fn := fun _ => fun
  | [d1, d2, d3] => { results := [.lit (.bool false)], args := [d1, d2, d3] }
  | _ => none }
def TerrainRealWrongFalsely : Prop := terrainRealRow.holds Tryz.pinned (OpenSpec.ofChange terrainRealWrong)

end Rows
end Go.Proofs.YtbpddfapodiemaaGreatDoor

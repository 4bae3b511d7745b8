/-
  NARROWER THAN 'FOR EVERY INPUT', by the rows' own cells (each row's printed sentence says how): TerrainExact: calm, laid · TerrainParted: calm, laid · TerrainAlike: calm, laid · TerrainShown: calm, laid · TerrainClashes: calm, laid · TerrainAsked: calm, laid.
  DERIVED. THE GIVEN ROWS OF THIS SEAT. 6 by the template 'for every input the law returns true; each argument reads behind the call as it read before'; 0 by the template 'total and deterministic' (their statements: YtjepffnffjdloaaGreatDoorTotals.lean).
  GIVEN WITH THE SEED: the statements are not yours to turn. If you find one false, say at which input.
  Laid BY PROGRAM, IN A SANDBOX (cutbox-rows.mjs): the forced cells as the released guide's own fill.sh prints them over the translation 003d94a375f79cbf… (all of the seat's roots in one cut). By AI agents, Wed Nov 11 2026. No macro, syntax, notation, axiom, sorry.
-/
import Derived.Test.YtjepffnffjdloaaGreatDoorChecked
import GoSem.Claim
import GoSem.ClaimJoined
import GoSem.ClaimMapViews
import Derived.JoinedTies
import Derived.KernelRfl
namespace Go.Proofs.YtjepffnffjdloaaGreatDoor
/- THE CELL 'sum', in the pinned program and in every row, IS THE sha256 OF THE DUMP (.gsa) THAT YtjepffnffjdloaaGreatDoorProg.lean LOADS. Nothing in Lean hashes anything: it is a label: what it is worth is what the hold of that sum in a sandbox is worth. -/
noncomputable def Tryz.pinned : Pinned := { name := "ytjepffnffjdloaagreatdoor", sum := "003d94a375f79cbfc9739a950119ec15cead7588ddbffe66d07cb208c308bfac", checked := Tryz.checked }
namespace Rows
def none {H : Type} : Left H := { results := [], args := [] }

/- WHAT THE LISTED PACKAGE-LEVEL VARIABLES READ AS WHEN THE CALL BEGINS. Each datum BY PROGRAM (the guide's laid-datum.mjs) off the statement by which the dump's own 'gosem.cut.vars' lays the variable. In a bare row this is a premise. The card (YtjepffnffjdloaaGreatDoorCards.lean) ties it to the program's text. -/
def laid_velarium_terrain_checks {H : Type} : DataW H := .iface "func table" (.agg [.iface "func" (.lit (.string [40, 118, 101, 108, 97, 114, 105, 117, 109, 47, 116, 101, 114, 114, 97, 105, 110, 46, 98, 111, 111, 107, 41, 46, 103, 114, 111, 117, 110, 100])), .iface "func" (.lit (.string [40, 118, 101, 108, 97, 114, 105, 117, 109, 47, 116, 101, 114, 114, 97, 105, 110, 46, 98, 111, 111, 107, 41, 46, 101, 97, 114, 116, 104])), .iface "func" (.lit (.string [40, 118, 101, 108, 97, 114, 105, 117, 109, 47, 116, 101, 114, 114, 97, 105, 110, 46, 98, 111, 111, 107, 41, 46, 112, 114, 111, 112, 115])), .iface "func" (.lit (.string [40, 118, 101, 108, 97, 114, 105, 117, 109, 47, 116, 101, 114, 114, 97, 105, 110, 46, 98, 111, 111, 107, 41, 46, 101, 121, 101, 115])), .iface "func" (.lit (.string [40, 118, 101, 108, 97, 114, 105, 117, 109, 47, 116, 101, 114, 114, 97, 105, 110, 46, 98, 111, 111, 107, 41, 46, 116, 111, 108, 100]))])

/-- 'velariumlaw04.TerrainExact': WHATEVER THE INPUT: true; the input reads as it did. -/
def terrainExactSpec : ChangeSpec := { name := "terrainExact", fn := fun _ => fun
  | [d1, d2, d3, d4] => { results := [.lit (.bool true)], args := [d1, d2, d3, d4] }
  | _ => none }
def terrainExactRow : OpenClaim := { program := "ytjepffnffjdloaagreatdoor", sum := "003d94a375f79cbfc9739a950119ec15cead7588ddbffe66d07cb208c308bfac", func := "velarium/velariumlaw04.TerrainExact", spec := "terrainExact", inPlace := ["(*sync.WaitGroup).Add", "internal/race.ReleaseMerge", "internal/race.Disable", "internal/race.Enable", "internal/synctest.IsInBubble", "internal/synctest.Associate[sync.WaitGroup]", "sync.fatal", "sync/atomic.OrUint64", "sync/atomic.AddUint64", "internal/race.Read", "sync/atomic.LoadUint64", "sync/atomic.StoreUint64", "internal/synctest.Disassociate[sync.WaitGroup]", "sync.runtime_Semrelease", "(*sync.WaitGroup).Done", "(*internal/sync.Mutex).Lock", "sync/atomic.CompareAndSwapInt32", "internal/race.Acquire", "(*internal/sync.Mutex).lockSlow", "internal/sync.runtime_canSpin", "internal/sync.runtime_doSpin", "internal/sync.throw", "internal/sync.runtime_nanotime", "internal/sync.runtime_SemacquireMutex", "sync/atomic.AddInt32", "(*internal/sync.Mutex).Unlock", "(*internal/sync.Mutex).unlockSlow", "internal/sync.fatal", "internal/sync.runtime_Semrelease", "(*sync.WaitGroup).Wait", "internal/synctest.IsAssociated[sync.WaitGroup]", "sync/atomic.CompareAndSwapUint64", "internal/race.Write", "sync.runtime_SemacquireWaitGroup"], unfollowed := true, recurses := true, named := ["velarium/terrain.checks"], plainKeys := false, leaving := true, apart := false, calm := true, outside := [.timePasses], laid := [("velarium/terrain.checks", laid_velarium_terrain_checks)] }
def TerrainExactSaid : Prop := terrainExactRow.holds Tryz.pinned (OpenSpec.ofChange terrainExactSpec)

/-- ITS FALSE NEIGHBOUR: 'it returns false'. Refute it at one input. -/
def terrainExactWrong : ChangeSpec := { name := "terrainExact", fn := fun _ => fun
  | [d1, d2, d3, d4] => { results := [.lit (.bool false)], args := [d1, d2, d3, d4] }
  | _ => none }
def TerrainExactWrongFalsely : Prop := terrainExactRow.holds Tryz.pinned (OpenSpec.ofChange terrainExactWrong)

/-- 'velariumlaw04.TerrainParted': WHATEVER THE INPUT: true; the input reads as it did. -/
def terrainPartedSpec : ChangeSpec := { name := "terrainParted", fn := fun _ => fun
  | [d1, d2, d3, d4, d5, d6] => { results := [.lit (.bool true)], args := [d1, d2, d3, d4, d5, d6] }
  | _ => none }
def terrainPartedRow : OpenClaim := { program := "ytjepffnffjdloaagreatdoor", sum := "003d94a375f79cbfc9739a950119ec15cead7588ddbffe66d07cb208c308bfac", func := "velarium/velariumlaw04.TerrainParted", spec := "terrainParted", inPlace := ["(*sync.WaitGroup).Add", "internal/race.ReleaseMerge", "internal/race.Disable", "internal/race.Enable", "internal/synctest.IsInBubble", "internal/synctest.Associate[sync.WaitGroup]", "sync.fatal", "sync/atomic.OrUint64", "sync/atomic.AddUint64", "internal/race.Read", "sync/atomic.LoadUint64", "sync/atomic.StoreUint64", "internal/synctest.Disassociate[sync.WaitGroup]", "sync.runtime_Semrelease", "(*sync.WaitGroup).Done", "(*internal/sync.Mutex).Lock", "sync/atomic.CompareAndSwapInt32", "internal/race.Acquire", "(*internal/sync.Mutex).lockSlow", "internal/sync.runtime_canSpin", "internal/sync.runtime_doSpin", "internal/sync.throw", "internal/sync.runtime_nanotime", "internal/sync.runtime_SemacquireMutex", "sync/atomic.AddInt32", "(*internal/sync.Mutex).Unlock", "(*internal/sync.Mutex).unlockSlow", "internal/sync.fatal", "internal/sync.runtime_Semrelease", "(*sync.WaitGroup).Wait", "internal/synctest.IsAssociated[sync.WaitGroup]", "sync/atomic.CompareAndSwapUint64", "internal/race.Write", "sync.runtime_SemacquireWaitGroup"], unfollowed := true, recurses := true, named := ["velarium/terrain.checks"], plainKeys := false, leaving := true, apart := false, calm := true, outside := [.timePasses], laid := [("velarium/terrain.checks", laid_velarium_terrain_checks)] }
def TerrainPartedSaid : Prop := terrainPartedRow.holds Tryz.pinned (OpenSpec.ofChange terrainPartedSpec)

/-- ITS FALSE NEIGHBOUR: 'it returns false'. Refute it at one input. -/
def terrainPartedWrong : ChangeSpec := { name := "terrainParted", fn := fun _ => fun
  | [d1, d2, d3, d4, d5, d6] => { results := [.lit (.bool false)], args := [d1, d2, d3, d4, d5, d6] }
  | _ => none }
def TerrainPartedWrongFalsely : Prop := terrainPartedRow.holds Tryz.pinned (OpenSpec.ofChange terrainPartedWrong)

/-- 'velariumlaw04.TerrainAlike': WHATEVER THE INPUT: true; the input reads as it did. -/
def terrainAlikeSpec : ChangeSpec := { name := "terrainAlike", fn := fun _ => fun
  | [d1, d2, d3, d4] => { results := [.lit (.bool true)], args := [d1, d2, d3, d4] }
  | _ => none }
def terrainAlikeRow : OpenClaim := { program := "ytjepffnffjdloaagreatdoor", sum := "003d94a375f79cbfc9739a950119ec15cead7588ddbffe66d07cb208c308bfac", func := "velarium/velariumlaw04.TerrainAlike", spec := "terrainAlike", inPlace := ["(*sync.WaitGroup).Add", "internal/race.ReleaseMerge", "internal/race.Disable", "internal/race.Enable", "internal/synctest.IsInBubble", "internal/synctest.Associate[sync.WaitGroup]", "sync.fatal", "sync/atomic.OrUint64", "sync/atomic.AddUint64", "internal/race.Read", "sync/atomic.LoadUint64", "sync/atomic.StoreUint64", "internal/synctest.Disassociate[sync.WaitGroup]", "sync.runtime_Semrelease", "(*sync.WaitGroup).Done", "(*internal/sync.Mutex).Lock", "sync/atomic.CompareAndSwapInt32", "internal/race.Acquire", "(*internal/sync.Mutex).lockSlow", "internal/sync.runtime_canSpin", "internal/sync.runtime_doSpin", "internal/sync.throw", "internal/sync.runtime_nanotime", "internal/sync.runtime_SemacquireMutex", "sync/atomic.AddInt32", "(*internal/sync.Mutex).Unlock", "(*internal/sync.Mutex).unlockSlow", "internal/sync.fatal", "internal/sync.runtime_Semrelease", "(*sync.WaitGroup).Wait", "internal/synctest.IsAssociated[sync.WaitGroup]", "sync/atomic.CompareAndSwapUint64", "internal/race.Write", "sync.runtime_SemacquireWaitGroup"], unfollowed := true, recurses := true, named := ["velarium/terrain.checks"], plainKeys := false, leaving := true, apart := false, calm := true, outside := [.timePasses], laid := [("velarium/terrain.checks", laid_velarium_terrain_checks)] }
def TerrainAlikeSaid : Prop := terrainAlikeRow.holds Tryz.pinned (OpenSpec.ofChange terrainAlikeSpec)

/-- ITS FALSE NEIGHBOUR: 'it returns false'. Refute it at one input. -/
def terrainAlikeWrong : ChangeSpec := { name := "terrainAlike", fn := fun _ => fun
  | [d1, d2, d3, d4] => { results := [.lit (.bool false)], args := [d1, d2, d3, d4] }
  | _ => none }
def TerrainAlikeWrongFalsely : Prop := terrainAlikeRow.holds Tryz.pinned (OpenSpec.ofChange terrainAlikeWrong)

/-- 'velariumlaw04.TerrainShown': WHATEVER THE INPUT: true; the input reads as it did. -/
def terrainShownSpec : ChangeSpec := { name := "terrainShown", fn := fun _ => fun
  | [d1, d2, d3, d4, d5, d6] => { results := [.lit (.bool true)], args := [d1, d2, d3, d4, d5, d6] }
  | _ => none }
def terrainShownRow : OpenClaim := { program := "ytjepffnffjdloaagreatdoor", sum := "003d94a375f79cbfc9739a950119ec15cead7588ddbffe66d07cb208c308bfac", func := "velarium/velariumlaw04.TerrainShown", spec := "terrainShown", inPlace := ["(*sync.WaitGroup).Add", "internal/race.ReleaseMerge", "internal/race.Disable", "internal/race.Enable", "internal/synctest.IsInBubble", "internal/synctest.Associate[sync.WaitGroup]", "sync.fatal", "sync/atomic.OrUint64", "sync/atomic.AddUint64", "internal/race.Read", "sync/atomic.LoadUint64", "sync/atomic.StoreUint64", "internal/synctest.Disassociate[sync.WaitGroup]", "sync.runtime_Semrelease", "(*sync.WaitGroup).Done", "(*internal/sync.Mutex).Lock", "sync/atomic.CompareAndSwapInt32", "internal/race.Acquire", "(*internal/sync.Mutex).lockSlow", "internal/sync.runtime_canSpin", "internal/sync.runtime_doSpin", "internal/sync.throw", "internal/sync.runtime_nanotime", "internal/sync.runtime_SemacquireMutex", "sync/atomic.AddInt32", "(*internal/sync.Mutex).Unlock", "(*internal/sync.Mutex).unlockSlow", "internal/sync.fatal", "internal/sync.runtime_Semrelease", "(*sync.WaitGroup).Wait", "internal/synctest.IsAssociated[sync.WaitGroup]", "sync/atomic.CompareAndSwapUint64", "internal/race.Write", "sync.runtime_SemacquireWaitGroup"], unfollowed := true, recurses := true, named := ["velarium/terrain.checks"], plainKeys := false, leaving := true, apart := false, calm := true, outside := [.timePasses], laid := [("velarium/terrain.checks", laid_velarium_terrain_checks)] }
def TerrainShownSaid : Prop := terrainShownRow.holds Tryz.pinned (OpenSpec.ofChange terrainShownSpec)

/-- ITS FALSE NEIGHBOUR: 'it returns false'. Refute it at one input. -/
def terrainShownWrong : ChangeSpec := { name := "terrainShown", fn := fun _ => fun
  | [d1, d2, d3, d4, d5, d6] => { results := [.lit (.bool false)], args := [d1, d2, d3, d4, d5, d6] }
  | _ => none }
def TerrainShownWrongFalsely : Prop := terrainShownRow.holds Tryz.pinned (OpenSpec.ofChange terrainShownWrong)

/-- 'velariumlaw04.TerrainClashes': WHATEVER THE INPUT: true; the input reads as it did. -/
def terrainClashesSpec : ChangeSpec := { name := "terrainClashes", fn := fun _ => fun
  | [d1, d2] => { results := [.lit (.bool true)], args := [d1, d2] }
  | _ => none }
def terrainClashesRow : OpenClaim := { program := "ytjepffnffjdloaagreatdoor", sum := "003d94a375f79cbfc9739a950119ec15cead7588ddbffe66d07cb208c308bfac", func := "velarium/velariumlaw04.TerrainClashes", spec := "terrainClashes", inPlace := ["(*sync.WaitGroup).Add", "internal/race.ReleaseMerge", "internal/race.Disable", "internal/race.Enable", "internal/synctest.IsInBubble", "internal/synctest.Associate[sync.WaitGroup]", "sync.fatal", "sync/atomic.OrUint64", "sync/atomic.AddUint64", "internal/race.Read", "sync/atomic.LoadUint64", "sync/atomic.StoreUint64", "internal/synctest.Disassociate[sync.WaitGroup]", "sync.runtime_Semrelease", "(*sync.WaitGroup).Done", "(*internal/sync.Mutex).Lock", "sync/atomic.CompareAndSwapInt32", "internal/race.Acquire", "(*internal/sync.Mutex).lockSlow", "internal/sync.runtime_canSpin", "internal/sync.runtime_doSpin", "internal/sync.throw", "internal/sync.runtime_nanotime", "internal/sync.runtime_SemacquireMutex", "sync/atomic.AddInt32", "(*internal/sync.Mutex).Unlock", "(*internal/sync.Mutex).unlockSlow", "internal/sync.fatal", "internal/sync.runtime_Semrelease", "(*sync.WaitGroup).Wait", "internal/synctest.IsAssociated[sync.WaitGroup]", "sync/atomic.CompareAndSwapUint64", "internal/race.Write", "sync.runtime_SemacquireWaitGroup"], unfollowed := true, recurses := true, named := ["velarium/terrain.checks"], plainKeys := false, leaving := true, apart := false, calm := true, outside := [.timePasses], laid := [("velarium/terrain.checks", laid_velarium_terrain_checks)] }
def TerrainClashesSaid : Prop := terrainClashesRow.holds Tryz.pinned (OpenSpec.ofChange terrainClashesSpec)

/-- ITS FALSE NEIGHBOUR: 'it returns false'. Refute it at one input. -/
def terrainClashesWrong : ChangeSpec := { name := "terrainClashes", fn := fun _ => fun
  | [d1, d2] => { results := [.lit (.bool false)], args := [d1, d2] }
  | _ => none }
def TerrainClashesWrongFalsely : Prop := terrainClashesRow.holds Tryz.pinned (OpenSpec.ofChange terrainClashesWrong)

/-- 'velariumlaw04.TerrainAsked': WHATEVER THE INPUT: true; the input reads as it did. -/
def terrainAskedSpec : ChangeSpec := { name := "terrainAsked", fn := fun _ => fun
  | [d1, d2] => { results := [.lit (.bool true)], args := [d1, d2] }
  | _ => none }
def terrainAskedRow : OpenClaim := { program := "ytjepffnffjdloaagreatdoor", sum := "003d94a375f79cbfc9739a950119ec15cead7588ddbffe66d07cb208c308bfac", func := "velarium/velariumlaw04.TerrainAsked", spec := "terrainAsked", inPlace := ["(*sync.WaitGroup).Add", "internal/race.ReleaseMerge", "internal/race.Disable", "internal/race.Enable", "internal/synctest.IsInBubble", "internal/synctest.Associate[sync.WaitGroup]", "sync.fatal", "sync/atomic.OrUint64", "sync/atomic.AddUint64", "internal/race.Read", "sync/atomic.LoadUint64", "sync/atomic.StoreUint64", "internal/synctest.Disassociate[sync.WaitGroup]", "sync.runtime_Semrelease", "(*sync.WaitGroup).Done", "(*internal/sync.Mutex).Lock", "sync/atomic.CompareAndSwapInt32", "internal/race.Acquire", "(*internal/sync.Mutex).lockSlow", "internal/sync.runtime_canSpin", "internal/sync.runtime_doSpin", "internal/sync.throw", "internal/sync.runtime_nanotime", "internal/sync.runtime_SemacquireMutex", "sync/atomic.AddInt32", "(*internal/sync.Mutex).Unlock", "(*internal/sync.Mutex).unlockSlow", "internal/sync.fatal", "internal/sync.runtime_Semrelease", "(*sync.WaitGroup).Wait", "internal/synctest.IsAssociated[sync.WaitGroup]", "sync/atomic.CompareAndSwapUint64", "internal/race.Write", "sync.runtime_SemacquireWaitGroup"], unfollowed := true, recurses := true, named := ["velarium/terrain.checks"], plainKeys := false, leaving := true, apart := false, calm := true, outside := [.timePasses], laid := [("velarium/terrain.checks", laid_velarium_terrain_checks)] }
def TerrainAskedSaid : Prop := terrainAskedRow.holds Tryz.pinned (OpenSpec.ofChange terrainAskedSpec)

/-- ITS FALSE NEIGHBOUR: 'it returns false'. Refute it at one input. -/
def terrainAskedWrong : ChangeSpec := { name := "terrainAsked", fn := fun _ => fun
  | [d1, d2] => { results := [.lit (.bool false)], args := [d1, d2] }
  | _ => none }
def TerrainAskedWrongFalsely : Prop := terrainAskedRow.holds Tryz.pinned (OpenSpec.ofChange terrainAskedWrong)

end Rows
end Go.Proofs.YtjepffnffjdloaaGreatDoor

/-
  NARROWER THAN 'FOR EVERY INPUT', by the rows' own cells (each row's printed sentence says how): TerrainOnCanvas: calm, laid · TerrainEyed: calm, laid.
  DERIVED. THE GIVEN ROWS OF THIS SEAT. 2 by the template 'for every input the law returns true; each argument reads behind the call as it read before'; 0 by the template 'total and deterministic' (their statements: YtdgblangfefjmaaGreatDoorTotals.lean).
  GIVEN WITH THE SEED: the statements are not yours to turn. If you find one false, say at which input.
  Laid BY PROGRAM, IN A SANDBOX (cutbox-rows.mjs): the forced cells as the released guide's own fill.sh prints them over the translation 1e5690a9e671f22c… (all of the seat's roots in one cut). By AI agents, Wed Nov 11 2026. No macro, syntax, notation, axiom, sorry.
-/
import Derived.Test.YtdgblangfefjmaaGreatDoorChecked
import GoSem.Claim
import GoSem.ClaimJoined
import GoSem.ClaimMapViews
import Derived.JoinedTies
import Derived.KernelRfl
namespace Go.Proofs.YtdgblangfefjmaaGreatDoor
/- THE CELL 'sum', in the pinned program and in every row, IS THE sha256 OF THE DUMP (.gsa) THAT YtdgblangfefjmaaGreatDoorProg.lean LOADS. Nothing in Lean hashes anything: it is a label: what it is worth is what the hold of that sum in a sandbox is worth. -/
noncomputable def Tryz.pinned : Pinned := { name := "ytdgblangfefjmaagreatdoor", sum := "1e5690a9e671f22c801c1ac9bb0f0de88c23ad5dc598c9ad43face78930093dc", checked := Tryz.checked }
namespace Rows
def none {H : Type} : Left H := { results := [], args := [] }

/- WHAT THE LISTED PACKAGE-LEVEL VARIABLES READ AS WHEN THE CALL BEGINS. Each datum BY PROGRAM (the guide's laid-datum.mjs) off the statement by which the dump's own 'gosem.cut.vars' lays the variable. In a bare row this is a premise. The card (YtdgblangfefjmaaGreatDoorCards.lean) ties it to the program's text. -/
def laid_velarium_canvas_checks {H : Type} : DataW H := .iface "func table" (.agg [.agg [.iface "func" (.lit (.string [118, 101, 108, 97, 114, 105, 117, 109, 47, 99, 97, 110, 118, 97, 115, 46, 99, 104, 101, 99, 107, 115, 36, 49]))], .agg [.iface "func" (.lit (.string [118, 101, 108, 97, 114, 105, 117, 109, 47, 99, 97, 110, 118, 97, 115, 46, 99, 104, 101, 99, 107, 115, 36, 50]))], .agg [.iface "func" (.lit (.string [118, 101, 108, 97, 114, 105, 117, 109, 47, 99, 97, 110, 118, 97, 115, 46, 99, 104, 101, 99, 107, 115, 36, 51]))]])
def laid_velarium_terrain_checks {H : Type} : DataW H := .iface "func table" (.agg [.iface "func" (.lit (.string [40, 118, 101, 108, 97, 114, 105, 117, 109, 47, 116, 101, 114, 114, 97, 105, 110, 46, 98, 111, 111, 107, 41, 46, 103, 114, 111, 117, 110, 100])), .iface "func" (.lit (.string [40, 118, 101, 108, 97, 114, 105, 117, 109, 47, 116, 101, 114, 114, 97, 105, 110, 46, 98, 111, 111, 107, 41, 46, 101, 97, 114, 116, 104])), .iface "func" (.lit (.string [40, 118, 101, 108, 97, 114, 105, 117, 109, 47, 116, 101, 114, 114, 97, 105, 110, 46, 98, 111, 111, 107, 41, 46, 112, 114, 111, 112, 115])), .iface "func" (.lit (.string [40, 118, 101, 108, 97, 114, 105, 117, 109, 47, 116, 101, 114, 114, 97, 105, 110, 46, 98, 111, 111, 107, 41, 46, 101, 121, 101, 115])), .iface "func" (.lit (.string [40, 118, 101, 108, 97, 114, 105, 117, 109, 47, 116, 101, 114, 114, 97, 105, 110, 46, 98, 111, 111, 107, 41, 46, 116, 111, 108, 100]))])

/-- 'velariumlaw04.TerrainOnCanvas': WHATEVER THE INPUT: true; the input reads as it did. -/
def terrainOnCanvasSpec : ChangeSpec := { name := "terrainOnCanvas", fn := fun _ => fun
  | [d1, d2, d3] => { results := [.lit (.bool true)], args := [d1, d2, d3] }
  | _ => none }
def terrainOnCanvasRow : OpenClaim := { program := "ytdgblangfefjmaagreatdoor", sum := "1e5690a9e671f22c801c1ac9bb0f0de88c23ad5dc598c9ad43face78930093dc", func := "velarium/velariumlaw04.TerrainOnCanvas", spec := "terrainOnCanvas", inPlace := ["(*sync.WaitGroup).Add", "internal/race.ReleaseMerge", "internal/race.Disable", "internal/race.Enable", "internal/synctest.IsInBubble", "internal/synctest.Associate[sync.WaitGroup]", "sync.fatal", "sync/atomic.OrUint64", "sync/atomic.AddUint64", "internal/race.Read", "sync/atomic.LoadUint64", "sync/atomic.StoreUint64", "internal/synctest.Disassociate[sync.WaitGroup]", "sync.runtime_Semrelease", "(*sync.WaitGroup).Done", "(*internal/sync.Mutex).Lock", "sync/atomic.CompareAndSwapInt32", "internal/race.Acquire", "(*internal/sync.Mutex).lockSlow", "internal/sync.runtime_canSpin", "internal/sync.runtime_doSpin", "internal/sync.throw", "internal/sync.runtime_nanotime", "internal/sync.runtime_SemacquireMutex", "sync/atomic.AddInt32", "(*internal/sync.Mutex).Unlock", "(*internal/sync.Mutex).unlockSlow", "internal/sync.fatal", "internal/sync.runtime_Semrelease", "(*sync.WaitGroup).Wait", "internal/synctest.IsAssociated[sync.WaitGroup]", "sync/atomic.CompareAndSwapUint64", "internal/race.Write", "sync.runtime_SemacquireWaitGroup"], unfollowed := true, recurses := true, named := ["velarium/terrain.checks", "velarium/canvas.checks"], plainKeys := false, leaving := true, apart := false, calm := true, outside := [.timePasses], laid := [("velarium/canvas.checks", laid_velarium_canvas_checks), ("velarium/terrain.checks", laid_velarium_terrain_checks)] }
def TerrainOnCanvasSaid : Prop := terrainOnCanvasRow.holds Tryz.pinned (OpenSpec.ofChange terrainOnCanvasSpec)

/-- ITS FALSE NEIGHBOUR: 'it returns false'. Refute it at one input. -/
def terrainOnCanvasWrong : ChangeSpec := { name := "terrainOnCanvas", fn := fun _ => fun
  | [d1, d2, d3] => { results := [.lit (.bool false)], args := [d1, d2, d3] }
  | _ => none }
def TerrainOnCanvasWrongFalsely : Prop := terrainOnCanvasRow.holds Tryz.pinned (OpenSpec.ofChange terrainOnCanvasWrong)

/-- 'velariumlaw04.TerrainEyed': WHATEVER THE INPUT: true; the input reads as it did. -/
def terrainEyedSpec : ChangeSpec := { name := "terrainEyed", fn := fun _ => fun
  | [d1, d2, d3, d4, d5, d6, d7] => { results := [.lit (.bool true)], args := [d1, d2, d3, d4, d5, d6, d7] }
  | _ => none }
def terrainEyedRow : OpenClaim := { program := "ytdgblangfefjmaagreatdoor", sum := "1e5690a9e671f22c801c1ac9bb0f0de88c23ad5dc598c9ad43face78930093dc", func := "velarium/velariumlaw04.TerrainEyed", spec := "terrainEyed", inPlace := ["(*sync.WaitGroup).Add", "internal/race.ReleaseMerge", "internal/race.Disable", "internal/race.Enable", "internal/synctest.IsInBubble", "internal/synctest.Associate[sync.WaitGroup]", "sync.fatal", "sync/atomic.OrUint64", "sync/atomic.AddUint64", "internal/race.Read", "sync/atomic.LoadUint64", "sync/atomic.StoreUint64", "internal/synctest.Disassociate[sync.WaitGroup]", "sync.runtime_Semrelease", "(*sync.WaitGroup).Done", "(*internal/sync.Mutex).Lock", "sync/atomic.CompareAndSwapInt32", "internal/race.Acquire", "(*internal/sync.Mutex).lockSlow", "internal/sync.runtime_canSpin", "internal/sync.runtime_doSpin", "internal/sync.throw", "internal/sync.runtime_nanotime", "internal/sync.runtime_SemacquireMutex", "sync/atomic.AddInt32", "(*internal/sync.Mutex).Unlock", "(*internal/sync.Mutex).unlockSlow", "internal/sync.fatal", "internal/sync.runtime_Semrelease", "(*sync.WaitGroup).Wait", "internal/synctest.IsAssociated[sync.WaitGroup]", "sync/atomic.CompareAndSwapUint64", "internal/race.Write", "sync.runtime_SemacquireWaitGroup"], unfollowed := true, recurses := true, named := ["velarium/terrain.checks", "velarium/canvas.checks"], plainKeys := false, leaving := true, apart := false, calm := true, outside := [.timePasses], laid := [("velarium/canvas.checks", laid_velarium_canvas_checks), ("velarium/terrain.checks", laid_velarium_terrain_checks)] }
def TerrainEyedSaid : Prop := terrainEyedRow.holds Tryz.pinned (OpenSpec.ofChange terrainEyedSpec)

/-- ITS FALSE NEIGHBOUR: 'it returns false'. Refute it at one input. -/
def terrainEyedWrong : ChangeSpec := { name := "terrainEyed", fn := fun _ => fun
  | [d1, d2, d3, d4, d5, d6, d7] => { results := [.lit (.bool false)], args := [d1, d2, d3, d4, d5, d6, d7] }
  | _ => none }
def TerrainEyedWrongFalsely : Prop := terrainEyedRow.holds Tryz.pinned (OpenSpec.ofChange terrainEyedWrong)

end Rows
end Go.Proofs.YtdgblangfefjmaaGreatDoor

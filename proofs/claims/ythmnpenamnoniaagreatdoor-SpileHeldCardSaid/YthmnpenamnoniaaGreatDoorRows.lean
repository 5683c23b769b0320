/-
  NARROWER THAN 'FOR EVERY INPUT', by the rows' own cells (each row's printed sentence says how): SpileBent: calm, laid · SpileSawn: calm, laid · SpileHeld: calm, laid.
  DERIVED. THE GIVEN ROWS OF THIS SEAT. 3 by the template 'for every input the law returns true; each argument reads behind the call as it read before'; 0 by the template 'total and deterministic' (their statements: YthmnpenamnoniaaGreatDoorTotals.lean).
  GIVEN WITH THE SEED: the statements are not yours to turn. If you find one false, say at which input.
  Laid BY PROGRAM, IN A SANDBOX (cutbox-rows.mjs): the forced cells as the released guide's own fill.sh prints them over the translation a6d934250d1b16c7… (all of the seat's roots in one cut). By AI agents, Wed Nov 11 2026. No macro, syntax, notation, axiom, sorry.
-/
import Derived.Test.YthmnpenamnoniaaGreatDoorChecked
import GoSem.Claim
import GoSem.ClaimJoined
import GoSem.ClaimMapViews
import Derived.JoinedTies
import Derived.KernelRfl
namespace Go.Proofs.YthmnpenamnoniaaGreatDoor
/- THE CELL 'sum', in the pinned program and in every row, IS THE sha256 OF THE DUMP (.gsa) THAT YthmnpenamnoniaaGreatDoorProg.lean LOADS. Nothing in Lean hashes anything: it is a label: what it is worth is what the hold of that sum in a sandbox is worth. -/
noncomputable def Tryz.pinned : Pinned := { name := "ythmnpenamnoniaagreatdoor", sum := "a6d934250d1b16c71e2de062dd71525e7e8572824e62b970f2dbededbbb170ef", checked := Tryz.checked }
namespace Rows
def none {H : Type} : Left H := { results := [], args := [] }

/- WHAT THE LISTED PACKAGE-LEVEL VARIABLES READ AS WHEN THE CALL BEGINS. Each datum BY PROGRAM (the guide's laid-datum.mjs) off the statement by which the dump's own 'gosem.cut.vars' lays the variable. In a bare row this is a premise. The card (YthmnpenamnoniaaGreatDoorCards.lean) ties it to the program's text. -/
def laid_ribband_batten_checks {H : Type} : DataW H := .iface "func table" (.agg [.iface "func" (.lit (.string [40, 114, 105, 98, 98, 97, 110, 100, 47, 98, 97, 116, 116, 101, 110, 46, 98, 111, 111, 107, 41, 46, 115, 116, 105, 102, 102, 110, 101, 115, 115])), .iface "func" (.lit (.string [40, 114, 105, 98, 98, 97, 110, 100, 47, 98, 97, 116, 116, 101, 110, 46, 98, 111, 111, 107, 41, 46, 109, 97, 114, 107, 115])), .iface "func" (.lit (.string [40, 114, 105, 98, 98, 97, 110, 100, 47, 98, 97, 116, 116, 101, 110, 46, 98, 111, 111, 107, 41, 46, 114, 117, 108, 101, 115]))])
def laid_ribband_spile_checks {H : Type} : DataW H := .iface "func table" (.agg [.iface "func" (.lit (.string [40, 114, 105, 98, 98, 97, 110, 100, 47, 115, 112, 105, 108, 101, 46, 98, 111, 111, 107, 41, 46, 99, 111, 109, 112, 97, 115, 115])), .iface "func" (.lit (.string [40, 114, 105, 98, 98, 97, 110, 100, 47, 115, 112, 105, 108, 101, 46, 98, 111, 111, 107, 41, 46, 112, 111, 105, 110, 116, 115])), .iface "func" (.lit (.string [40, 114, 105, 98, 98, 97, 110, 100, 47, 115, 112, 105, 108, 101, 46, 98, 111, 111, 107, 41, 46, 99, 104, 101, 99, 107, 101, 100]))])
def laid_ribband_frame_checks {H : Type} : DataW H := .iface "func table" (.agg [.iface "func" (.lit (.string [40, 114, 105, 98, 98, 97, 110, 100, 47, 102, 114, 97, 109, 101, 46, 98, 111, 111, 107, 41, 46, 112, 111, 105, 110, 116, 115])), .iface "func" (.lit (.string [40, 114, 105, 98, 98, 97, 110, 100, 47, 102, 114, 97, 109, 101, 46, 98, 111, 111, 107, 41, 46, 116, 97, 112, 101, 115])), .iface "func" (.lit (.string [40, 114, 105, 98, 98, 97, 110, 100, 47, 102, 114, 97, 109, 101, 46, 98, 111, 111, 107, 41, 46, 115, 116, 105, 99, 107, 115]))])

/-- 'ribbandlaw07.SpileBent': WHATEVER THE INPUT: true; the input reads as it did. -/
def spileBentSpec : ChangeSpec := { name := "spileBent", fn := fun _ => fun
  | [d1, d2] => { results := [.lit (.bool true)], args := [d1, d2] }
  | _ => none }
def spileBentRow : OpenClaim := { program := "ythmnpenamnoniaagreatdoor", sum := "a6d934250d1b16c71e2de062dd71525e7e8572824e62b970f2dbededbbb170ef", func := "ribband/ribbandlaw07.SpileBent", spec := "spileBent", inPlace := ["(*sync.WaitGroup).Add", "internal/race.ReleaseMerge", "internal/race.Disable", "internal/race.Enable", "internal/synctest.IsInBubble", "internal/synctest.Associate[sync.WaitGroup]", "sync.fatal", "sync/atomic.OrUint64", "sync/atomic.AddUint64", "internal/race.Read", "sync/atomic.LoadUint64", "sync/atomic.StoreUint64", "internal/synctest.Disassociate[sync.WaitGroup]", "sync.runtime_Semrelease", "(*sync.WaitGroup).Done", "(*internal/sync.Mutex).Lock", "sync/atomic.CompareAndSwapInt32", "internal/race.Acquire", "(*internal/sync.Mutex).lockSlow", "internal/sync.runtime_canSpin", "internal/sync.runtime_doSpin", "internal/sync.throw", "internal/sync.runtime_nanotime", "internal/sync.runtime_SemacquireMutex", "sync/atomic.AddInt32", "(*internal/sync.Mutex).Unlock", "(*internal/sync.Mutex).unlockSlow", "internal/sync.fatal", "internal/sync.runtime_Semrelease", "(*sync.WaitGroup).Wait", "internal/synctest.IsAssociated[sync.WaitGroup]", "sync/atomic.CompareAndSwapUint64", "internal/race.Write", "sync.runtime_SemacquireWaitGroup"], unfollowed := true, recurses := true, named := ["ribband/spile.checks", "ribband/batten.checks"], plainKeys := false, leaving := true, apart := false, calm := true, outside := [.timePasses], laid := [("ribband/batten.checks", laid_ribband_batten_checks), ("ribband/spile.checks", laid_ribband_spile_checks)] }
def SpileBentSaid : Prop := spileBentRow.holds Tryz.pinned (OpenSpec.ofChange spileBentSpec)

/-- ITS FALSE NEIGHBOUR: 'it returns false'. Refute it at one input. -/
def spileBentWrong : ChangeSpec := { name := "spileBent", fn := fun _ => fun
  | [d1, d2] => { results := [.lit (.bool false)], args := [d1, d2] }
  | _ => none }
def SpileBentWrongFalsely : Prop := spileBentRow.holds Tryz.pinned (OpenSpec.ofChange spileBentWrong)

/-- 'ribbandlaw07.SpileSawn': WHATEVER THE INPUT: true; the input reads as it did. -/
def spileSawnSpec : ChangeSpec := { name := "spileSawn", fn := fun _ => fun
  | [d1, d2, d3] => { results := [.lit (.bool true)], args := [d1, d2, d3] }
  | _ => none }
def spileSawnRow : OpenClaim := { program := "ythmnpenamnoniaagreatdoor", sum := "a6d934250d1b16c71e2de062dd71525e7e8572824e62b970f2dbededbbb170ef", func := "ribband/ribbandlaw07.SpileSawn", spec := "spileSawn", inPlace := ["(*sync.WaitGroup).Add", "internal/race.ReleaseMerge", "internal/race.Disable", "internal/race.Enable", "internal/synctest.IsInBubble", "internal/synctest.Associate[sync.WaitGroup]", "sync.fatal", "sync/atomic.OrUint64", "sync/atomic.AddUint64", "internal/race.Read", "sync/atomic.LoadUint64", "sync/atomic.StoreUint64", "internal/synctest.Disassociate[sync.WaitGroup]", "sync.runtime_Semrelease", "(*sync.WaitGroup).Done", "(*internal/sync.Mutex).Lock", "sync/atomic.CompareAndSwapInt32", "internal/race.Acquire", "(*internal/sync.Mutex).lockSlow", "internal/sync.runtime_canSpin", "internal/sync.runtime_doSpin", "internal/sync.throw", "internal/sync.runtime_nanotime", "internal/sync.runtime_SemacquireMutex", "sync/atomic.AddInt32", "(*internal/sync.Mutex).Unlock", "(*internal/sync.Mutex).unlockSlow", "internal/sync.fatal", "internal/sync.runtime_Semrelease", "(*sync.WaitGroup).Wait", "internal/synctest.IsAssociated[sync.WaitGroup]", "sync/atomic.CompareAndSwapUint64", "internal/race.Write", "sync.runtime_SemacquireWaitGroup"], unfollowed := true, recurses := true, named := ["ribband/spile.checks"], plainKeys := false, leaving := true, apart := false, calm := true, outside := [.timePasses], laid := [("ribband/spile.checks", laid_ribband_spile_checks)] }
def SpileSawnSaid : Prop := spileSawnRow.holds Tryz.pinned (OpenSpec.ofChange spileSawnSpec)

/-- ITS FALSE NEIGHBOUR: 'it returns false'. Refute it at one input. -/
def spileSawnWrong : ChangeSpec := { name := "spileSawn", fn := fun _ => fun
  | [d1, d2, d3] => { results := [.lit (.bool false)], args := [d1, d2, d3] }
  | _ => none }
def SpileSawnWrongFalsely : Prop := spileSawnRow.holds Tryz.pinned (OpenSpec.ofChange spileSawnWrong)

/-- 'ribbandlaw07.SpileHeld': WHATEVER THE INPUT: true; the input reads as it did. -/
def spileHeldSpec : ChangeSpec := { name := "spileHeld", fn := fun _ => fun
  | [d1, d2, d3, d4, d5, d6] => { results := [.lit (.bool true)], args := [d1, d2, d3, d4, d5, d6] }
  | _ => none }
def spileHeldRow : OpenClaim := { program := "ythmnpenamnoniaagreatdoor", sum := "a6d934250d1b16c71e2de062dd71525e7e8572824e62b970f2dbededbbb170ef", func := "ribband/ribbandlaw07.SpileHeld", spec := "spileHeld", inPlace := ["(*sync.WaitGroup).Add", "internal/race.ReleaseMerge", "internal/race.Disable", "internal/race.Enable", "internal/synctest.IsInBubble", "internal/synctest.Associate[sync.WaitGroup]", "sync.fatal", "sync/atomic.OrUint64", "sync/atomic.AddUint64", "internal/race.Read", "sync/atomic.LoadUint64", "sync/atomic.StoreUint64", "internal/synctest.Disassociate[sync.WaitGroup]", "sync.runtime_Semrelease", "(*sync.WaitGroup).Done", "(*internal/sync.Mutex).Lock", "sync/atomic.CompareAndSwapInt32", "internal/race.Acquire", "(*internal/sync.Mutex).lockSlow", "internal/sync.runtime_canSpin", "internal/sync.runtime_doSpin", "internal/sync.throw", "internal/sync.runtime_nanotime", "internal/sync.runtime_SemacquireMutex", "sync/atomic.AddInt32", "(*internal/sync.Mutex).Unlock", "(*internal/sync.Mutex).unlockSlow", "internal/sync.fatal", "internal/sync.runtime_Semrelease", "(*sync.WaitGroup).Wait", "internal/synctest.IsAssociated[sync.WaitGroup]", "sync/atomic.CompareAndSwapUint64", "internal/race.Write", "sync.runtime_SemacquireWaitGroup"], unfollowed := true, recurses := true, named := ["ribband/spile.checks", "ribband/frame.checks"], plainKeys := false, leaving := true, apart := false, calm := true, outside := [.timePasses], laid := [("ribband/frame.checks", laid_ribband_frame_checks), ("ribband/spile.checks", laid_ribband_spile_checks)] }
def SpileHeldSaid : Prop := spileHeldRow.holds Tryz.pinned (OpenSpec.ofChange spileHeldSpec)

/-- ITS FALSE NEIGHBOUR: 'it returns false'. Refute it at one input. -/
def spileHeldWrong : ChangeSpec := { name := "spileHeld", fn := fun _ => fun
  | [d1, d2, d3, d4, d5, d6] => { results := [.lit (.bool false)], args := [d1, d2, d3, d4, d5, d6] }
  | _ => none }
def SpileHeldWrongFalsely : Prop := spileHeldRow.holds Tryz.pinned (OpenSpec.ofChange spileHeldWrong)

end Rows
end Go.Proofs.YthmnpenamnoniaaGreatDoor

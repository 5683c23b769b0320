/-
  NARROWER THAN 'FOR EVERY INPUT', by the rows' own cells (each row's printed sentence says how): SpileBoats: calm, laid · SpileBoards: calm, laid · SpileNews: calm, laid · SpileReached: calm, laid · SpileSlips: calm, laid · SpileShifts: calm, laid · SpileBroader: calm, laid · SpileLearnt: calm, laid · SpileClashes: calm, laid · SpileAsked: calm, laid · SpileOpened: calm, laid · SpileEnds: calm, laid · SpileGaps: calm, laid · SpileReal: calm, laid.
  DERIVED. THE GIVEN ROWS OF THIS SEAT. 14 by the template 'for every input the law returns true; each argument reads behind the call as it read before'; 0 by the template 'total and deterministic' (their statements: YtamdhefhhdgjbaaGreatDoorTotals.lean).
  GIVEN WITH THE SEED: the statements are not yours to turn. If you find one false, say at which input.
  Laid BY PROGRAM, IN A SANDBOX (cutbox-rows.mjs): the forced cells as the released guide's own fill.sh prints them over the translation dc9ef6b59934162b… (all of the seat's roots in one cut). By AI agents, Wed Nov 11 2026. No macro, syntax, notation, axiom, sorry.
-/
import Derived.Test.YtamdhefhhdgjbaaGreatDoorChecked
import GoSem.Claim
import GoSem.ClaimJoined
import GoSem.ClaimMapViews
import Derived.JoinedTies
import Derived.KernelRfl
namespace Go.Proofs.YtamdhefhhdgjbaaGreatDoor
/- THE CELL 'sum', in the pinned program and in every row, IS THE sha256 OF THE DUMP (.gsa) THAT YtamdhefhhdgjbaaGreatDoorProg.lean LOADS. Nothing in Lean hashes anything: it is a label: what it is worth is what the hold of that sum in a sandbox is worth. -/
noncomputable def Tryz.pinned : Pinned := { name := "ytamdhefhhdgjbaagreatdoor", sum := "dc9ef6b59934162b7f44ea179e073521f8cd261257c997f661d108ed94c9a961", checked := Tryz.checked }
namespace Rows
def none {H : Type} : Left H := { results := [], args := [] }

/- WHAT THE LISTED PACKAGE-LEVEL VARIABLES READ AS WHEN THE CALL BEGINS. Each datum BY PROGRAM (the guide's laid-datum.mjs) off the statement by which the dump's own 'gosem.cut.vars' lays the variable. In a bare row this is a premise. The card (YtamdhefhhdgjbaaGreatDoorCards.lean) ties it to the program's text. -/
def laid_ribband_spile_checks {H : Type} : DataW H := .iface "func table" (.agg [.iface "func" (.lit (.string [40, 114, 105, 98, 98, 97, 110, 100, 47, 115, 112, 105, 108, 101, 46, 98, 111, 111, 107, 41, 46, 99, 111, 109, 112, 97, 115, 115])), .iface "func" (.lit (.string [40, 114, 105, 98, 98, 97, 110, 100, 47, 115, 112, 105, 108, 101, 46, 98, 111, 111, 107, 41, 46, 112, 111, 105, 110, 116, 115])), .iface "func" (.lit (.string [40, 114, 105, 98, 98, 97, 110, 100, 47, 115, 112, 105, 108, 101, 46, 98, 111, 111, 107, 41, 46, 99, 104, 101, 99, 107, 101, 100]))])

/-- 'ribbandlaw07.SpileBoats': WHATEVER THE INPUT: true; the input reads as it did. -/
def spileBoatsSpec : ChangeSpec := { name := "spileBoats", fn := fun _ => fun
  | [d1, d2] => { results := [.lit (.bool true)], args := [d1, d2] }
  | _ => none }
def spileBoatsRow : OpenClaim := { program := "ytamdhefhhdgjbaagreatdoor", sum := "dc9ef6b59934162b7f44ea179e073521f8cd261257c997f661d108ed94c9a961", func := "ribband/ribbandlaw07.SpileBoats", spec := "spileBoats", inPlace := ["(*sync.WaitGroup).Add", "internal/race.ReleaseMerge", "internal/race.Disable", "internal/race.Enable", "internal/synctest.IsInBubble", "internal/synctest.Associate[sync.WaitGroup]", "sync.fatal", "sync/atomic.OrUint64", "sync/atomic.AddUint64", "internal/race.Read", "sync/atomic.LoadUint64", "sync/atomic.StoreUint64", "internal/synctest.Disassociate[sync.WaitGroup]", "sync.runtime_Semrelease", "(*sync.WaitGroup).Done", "(*internal/sync.Mutex).Lock", "sync/atomic.CompareAndSwapInt32", "internal/race.Acquire", "(*internal/sync.Mutex).lockSlow", "internal/sync.runtime_canSpin", "internal/sync.runtime_doSpin", "internal/sync.throw", "internal/sync.runtime_nanotime", "internal/sync.runtime_SemacquireMutex", "sync/atomic.AddInt32", "(*internal/sync.Mutex).Unlock", "(*internal/sync.Mutex).unlockSlow", "internal/sync.fatal", "internal/sync.runtime_Semrelease", "(*sync.WaitGroup).Wait", "internal/synctest.IsAssociated[sync.WaitGroup]", "sync/atomic.CompareAndSwapUint64", "internal/race.Write", "sync.runtime_SemacquireWaitGroup"], unfollowed := true, recurses := true, named := ["ribband/spile.checks"], plainKeys := false, leaving := true, apart := false, calm := true, outside := [.timePasses], laid := [("ribband/spile.checks", laid_ribband_spile_checks)] }
def SpileBoatsSaid : Prop := spileBoatsRow.holds Tryz.pinned (OpenSpec.ofChange spileBoatsSpec)

/-- ITS FALSE NEIGHBOUR: 'it returns false'. Refute it at one input. -/
def spileBoatsWrong : ChangeSpec := { name := "spileBoats", fn := fun _ => fun
  | [d1, d2] => { results := [.lit (.bool false)], args := [d1, d2] }
  | _ => none }
def SpileBoatsWrongFalsely : Prop := spileBoatsRow.holds Tryz.pinned (OpenSpec.ofChange spileBoatsWrong)

/-- 'ribbandlaw07.SpileBoards': WHATEVER THE INPUT: true; the input reads as it did. -/
def spileBoardsSpec : ChangeSpec := { name := "spileBoards", fn := fun _ => fun
  | [d] => { results := [.lit (.bool true)], args := [d] }
  | _ => none }
def spileBoardsRow : OpenClaim := { program := "ytamdhefhhdgjbaagreatdoor", sum := "dc9ef6b59934162b7f44ea179e073521f8cd261257c997f661d108ed94c9a961", func := "ribband/ribbandlaw07.SpileBoards", spec := "spileBoards", inPlace := ["(*sync.WaitGroup).Add", "internal/race.ReleaseMerge", "internal/race.Disable", "internal/race.Enable", "internal/synctest.IsInBubble", "internal/synctest.Associate[sync.WaitGroup]", "sync.fatal", "sync/atomic.OrUint64", "sync/atomic.AddUint64", "internal/race.Read", "sync/atomic.LoadUint64", "sync/atomic.StoreUint64", "internal/synctest.Disassociate[sync.WaitGroup]", "sync.runtime_Semrelease", "(*sync.WaitGroup).Done", "(*internal/sync.Mutex).Lock", "sync/atomic.CompareAndSwapInt32", "internal/race.Acquire", "(*internal/sync.Mutex).lockSlow", "internal/sync.runtime_canSpin", "internal/sync.runtime_doSpin", "internal/sync.throw", "internal/sync.runtime_nanotime", "internal/sync.runtime_SemacquireMutex", "sync/atomic.AddInt32", "(*internal/sync.Mutex).Unlock", "(*internal/sync.Mutex).unlockSlow", "internal/sync.fatal", "internal/sync.runtime_Semrelease", "(*sync.WaitGroup).Wait", "internal/synctest.IsAssociated[sync.WaitGroup]", "sync/atomic.CompareAndSwapUint64", "internal/race.Write", "sync.runtime_SemacquireWaitGroup"], unfollowed := true, recurses := true, named := ["ribband/spile.checks"], plainKeys := false, leaving := true, apart := false, calm := true, outside := [.timePasses], laid := [("ribband/spile.checks", laid_ribband_spile_checks)] }
def SpileBoardsSaid : Prop := spileBoardsRow.holds Tryz.pinned (OpenSpec.ofChange spileBoardsSpec)

/-- ITS FALSE NEIGHBOUR: 'it returns false'. Refute it at one input. -/
def spileBoardsWrong : ChangeSpec := { name := "spileBoards", fn := fun _ => fun
  | [d] => { results := [.lit (.bool false)], args := [d] }
  | _ => none }
def SpileBoardsWrongFalsely : Prop := spileBoardsRow.holds Tryz.pinned (OpenSpec.ofChange spileBoardsWrong)

/-- 'ribbandlaw07.SpileNews': WHATEVER THE INPUT: true; the input reads as it did. -/
def spileNewsSpec : ChangeSpec := { name := "spileNews", fn := fun _ => fun
  | [d1, d2, d3, d4, d5] => { results := [.lit (.bool true)], args := [d1, d2, d3, d4, d5] }
  | _ => none }
def spileNewsRow : OpenClaim := { program := "ytamdhefhhdgjbaagreatdoor", sum := "dc9ef6b59934162b7f44ea179e073521f8cd261257c997f661d108ed94c9a961", func := "ribband/ribbandlaw07.SpileNews", spec := "spileNews", inPlace := ["(*sync.WaitGroup).Add", "internal/race.ReleaseMerge", "internal/race.Disable", "internal/race.Enable", "internal/synctest.IsInBubble", "internal/synctest.Associate[sync.WaitGroup]", "sync.fatal", "sync/atomic.OrUint64", "sync/atomic.AddUint64", "internal/race.Read", "sync/atomic.LoadUint64", "sync/atomic.StoreUint64", "internal/synctest.Disassociate[sync.WaitGroup]", "sync.runtime_Semrelease", "(*sync.WaitGroup).Done", "(*internal/sync.Mutex).Lock", "sync/atomic.CompareAndSwapInt32", "internal/race.Acquire", "(*internal/sync.Mutex).lockSlow", "internal/sync.runtime_canSpin", "internal/sync.runtime_doSpin", "internal/sync.throw", "internal/sync.runtime_nanotime", "internal/sync.runtime_SemacquireMutex", "sync/atomic.AddInt32", "(*internal/sync.Mutex).Unlock", "(*internal/sync.Mutex).unlockSlow", "internal/sync.fatal", "internal/sync.runtime_Semrelease", "(*sync.WaitGroup).Wait", "internal/synctest.IsAssociated[sync.WaitGroup]", "sync/atomic.CompareAndSwapUint64", "internal/race.Write", "sync.runtime_SemacquireWaitGroup"], unfollowed := true, recurses := true, named := ["ribband/spile.checks"], plainKeys := false, leaving := true, apart := false, calm := true, outside := [.timePasses], laid := [("ribband/spile.checks", laid_ribband_spile_checks)] }
def SpileNewsSaid : Prop := spileNewsRow.holds Tryz.pinned (OpenSpec.ofChange spileNewsSpec)

/-- ITS FALSE NEIGHBOUR: 'it returns false'. Refute it at one input. -/
def spileNewsWrong : ChangeSpec := { name := "spileNews", fn := fun _ => fun
  | [d1, d2, d3, d4, d5] => { results := [.lit (.bool false)], args := [d1, d2, d3, d4, d5] }
  | _ => none }
def SpileNewsWrongFalsely : Prop := spileNewsRow.holds Tryz.pinned (OpenSpec.ofChange spileNewsWrong)

/-- 'ribbandlaw07.SpileReached': WHATEVER THE INPUT: true; the input reads as it did. -/
def spileReachedSpec : ChangeSpec := { name := "spileReached", fn := fun _ => fun
  | [d1, d2] => { results := [.lit (.bool true)], args := [d1, d2] }
  | _ => none }
def spileReachedRow : OpenClaim := { program := "ytamdhefhhdgjbaagreatdoor", sum := "dc9ef6b59934162b7f44ea179e073521f8cd261257c997f661d108ed94c9a961", func := "ribband/ribbandlaw07.SpileReached", spec := "spileReached", inPlace := ["(*sync.WaitGroup).Add", "internal/race.ReleaseMerge", "internal/race.Disable", "internal/race.Enable", "internal/synctest.IsInBubble", "internal/synctest.Associate[sync.WaitGroup]", "sync.fatal", "sync/atomic.OrUint64", "sync/atomic.AddUint64", "internal/race.Read", "sync/atomic.LoadUint64", "sync/atomic.StoreUint64", "internal/synctest.Disassociate[sync.WaitGroup]", "sync.runtime_Semrelease", "(*sync.WaitGroup).Done", "(*internal/sync.Mutex).Lock", "sync/atomic.CompareAndSwapInt32", "internal/race.Acquire", "(*internal/sync.Mutex).lockSlow", "internal/sync.runtime_canSpin", "internal/sync.runtime_doSpin", "internal/sync.throw", "internal/sync.runtime_nanotime", "internal/sync.runtime_SemacquireMutex", "sync/atomic.AddInt32", "(*internal/sync.Mutex).Unlock", "(*internal/sync.Mutex).unlockSlow", "internal/sync.fatal", "internal/sync.runtime_Semrelease", "(*sync.WaitGroup).Wait", "internal/synctest.IsAssociated[sync.WaitGroup]", "sync/atomic.CompareAndSwapUint64", "internal/race.Write", "sync.runtime_SemacquireWaitGroup"], unfollowed := true, recurses := true, named := ["ribband/spile.checks"], plainKeys := false, leaving := true, apart := false, calm := true, outside := [.timePasses], laid := [("ribband/spile.checks", laid_ribband_spile_checks)] }
def SpileReachedSaid : Prop := spileReachedRow.holds Tryz.pinned (OpenSpec.ofChange spileReachedSpec)

/-- ITS FALSE NEIGHBOUR: 'it returns false'. Refute it at one input. -/
def spileReachedWrong : ChangeSpec := { name := "spileReached", fn := fun _ => fun
  | [d1, d2] => { results := [.lit (.bool false)], args := [d1, d2] }
  | _ => none }
def SpileReachedWrongFalsely : Prop := spileReachedRow.holds Tryz.pinned (OpenSpec.ofChange spileReachedWrong)

/-- 'ribbandlaw07.SpileSlips': WHATEVER THE INPUT: true; the input reads as it did. -/
def spileSlipsSpec : ChangeSpec := { name := "spileSlips", fn := fun _ => fun
  | [d] => { results := [.lit (.bool true)], args := [d] }
  | _ => none }
def spileSlipsRow : OpenClaim := { program := "ytamdhefhhdgjbaagreatdoor", sum := "dc9ef6b59934162b7f44ea179e073521f8cd261257c997f661d108ed94c9a961", func := "ribband/ribbandlaw07.SpileSlips", spec := "spileSlips", inPlace := ["(*sync.WaitGroup).Add", "internal/race.ReleaseMerge", "internal/race.Disable", "internal/race.Enable", "internal/synctest.IsInBubble", "internal/synctest.Associate[sync.WaitGroup]", "sync.fatal", "sync/atomic.OrUint64", "sync/atomic.AddUint64", "internal/race.Read", "sync/atomic.LoadUint64", "sync/atomic.StoreUint64", "internal/synctest.Disassociate[sync.WaitGroup]", "sync.runtime_Semrelease", "(*sync.WaitGroup).Done", "(*internal/sync.Mutex).Lock", "sync/atomic.CompareAndSwapInt32", "internal/race.Acquire", "(*internal/sync.Mutex).lockSlow", "internal/sync.runtime_canSpin", "internal/sync.runtime_doSpin", "internal/sync.throw", "internal/sync.runtime_nanotime", "internal/sync.runtime_SemacquireMutex", "sync/atomic.AddInt32", "(*internal/sync.Mutex).Unlock", "(*internal/sync.Mutex).unlockSlow", "internal/sync.fatal", "internal/sync.runtime_Semrelease", "(*sync.WaitGroup).Wait", "internal/synctest.IsAssociated[sync.WaitGroup]", "sync/atomic.CompareAndSwapUint64", "internal/race.Write", "sync.runtime_SemacquireWaitGroup"], unfollowed := true, recurses := true, named := ["ribband/spile.checks"], plainKeys := false, leaving := true, apart := false, calm := true, outside := [.timePasses], laid := [("ribband/spile.checks", laid_ribband_spile_checks)] }
def SpileSlipsSaid : Prop := spileSlipsRow.holds Tryz.pinned (OpenSpec.ofChange spileSlipsSpec)

/-- ITS FALSE NEIGHBOUR: 'it returns false'. Refute it at one input. -/
def spileSlipsWrong : ChangeSpec := { name := "spileSlips", fn := fun _ => fun
  | [d] => { results := [.lit (.bool false)], args := [d] }
  | _ => none }
def SpileSlipsWrongFalsely : Prop := spileSlipsRow.holds Tryz.pinned (OpenSpec.ofChange spileSlipsWrong)

/-- 'ribbandlaw07.SpileShifts': WHATEVER THE INPUT: true; the input reads as it did. -/
def spileShiftsSpec : ChangeSpec := { name := "spileShifts", fn := fun _ => fun
  | [d1, d2, d3, d4] => { results := [.lit (.bool true)], args := [d1, d2, d3, d4] }
  | _ => none }
def spileShiftsRow : OpenClaim := { program := "ytamdhefhhdgjbaagreatdoor", sum := "dc9ef6b59934162b7f44ea179e073521f8cd261257c997f661d108ed94c9a961", func := "ribband/ribbandlaw07.SpileShifts", spec := "spileShifts", inPlace := ["(*sync.WaitGroup).Add", "internal/race.ReleaseMerge", "internal/race.Disable", "internal/race.Enable", "internal/synctest.IsInBubble", "internal/synctest.Associate[sync.WaitGroup]", "sync.fatal", "sync/atomic.OrUint64", "sync/atomic.AddUint64", "internal/race.Read", "sync/atomic.LoadUint64", "sync/atomic.StoreUint64", "internal/synctest.Disassociate[sync.WaitGroup]", "sync.runtime_Semrelease", "(*sync.WaitGroup).Done", "(*internal/sync.Mutex).Lock", "sync/atomic.CompareAndSwapInt32", "internal/race.Acquire", "(*internal/sync.Mutex).lockSlow", "internal/sync.runtime_canSpin", "internal/sync.runtime_doSpin", "internal/sync.throw", "internal/sync.runtime_nanotime", "internal/sync.runtime_SemacquireMutex", "sync/atomic.AddInt32", "(*internal/sync.Mutex).Unlock", "(*internal/sync.Mutex).unlockSlow", "internal/sync.fatal", "internal/sync.runtime_Semrelease", "(*sync.WaitGroup).Wait", "internal/synctest.IsAssociated[sync.WaitGroup]", "sync/atomic.CompareAndSwapUint64", "internal/race.Write", "sync.runtime_SemacquireWaitGroup"], unfollowed := true, recurses := true, named := ["ribband/spile.checks"], plainKeys := false, leaving := true, apart := false, calm := true, outside := [.timePasses], laid := [("ribband/spile.checks", laid_ribband_spile_checks)] }
def SpileShiftsSaid : Prop := spileShiftsRow.holds Tryz.pinned (OpenSpec.ofChange spileShiftsSpec)

/-- ITS FALSE NEIGHBOUR: 'it returns false'. Refute it at one input. -/
def spileShiftsWrong : ChangeSpec := { name := "spileShifts", fn := fun _ => fun
  | [d1, d2, d3, d4] => { results := [.lit (.bool false)], args := [d1, d2, d3, d4] }
  | _ => none }
def SpileShiftsWrongFalsely : Prop := spileShiftsRow.holds Tryz.pinned (OpenSpec.ofChange spileShiftsWrong)

/-- 'ribbandlaw07.SpileBroader': WHATEVER THE INPUT: true; the input reads as it did. -/
def spileBroaderSpec : ChangeSpec := { name := "spileBroader", fn := fun _ => fun
  | [d1, d2] => { results := [.lit (.bool true)], args := [d1, d2] }
  | _ => none }
def spileBroaderRow : OpenClaim := { program := "ytamdhefhhdgjbaagreatdoor", sum := "dc9ef6b59934162b7f44ea179e073521f8cd261257c997f661d108ed94c9a961", func := "ribband/ribbandlaw07.SpileBroader", spec := "spileBroader", inPlace := ["(*sync.WaitGroup).Add", "internal/race.ReleaseMerge", "internal/race.Disable", "internal/race.Enable", "internal/synctest.IsInBubble", "internal/synctest.Associate[sync.WaitGroup]", "sync.fatal", "sync/atomic.OrUint64", "sync/atomic.AddUint64", "internal/race.Read", "sync/atomic.LoadUint64", "sync/atomic.StoreUint64", "internal/synctest.Disassociate[sync.WaitGroup]", "sync.runtime_Semrelease", "(*sync.WaitGroup).Done", "(*internal/sync.Mutex).Lock", "sync/atomic.CompareAndSwapInt32", "internal/race.Acquire", "(*internal/sync.Mutex).lockSlow", "internal/sync.runtime_canSpin", "internal/sync.runtime_doSpin", "internal/sync.throw", "internal/sync.runtime_nanotime", "internal/sync.runtime_SemacquireMutex", "sync/atomic.AddInt32", "(*internal/sync.Mutex).Unlock", "(*internal/sync.Mutex).unlockSlow", "internal/sync.fatal", "internal/sync.runtime_Semrelease", "(*sync.WaitGroup).Wait", "internal/synctest.IsAssociated[sync.WaitGroup]", "sync/atomic.CompareAndSwapUint64", "internal/race.Write", "sync.runtime_SemacquireWaitGroup"], unfollowed := true, recurses := true, named := ["ribband/spile.checks"], plainKeys := false, leaving := true, apart := false, calm := true, outside := [.timePasses], laid := [("ribband/spile.checks", laid_ribband_spile_checks)] }
def SpileBroaderSaid : Prop := spileBroaderRow.holds Tryz.pinned (OpenSpec.ofChange spileBroaderSpec)

/-- ITS FALSE NEIGHBOUR: 'it returns false'. Refute it at one input. -/
def spileBroaderWrong : ChangeSpec := { name := "spileBroader", fn := fun _ => fun
  | [d1, d2] => { results := [.lit (.bool false)], args := [d1, d2] }
  | _ => none }
def SpileBroaderWrongFalsely : Prop := spileBroaderRow.holds Tryz.pinned (OpenSpec.ofChange spileBroaderWrong)

/-- 'ribbandlaw07.SpileLearnt': WHATEVER THE INPUT: true; the input reads as it did. -/
def spileLearntSpec : ChangeSpec := { name := "spileLearnt", fn := fun _ => fun
  | [d1, d2, d3, d4, d5, d6] => { results := [.lit (.bool true)], args := [d1, d2, d3, d4, d5, d6] }
  | _ => none }
def spileLearntRow : OpenClaim := { program := "ytamdhefhhdgjbaagreatdoor", sum := "dc9ef6b59934162b7f44ea179e073521f8cd261257c997f661d108ed94c9a961", func := "ribband/ribbandlaw07.SpileLearnt", spec := "spileLearnt", inPlace := ["(*sync.WaitGroup).Add", "internal/race.ReleaseMerge", "internal/race.Disable", "internal/race.Enable", "internal/synctest.IsInBubble", "internal/synctest.Associate[sync.WaitGroup]", "sync.fatal", "sync/atomic.OrUint64", "sync/atomic.AddUint64", "internal/race.Read", "sync/atomic.LoadUint64", "sync/atomic.StoreUint64", "internal/synctest.Disassociate[sync.WaitGroup]", "sync.runtime_Semrelease", "(*sync.WaitGroup).Done", "(*internal/sync.Mutex).Lock", "sync/atomic.CompareAndSwapInt32", "internal/race.Acquire", "(*internal/sync.Mutex).lockSlow", "internal/sync.runtime_canSpin", "internal/sync.runtime_doSpin", "internal/sync.throw", "internal/sync.runtime_nanotime", "internal/sync.runtime_SemacquireMutex", "sync/atomic.AddInt32", "(*internal/sync.Mutex).Unlock", "(*internal/sync.Mutex).unlockSlow", "internal/sync.fatal", "internal/sync.runtime_Semrelease", "(*sync.WaitGroup).Wait", "internal/synctest.IsAssociated[sync.WaitGroup]", "sync/atomic.CompareAndSwapUint64", "internal/race.Write", "sync.runtime_SemacquireWaitGroup"], unfollowed := true, recurses := true, named := ["ribband/spile.checks"], plainKeys := false, leaving := true, apart := false, calm := true, outside := [.timePasses], laid := [("ribband/spile.checks", laid_ribband_spile_checks)] }
def SpileLearntSaid : Prop := spileLearntRow.holds Tryz.pinned (OpenSpec.ofChange spileLearntSpec)

/-- ITS FALSE NEIGHBOUR: 'it returns false'. Refute it at one input. -/
def spileLearntWrong : ChangeSpec := { name := "spileLearnt", fn := fun _ => fun
  | [d1, d2, d3, d4, d5, d6] => { results := [.lit (.bool false)], args := [d1, d2, d3, d4, d5, d6] }
  | _ => none }
def SpileLearntWrongFalsely : Prop := spileLearntRow.holds Tryz.pinned (OpenSpec.ofChange spileLearntWrong)

/-- 'ribbandlaw07.SpileClashes': WHATEVER THE INPUT: true; the input reads as it did. -/
def spileClashesSpec : ChangeSpec := { name := "spileClashes", fn := fun _ => fun
  | [d1, d2] => { results := [.lit (.bool true)], args := [d1, d2] }
  | _ => none }
def spileClashesRow : OpenClaim := { program := "ytamdhefhhdgjbaagreatdoor", sum := "dc9ef6b59934162b7f44ea179e073521f8cd261257c997f661d108ed94c9a961", func := "ribband/ribbandlaw07.SpileClashes", spec := "spileClashes", inPlace := ["(*sync.WaitGroup).Add", "internal/race.ReleaseMerge", "internal/race.Disable", "internal/race.Enable", "internal/synctest.IsInBubble", "internal/synctest.Associate[sync.WaitGroup]", "sync.fatal", "sync/atomic.OrUint64", "sync/atomic.AddUint64", "internal/race.Read", "sync/atomic.LoadUint64", "sync/atomic.StoreUint64", "internal/synctest.Disassociate[sync.WaitGroup]", "sync.runtime_Semrelease", "(*sync.WaitGroup).Done", "(*internal/sync.Mutex).Lock", "sync/atomic.CompareAndSwapInt32", "internal/race.Acquire", "(*internal/sync.Mutex).lockSlow", "internal/sync.runtime_canSpin", "internal/sync.runtime_doSpin", "internal/sync.throw", "internal/sync.runtime_nanotime", "internal/sync.runtime_SemacquireMutex", "sync/atomic.AddInt32", "(*internal/sync.Mutex).Unlock", "(*internal/sync.Mutex).unlockSlow", "internal/sync.fatal", "internal/sync.runtime_Semrelease", "(*sync.WaitGroup).Wait", "internal/synctest.IsAssociated[sync.WaitGroup]", "sync/atomic.CompareAndSwapUint64", "internal/race.Write", "sync.runtime_SemacquireWaitGroup"], unfollowed := true, recurses := true, named := ["ribband/spile.checks"], plainKeys := false, leaving := true, apart := false, calm := true, outside := [.timePasses], laid := [("ribband/spile.checks", laid_ribband_spile_checks)] }
def SpileClashesSaid : Prop := spileClashesRow.holds Tryz.pinned (OpenSpec.ofChange spileClashesSpec)

/-- ITS FALSE NEIGHBOUR: 'it returns false'. Refute it at one input. -/
def spileClashesWrong : ChangeSpec := { name := "spileClashes", fn := fun _ => fun
  | [d1, d2] => { results := [.lit (.bool false)], args := [d1, d2] }
  | _ => none }
def SpileClashesWrongFalsely : Prop := spileClashesRow.holds Tryz.pinned (OpenSpec.ofChange spileClashesWrong)

/-- 'ribbandlaw07.SpileAsked': WHATEVER THE INPUT: true; the input reads as it did. -/
def spileAskedSpec : ChangeSpec := { name := "spileAsked", fn := fun _ => fun
  | [d1, d2] => { results := [.lit (.bool true)], args := [d1, d2] }
  | _ => none }
def spileAskedRow : OpenClaim := { program := "ytamdhefhhdgjbaagreatdoor", sum := "dc9ef6b59934162b7f44ea179e073521f8cd261257c997f661d108ed94c9a961", func := "ribband/ribbandlaw07.SpileAsked", spec := "spileAsked", inPlace := ["(*sync.WaitGroup).Add", "internal/race.ReleaseMerge", "internal/race.Disable", "internal/race.Enable", "internal/synctest.IsInBubble", "internal/synctest.Associate[sync.WaitGroup]", "sync.fatal", "sync/atomic.OrUint64", "sync/atomic.AddUint64", "internal/race.Read", "sync/atomic.LoadUint64", "sync/atomic.StoreUint64", "internal/synctest.Disassociate[sync.WaitGroup]", "sync.runtime_Semrelease", "(*sync.WaitGroup).Done", "(*internal/sync.Mutex).Lock", "sync/atomic.CompareAndSwapInt32", "internal/race.Acquire", "(*internal/sync.Mutex).lockSlow", "internal/sync.runtime_canSpin", "internal/sync.runtime_doSpin", "internal/sync.throw", "internal/sync.runtime_nanotime", "internal/sync.runtime_SemacquireMutex", "sync/atomic.AddInt32", "(*internal/sync.Mutex).Unlock", "(*internal/sync.Mutex).unlockSlow", "internal/sync.fatal", "internal/sync.runtime_Semrelease", "(*sync.WaitGroup).Wait", "internal/synctest.IsAssociated[sync.WaitGroup]", "sync/atomic.CompareAndSwapUint64", "internal/race.Write", "sync.runtime_SemacquireWaitGroup"], unfollowed := true, recurses := true, named := ["ribband/spile.checks"], plainKeys := false, leaving := true, apart := false, calm := true, outside := [.timePasses], laid := [("ribband/spile.checks", laid_ribband_spile_checks)] }
def SpileAskedSaid : Prop := spileAskedRow.holds Tryz.pinned (OpenSpec.ofChange spileAskedSpec)

/-- ITS FALSE NEIGHBOUR: 'it returns false'. Refute it at one input. -/
def spileAskedWrong : ChangeSpec := { name := "spileAsked", fn := fun _ => fun
  | [d1, d2] => { results := [.lit (.bool false)], args := [d1, d2] }
  | _ => none }
def SpileAskedWrongFalsely : Prop := spileAskedRow.holds Tryz.pinned (OpenSpec.ofChange spileAskedWrong)

/-- 'ribbandlaw07.SpileOpened': WHATEVER THE INPUT: true; the input reads as it did. -/
def spileOpenedSpec : ChangeSpec := { name := "spileOpened", fn := fun _ => fun
  | [d1, d2, d3, d4] => { results := [.lit (.bool true)], args := [d1, d2, d3, d4] }
  | _ => none }
def spileOpenedRow : OpenClaim := { program := "ytamdhefhhdgjbaagreatdoor", sum := "dc9ef6b59934162b7f44ea179e073521f8cd261257c997f661d108ed94c9a961", func := "ribband/ribbandlaw07.SpileOpened", spec := "spileOpened", inPlace := ["(*sync.WaitGroup).Add", "internal/race.ReleaseMerge", "internal/race.Disable", "internal/race.Enable", "internal/synctest.IsInBubble", "internal/synctest.Associate[sync.WaitGroup]", "sync.fatal", "sync/atomic.OrUint64", "sync/atomic.AddUint64", "internal/race.Read", "sync/atomic.LoadUint64", "sync/atomic.StoreUint64", "internal/synctest.Disassociate[sync.WaitGroup]", "sync.runtime_Semrelease", "(*sync.WaitGroup).Done", "(*internal/sync.Mutex).Lock", "sync/atomic.CompareAndSwapInt32", "internal/race.Acquire", "(*internal/sync.Mutex).lockSlow", "internal/sync.runtime_canSpin", "internal/sync.runtime_doSpin", "internal/sync.throw", "internal/sync.runtime_nanotime", "internal/sync.runtime_SemacquireMutex", "sync/atomic.AddInt32", "(*internal/sync.Mutex).Unlock", "(*internal/sync.Mutex).unlockSlow", "internal/sync.fatal", "internal/sync.runtime_Semrelease", "(*sync.WaitGroup).Wait", "internal/synctest.IsAssociated[sync.WaitGroup]", "sync/atomic.CompareAndSwapUint64", "internal/race.Write", "sync.runtime_SemacquireWaitGroup"], unfollowed := true, recurses := true, named := ["ribband/spile.checks"], plainKeys := false, leaving := true, apart := false, calm := true, outside := [.timePasses], laid := [("ribband/spile.checks", laid_ribband_spile_checks)] }
def SpileOpenedSaid : Prop := spileOpenedRow.holds Tryz.pinned (OpenSpec.ofChange spileOpenedSpec)

/-- ITS FALSE NEIGHBOUR: 'it returns false'. Refute it at one input. -/
def spileOpenedWrong : ChangeSpec := { name := "spileOpened", fn := fun _ => fun
  | [d1, d2, d3, d4] => { results := [.lit (.bool false)], args := [d1, d2, d3, d4] }
  | _ => none }
def SpileOpenedWrongFalsely : Prop := spileOpenedRow.holds Tryz.pinned (OpenSpec.ofChange spileOpenedWrong)

/-- 'ribbandlaw07.SpileEnds': WHATEVER THE INPUT: true; the input reads as it did. -/
def spileEndsSpec : ChangeSpec := { name := "spileEnds", fn := fun _ => fun
  | [d1, d2] => { results := [.lit (.bool true)], args := [d1, d2] }
  | _ => none }
def spileEndsRow : OpenClaim := { program := "ytamdhefhhdgjbaagreatdoor", sum := "dc9ef6b59934162b7f44ea179e073521f8cd261257c997f661d108ed94c9a961", func := "ribband/ribbandlaw07.SpileEnds", spec := "spileEnds", inPlace := ["(*sync.WaitGroup).Add", "internal/race.ReleaseMerge", "internal/race.Disable", "internal/race.Enable", "internal/synctest.IsInBubble", "internal/synctest.Associate[sync.WaitGroup]", "sync.fatal", "sync/atomic.OrUint64", "sync/atomic.AddUint64", "internal/race.Read", "sync/atomic.LoadUint64", "sync/atomic.StoreUint64", "internal/synctest.Disassociate[sync.WaitGroup]", "sync.runtime_Semrelease", "(*sync.WaitGroup).Done", "(*internal/sync.Mutex).Lock", "sync/atomic.CompareAndSwapInt32", "internal/race.Acquire", "(*internal/sync.Mutex).lockSlow", "internal/sync.runtime_canSpin", "internal/sync.runtime_doSpin", "internal/sync.throw", "internal/sync.runtime_nanotime", "internal/sync.runtime_SemacquireMutex", "sync/atomic.AddInt32", "(*internal/sync.Mutex).Unlock", "(*internal/sync.Mutex).unlockSlow", "internal/sync.fatal", "internal/sync.runtime_Semrelease", "(*sync.WaitGroup).Wait", "internal/synctest.IsAssociated[sync.WaitGroup]", "sync/atomic.CompareAndSwapUint64", "internal/race.Write", "sync.runtime_SemacquireWaitGroup"], unfollowed := true, recurses := true, named := ["ribband/spile.checks"], plainKeys := false, leaving := true, apart := false, calm := true, outside := [.timePasses], laid := [("ribband/spile.checks", laid_ribband_spile_checks)] }
def SpileEndsSaid : Prop := spileEndsRow.holds Tryz.pinned (OpenSpec.ofChange spileEndsSpec)

/-- ITS FALSE NEIGHBOUR: 'it returns false'. Refute it at one input. -/
def spileEndsWrong : ChangeSpec := { name := "spileEnds", fn := fun _ => fun
  | [d1, d2] => { results := [.lit (.bool false)], args := [d1, d2] }
  | _ => none }
def SpileEndsWrongFalsely : Prop := spileEndsRow.holds Tryz.pinned (OpenSpec.ofChange spileEndsWrong)

/-- 'ribbandlaw07.SpileGaps': WHATEVER THE INPUT: true; the input reads as it did. -/
def spileGapsSpec : ChangeSpec := { name := "spileGaps", fn := fun _ => fun
  | [d1, d2, d3, d4] => { results := [.lit (.bool true)], args := [d1, d2, d3, d4] }
  | _ => none }
def spileGapsRow : OpenClaim := { program := "ytamdhefhhdgjbaagreatdoor", sum := "dc9ef6b59934162b7f44ea179e073521f8cd261257c997f661d108ed94c9a961", func := "ribband/ribbandlaw07.SpileGaps", spec := "spileGaps", inPlace := ["(*sync.WaitGroup).Add", "internal/race.ReleaseMerge", "internal/race.Disable", "internal/race.Enable", "internal/synctest.IsInBubble", "internal/synctest.Associate[sync.WaitGroup]", "sync.fatal", "sync/atomic.OrUint64", "sync/atomic.AddUint64", "internal/race.Read", "sync/atomic.LoadUint64", "sync/atomic.StoreUint64", "internal/synctest.Disassociate[sync.WaitGroup]", "sync.runtime_Semrelease", "(*sync.WaitGroup).Done", "(*internal/sync.Mutex).Lock", "sync/atomic.CompareAndSwapInt32", "internal/race.Acquire", "(*internal/sync.Mutex).lockSlow", "internal/sync.runtime_canSpin", "internal/sync.runtime_doSpin", "internal/sync.throw", "internal/sync.runtime_nanotime", "internal/sync.runtime_SemacquireMutex", "sync/atomic.AddInt32", "(*internal/sync.Mutex).Unlock", "(*internal/sync.Mutex).unlockSlow", "internal/sync.fatal", "internal/sync.runtime_Semrelease", "(*sync.WaitGroup).Wait", "internal/synctest.IsAssociated[sync.WaitGroup]", "sync/atomic.CompareAndSwapUint64", "internal/race.Write", "sync.runtime_SemacquireWaitGroup"], unfollowed := true, recurses := true, named := ["ribband/spile.checks"], plainKeys := false, leaving := true, apart := false, calm := true, outside := [.timePasses], laid := [("ribband/spile.checks", laid_ribband_spile_checks)] }
def SpileGapsSaid : Prop := spileGapsRow.holds Tryz.pinned (OpenSpec.ofChange spileGapsSpec)

/-- ITS FALSE NEIGHBOUR: 'it returns false'. Refute it at one input. -/
def spileGapsWrong : ChangeSpec := { name := "spileGaps", fn := fun _ => fun
  | [d1, d2, d3, d4] => { results := [.lit (.bool false)], args := [d1, d2, d3, d4] }
  | _ => none }
def SpileGapsWrongFalsely : Prop := spileGapsRow.holds Tryz.pinned (OpenSpec.ofChange spileGapsWrong)

/-- 'ribbandlaw07.SpileReal': WHATEVER THE INPUT: true; the input reads as it did. -/
def spileRealSpec : ChangeSpec := { name := "spileReal", fn := fun _ => fun
  | [d1, d2, d3] => { results := [.lit (.bool true)], args := [d1, d2, d3] }
  | _ => none }
def spileRealRow : OpenClaim := { program := "ytamdhefhhdgjbaagreatdoor", sum := "dc9ef6b59934162b7f44ea179e073521f8cd261257c997f661d108ed94c9a961", func := "ribband/ribbandlaw07.SpileReal", spec := "spileReal", inPlace := ["(*sync.WaitGroup).Add", "internal/race.ReleaseMerge", "internal/race.Disable", "internal/race.Enable", "internal/synctest.IsInBubble", "internal/synctest.Associate[sync.WaitGroup]", "sync.fatal", "sync/atomic.OrUint64", "sync/atomic.AddUint64", "internal/race.Read", "sync/atomic.LoadUint64", "sync/atomic.StoreUint64", "internal/synctest.Disassociate[sync.WaitGroup]", "sync.runtime_Semrelease", "(*sync.WaitGroup).Done", "(*internal/sync.Mutex).Lock", "sync/atomic.CompareAndSwapInt32", "internal/race.Acquire", "(*internal/sync.Mutex).lockSlow", "internal/sync.runtime_canSpin", "internal/sync.runtime_doSpin", "internal/sync.throw", "internal/sync.runtime_nanotime", "internal/sync.runtime_SemacquireMutex", "sync/atomic.AddInt32", "(*internal/sync.Mutex).Unlock", "(*internal/sync.Mutex).unlockSlow", "internal/sync.fatal", "internal/sync.runtime_Semrelease", "(*sync.WaitGroup).Wait", "internal/synctest.IsAssociated[sync.WaitGroup]", "sync/atomic.CompareAndSwapUint64", "internal/race.Write", "sync.runtime_SemacquireWaitGroup"], unfollowed := true, recurses := true, named := ["ribband/spile.checks"], plainKeys := false, leaving := true, apart := false, calm := true, outside := [.timePasses], laid := [("ribband/spile.checks", laid_ribband_spile_checks)] }
def SpileRealSaid : Prop := spileRealRow.holds Tryz.pinned (OpenSpec.ofChange spileRealSpec)

/-- ITS FALSE NEIGHBOUR: 'it returns false'. Refute it at one input. -/
def spileRealWrong : ChangeSpec := { name := "spileReal", fn := fun _ => fun
  | [d1, d2, d3] => { results := [.lit (.bool false)], args := [d1, d2, d3] }
  | _ => none }
def SpileRealWrongFalsely : Prop := spileRealRow.holds Tryz.pinned (OpenSpec.ofChange spileRealWrong)

end Rows
end Go.Proofs.YtamdhefhhdgjbaaGreatDoor

/-
  NARROWER THAN 'FOR EVERY INPUT', by the rows' own cells (each row's printed sentence says how): SteamBoats: calm, laid · SteamPlans: calm, laid · SteamReached: calm, laid · SteamKept: calm, laid · SteamSingle: calm, laid · SteamCounted: calm, laid · SteamHands: calm, laid · SteamTide: calm, laid · SteamClashes: calm, laid · SteamAsked: calm, laid · SteamNews: calm, laid · SteamLearnt: calm, laid · SteamWorks: calm, laid · SteamReal: calm, laid.
  DERIVED. THE GIVEN ROWS OF THIS SEAT. 14 by the template 'for every input the law returns true; each argument reads behind the call as it read before'; 0 by the template 'total and deterministic' (their statements: YtlhomfgcibjccaaGreatDoorTotals.lean).
  GIVEN WITH THE SEED: the statements are not yours to turn. If you find one false, say at which input.
  Laid BY PROGRAM, IN A SANDBOX (cutbox-rows.mjs): the forced cells as the released guide's own fill.sh prints them over the translation 96555748c58bf56c… (all of the seat's roots in one cut). By AI agents, Wed Nov 11 2026. No macro, syntax, notation, axiom, sorry.
-/
import Derived.Test.YtlhomfgcibjccaaGreatDoorChecked
import GoSem.Claim
import GoSem.ClaimJoined
import GoSem.ClaimMapViews
import Derived.JoinedTies
import Derived.KernelRfl
namespace Go.Proofs.YtlhomfgcibjccaaGreatDoor
/- THE CELL 'sum', in the pinned program and in every row, IS THE sha256 OF THE DUMP (.gsa) THAT YtlhomfgcibjccaaGreatDoorProg.lean LOADS. Nothing in Lean hashes anything: it is a label: what it is worth is what the hold of that sum in a sandbox is worth. -/
noncomputable def Tryz.pinned : Pinned := { name := "ytlhomfgcibjccaagreatdoor", sum := "96555748c58bf56ceabcb6c0f9bd7e54774193d8516040c799a777d92977cc81", checked := Tryz.checked }
namespace Rows
def none {H : Type} : Left H := { results := [], args := [] }

/- WHAT THE LISTED PACKAGE-LEVEL VARIABLES READ AS WHEN THE CALL BEGINS. Each datum BY PROGRAM (the guide's laid-datum.mjs) off the statement by which the dump's own 'gosem.cut.vars' lays the variable. In a bare row this is a premise. The card (YtlhomfgcibjccaaGreatDoorCards.lean) ties it to the program's text. -/
def laid_ribband_steam_checks {H : Type} : DataW H := .iface "func table" (.agg [.iface "func" (.lit (.string [40, 114, 105, 98, 98, 97, 110, 100, 47, 115, 116, 101, 97, 109, 46, 98, 111, 111, 107, 41, 46, 121, 97, 114, 100])), .iface "func" (.lit (.string [40, 114, 105, 98, 98, 97, 110, 100, 47, 115, 116, 101, 97, 109, 46, 98, 111, 111, 107, 41, 46, 112, 108, 97, 110, 107, 115])), .iface "func" (.lit (.string [40, 114, 105, 98, 98, 97, 110, 100, 47, 115, 116, 101, 97, 109, 46, 98, 111, 111, 107, 41, 46, 110, 111, 116, 101, 115]))])
def laid_ribband_steam_first {H : Type} : DataW H := .iface "func table" (.agg [.iface "func" (.lit (.string [114, 105, 98, 98, 97, 110, 100, 47, 115, 116, 101, 97, 109, 46, 102, 105, 114, 115, 116, 36, 49]))])

/-- 'ribbandlaw09.SteamBoats': WHATEVER THE INPUT: true; the input reads as it did. -/
def steamBoatsSpec : ChangeSpec := { name := "steamBoats", fn := fun _ => fun
  | [d1, d2, d3] => { results := [.lit (.bool true)], args := [d1, d2, d3] }
  | _ => none }
def steamBoatsRow : OpenClaim := { program := "ytlhomfgcibjccaagreatdoor", sum := "96555748c58bf56ceabcb6c0f9bd7e54774193d8516040c799a777d92977cc81", func := "ribband/ribbandlaw09.SteamBoats", spec := "steamBoats", inPlace := ["(*sync.WaitGroup).Add", "internal/race.ReleaseMerge", "internal/race.Disable", "internal/race.Enable", "internal/synctest.IsInBubble", "internal/synctest.Associate[sync.WaitGroup]", "sync.fatal", "sync/atomic.OrUint64", "sync/atomic.AddUint64", "internal/race.Read", "sync/atomic.LoadUint64", "sync/atomic.StoreUint64", "internal/synctest.Disassociate[sync.WaitGroup]", "sync.runtime_Semrelease", "(*sync.WaitGroup).Done", "(*internal/sync.Mutex).Lock", "sync/atomic.CompareAndSwapInt32", "internal/race.Acquire", "(*internal/sync.Mutex).lockSlow", "internal/sync.runtime_canSpin", "internal/sync.runtime_doSpin", "internal/sync.throw", "internal/sync.runtime_nanotime", "internal/sync.runtime_SemacquireMutex", "sync/atomic.AddInt32", "(*internal/sync.Mutex).Unlock", "(*internal/sync.Mutex).unlockSlow", "internal/sync.fatal", "internal/sync.runtime_Semrelease", "(*sync.WaitGroup).Wait", "internal/synctest.IsAssociated[sync.WaitGroup]", "sync/atomic.CompareAndSwapUint64", "internal/race.Write", "sync.runtime_SemacquireWaitGroup"], unfollowed := true, recurses := true, named := ["ribband/steam.checks", "ribband/steam.first"], plainKeys := false, leaving := true, apart := false, calm := true, outside := [.timePasses], laid := [("ribband/steam.checks", laid_ribband_steam_checks), ("ribband/steam.first", laid_ribband_steam_first)] }
def SteamBoatsSaid : Prop := steamBoatsRow.holds Tryz.pinned (OpenSpec.ofChange steamBoatsSpec)

/-- ITS FALSE NEIGHBOUR: 'it returns false'. Refute it at one input. -/
def steamBoatsWrong : ChangeSpec := { name := "steamBoats", fn := fun _ => fun
  | [d1, d2, d3] => { results := [.lit (.bool false)], args := [d1, d2, d3] }
  | _ => none }
def SteamBoatsWrongFalsely : Prop := steamBoatsRow.holds Tryz.pinned (OpenSpec.ofChange steamBoatsWrong)

/-- 'ribbandlaw09.SteamPlans': WHATEVER THE INPUT: true; the input reads as it did. -/
def steamPlansSpec : ChangeSpec := { name := "steamPlans", fn := fun _ => fun
  | [d] => { results := [.lit (.bool true)], args := [d] }
  | _ => none }
def steamPlansRow : OpenClaim := { program := "ytlhomfgcibjccaagreatdoor", sum := "96555748c58bf56ceabcb6c0f9bd7e54774193d8516040c799a777d92977cc81", func := "ribband/ribbandlaw09.SteamPlans", spec := "steamPlans", inPlace := ["(*sync.WaitGroup).Add", "internal/race.ReleaseMerge", "internal/race.Disable", "internal/race.Enable", "internal/synctest.IsInBubble", "internal/synctest.Associate[sync.WaitGroup]", "sync.fatal", "sync/atomic.OrUint64", "sync/atomic.AddUint64", "internal/race.Read", "sync/atomic.LoadUint64", "sync/atomic.StoreUint64", "internal/synctest.Disassociate[sync.WaitGroup]", "sync.runtime_Semrelease", "(*sync.WaitGroup).Done", "(*internal/sync.Mutex).Lock", "sync/atomic.CompareAndSwapInt32", "internal/race.Acquire", "(*internal/sync.Mutex).lockSlow", "internal/sync.runtime_canSpin", "internal/sync.runtime_doSpin", "internal/sync.throw", "internal/sync.runtime_nanotime", "internal/sync.runtime_SemacquireMutex", "sync/atomic.AddInt32", "(*internal/sync.Mutex).Unlock", "(*internal/sync.Mutex).unlockSlow", "internal/sync.fatal", "internal/sync.runtime_Semrelease", "(*sync.WaitGroup).Wait", "internal/synctest.IsAssociated[sync.WaitGroup]", "sync/atomic.CompareAndSwapUint64", "internal/race.Write", "sync.runtime_SemacquireWaitGroup"], unfollowed := true, recurses := true, named := ["ribband/steam.checks", "ribband/steam.first"], plainKeys := false, leaving := true, apart := false, calm := true, outside := [.timePasses], laid := [("ribband/steam.checks", laid_ribband_steam_checks), ("ribband/steam.first", laid_ribband_steam_first)] }
def SteamPlansSaid : Prop := steamPlansRow.holds Tryz.pinned (OpenSpec.ofChange steamPlansSpec)

/-- ITS FALSE NEIGHBOUR: 'it returns false'. Refute it at one input. -/
def steamPlansWrong : ChangeSpec := { name := "steamPlans", fn := fun _ => fun
  | [d] => { results := [.lit (.bool false)], args := [d] }
  | _ => none }
def SteamPlansWrongFalsely : Prop := steamPlansRow.holds Tryz.pinned (OpenSpec.ofChange steamPlansWrong)

/-- 'ribbandlaw09.SteamReached': WHATEVER THE INPUT: true; the input reads as it did. -/
def steamReachedSpec : ChangeSpec := { name := "steamReached", fn := fun _ => fun
  | [d1, d2, d3] => { results := [.lit (.bool true)], args := [d1, d2, d3] }
  | _ => none }
def steamReachedRow : OpenClaim := { program := "ytlhomfgcibjccaagreatdoor", sum := "96555748c58bf56ceabcb6c0f9bd7e54774193d8516040c799a777d92977cc81", func := "ribband/ribbandlaw09.SteamReached", spec := "steamReached", inPlace := ["(*sync.WaitGroup).Add", "internal/race.ReleaseMerge", "internal/race.Disable", "internal/race.Enable", "internal/synctest.IsInBubble", "internal/synctest.Associate[sync.WaitGroup]", "sync.fatal", "sync/atomic.OrUint64", "sync/atomic.AddUint64", "internal/race.Read", "sync/atomic.LoadUint64", "sync/atomic.StoreUint64", "internal/synctest.Disassociate[sync.WaitGroup]", "sync.runtime_Semrelease", "(*sync.WaitGroup).Done", "(*internal/sync.Mutex).Lock", "sync/atomic.CompareAndSwapInt32", "internal/race.Acquire", "(*internal/sync.Mutex).lockSlow", "internal/sync.runtime_canSpin", "internal/sync.runtime_doSpin", "internal/sync.throw", "internal/sync.runtime_nanotime", "internal/sync.runtime_SemacquireMutex", "sync/atomic.AddInt32", "(*internal/sync.Mutex).Unlock", "(*internal/sync.Mutex).unlockSlow", "internal/sync.fatal", "internal/sync.runtime_Semrelease", "(*sync.WaitGroup).Wait", "internal/synctest.IsAssociated[sync.WaitGroup]", "sync/atomic.CompareAndSwapUint64", "internal/race.Write", "sync.runtime_SemacquireWaitGroup"], unfollowed := true, recurses := true, named := ["ribband/steam.checks", "ribband/steam.first"], plainKeys := false, leaving := true, apart := false, calm := true, outside := [.timePasses], laid := [("ribband/steam.checks", laid_ribband_steam_checks), ("ribband/steam.first", laid_ribband_steam_first)] }
def SteamReachedSaid : Prop := steamReachedRow.holds Tryz.pinned (OpenSpec.ofChange steamReachedSpec)

/-- ITS FALSE NEIGHBOUR: 'it returns false'. Refute it at one input. -/
def steamReachedWrong : ChangeSpec := { name := "steamReached", fn := fun _ => fun
  | [d1, d2, d3] => { results := [.lit (.bool false)], args := [d1, d2, d3] }
  | _ => none }
def SteamReachedWrongFalsely : Prop := steamReachedRow.holds Tryz.pinned (OpenSpec.ofChange steamReachedWrong)

/-- 'ribbandlaw09.SteamKept': WHATEVER THE INPUT: true; the input reads as it did. -/
def steamKeptSpec : ChangeSpec := { name := "steamKept", fn := fun _ => fun
  | [d1, d2, d3] => { results := [.lit (.bool true)], args := [d1, d2, d3] }
  | _ => none }
def steamKeptRow : OpenClaim := { program := "ytlhomfgcibjccaagreatdoor", sum := "96555748c58bf56ceabcb6c0f9bd7e54774193d8516040c799a777d92977cc81", func := "ribband/ribbandlaw09.SteamKept", spec := "steamKept", inPlace := ["(*sync.WaitGroup).Add", "internal/race.ReleaseMerge", "internal/race.Disable", "internal/race.Enable", "internal/synctest.IsInBubble", "internal/synctest.Associate[sync.WaitGroup]", "sync.fatal", "sync/atomic.OrUint64", "sync/atomic.AddUint64", "internal/race.Read", "sync/atomic.LoadUint64", "sync/atomic.StoreUint64", "internal/synctest.Disassociate[sync.WaitGroup]", "sync.runtime_Semrelease", "(*sync.WaitGroup).Done", "(*internal/sync.Mutex).Lock", "sync/atomic.CompareAndSwapInt32", "internal/race.Acquire", "(*internal/sync.Mutex).lockSlow", "internal/sync.runtime_canSpin", "internal/sync.runtime_doSpin", "internal/sync.throw", "internal/sync.runtime_nanotime", "internal/sync.runtime_SemacquireMutex", "sync/atomic.AddInt32", "(*internal/sync.Mutex).Unlock", "(*internal/sync.Mutex).unlockSlow", "internal/sync.fatal", "internal/sync.runtime_Semrelease", "(*sync.WaitGroup).Wait", "internal/synctest.IsAssociated[sync.WaitGroup]", "sync/atomic.CompareAndSwapUint64", "internal/race.Write", "sync.runtime_SemacquireWaitGroup"], unfollowed := true, recurses := true, named := ["ribband/steam.checks", "ribband/steam.first"], plainKeys := false, leaving := true, apart := false, calm := true, outside := [.timePasses], laid := [("ribband/steam.checks", laid_ribband_steam_checks), ("ribband/steam.first", laid_ribband_steam_first)] }
def SteamKeptSaid : Prop := steamKeptRow.holds Tryz.pinned (OpenSpec.ofChange steamKeptSpec)

/-- ITS FALSE NEIGHBOUR: 'it returns false'. Refute it at one input. -/
def steamKeptWrong : ChangeSpec := { name := "steamKept", fn := fun _ => fun
  | [d1, d2, d3] => { results := [.lit (.bool false)], args := [d1, d2, d3] }
  | _ => none }
def SteamKeptWrongFalsely : Prop := steamKeptRow.holds Tryz.pinned (OpenSpec.ofChange steamKeptWrong)

/-- 'ribbandlaw09.SteamSingle': WHATEVER THE INPUT: true; the input reads as it did. -/
def steamSingleSpec : ChangeSpec := { name := "steamSingle", fn := fun _ => fun
  | [d1, d2, d3] => { results := [.lit (.bool true)], args := [d1, d2, d3] }
  | _ => none }
def steamSingleRow : OpenClaim := { program := "ytlhomfgcibjccaagreatdoor", sum := "96555748c58bf56ceabcb6c0f9bd7e54774193d8516040c799a777d92977cc81", func := "ribband/ribbandlaw09.SteamSingle", spec := "steamSingle", inPlace := ["(*sync.WaitGroup).Add", "internal/race.ReleaseMerge", "internal/race.Disable", "internal/race.Enable", "internal/synctest.IsInBubble", "internal/synctest.Associate[sync.WaitGroup]", "sync.fatal", "sync/atomic.OrUint64", "sync/atomic.AddUint64", "internal/race.Read", "sync/atomic.LoadUint64", "sync/atomic.StoreUint64", "internal/synctest.Disassociate[sync.WaitGroup]", "sync.runtime_Semrelease", "(*sync.WaitGroup).Done", "(*internal/sync.Mutex).Lock", "sync/atomic.CompareAndSwapInt32", "internal/race.Acquire", "(*internal/sync.Mutex).lockSlow", "internal/sync.runtime_canSpin", "internal/sync.runtime_doSpin", "internal/sync.throw", "internal/sync.runtime_nanotime", "internal/sync.runtime_SemacquireMutex", "sync/atomic.AddInt32", "(*internal/sync.Mutex).Unlock", "(*internal/sync.Mutex).unlockSlow", "internal/sync.fatal", "internal/sync.runtime_Semrelease", "(*sync.WaitGroup).Wait", "internal/synctest.IsAssociated[sync.WaitGroup]", "sync/atomic.CompareAndSwapUint64", "internal/race.Write", "sync.runtime_SemacquireWaitGroup"], unfollowed := true, recurses := true, named := ["ribband/steam.checks", "ribband/steam.first"], plainKeys := false, leaving := true, apart := false, calm := true, outside := [.timePasses], laid := [("ribband/steam.checks", laid_ribband_steam_checks), ("ribband/steam.first", laid_ribband_steam_first)] }
def SteamSingleSaid : Prop := steamSingleRow.holds Tryz.pinned (OpenSpec.ofChange steamSingleSpec)

/-- ITS FALSE NEIGHBOUR: 'it returns false'. Refute it at one input. -/
def steamSingleWrong : ChangeSpec := { name := "steamSingle", fn := fun _ => fun
  | [d1, d2, d3] => { results := [.lit (.bool false)], args := [d1, d2, d3] }
  | _ => none }
def SteamSingleWrongFalsely : Prop := steamSingleRow.holds Tryz.pinned (OpenSpec.ofChange steamSingleWrong)

/-- 'ribbandlaw09.SteamCounted': WHATEVER THE INPUT: true; the input reads as it did. -/
def steamCountedSpec : ChangeSpec := { name := "steamCounted", fn := fun _ => fun
  | [d] => { results := [.lit (.bool true)], args := [d] }
  | _ => none }
def steamCountedRow : OpenClaim := { program := "ytlhomfgcibjccaagreatdoor", sum := "96555748c58bf56ceabcb6c0f9bd7e54774193d8516040c799a777d92977cc81", func := "ribband/ribbandlaw09.SteamCounted", spec := "steamCounted", inPlace := ["(*sync.WaitGroup).Add", "internal/race.ReleaseMerge", "internal/race.Disable", "internal/race.Enable", "internal/synctest.IsInBubble", "internal/synctest.Associate[sync.WaitGroup]", "sync.fatal", "sync/atomic.OrUint64", "sync/atomic.AddUint64", "internal/race.Read", "sync/atomic.LoadUint64", "sync/atomic.StoreUint64", "internal/synctest.Disassociate[sync.WaitGroup]", "sync.runtime_Semrelease", "(*sync.WaitGroup).Done", "(*internal/sync.Mutex).Lock", "sync/atomic.CompareAndSwapInt32", "internal/race.Acquire", "(*internal/sync.Mutex).lockSlow", "internal/sync.runtime_canSpin", "internal/sync.runtime_doSpin", "internal/sync.throw", "internal/sync.runtime_nanotime", "internal/sync.runtime_SemacquireMutex", "sync/atomic.AddInt32", "(*internal/sync.Mutex).Unlock", "(*internal/sync.Mutex).unlockSlow", "internal/sync.fatal", "internal/sync.runtime_Semrelease", "(*sync.WaitGroup).Wait", "internal/synctest.IsAssociated[sync.WaitGroup]", "sync/atomic.CompareAndSwapUint64", "internal/race.Write", "sync.runtime_SemacquireWaitGroup"], unfollowed := true, recurses := true, named := ["ribband/steam.checks", "ribband/steam.first"], plainKeys := false, leaving := true, apart := false, calm := true, outside := [.timePasses], laid := [("ribband/steam.checks", laid_ribband_steam_checks), ("ribband/steam.first", laid_ribband_steam_first)] }
def SteamCountedSaid : Prop := steamCountedRow.holds Tryz.pinned (OpenSpec.ofChange steamCountedSpec)

/-- ITS FALSE NEIGHBOUR: 'it returns false'. Refute it at one input. -/
def steamCountedWrong : ChangeSpec := { name := "steamCounted", fn := fun _ => fun
  | [d] => { results := [.lit (.bool false)], args := [d] }
  | _ => none }
def SteamCountedWrongFalsely : Prop := steamCountedRow.holds Tryz.pinned (OpenSpec.ofChange steamCountedWrong)

/-- 'ribbandlaw09.SteamHands': WHATEVER THE INPUT: true; the input reads as it did. -/
def steamHandsSpec : ChangeSpec := { name := "steamHands", fn := fun _ => fun
  | [d1, d2] => { results := [.lit (.bool true)], args := [d1, d2] }
  | _ => none }
def steamHandsRow : OpenClaim := { program := "ytlhomfgcibjccaagreatdoor", sum := "96555748c58bf56ceabcb6c0f9bd7e54774193d8516040c799a777d92977cc81", func := "ribband/ribbandlaw09.SteamHands", spec := "steamHands", inPlace := ["(*sync.WaitGroup).Add", "internal/race.ReleaseMerge", "internal/race.Disable", "internal/race.Enable", "internal/synctest.IsInBubble", "internal/synctest.Associate[sync.WaitGroup]", "sync.fatal", "sync/atomic.OrUint64", "sync/atomic.AddUint64", "internal/race.Read", "sync/atomic.LoadUint64", "sync/atomic.StoreUint64", "internal/synctest.Disassociate[sync.WaitGroup]", "sync.runtime_Semrelease", "(*sync.WaitGroup).Done", "(*internal/sync.Mutex).Lock", "sync/atomic.CompareAndSwapInt32", "internal/race.Acquire", "(*internal/sync.Mutex).lockSlow", "internal/sync.runtime_canSpin", "internal/sync.runtime_doSpin", "internal/sync.throw", "internal/sync.runtime_nanotime", "internal/sync.runtime_SemacquireMutex", "sync/atomic.AddInt32", "(*internal/sync.Mutex).Unlock", "(*internal/sync.Mutex).unlockSlow", "internal/sync.fatal", "internal/sync.runtime_Semrelease", "(*sync.WaitGroup).Wait", "internal/synctest.IsAssociated[sync.WaitGroup]", "sync/atomic.CompareAndSwapUint64", "internal/race.Write", "sync.runtime_SemacquireWaitGroup"], unfollowed := true, recurses := true, named := ["ribband/steam.checks", "ribband/steam.first"], plainKeys := false, leaving := true, apart := false, calm := true, outside := [.timePasses], laid := [("ribband/steam.checks", laid_ribband_steam_checks), ("ribband/steam.first", laid_ribband_steam_first)] }
def SteamHandsSaid : Prop := steamHandsRow.holds Tryz.pinned (OpenSpec.ofChange steamHandsSpec)

/-- ITS FALSE NEIGHBOUR: 'it returns false'. Refute it at one input. -/
def steamHandsWrong : ChangeSpec := { name := "steamHands", fn := fun _ => fun
  | [d1, d2] => { results := [.lit (.bool false)], args := [d1, d2] }
  | _ => none }
def SteamHandsWrongFalsely : Prop := steamHandsRow.holds Tryz.pinned (OpenSpec.ofChange steamHandsWrong)

/-- 'ribbandlaw09.SteamTide': WHATEVER THE INPUT: true; the input reads as it did. -/
def steamTideSpec : ChangeSpec := { name := "steamTide", fn := fun _ => fun
  | [d1, d2, d3, d4] => { results := [.lit (.bool true)], args := [d1, d2, d3, d4] }
  | _ => none }
def steamTideRow : OpenClaim := { program := "ytlhomfgcibjccaagreatdoor", sum := "96555748c58bf56ceabcb6c0f9bd7e54774193d8516040c799a777d92977cc81", func := "ribband/ribbandlaw09.SteamTide", spec := "steamTide", inPlace := ["(*sync.WaitGroup).Add", "internal/race.ReleaseMerge", "internal/race.Disable", "internal/race.Enable", "internal/synctest.IsInBubble", "internal/synctest.Associate[sync.WaitGroup]", "sync.fatal", "sync/atomic.OrUint64", "sync/atomic.AddUint64", "internal/race.Read", "sync/atomic.LoadUint64", "sync/atomic.StoreUint64", "internal/synctest.Disassociate[sync.WaitGroup]", "sync.runtime_Semrelease", "(*sync.WaitGroup).Done", "(*internal/sync.Mutex).Lock", "sync/atomic.CompareAndSwapInt32", "internal/race.Acquire", "(*internal/sync.Mutex).lockSlow", "internal/sync.runtime_canSpin", "internal/sync.runtime_doSpin", "internal/sync.throw", "internal/sync.runtime_nanotime", "internal/sync.runtime_SemacquireMutex", "sync/atomic.AddInt32", "(*internal/sync.Mutex).Unlock", "(*internal/sync.Mutex).unlockSlow", "internal/sync.fatal", "internal/sync.runtime_Semrelease", "(*sync.WaitGroup).Wait", "internal/synctest.IsAssociated[sync.WaitGroup]", "sync/atomic.CompareAndSwapUint64", "internal/race.Write", "sync.runtime_SemacquireWaitGroup"], unfollowed := true, recurses := true, named := ["ribband/steam.checks", "ribband/steam.first"], plainKeys := false, leaving := true, apart := false, calm := true, outside := [.timePasses], laid := [("ribband/steam.checks", laid_ribband_steam_checks), ("ribband/steam.first", laid_ribband_steam_first)] }
def SteamTideSaid : Prop := steamTideRow.holds Tryz.pinned (OpenSpec.ofChange steamTideSpec)

/-- ITS FALSE NEIGHBOUR: 'it returns false'. Refute it at one input. -/
def steamTideWrong : ChangeSpec := { name := "steamTide", fn := fun _ => fun
  | [d1, d2, d3, d4] => { results := [.lit (.bool false)], args := [d1, d2, d3, d4] }
  | _ => none }
def SteamTideWrongFalsely : Prop := steamTideRow.holds Tryz.pinned (OpenSpec.ofChange steamTideWrong)

/-- 'ribbandlaw09.SteamClashes': WHATEVER THE INPUT: true; the input reads as it did. -/
def steamClashesSpec : ChangeSpec := { name := "steamClashes", fn := fun _ => fun
  | [d1, d2] => { results := [.lit (.bool true)], args := [d1, d2] }
  | _ => none }
def steamClashesRow : OpenClaim := { program := "ytlhomfgcibjccaagreatdoor", sum := "96555748c58bf56ceabcb6c0f9bd7e54774193d8516040c799a777d92977cc81", func := "ribband/ribbandlaw09.SteamClashes", spec := "steamClashes", inPlace := ["(*sync.WaitGroup).Add", "internal/race.ReleaseMerge", "internal/race.Disable", "internal/race.Enable", "internal/synctest.IsInBubble", "internal/synctest.Associate[sync.WaitGroup]", "sync.fatal", "sync/atomic.OrUint64", "sync/atomic.AddUint64", "internal/race.Read", "sync/atomic.LoadUint64", "sync/atomic.StoreUint64", "internal/synctest.Disassociate[sync.WaitGroup]", "sync.runtime_Semrelease", "(*sync.WaitGroup).Done", "(*internal/sync.Mutex).Lock", "sync/atomic.CompareAndSwapInt32", "internal/race.Acquire", "(*internal/sync.Mutex).lockSlow", "internal/sync.runtime_canSpin", "internal/sync.runtime_doSpin", "internal/sync.throw", "internal/sync.runtime_nanotime", "internal/sync.runtime_SemacquireMutex", "sync/atomic.AddInt32", "(*internal/sync.Mutex).Unlock", "(*internal/sync.Mutex).unlockSlow", "internal/sync.fatal", "internal/sync.runtime_Semrelease", "(*sync.WaitGroup).Wait", "internal/synctest.IsAssociated[sync.WaitGroup]", "sync/atomic.CompareAndSwapUint64", "internal/race.Write", "sync.runtime_SemacquireWaitGroup"], unfollowed := true, recurses := true, named := ["ribband/steam.checks", "ribband/steam.first"], plainKeys := false, leaving := true, apart := false, calm := true, outside := [.timePasses], laid := [("ribband/steam.checks", laid_ribband_steam_checks), ("ribband/steam.first", laid_ribband_steam_first)] }
def SteamClashesSaid : Prop := steamClashesRow.holds Tryz.pinned (OpenSpec.ofChange steamClashesSpec)

/-- ITS FALSE NEIGHBOUR: 'it returns false'. Refute it at one input. -/
def steamClashesWrong : ChangeSpec := { name := "steamClashes", fn := fun _ => fun
  | [d1, d2] => { results := [.lit (.bool false)], args := [d1, d2] }
  | _ => none }
def SteamClashesWrongFalsely : Prop := steamClashesRow.holds Tryz.pinned (OpenSpec.ofChange steamClashesWrong)

/-- 'ribbandlaw09.SteamAsked': WHATEVER THE INPUT: true; the input reads as it did. -/
def steamAskedSpec : ChangeSpec := { name := "steamAsked", fn := fun _ => fun
  | [d1, d2] => { results := [.lit (.bool true)], args := [d1, d2] }
  | _ => none }
def steamAskedRow : OpenClaim := { program := "ytlhomfgcibjccaagreatdoor", sum := "96555748c58bf56ceabcb6c0f9bd7e54774193d8516040c799a777d92977cc81", func := "ribband/ribbandlaw09.SteamAsked", spec := "steamAsked", inPlace := ["(*sync.WaitGroup).Add", "internal/race.ReleaseMerge", "internal/race.Disable", "internal/race.Enable", "internal/synctest.IsInBubble", "internal/synctest.Associate[sync.WaitGroup]", "sync.fatal", "sync/atomic.OrUint64", "sync/atomic.AddUint64", "internal/race.Read", "sync/atomic.LoadUint64", "sync/atomic.StoreUint64", "internal/synctest.Disassociate[sync.WaitGroup]", "sync.runtime_Semrelease", "(*sync.WaitGroup).Done", "(*internal/sync.Mutex).Lock", "sync/atomic.CompareAndSwapInt32", "internal/race.Acquire", "(*internal/sync.Mutex).lockSlow", "internal/sync.runtime_canSpin", "internal/sync.runtime_doSpin", "internal/sync.throw", "internal/sync.runtime_nanotime", "internal/sync.runtime_SemacquireMutex", "sync/atomic.AddInt32", "(*internal/sync.Mutex).Unlock", "(*internal/sync.Mutex).unlockSlow", "internal/sync.fatal", "internal/sync.runtime_Semrelease", "(*sync.WaitGroup).Wait", "internal/synctest.IsAssociated[sync.WaitGroup]", "sync/atomic.CompareAndSwapUint64", "internal/race.Write", "sync.runtime_SemacquireWaitGroup"], unfollowed := true, recurses := true, named := ["ribband/steam.checks", "ribband/steam.first"], plainKeys := false, leaving := true, apart := false, calm := true, outside := [.timePasses], laid := [("ribband/steam.checks", laid_ribband_steam_checks), ("ribband/steam.first", laid_ribband_steam_first)] }
def SteamAskedSaid : Prop := steamAskedRow.holds Tryz.pinned (OpenSpec.ofChange steamAskedSpec)

/-- ITS FALSE NEIGHBOUR: 'it returns false'. Refute it at one input. -/
def steamAskedWrong : ChangeSpec := { name := "steamAsked", fn := fun _ => fun
  | [d1, d2] => { results := [.lit (.bool false)], args := [d1, d2] }
  | _ => none }
def SteamAskedWrongFalsely : Prop := steamAskedRow.holds Tryz.pinned (OpenSpec.ofChange steamAskedWrong)

/-- 'ribbandlaw09.SteamNews': WHATEVER THE INPUT: true; the input reads as it did. -/
def steamNewsSpec : ChangeSpec := { name := "steamNews", fn := fun _ => fun
  | [d1, d2, d3, d4] => { results := [.lit (.bool true)], args := [d1, d2, d3, d4] }
  | _ => none }
def steamNewsRow : OpenClaim := { program := "ytlhomfgcibjccaagreatdoor", sum := "96555748c58bf56ceabcb6c0f9bd7e54774193d8516040c799a777d92977cc81", func := "ribband/ribbandlaw09.SteamNews", spec := "steamNews", inPlace := ["(*sync.WaitGroup).Add", "internal/race.ReleaseMerge", "internal/race.Disable", "internal/race.Enable", "internal/synctest.IsInBubble", "internal/synctest.Associate[sync.WaitGroup]", "sync.fatal", "sync/atomic.OrUint64", "sync/atomic.AddUint64", "internal/race.Read", "sync/atomic.LoadUint64", "sync/atomic.StoreUint64", "internal/synctest.Disassociate[sync.WaitGroup]", "sync.runtime_Semrelease", "(*sync.WaitGroup).Done", "(*internal/sync.Mutex).Lock", "sync/atomic.CompareAndSwapInt32", "internal/race.Acquire", "(*internal/sync.Mutex).lockSlow", "internal/sync.runtime_canSpin", "internal/sync.runtime_doSpin", "internal/sync.throw", "internal/sync.runtime_nanotime", "internal/sync.runtime_SemacquireMutex", "sync/atomic.AddInt32", "(*internal/sync.Mutex).Unlock", "(*internal/sync.Mutex).unlockSlow", "internal/sync.fatal", "internal/sync.runtime_Semrelease", "(*sync.WaitGroup).Wait", "internal/synctest.IsAssociated[sync.WaitGroup]", "sync/atomic.CompareAndSwapUint64", "internal/race.Write", "sync.runtime_SemacquireWaitGroup"], unfollowed := true, recurses := true, named := ["ribband/steam.checks", "ribband/steam.first"], plainKeys := false, leaving := true, apart := false, calm := true, outside := [.timePasses], laid := [("ribband/steam.checks", laid_ribband_steam_checks), ("ribband/steam.first", laid_ribband_steam_first)] }
def SteamNewsSaid : Prop := steamNewsRow.holds Tryz.pinned (OpenSpec.ofChange steamNewsSpec)

/-- ITS FALSE NEIGHBOUR: 'it returns false'. Refute it at one input. -/
def steamNewsWrong : ChangeSpec := { name := "steamNews", fn := fun _ => fun
  | [d1, d2, d3, d4] => { results := [.lit (.bool false)], args := [d1, d2, d3, d4] }
  | _ => none }
def SteamNewsWrongFalsely : Prop := steamNewsRow.holds Tryz.pinned (OpenSpec.ofChange steamNewsWrong)

/-- 'ribbandlaw09.SteamLearnt': WHATEVER THE INPUT: true; the input reads as it did. -/
def steamLearntSpec : ChangeSpec := { name := "steamLearnt", fn := fun _ => fun
  | [d1, d2, d3, d4, d5, d6] => { results := [.lit (.bool true)], args := [d1, d2, d3, d4, d5, d6] }
  | _ => none }
def steamLearntRow : OpenClaim := { program := "ytlhomfgcibjccaagreatdoor", sum := "96555748c58bf56ceabcb6c0f9bd7e54774193d8516040c799a777d92977cc81", func := "ribband/ribbandlaw09.SteamLearnt", spec := "steamLearnt", inPlace := ["(*sync.WaitGroup).Add", "internal/race.ReleaseMerge", "internal/race.Disable", "internal/race.Enable", "internal/synctest.IsInBubble", "internal/synctest.Associate[sync.WaitGroup]", "sync.fatal", "sync/atomic.OrUint64", "sync/atomic.AddUint64", "internal/race.Read", "sync/atomic.LoadUint64", "sync/atomic.StoreUint64", "internal/synctest.Disassociate[sync.WaitGroup]", "sync.runtime_Semrelease", "(*sync.WaitGroup).Done", "(*internal/sync.Mutex).Lock", "sync/atomic.CompareAndSwapInt32", "internal/race.Acquire", "(*internal/sync.Mutex).lockSlow", "internal/sync.runtime_canSpin", "internal/sync.runtime_doSpin", "internal/sync.throw", "internal/sync.runtime_nanotime", "internal/sync.runtime_SemacquireMutex", "sync/atomic.AddInt32", "(*internal/sync.Mutex).Unlock", "(*internal/sync.Mutex).unlockSlow", "internal/sync.fatal", "internal/sync.runtime_Semrelease", "(*sync.WaitGroup).Wait", "internal/synctest.IsAssociated[sync.WaitGroup]", "sync/atomic.CompareAndSwapUint64", "internal/race.Write", "sync.runtime_SemacquireWaitGroup"], unfollowed := true, recurses := true, named := ["ribband/steam.checks", "ribband/steam.first"], plainKeys := false, leaving := true, apart := false, calm := true, outside := [.timePasses], laid := [("ribband/steam.checks", laid_ribband_steam_checks), ("ribband/steam.first", laid_ribband_steam_first)] }
def SteamLearntSaid : Prop := steamLearntRow.holds Tryz.pinned (OpenSpec.ofChange steamLearntSpec)

/-- ITS FALSE NEIGHBOUR: 'it returns false'. Refute it at one input. -/
def steamLearntWrong : ChangeSpec := { name := "steamLearnt", fn := fun _ => fun
  | [d1, d2, d3, d4, d5, d6] => { results := [.lit (.bool false)], args := [d1, d2, d3, d4, d5, d6] }
  | _ => none }
def SteamLearntWrongFalsely : Prop := steamLearntRow.holds Tryz.pinned (OpenSpec.ofChange steamLearntWrong)

/-- 'ribbandlaw09.SteamWorks': WHATEVER THE INPUT: true; the input reads as it did. -/
def steamWorksSpec : ChangeSpec := { name := "steamWorks", fn := fun _ => fun
  | [d1, d2, d3] => { results := [.lit (.bool true)], args := [d1, d2, d3] }
  | _ => none }
def steamWorksRow : OpenClaim := { program := "ytlhomfgcibjccaagreatdoor", sum := "96555748c58bf56ceabcb6c0f9bd7e54774193d8516040c799a777d92977cc81", func := "ribband/ribbandlaw09.SteamWorks", spec := "steamWorks", inPlace := ["(*sync.WaitGroup).Add", "internal/race.ReleaseMerge", "internal/race.Disable", "internal/race.Enable", "internal/synctest.IsInBubble", "internal/synctest.Associate[sync.WaitGroup]", "sync.fatal", "sync/atomic.OrUint64", "sync/atomic.AddUint64", "internal/race.Read", "sync/atomic.LoadUint64", "sync/atomic.StoreUint64", "internal/synctest.Disassociate[sync.WaitGroup]", "sync.runtime_Semrelease", "(*sync.WaitGroup).Done", "(*internal/sync.Mutex).Lock", "sync/atomic.CompareAndSwapInt32", "internal/race.Acquire", "(*internal/sync.Mutex).lockSlow", "internal/sync.runtime_canSpin", "internal/sync.runtime_doSpin", "internal/sync.throw", "internal/sync.runtime_nanotime", "internal/sync.runtime_SemacquireMutex", "sync/atomic.AddInt32", "(*internal/sync.Mutex).Unlock", "(*internal/sync.Mutex).unlockSlow", "internal/sync.fatal", "internal/sync.runtime_Semrelease", "(*sync.WaitGroup).Wait", "internal/synctest.IsAssociated[sync.WaitGroup]", "sync/atomic.CompareAndSwapUint64", "internal/race.Write", "sync.runtime_SemacquireWaitGroup"], unfollowed := true, recurses := true, named := ["ribband/steam.checks", "ribband/steam.first"], plainKeys := false, leaving := true, apart := false, calm := true, outside := [.timePasses], laid := [("ribband/steam.checks", laid_ribband_steam_checks), ("ribband/steam.first", laid_ribband_steam_first)] }
def SteamWorksSaid : Prop := steamWorksRow.holds Tryz.pinned (OpenSpec.ofChange steamWorksSpec)

/-- ITS FALSE NEIGHBOUR: 'it returns false'. Refute it at one input. -/
def steamWorksWrong : ChangeSpec := { name := "steamWorks", fn := fun _ => fun
  | [d1, d2, d3] => { results := [.lit (.bool false)], args := [d1, d2, d3] }
  | _ => none }
def SteamWorksWrongFalsely : Prop := steamWorksRow.holds Tryz.pinned (OpenSpec.ofChange steamWorksWrong)

/-- 'ribbandlaw09.SteamReal': WHATEVER THE INPUT: true; the input reads as it did. -/
def steamRealSpec : ChangeSpec := { name := "steamReal", fn := fun _ => fun
  | [d1, d2, d3, d4] => { results := [.lit (.bool true)], args := [d1, d2, d3, d4] }
  | _ => none }
def steamRealRow : OpenClaim := { program := "ytlhomfgcibjccaagreatdoor", sum := "96555748c58bf56ceabcb6c0f9bd7e54774193d8516040c799a777d92977cc81", func := "ribband/ribbandlaw09.SteamReal", spec := "steamReal", inPlace := ["(*sync.WaitGroup).Add", "internal/race.ReleaseMerge", "internal/race.Disable", "internal/race.Enable", "internal/synctest.IsInBubble", "internal/synctest.Associate[sync.WaitGroup]", "sync.fatal", "sync/atomic.OrUint64", "sync/atomic.AddUint64", "internal/race.Read", "sync/atomic.LoadUint64", "sync/atomic.StoreUint64", "internal/synctest.Disassociate[sync.WaitGroup]", "sync.runtime_Semrelease", "(*sync.WaitGroup).Done", "(*internal/sync.Mutex).Lock", "sync/atomic.CompareAndSwapInt32", "internal/race.Acquire", "(*internal/sync.Mutex).lockSlow", "internal/sync.runtime_canSpin", "internal/sync.runtime_doSpin", "internal/sync.throw", "internal/sync.runtime_nanotime", "internal/sync.runtime_SemacquireMutex", "sync/atomic.AddInt32", "(*internal/sync.Mutex).Unlock", "(*internal/sync.Mutex).unlockSlow", "internal/sync.fatal", "internal/sync.runtime_Semrelease", "(*sync.WaitGroup).Wait", "internal/synctest.IsAssociated[sync.WaitGroup]", "sync/atomic.CompareAndSwapUint64", "internal/race.Write", "sync.runtime_SemacquireWaitGroup"], unfollowed := true, recurses := true, named := ["ribband/steam.checks", "ribband/steam.first"], plainKeys := false, leaving := true, apart := false, calm := true, outside := [.timePasses], laid := [("ribband/steam.checks", laid_ribband_steam_checks), ("ribband/steam.first", laid_ribband_steam_first)] }
def SteamRealSaid : Prop := steamRealRow.holds Tryz.pinned (OpenSpec.ofChange steamRealSpec)

/-- ITS FALSE NEIGHBOUR: 'it returns false'. Refute it at one input. -/
def steamRealWrong : ChangeSpec := { name := "steamReal", fn := fun _ => fun
  | [d1, d2, d3, d4] => { results := [.lit (.bool false)], args := [d1, d2, d3, d4] }
  | _ => none }
def SteamRealWrongFalsely : Prop := steamRealRow.holds Tryz.pinned (OpenSpec.ofChange steamRealWrong)

end Rows
end Go.Proofs.YtlhomfgcibjccaaGreatDoor

/-
  NARROWER THAN 'FOR EVERY INPUT', by the rows' own cells (each row's printed sentence says how): SteamSpiled: calm, laid · SteamBent: calm, laid · SteamMoulded: calm, laid · SteamThick: calm, laid.
  DERIVED. THE GIVEN ROWS OF THIS SEAT. 4 by the template 'for every input the law returns true; each argument reads behind the call as it read before'; 0 by the template 'total and deterministic' (their statements: YtmfealhfgccmfaaGreatDoorTotals.lean).
  GIVEN WITH THE SEED: the statements are not yours to turn. If you find one false, say at which input.
  Laid BY PROGRAM, IN A SANDBOX (cutbox-rows.mjs): the forced cells as the released guide's own fill.sh prints them over the translation 6a2515603dfa68eb… (all of the seat's roots in one cut). By AI agents, Wed Nov 11 2026. No macro, syntax, notation, axiom, sorry.
-/
import Derived.Test.YtmfealhfgccmfaaGreatDoorChecked
import GoSem.Claim
import GoSem.ClaimJoined
import GoSem.ClaimMapViews
import Derived.JoinedTies
import Derived.KernelRfl
namespace Go.Proofs.YtmfealhfgccmfaaGreatDoor
/- THE CELL 'sum', in the pinned program and in every row, IS THE sha256 OF THE DUMP (.gsa) THAT YtmfealhfgccmfaaGreatDoorProg.lean LOADS. Nothing in Lean hashes anything: it is a label: what it is worth is what the hold of that sum in a sandbox is worth. -/
noncomputable def Tryz.pinned : Pinned := { name := "ytmfealhfgccmfaagreatdoor", sum := "6a2515603dfa68eb66d3b33035354e80a78f46c151f3909be83121891df5211e", checked := Tryz.checked }
namespace Rows
def none {H : Type} : Left H := { results := [], args := [] }

/- WHAT THE LISTED PACKAGE-LEVEL VARIABLES READ AS WHEN THE CALL BEGINS. Each datum BY PROGRAM (the guide's laid-datum.mjs) off the statement by which the dump's own 'gosem.cut.vars' lays the variable. In a bare row this is a premise. The card (YtmfealhfgccmfaaGreatDoorCards.lean) ties it to the program's text. -/
def laid_ribband_spile_checks {H : Type} : DataW H := .iface "func table" (.agg [.iface "func" (.lit (.string [40, 114, 105, 98, 98, 97, 110, 100, 47, 115, 112, 105, 108, 101, 46, 98, 111, 111, 107, 41, 46, 99, 111, 109, 112, 97, 115, 115])), .iface "func" (.lit (.string [40, 114, 105, 98, 98, 97, 110, 100, 47, 115, 112, 105, 108, 101, 46, 98, 111, 111, 107, 41, 46, 112, 111, 105, 110, 116, 115])), .iface "func" (.lit (.string [40, 114, 105, 98, 98, 97, 110, 100, 47, 115, 112, 105, 108, 101, 46, 98, 111, 111, 107, 41, 46, 99, 104, 101, 99, 107, 101, 100]))])
def laid_ribband_steam_checks {H : Type} : DataW H := .iface "func table" (.agg [.iface "func" (.lit (.string [40, 114, 105, 98, 98, 97, 110, 100, 47, 115, 116, 101, 97, 109, 46, 98, 111, 111, 107, 41, 46, 121, 97, 114, 100])), .iface "func" (.lit (.string [40, 114, 105, 98, 98, 97, 110, 100, 47, 115, 116, 101, 97, 109, 46, 98, 111, 111, 107, 41, 46, 112, 108, 97, 110, 107, 115])), .iface "func" (.lit (.string [40, 114, 105, 98, 98, 97, 110, 100, 47, 115, 116, 101, 97, 109, 46, 98, 111, 111, 107, 41, 46, 110, 111, 116, 101, 115]))])
def laid_ribband_steam_first {H : Type} : DataW H := .iface "func table" (.agg [.iface "func" (.lit (.string [114, 105, 98, 98, 97, 110, 100, 47, 115, 116, 101, 97, 109, 46, 102, 105, 114, 115, 116, 36, 49]))])
def laid_ribband_batten_checks {H : Type} : DataW H := .iface "func table" (.agg [.iface "func" (.lit (.string [40, 114, 105, 98, 98, 97, 110, 100, 47, 98, 97, 116, 116, 101, 110, 46, 98, 111, 111, 107, 41, 46, 115, 116, 105, 102, 102, 110, 101, 115, 115])), .iface "func" (.lit (.string [40, 114, 105, 98, 98, 97, 110, 100, 47, 98, 97, 116, 116, 101, 110, 46, 98, 111, 111, 107, 41, 46, 109, 97, 114, 107, 115])), .iface "func" (.lit (.string [40, 114, 105, 98, 98, 97, 110, 100, 47, 98, 97, 116, 116, 101, 110, 46, 98, 111, 111, 107, 41, 46, 114, 117, 108, 101, 115]))])
def laid_ribband_frame_checks {H : Type} : DataW H := .iface "func table" (.agg [.iface "func" (.lit (.string [40, 114, 105, 98, 98, 97, 110, 100, 47, 102, 114, 97, 109, 101, 46, 98, 111, 111, 107, 41, 46, 112, 111, 105, 110, 116, 115])), .iface "func" (.lit (.string [40, 114, 105, 98, 98, 97, 110, 100, 47, 102, 114, 97, 109, 101, 46, 98, 111, 111, 107, 41, 46, 116, 97, 112, 101, 115])), .iface "func" (.lit (.string [40, 114, 105, 98, 98, 97, 110, 100, 47, 102, 114, 97, 109, 101, 46, 98, 111, 111, 107, 41, 46, 115, 116, 105, 99, 107, 115]))])

/-- 'ribbandlaw09.SteamSpiled': WHATEVER THE INPUT: true; the input reads as it did. -/
def steamSpiledSpec : ChangeSpec := { name := "steamSpiled", fn := fun _ => fun
  | [d1, d2, d3, d4, d5, d6] => { results := [.lit (.bool true)], args := [d1, d2, d3, d4, d5, d6] }
  | _ => none }
def steamSpiledRow : OpenClaim := { program := "ytmfealhfgccmfaagreatdoor", sum := "6a2515603dfa68eb66d3b33035354e80a78f46c151f3909be83121891df5211e", func := "ribband/ribbandlaw09.SteamSpiled", spec := "steamSpiled", inPlace := ["(*sync.WaitGroup).Add", "internal/race.ReleaseMerge", "internal/race.Disable", "internal/race.Enable", "internal/synctest.IsInBubble", "internal/synctest.Associate[sync.WaitGroup]", "sync.fatal", "sync/atomic.OrUint64", "sync/atomic.AddUint64", "internal/race.Read", "sync/atomic.LoadUint64", "sync/atomic.StoreUint64", "internal/synctest.Disassociate[sync.WaitGroup]", "sync.runtime_Semrelease", "(*sync.WaitGroup).Done", "(*internal/sync.Mutex).Lock", "sync/atomic.CompareAndSwapInt32", "internal/race.Acquire", "(*internal/sync.Mutex).lockSlow", "internal/sync.runtime_canSpin", "internal/sync.runtime_doSpin", "internal/sync.throw", "internal/sync.runtime_nanotime", "internal/sync.runtime_SemacquireMutex", "sync/atomic.AddInt32", "(*internal/sync.Mutex).Unlock", "(*internal/sync.Mutex).unlockSlow", "internal/sync.fatal", "internal/sync.runtime_Semrelease", "(*sync.WaitGroup).Wait", "internal/synctest.IsAssociated[sync.WaitGroup]", "sync/atomic.CompareAndSwapUint64", "internal/race.Write", "sync.runtime_SemacquireWaitGroup"], unfollowed := true, recurses := true, named := ["ribband/steam.checks", "ribband/steam.first", "ribband/spile.checks"], plainKeys := false, leaving := true, apart := false, calm := true, outside := [.timePasses], laid := [("ribband/spile.checks", laid_ribband_spile_checks), ("ribband/steam.checks", laid_ribband_steam_checks), ("ribband/steam.first", laid_ribband_steam_first)] }
def SteamSpiledSaid : Prop := steamSpiledRow.holds Tryz.pinned (OpenSpec.ofChange steamSpiledSpec)

/-- ITS FALSE NEIGHBOUR: 'it returns false'. Refute it at one input. -/
def steamSpiledWrong : ChangeSpec := { name := "steamSpiled", fn := fun _ => fun
  | [d1, d2, d3, d4, d5, d6] => { results := [.lit (.bool false)], args := [d1, d2, d3, d4, d5, d6] }
  | _ => none }
def SteamSpiledWrongFalsely : Prop := steamSpiledRow.holds Tryz.pinned (OpenSpec.ofChange steamSpiledWrong)

/-- 'ribbandlaw09.SteamBent': WHATEVER THE INPUT: true; the input reads as it did. -/
def steamBentSpec : ChangeSpec := { name := "steamBent", fn := fun _ => fun
  | [d1, d2, d3, d4, d5, d6, d7] => { results := [.lit (.bool true)], args := [d1, d2, d3, d4, d5, d6, d7] }
  | _ => none }
def steamBentRow : OpenClaim := { program := "ytmfealhfgccmfaagreatdoor", sum := "6a2515603dfa68eb66d3b33035354e80a78f46c151f3909be83121891df5211e", func := "ribband/ribbandlaw09.SteamBent", spec := "steamBent", inPlace := ["(*sync.WaitGroup).Add", "internal/race.ReleaseMerge", "internal/race.Disable", "internal/race.Enable", "internal/synctest.IsInBubble", "internal/synctest.Associate[sync.WaitGroup]", "sync.fatal", "sync/atomic.OrUint64", "sync/atomic.AddUint64", "internal/race.Read", "sync/atomic.LoadUint64", "sync/atomic.StoreUint64", "internal/synctest.Disassociate[sync.WaitGroup]", "sync.runtime_Semrelease", "(*sync.WaitGroup).Done", "(*internal/sync.Mutex).Lock", "sync/atomic.CompareAndSwapInt32", "internal/race.Acquire", "(*internal/sync.Mutex).lockSlow", "internal/sync.runtime_canSpin", "internal/sync.runtime_doSpin", "internal/sync.throw", "internal/sync.runtime_nanotime", "internal/sync.runtime_SemacquireMutex", "sync/atomic.AddInt32", "(*internal/sync.Mutex).Unlock", "(*internal/sync.Mutex).unlockSlow", "internal/sync.fatal", "internal/sync.runtime_Semrelease", "(*sync.WaitGroup).Wait", "internal/synctest.IsAssociated[sync.WaitGroup]", "sync/atomic.CompareAndSwapUint64", "internal/race.Write", "sync.runtime_SemacquireWaitGroup"], unfollowed := true, recurses := true, named := ["ribband/steam.checks", "ribband/steam.first", "ribband/batten.checks"], plainKeys := false, leaving := true, apart := false, calm := true, outside := [.timePasses], laid := [("ribband/batten.checks", laid_ribband_batten_checks), ("ribband/steam.checks", laid_ribband_steam_checks), ("ribband/steam.first", laid_ribband_steam_first)] }
def SteamBentSaid : Prop := steamBentRow.holds Tryz.pinned (OpenSpec.ofChange steamBentSpec)

/-- ITS FALSE NEIGHBOUR: 'it returns false'. Refute it at one input. -/
def steamBentWrong : ChangeSpec := { name := "steamBent", fn := fun _ => fun
  | [d1, d2, d3, d4, d5, d6, d7] => { results := [.lit (.bool false)], args := [d1, d2, d3, d4, d5, d6, d7] }
  | _ => none }
def SteamBentWrongFalsely : Prop := steamBentRow.holds Tryz.pinned (OpenSpec.ofChange steamBentWrong)

/-- 'ribbandlaw09.SteamMoulded': WHATEVER THE INPUT: true; the input reads as it did. -/
def steamMouldedSpec : ChangeSpec := { name := "steamMoulded", fn := fun _ => fun
  | [d1, d2, d3, d4, d5] => { results := [.lit (.bool true)], args := [d1, d2, d3, d4, d5] }
  | _ => none }
def steamMouldedRow : OpenClaim := { program := "ytmfealhfgccmfaagreatdoor", sum := "6a2515603dfa68eb66d3b33035354e80a78f46c151f3909be83121891df5211e", func := "ribband/ribbandlaw09.SteamMoulded", spec := "steamMoulded", inPlace := ["(*sync.WaitGroup).Add", "internal/race.ReleaseMerge", "internal/race.Disable", "internal/race.Enable", "internal/synctest.IsInBubble", "internal/synctest.Associate[sync.WaitGroup]", "sync.fatal", "sync/atomic.OrUint64", "sync/atomic.AddUint64", "internal/race.Read", "sync/atomic.LoadUint64", "sync/atomic.StoreUint64", "internal/synctest.Disassociate[sync.WaitGroup]", "sync.runtime_Semrelease", "(*sync.WaitGroup).Done", "(*internal/sync.Mutex).Lock", "sync/atomic.CompareAndSwapInt32", "internal/race.Acquire", "(*internal/sync.Mutex).lockSlow", "internal/sync.runtime_canSpin", "internal/sync.runtime_doSpin", "internal/sync.throw", "internal/sync.runtime_nanotime", "internal/sync.runtime_SemacquireMutex", "sync/atomic.AddInt32", "(*internal/sync.Mutex).Unlock", "(*internal/sync.Mutex).unlockSlow", "internal/sync.fatal", "internal/sync.runtime_Semrelease", "(*sync.WaitGroup).Wait", "internal/synctest.IsAssociated[sync.WaitGroup]", "sync/atomic.CompareAndSwapUint64", "internal/race.Write", "sync.runtime_SemacquireWaitGroup"], unfollowed := true, recurses := true, named := ["ribband/steam.checks", "ribband/steam.first"], plainKeys := false, leaving := true, apart := false, calm := true, outside := [.timePasses], laid := [("ribband/steam.checks", laid_ribband_steam_checks), ("ribband/steam.first", laid_ribband_steam_first)] }
def SteamMouldedSaid : Prop := steamMouldedRow.holds Tryz.pinned (OpenSpec.ofChange steamMouldedSpec)

/-- ITS FALSE NEIGHBOUR: 'it returns false'. Refute it at one input. -/
def steamMouldedWrong : ChangeSpec := { name := "steamMoulded", fn := fun _ => fun
  | [d1, d2, d3, d4, d5] => { results := [.lit (.bool false)], args := [d1, d2, d3, d4, d5] }
  | _ => none }
def SteamMouldedWrongFalsely : Prop := steamMouldedRow.holds Tryz.pinned (OpenSpec.ofChange steamMouldedWrong)

/-- 'ribbandlaw09.SteamThick': WHATEVER THE INPUT: true; the input reads as it did. -/
def steamThickSpec : ChangeSpec := { name := "steamThick", fn := fun _ => fun
  | [d1, d2, d3, d4, d5, d6] => { results := [.lit (.bool true)], args := [d1, d2, d3, d4, d5, d6] }
  | _ => none }
def steamThickRow : OpenClaim := { program := "ytmfealhfgccmfaagreatdoor", sum := "6a2515603dfa68eb66d3b33035354e80a78f46c151f3909be83121891df5211e", func := "ribband/ribbandlaw09.SteamThick", spec := "steamThick", inPlace := ["(*sync.WaitGroup).Add", "internal/race.ReleaseMerge", "internal/race.Disable", "internal/race.Enable", "internal/synctest.IsInBubble", "internal/synctest.Associate[sync.WaitGroup]", "sync.fatal", "sync/atomic.OrUint64", "sync/atomic.AddUint64", "internal/race.Read", "sync/atomic.LoadUint64", "sync/atomic.StoreUint64", "internal/synctest.Disassociate[sync.WaitGroup]", "sync.runtime_Semrelease", "(*sync.WaitGroup).Done", "(*internal/sync.Mutex).Lock", "sync/atomic.CompareAndSwapInt32", "internal/race.Acquire", "(*internal/sync.Mutex).lockSlow", "internal/sync.runtime_canSpin", "internal/sync.runtime_doSpin", "internal/sync.throw", "internal/sync.runtime_nanotime", "internal/sync.runtime_SemacquireMutex", "sync/atomic.AddInt32", "(*internal/sync.Mutex).Unlock", "(*internal/sync.Mutex).unlockSlow", "internal/sync.fatal", "internal/sync.runtime_Semrelease", "(*sync.WaitGroup).Wait", "internal/synctest.IsAssociated[sync.WaitGroup]", "sync/atomic.CompareAndSwapUint64", "internal/race.Write", "sync.runtime_SemacquireWaitGroup"], unfollowed := true, recurses := true, named := ["ribband/steam.checks", "ribband/steam.first", "ribband/frame.checks"], plainKeys := false, leaving := true, apart := false, calm := true, outside := [.timePasses], laid := [("ribband/frame.checks", laid_ribband_frame_checks), ("ribband/steam.checks", laid_ribband_steam_checks), ("ribband/steam.first", laid_ribband_steam_first)] }
def SteamThickSaid : Prop := steamThickRow.holds Tryz.pinned (OpenSpec.ofChange steamThickSpec)

/-- ITS FALSE NEIGHBOUR: 'it returns false'. Refute it at one input. -/
def steamThickWrong : ChangeSpec := { name := "steamThick", fn := fun _ => fun
  | [d1, d2, d3, d4, d5, d6] => { results := [.lit (.bool false)], args := [d1, d2, d3, d4, d5, d6] }
  | _ => none }
def SteamThickWrongFalsely : Prop := steamThickRow.holds Tryz.pinned (OpenSpec.ofChange steamThickWrong)

end Rows
end Go.Proofs.YtmfealhfgccmfaaGreatDoor

/-
  NARROWER THAN 'FOR EVERY INPUT', by the rows' own cells (each row's printed sentence says how): Values: calm, laid · Logs: calm, laid · Serial: calm, laid.
  DERIVED. THE GIVEN ROWS OF THIS SEAT. 3 by the template 'for every input the law returns true; each argument reads behind the call as it read before'; 0 by the template 'total and deterministic' (their statements: YtjomdboiibakiabGreatDoorTotals.lean).
  GIVEN WITH THE SEED: the statements are not yours to turn. If you find one false, say at which input.
  Laid BY PROGRAM, IN A SANDBOX (cutbox-rows.mjs): the forced cells as the released guide's own fill.sh prints them over the translation 3c0db901085c85d0… (all of the seat's roots in one cut). By AI agents, Wed Nov 11 2026. No macro, syntax, notation, axiom, sorry.
-/
import Derived.Test.YtjomdboiibakiabGreatDoorChecked
import GoSem.Claim
import GoSem.ClaimJoined
import GoSem.ClaimMapViews
import Derived.JoinedTies
import Derived.KernelRfl
namespace Go.Proofs.YtjomdboiibakiabGreatDoor
/- THE CELL 'sum', in the pinned program and in every row, IS THE sha256 OF THE DUMP (.gsa) THAT YtjomdboiibakiabGreatDoorProg.lean LOADS. Nothing in Lean hashes anything: it is a label: what it is worth is what the hold of that sum in a sandbox is worth. -/
noncomputable def Tryz.pinned : Pinned := { name := "ytjomdboiibakiabgreatdoor", sum := "3c0db901085c85d0dd8419520ba4ab001719c19925619f5dad09a0dfdbdd9214", checked := Tryz.checked }
namespace Rows
def none {H : Type} : Left H := { results := [], args := [] }

/- WHAT THE LISTED PACKAGE-LEVEL VARIABLES READ AS WHEN THE CALL BEGINS. Each datum BY PROGRAM (the guide's laid-datum.mjs) off the statement by which the dump's own 'gosem.cut.vars' lays the variable. In a bare row this is a premise. The card (YtjomdboiibakiabGreatDoorCards.lean) ties it to the program's text. -/
def laid_errors_errorType {H : Type} : DataW H := .iface "internal/reflectlite.rtype" (.agg [.ptr (.lit (.string [101, 114, 114, 111, 114]))])
def laid_shardlog_cluster_ErrShape {H : Type} : DataW H := .iface "*errors.errorString" (.ptr (.agg [.lit (.string [110, 111, 32, 115, 117, 99, 104, 32, 99, 108, 117, 115, 116, 101, 114])]))
def laid_shardlog_cluster_ErrOps {H : Type} : DataW H := .iface "*errors.errorString" (.ptr (.agg [.lit (.string [110, 111, 32, 116, 114, 97, 110, 115, 97, 99, 116, 105, 111, 110])]))
def laid_shardlog_cluster_ErrMany {H : Type} : DataW H := .iface "*errors.errorString" (.ptr (.agg [.lit (.string [116, 111, 111, 32, 109, 97, 110, 121])]))
def laid_shardlog_cluster_ErrTx {H : Type} : DataW H := .iface "*errors.errorString" (.ptr (.agg [.lit (.string [110, 111, 32, 115, 117, 99, 104, 32, 116, 114, 97, 110, 115, 97, 99, 116, 105, 111, 110])]))
def laid_shardlog_cluster_ErrMessage {H : Type} : DataW H := .iface "*errors.errorString" (.ptr (.agg [.lit (.string [110, 111, 32, 115, 117, 99, 104, 32, 109, 101, 115, 115, 97, 103, 101])]))
def laid_shardlog_cluster_ErrShard {H : Type} : DataW H := .iface "*errors.errorString" (.ptr (.agg [.lit (.string [110, 111, 32, 115, 117, 99, 104, 32, 115, 104, 97, 114, 100])]))
def laid_shardlog_cluster_ErrDown {H : Type} : DataW H := .iface "*errors.errorString" (.ptr (.agg [.lit (.string [97, 32, 115, 104, 97, 114, 100, 32, 116, 104, 97, 116, 32, 105, 115, 32, 100, 111, 119, 110])]))
def laid_shardlog_cluster_ErrUp {H : Type} : DataW H := .iface "*errors.errorString" (.ptr (.agg [.lit (.string [97, 32, 115, 104, 97, 114, 100, 32, 116, 104, 97, 116, 32, 105, 115, 32, 117, 112])]))
def laid_shardlog_cluster_ErrStopped {H : Type} : DataW H := .iface "*errors.errorString" (.ptr (.agg [.lit (.string [116, 104, 101, 32, 99, 108, 117, 115, 116, 101, 114, 32, 104, 97, 115, 32, 98, 101, 101, 110, 32, 115, 116, 111, 112, 112, 101, 100])]))

/-- 'shardloglaw.Values': WHATEVER THE INPUT: true; the input reads as it did. -/
def valuesSpec : ChangeSpec := { name := "values", fn := fun _ => fun
  | [d] => { results := [.lit (.bool true)], args := [d] }
  | _ => none }
def valuesRow : OpenClaim := { program := "ytjomdboiibakiabgreatdoor", sum := "3c0db901085c85d0dd8419520ba4ab001719c19925619f5dad09a0dfdbdd9214", func := "shardlog/shardloglaw.Values", spec := "values", inPlace := ["(*sync.WaitGroup).Add", "internal/race.ReleaseMerge", "internal/race.Disable", "internal/race.Enable", "internal/synctest.IsInBubble", "internal/synctest.Associate[sync.WaitGroup]", "sync.fatal", "sync/atomic.OrUint64", "sync/atomic.AddUint64", "internal/race.Read", "sync/atomic.LoadUint64", "sync/atomic.StoreUint64", "internal/synctest.Disassociate[sync.WaitGroup]", "sync.runtime_Semrelease", "(*sync.WaitGroup).Done", "(*internal/sync.Mutex).Lock", "sync/atomic.CompareAndSwapInt32", "internal/race.Acquire", "(*internal/sync.Mutex).lockSlow", "internal/sync.runtime_canSpin", "internal/sync.runtime_doSpin", "internal/sync.throw", "internal/sync.runtime_nanotime", "internal/sync.runtime_SemacquireMutex", "sync/atomic.AddInt32", "(*internal/sync.Mutex).Unlock", "(*internal/sync.Mutex).unlockSlow", "internal/sync.fatal", "internal/sync.runtime_Semrelease", "internal/reflectlite.ValueOf", "(internal/reflectlite.Value).Type", "(internal/reflectlite.Value).IsNil", "internal/reflectlite.TypeOf", "(internal/reflectlite.Value).Elem", "(internal/reflectlite.Value).Set", "(*sync.WaitGroup).Wait", "internal/synctest.IsAssociated[sync.WaitGroup]", "sync/atomic.CompareAndSwapUint64", "internal/race.Write", "sync.runtime_SemacquireWaitGroup"], unfollowed := true, recurses := true, named := ["shardlog/cluster.ErrShape", "shardlog/cluster.ErrOps", "shardlog/cluster.ErrMany", "shardlog/cluster.ErrStopped", "errors.errorType", "shardlog/cluster.ErrTx", "shardlog/cluster.ErrMessage", "shardlog/cluster.ErrShard", "shardlog/cluster.ErrDown", "shardlog/cluster.ErrUp"], leaving := true, apart := false, calm := true, outside := [.timePasses], laid := [("errors.errorType", laid_errors_errorType), ("shardlog/cluster.ErrShape", laid_shardlog_cluster_ErrShape), ("shardlog/cluster.ErrOps", laid_shardlog_cluster_ErrOps), ("shardlog/cluster.ErrMany", laid_shardlog_cluster_ErrMany), ("shardlog/cluster.ErrTx", laid_shardlog_cluster_ErrTx), ("shardlog/cluster.ErrMessage", laid_shardlog_cluster_ErrMessage), ("shardlog/cluster.ErrShard", laid_shardlog_cluster_ErrShard), ("shardlog/cluster.ErrDown", laid_shardlog_cluster_ErrDown), ("shardlog/cluster.ErrUp", laid_shardlog_cluster_ErrUp), ("shardlog/cluster.ErrStopped", laid_shardlog_cluster_ErrStopped)] }
def ValuesSaid : Prop := valuesRow.holds Tryz.pinned (OpenSpec.ofChange valuesSpec)

/-- ITS FALSE NEIGHBOUR: 'it returns false'. Refute it at one input. -/
def valuesWrong : ChangeSpec := { name := "values", fn := fun _ => fun
  | [d] => { results := [.lit (.bool false)], args := [d] }
  | _ => none }
def ValuesWrongFalsely : Prop := valuesRow.holds Tryz.pinned (OpenSpec.ofChange valuesWrong)

/-- 'shardloglaw.Logs': WHATEVER THE INPUT: true; the input reads as it did. -/
def logsSpec : ChangeSpec := { name := "logs", fn := fun _ => fun
  | [d] => { results := [.lit (.bool true)], args := [d] }
  | _ => none }
def logsRow : OpenClaim := { program := "ytjomdboiibakiabgreatdoor", sum := "3c0db901085c85d0dd8419520ba4ab001719c19925619f5dad09a0dfdbdd9214", func := "shardlog/shardloglaw.Logs", spec := "logs", inPlace := ["(*sync.WaitGroup).Add", "internal/race.ReleaseMerge", "internal/race.Disable", "internal/race.Enable", "internal/synctest.IsInBubble", "internal/synctest.Associate[sync.WaitGroup]", "sync.fatal", "sync/atomic.OrUint64", "sync/atomic.AddUint64", "internal/race.Read", "sync/atomic.LoadUint64", "sync/atomic.StoreUint64", "internal/synctest.Disassociate[sync.WaitGroup]", "sync.runtime_Semrelease", "(*sync.WaitGroup).Done", "(*internal/sync.Mutex).Lock", "sync/atomic.CompareAndSwapInt32", "internal/race.Acquire", "(*internal/sync.Mutex).lockSlow", "internal/sync.runtime_canSpin", "internal/sync.runtime_doSpin", "internal/sync.throw", "internal/sync.runtime_nanotime", "internal/sync.runtime_SemacquireMutex", "sync/atomic.AddInt32", "(*internal/sync.Mutex).Unlock", "(*internal/sync.Mutex).unlockSlow", "internal/sync.fatal", "internal/sync.runtime_Semrelease", "internal/reflectlite.ValueOf", "(internal/reflectlite.Value).Type", "(internal/reflectlite.Value).IsNil", "internal/reflectlite.TypeOf", "(internal/reflectlite.Value).Elem", "(internal/reflectlite.Value).Set", "(*sync.WaitGroup).Wait", "internal/synctest.IsAssociated[sync.WaitGroup]", "sync/atomic.CompareAndSwapUint64", "internal/race.Write", "sync.runtime_SemacquireWaitGroup"], unfollowed := true, recurses := true, named := ["shardlog/cluster.ErrShape", "shardlog/cluster.ErrOps", "shardlog/cluster.ErrMany", "shardlog/cluster.ErrStopped", "errors.errorType", "shardlog/cluster.ErrTx", "shardlog/cluster.ErrMessage", "shardlog/cluster.ErrShard", "shardlog/cluster.ErrDown", "shardlog/cluster.ErrUp"], leaving := true, apart := false, calm := true, outside := [.timePasses], laid := [("errors.errorType", laid_errors_errorType), ("shardlog/cluster.ErrShape", laid_shardlog_cluster_ErrShape), ("shardlog/cluster.ErrOps", laid_shardlog_cluster_ErrOps), ("shardlog/cluster.ErrMany", laid_shardlog_cluster_ErrMany), ("shardlog/cluster.ErrTx", laid_shardlog_cluster_ErrTx), ("shardlog/cluster.ErrMessage", laid_shardlog_cluster_ErrMessage), ("shardlog/cluster.ErrShard", laid_shardlog_cluster_ErrShard), ("shardlog/cluster.ErrDown", laid_shardlog_cluster_ErrDown), ("shardlog/cluster.ErrUp", laid_shardlog_cluster_ErrUp), ("shardlog/cluster.ErrStopped", laid_shardlog_cluster_ErrStopped)] }
def LogsSaid : Prop := logsRow.holds Tryz.pinned (OpenSpec.ofChange logsSpec)

/-- ITS FALSE NEIGHBOUR: 'it returns false'. Refute it at one input. -/
def logsWrong : ChangeSpec := { name := "logs", fn := fun _ => fun
  | [d] => { results := [.lit (.bool false)], args := [d] }
  | _ => none }
def LogsWrongFalsely : Prop := logsRow.holds Tryz.pinned (OpenSpec.ofChange logsWrong)

/-- 'shardloglaw.Serial': WHATEVER THE INPUT: true; the input reads as it did. -/
def serialSpec : ChangeSpec := { name := "serial", fn := fun _ => fun
  | [d] => { results := [.lit (.bool true)], args := [d] }
  | _ => none }
def serialRow : OpenClaim := { program := "ytjomdboiibakiabgreatdoor", sum := "3c0db901085c85d0dd8419520ba4ab001719c19925619f5dad09a0dfdbdd9214", func := "shardlog/shardloglaw.Serial", spec := "serial", inPlace := ["(*sync.WaitGroup).Add", "internal/race.ReleaseMerge", "internal/race.Disable", "internal/race.Enable", "internal/synctest.IsInBubble", "internal/synctest.Associate[sync.WaitGroup]", "sync.fatal", "sync/atomic.OrUint64", "sync/atomic.AddUint64", "internal/race.Read", "sync/atomic.LoadUint64", "sync/atomic.StoreUint64", "internal/synctest.Disassociate[sync.WaitGroup]", "sync.runtime_Semrelease", "(*sync.WaitGroup).Done", "(*internal/sync.Mutex).Lock", "sync/atomic.CompareAndSwapInt32", "internal/race.Acquire", "(*internal/sync.Mutex).lockSlow", "internal/sync.runtime_canSpin", "internal/sync.runtime_doSpin", "internal/sync.throw", "internal/sync.runtime_nanotime", "internal/sync.runtime_SemacquireMutex", "sync/atomic.AddInt32", "(*internal/sync.Mutex).Unlock", "(*internal/sync.Mutex).unlockSlow", "internal/sync.fatal", "internal/sync.runtime_Semrelease", "internal/reflectlite.ValueOf", "(internal/reflectlite.Value).Type", "(internal/reflectlite.Value).IsNil", "internal/reflectlite.TypeOf", "(internal/reflectlite.Value).Elem", "(internal/reflectlite.Value).Set", "(*sync.WaitGroup).Wait", "internal/synctest.IsAssociated[sync.WaitGroup]", "sync/atomic.CompareAndSwapUint64", "internal/race.Write", "sync.runtime_SemacquireWaitGroup"], unfollowed := true, recurses := true, named := ["shardlog/cluster.ErrShape", "shardlog/cluster.ErrOps", "shardlog/cluster.ErrMany", "shardlog/cluster.ErrStopped", "errors.errorType", "shardlog/cluster.ErrTx", "shardlog/cluster.ErrMessage", "shardlog/cluster.ErrShard", "shardlog/cluster.ErrDown", "shardlog/cluster.ErrUp"], leaving := true, apart := false, calm := true, outside := [.timePasses], laid := [("errors.errorType", laid_errors_errorType), ("shardlog/cluster.ErrShape", laid_shardlog_cluster_ErrShape), ("shardlog/cluster.ErrOps", laid_shardlog_cluster_ErrOps), ("shardlog/cluster.ErrMany", laid_shardlog_cluster_ErrMany), ("shardlog/cluster.ErrTx", laid_shardlog_cluster_ErrTx), ("shardlog/cluster.ErrMessage", laid_shardlog_cluster_ErrMessage), ("shardlog/cluster.ErrShard", laid_shardlog_cluster_ErrShard), ("shardlog/cluster.ErrDown", laid_shardlog_cluster_ErrDown), ("shardlog/cluster.ErrUp", laid_shardlog_cluster_ErrUp), ("shardlog/cluster.ErrStopped", laid_shardlog_cluster_ErrStopped)] }
def SerialSaid : Prop := serialRow.holds Tryz.pinned (OpenSpec.ofChange serialSpec)

/-- ITS FALSE NEIGHBOUR: 'it returns false'. Refute it at one input. -/
def serialWrong : ChangeSpec := { name := "serial", fn := fun _ => fun
  | [d] => { results := [.lit (.bool false)], args := [d] }
  | _ => none }
def SerialWrongFalsely : Prop := serialRow.holds Tryz.pinned (OpenSpec.ofChange serialWrong)

end Rows
end Go.Proofs.YtjomdboiibakiabGreatDoor

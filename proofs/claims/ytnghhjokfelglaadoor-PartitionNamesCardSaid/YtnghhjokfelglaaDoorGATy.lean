import Derived.Test.YtnghhjokfelglaaDoorProg
import Derived.Test.YtnghhjokfelglaaDoorAbs29
import Derived.Test.YtnghhjokfelglaaDoorLib
namespace Go.Proofs.YtnghhjokfelglaaDoor
open Go Abs
set_option maxRecDepth 100000
set_option linter.unusedVariables false
set_option linter.unusedSimpArgs false
abbrev aIIIIIIISSSSSIIISI {k0 : IntKind} {n0 : Int} {k1 : IntKind} {n1 : Int} {k2 : IntKind} {n2 : Int} {k3 : IntKind} {n3 : Int} {k4 : IntKind} {n4 : Int} {k5 : IntKind} {n5 : Int} {k6 : IntKind} {n6 : Int} {s7 : List UInt8} {s8 : List UInt8} {s9 : List UInt8} {s10 : List UInt8} {s11 : List UInt8} {k12 : IntKind} {n12 : Int} {k13 : IntKind} {n13 : Int} {k14 : IntKind} {n14 : Int} {s15 : List UInt8} {k16 : IntKind} {n16 : Int} : List AV := [.c (.int k0 n0), .c (.int k1 n1), .c (.int k2 n2), .c (.int k3 n3), .c (.int k4 n4), .c (.int k5 n5), .c (.int k6 n6), .c (.str s7), .c (.str s8), .c (.str s9), .c (.str s10), .c (.str s11), .c (.int k12 n12), .c (.int k13 n13), .c (.int k14 n14), .c (.str s15), .c (.int k16 n16)]
abbrev aIIIIIISSS {k0 : IntKind} {n0 : Int} {k1 : IntKind} {n1 : Int} {k2 : IntKind} {n2 : Int} {k3 : IntKind} {n3 : Int} {k4 : IntKind} {n4 : Int} {k5 : IntKind} {n5 : Int} {s6 : List UInt8} {s7 : List UInt8} {s8 : List UInt8} : List AV := [.c (.int k0 n0), .c (.int k1 n1), .c (.int k2 n2), .c (.int k3 n3), .c (.int k4 n4), .c (.int k5 n5), .c (.str s6), .c (.str s7), .c (.str s8)]
abbrev aIIIIIISSSSIII {k0 : IntKind} {n0 : Int} {k1 : IntKind} {n1 : Int} {k2 : IntKind} {n2 : Int} {k3 : IntKind} {n3 : Int} {k4 : IntKind} {n4 : Int} {k5 : IntKind} {n5 : Int} {s6 : List UInt8} {s7 : List UInt8} {s8 : List UInt8} {s9 : List UInt8} {k10 : IntKind} {n10 : Int} {k11 : IntKind} {n11 : Int} {k12 : IntKind} {n12 : Int} : List AV := [.c (.int k0 n0), .c (.int k1 n1), .c (.int k2 n2), .c (.int k3 n3), .c (.int k4 n4), .c (.int k5 n5), .c (.str s6), .c (.str s7), .c (.str s8), .c (.str s9), .c (.int k10 n10), .c (.int k11 n11), .c (.int k12 n12)]
abbrev aSLI {s0 : List UInt8} {α1 : Type} {z1 : Nat} {r1 : α1 → List PV} {x1 : List α1} {k2 : IntKind} {n2 : Int} : List AV := [.c (.str s0), .c (PV.ls z1 r1 x1), .c (.int k2 n2)]
abbrev aSSI {s0 : List UInt8} {s1 : List UInt8} {k2 : IntKind} {n2 : Int} : List AV := [.c (.str s0), .c (.str s1), .c (.int k2 n2)]
abbrev u13 {x0 x1 x2 x3 x4 x5 x6 x7 x8 x9 x10 x11 x12 : AV} : List AV := [x0, x1, x2, x3, x4, x5, x6, x7, x8, x9, x10, x11, x12]
abbrev u9 {x0 x1 x2 x3 x4 x5 x6 x7 x8 : AV} : List AV := [x0, x1, x2, x3, x4, x5, x6, x7, x8]
structure ApiTask where
  mk ::
  ID : Int
  Kind : Int
  Event : Int
  Seq : Int
  Due : Int
  Attempt : Int
  Workflow : (List UInt8)
  Run : (List UInt8)
  Queue : (List UInt8)
instance : Inhabited ApiTask := ⟨ApiTask.mk 0 0 0 0 0 0 [] [] []⟩
def rowApiTask (x : ApiTask) : List PV := [.int .i64 x.ID, .int .i64 x.Kind, .int .i64 x.Event, .int .i64 x.Seq, .int .i64 x.Due, .int .i64 x.Attempt, .str x.Workflow, .str x.Run, .str x.Queue]
structure TaskqueueItem where
  mk ::
  Task : ApiTask
  Holder : (List UInt8)
  Token : Int
  Until : Int
  Tries : Int
instance : Inhabited TaskqueueItem := ⟨TaskqueueItem.mk default [] 0 0 0⟩
def rowTaskqueueItem (x : TaskqueueItem) : List PV := [.int .i64 x.Task.ID, .int .i64 x.Task.Kind, .int .i64 x.Task.Event, .int .i64 x.Task.Seq, .int .i64 x.Task.Due, .int .i64 x.Task.Attempt, .str x.Task.Workflow, .str x.Task.Run, .str x.Task.Queue, .str x.Holder, .int .i64 x.Token, .int .i64 x.Until, .int .i64 x.Tries]
structure TaskqueueQueue where
  mk ::
  Items : (List TaskqueueItem)
  Token : Int
instance : Inhabited TaskqueueQueue := ⟨TaskqueueQueue.mk [] 0⟩
def rowTaskqueueQueue (x : TaskqueueQueue) : List PV := [PV.ls 13 rowTaskqueueItem x.Items, .int .i64 x.Token]
structure MatchingNamed where
  mk ::
  Name : (List UInt8)
  Queue : TaskqueueQueue
instance : Inhabited MatchingNamed := ⟨MatchingNamed.mk [] default⟩
def rowMatchingNamed (x : MatchingNamed) : List PV := [.str x.Name, PV.ls 13 rowTaskqueueItem x.Queue.Items, .int .i64 x.Queue.Token]
structure MatchingState where
  mk ::
  Partitions : Int
  Queues : (List MatchingNamed)
instance : Inhabited MatchingState := ⟨MatchingState.mk 0 []⟩
def rowMatchingState (x : MatchingState) : List PV := [.int .i64 x.Partitions, PV.ls 3 rowMatchingNamed x.Queues]
structure TaskqueueKey where
  mk ::
  workflow_ : (List UInt8)
  run_ : (List UInt8)
  id_ : Int
instance : Inhabited TaskqueueKey := ⟨TaskqueueKey.mk [] [] 0⟩
def rowTaskqueueKey (x : TaskqueueKey) : List PV := [.str x.workflow_, .str x.run_, .int .i64 x.id_]
structure Ref40Item where
  mk ::
  Task : ApiTask
  Holder : (List UInt8)
  Token : Int
  Until : Int
  Tries : Int
instance : Inhabited Ref40Item := ⟨Ref40Item.mk default [] 0 0 0⟩
def rowRef40Item (x : Ref40Item) : List PV := [.int .i64 x.Task.ID, .int .i64 x.Task.Kind, .int .i64 x.Task.Event, .int .i64 x.Task.Seq, .int .i64 x.Task.Due, .int .i64 x.Task.Attempt, .str x.Task.Workflow, .str x.Task.Run, .str x.Task.Queue, .str x.Holder, .int .i64 x.Token, .int .i64 x.Until, .int .i64 x.Tries]
structure Ref40Queue where
  mk ::
  Items : (List Ref40Item)
  Token : Int
instance : Inhabited Ref40Queue := ⟨Ref40Queue.mk [] 0⟩
def rowRef40Queue (x : Ref40Queue) : List PV := [PV.ls 13 rowRef40Item x.Items, .int .i64 x.Token]
structure Ref41Named where
  mk ::
  Name : (List UInt8)
  Queue : Ref40Queue
instance : Inhabited Ref41Named := ⟨Ref41Named.mk [] default⟩
def rowRef41Named (x : Ref41Named) : List PV := [.str x.Name, PV.ls 13 rowRef40Item x.Queue.Items, .int .i64 x.Queue.Token]
structure Ref41State where
  mk ::
  Partitions : Int
  Queues : (List Ref41Named)
instance : Inhabited Ref41State := ⟨Ref41State.mk 0 []⟩
def rowRef41State (x : Ref41State) : List PV := [.int .i64 x.Partitions, PV.ls 3 rowRef41Named x.Queues]
structure Law41Step where
  mk ::
  Kind : Int
  Task : ApiTask
  Queue : (List UInt8)
  Worker : (List UInt8)
  I : Int
  Now : Int
  TTL : Int
  Name : (List UInt8)
  Token : Int
instance : Inhabited Law41Step := ⟨Law41Step.mk 0 default [] [] 0 0 0 [] 0⟩
def rowLaw41Step (x : Law41Step) : List PV := [.int .i64 x.Kind, .int .i64 x.Task.ID, .int .i64 x.Task.Kind, .int .i64 x.Task.Event, .int .i64 x.Task.Seq, .int .i64 x.Task.Due, .int .i64 x.Task.Attempt, .str x.Task.Workflow, .str x.Task.Run, .str x.Task.Queue, .str x.Queue, .str x.Worker, .int .i64 x.I, .int .i64 x.Now, .int .i64 x.TTL, .str x.Name, .int .i64 x.Token]
theorem ti9 : tyIs Tryd.prog 9 = 2 := by kernel_rfl
theorem ts48 : tySlice Tryd.prog 48 = some (3, 1, 8) := by kernel_rfl
theorem ti48 : tyIs Tryd.prog 48 = 3 := by kernel_rfl
theorem tv3 : tyVar Tryd.prog 3 = some (false, 1) := by kernel_rfl
theorem tk3 : tyInt Tryd.prog 3 = some .i64 := by kernel_rfl
theorem tk5 : tyInt Tryd.prog 5 = some .u8 := by kernel_rfl
theorem ts142 : tySlice Tryd.prog 142 = some (5, 1, 1) := by kernel_rfl
theorem tby142 : aval0.tyBytes Tryd.prog 142 := by show (match Tryd.prog.underlying 142 with | some (.slice e) => tyInt Tryd.prog e = some .u8 | _ => False); rw [show Tryd.prog.underlying 142 = some (.slice 5) by kernel_rfl]; exact (by kernel_rfl : tyInt Tryd.prog 5 = some .u8)
theorem ti4 : tyIs Tryd.prog 4 = 4 := by kernel_rfl
theorem tk148 : tyInt Tryd.prog 148 = some .u32 := by kernel_rfl
theorem ti22 : tyIs Tryd.prog 22 = 3 := by kernel_rfl
theorem tz26 : tyZero Tryd.prog 26 = some [.int .i64 0, .slice none 0 0] := by kernel_rfl
theorem ti26 : tyIs Tryd.prog 26 = 6 := by kernel_rfl
theorem pl26 : plAll Tryd.prog 26 = some [(0, some 1), (1, some 1)] := by kernel_rfl
theorem tb26 : tyIs Tryd.prog 26 = 6 ∧ tyOk Tryd.prog 26 = true ∧ tyZero Tryd.prog 26 = some [.int .i64 0, .slice none 0 0] ∧ ∀ i, tyPlace Tryd.prog 26 i = plOf [(0, some 1), (1, some 1)] i := ⟨ti26, by kernel_rfl, tz26, fun i => tyPlace_all pl26 i⟩
theorem tv26 : tyVar Tryd.prog 26 = some (true, 2) := by kernel_rfl
theorem ti31 : tyIs Tryd.prog 31 = 6 := by kernel_rfl
theorem tz31 : tyZero Tryd.prog 31 = some [.int .i64 0, .int .i64 0, .int .i64 0, .int .i64 0, .int .i64 0, .int .i64 0, .string ByteArray.empty, .string ByteArray.empty, .string ByteArray.empty] := by kernel_rfl
theorem pl31 : plAll Tryd.prog 31 = some [(0, some 1), (1, some 1), (2, some 1), (3, some 1), (4, some 1), (5, some 1), (6, some 1), (7, some 1), (8, some 1)] := by kernel_rfl
theorem tb31 : tyIs Tryd.prog 31 = 6 ∧ tyOk Tryd.prog 31 = true ∧ tyZero Tryd.prog 31 = some [.int .i64 0, .int .i64 0, .int .i64 0, .int .i64 0, .int .i64 0, .int .i64 0, .string ByteArray.empty, .string ByteArray.empty, .string ByteArray.empty] ∧ ∀ i, tyPlace Tryd.prog 31 i = plOf [(0, some 1), (1, some 1), (2, some 1), (3, some 1), (4, some 1), (5, some 1), (6, some 1), (7, some 1), (8, some 1)] i := ⟨ti31, by kernel_rfl, tz31, fun i => tyPlace_all pl31 i⟩
theorem tv31 : tyVar Tryd.prog 31 = some (true, 9) := by kernel_rfl
theorem tf31x8 : tyField Tryd.prog 31 8 = some (8, false, 1) := by kernel_rfl
theorem tv9 : tyVar Tryd.prog 9 = some (false, 1) := by kernel_rfl
theorem tf31x6 : tyField Tryd.prog 31 6 = some (6, false, 1) := by kernel_rfl
theorem tf31x7 : tyField Tryd.prog 31 7 = some (7, false, 1) := by kernel_rfl
theorem tf26x0 : tyField Tryd.prog 26 0 = some (0, false, 1) := by kernel_rfl
theorem tf26x1 : tyField Tryd.prog 26 1 = some (1, false, 1) := by kernel_rfl
theorem tv24 : tyVar Tryd.prog 24 = some (false, 1) := by kernel_rfl
theorem ti24 : tyIs Tryd.prog 24 = 3 := by kernel_rfl
theorem ts24 : tySlice Tryd.prog 24 = some (74, 3, 48) := by kernel_rfl
theorem tv74 : tyVar Tryd.prog 74 = some (true, 3) := by kernel_rfl
theorem tz74 : tyZero Tryd.prog 74 = some [.string ByteArray.empty, .slice none 0 0, .int .i64 0] := by kernel_rfl
theorem tf74x1 : tyField Tryd.prog 74 1 = some (1, true, 2) := by kernel_rfl
theorem tf72x0 : tyField Tryd.prog 72 0 = some (0, false, 1) := by kernel_rfl
theorem tv70 : tyVar Tryd.prog 70 = some (false, 1) := by kernel_rfl
theorem tf74x0 : tyField Tryd.prog 74 0 = some (0, false, 1) := by kernel_rfl
theorem tz72 : tyZero Tryd.prog 72 = some [.slice none 0 0, .int .i64 0] := by kernel_rfl
theorem tv72 : tyVar Tryd.prog 72 = some (true, 2) := by kernel_rfl
theorem tf31x0 : tyField Tryd.prog 31 0 = some (0, false, 1) := by kernel_rfl
theorem ti72 : tyIs Tryd.prog 72 = 6 := by kernel_rfl
theorem pl72 : plAll Tryd.prog 72 = some [(0, some 1), (1, some 1)] := by kernel_rfl
theorem tb72 : tyIs Tryd.prog 72 = 6 ∧ tyOk Tryd.prog 72 = true ∧ tyZero Tryd.prog 72 = some [.slice none 0 0, .int .i64 0] ∧ ∀ i, tyPlace Tryd.prog 72 i = plOf [(0, some 1), (1, some 1)] i := ⟨ti72, by kernel_rfl, tz72, fun i => tyPlace_all pl72 i⟩
theorem ti70 : tyIs Tryd.prog 70 = 3 := by kernel_rfl
theorem ts70 : tySlice Tryd.prog 70 = some (36, 13, 136) := by kernel_rfl
theorem tv36 : tyVar Tryd.prog 36 = some (true, 13) := by kernel_rfl
theorem tz36 : tyZero Tryd.prog 36 = some [.int .i64 0, .int .i64 0, .int .i64 0, .int .i64 0, .int .i64 0, .int .i64 0, .string ByteArray.empty, .string ByteArray.empty, .string ByteArray.empty, .string ByteArray.empty, .int .i64 0, .int .i64 0, .int .i64 0] := by kernel_rfl
theorem tf36x0 : tyField Tryd.prog 36 0 = some (0, true, 9) := by kernel_rfl
theorem tz135 : tyZero Tryd.prog 135 = some [.string ByteArray.empty, .string ByteArray.empty, .int .i64 0] := by kernel_rfl
theorem ti135 : tyIs Tryd.prog 135 = 6 := by kernel_rfl
theorem pl135 : plAll Tryd.prog 135 = some [(0, some 1), (1, some 1), (2, some 1)] := by kernel_rfl
theorem tb135 : tyIs Tryd.prog 135 = 6 ∧ tyOk Tryd.prog 135 = true ∧ tyZero Tryd.prog 135 = some [.string ByteArray.empty, .string ByteArray.empty, .int .i64 0] ∧ ∀ i, tyPlace Tryd.prog 135 i = plOf [(0, some 1), (1, some 1), (2, some 1)] i := ⟨ti135, by kernel_rfl, tz135, fun i => tyPlace_all pl135 i⟩
theorem tv135 : tyVar Tryd.prog 135 = some (true, 3) := by kernel_rfl
theorem eg135 : Tryd.prog.eqGuardType Tryd.prog.depth 135 = false := by kernel_rfl
theorem eqk135 : eqK Tryd.prog 40 135 = some [2, 2, 1] := by kernel_rfl
theorem ti36 : tyIs Tryd.prog 36 = 6 := by kernel_rfl
theorem pl36 : plAll Tryd.prog 36 = some [(0, some 9), (9, some 1), (10, some 1), (11, some 1), (12, some 1)] := by kernel_rfl
theorem tb36 : tyIs Tryd.prog 36 = 6 ∧ tyOk Tryd.prog 36 = true ∧ tyZero Tryd.prog 36 = some [.int .i64 0, .int .i64 0, .int .i64 0, .int .i64 0, .int .i64 0, .int .i64 0, .string ByteArray.empty, .string ByteArray.empty, .string ByteArray.empty, .string ByteArray.empty, .int .i64 0, .int .i64 0, .int .i64 0] ∧ ∀ i, tyPlace Tryd.prog 36 i = plOf [(0, some 9), (9, some 1), (10, some 1), (11, some 1), (12, some 1)] i := ⟨ti36, by kernel_rfl, tz36, fun i => tyPlace_all pl36 i⟩
theorem tv55 : tyVar Tryd.prog 55 = some (true, 2) := by kernel_rfl
theorem tf55x1 : tyField Tryd.prog 55 1 = some (1, false, 1) := by kernel_rfl
theorem tv53 : tyVar Tryd.prog 53 = some (false, 1) := by kernel_rfl
theorem ti53 : tyIs Tryd.prog 53 = 3 := by kernel_rfl
theorem ts53 : tySlice Tryd.prog 53 = some (93, 3, 48) := by kernel_rfl
theorem tf93x1 : tyField Tryd.prog 93 1 = some (1, true, 2) := by kernel_rfl
theorem tf91x0 : tyField Tryd.prog 91 0 = some (0, false, 1) := by kernel_rfl
theorem tv89 : tyVar Tryd.prog 89 = some (false, 1) := by kernel_rfl
theorem ti89 : tyIs Tryd.prog 89 = 3 := by kernel_rfl
theorem tf55x0 : tyField Tryd.prog 55 0 = some (0, false, 1) := by kernel_rfl
theorem ti64 : tyIs Tryd.prog 64 = 3 := by kernel_rfl
end Go.Proofs.YtnghhjokfelglaaDoor

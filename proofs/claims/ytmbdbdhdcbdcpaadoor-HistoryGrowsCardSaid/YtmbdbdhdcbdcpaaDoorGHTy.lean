import Derived.Test.YtmbdbdhdcbdcpaaDoorProg
import Derived.Test.YtmbdbdhdcbdcpaaDoorAbs29
import Derived.Test.YtmbdbdhdcbdcpaaDoorLib
namespace Go.Proofs.YtmbdbdhdcbdcpaaDoor
open Go Abs
set_option maxRecDepth 100000
set_option linter.unusedVariables false
set_option linter.unusedSimpArgs false
abbrev aBBBBBB {b0 : Bool} {b1 : Bool} {b2 : Bool} {b3 : Bool} {b4 : Bool} {b5 : Bool} : List AV := [.c (.bool b0), .c (.bool b1), .c (.bool b2), .c (.bool b3), .c (.bool b4), .c (.bool b5)]
abbrev aBBBBBBB {b0 : Bool} {b1 : Bool} {b2 : Bool} {b3 : Bool} {b4 : Bool} {b5 : Bool} {b6 : Bool} : List AV := [.c (.bool b0), .c (.bool b1), .c (.bool b2), .c (.bool b3), .c (.bool b4), .c (.bool b5), .c (.bool b6)]
abbrev aIIIB {k0 : IntKind} {n0 : Int} {k1 : IntKind} {n1 : Int} {k2 : IntKind} {n2 : Int} {b3 : Bool} : List AV := [.c (.int k0 n0), .c (.int k1 n1), .c (.int k2 n2), .c (.bool b3)]
abbrev aIIIIIIIIISSIISLLSIIIIIIIILB {k0 : IntKind} {n0 : Int} {k1 : IntKind} {n1 : Int} {k2 : IntKind} {n2 : Int} {k3 : IntKind} {n3 : Int} {k4 : IntKind} {n4 : Int} {k5 : IntKind} {n5 : Int} {k6 : IntKind} {n6 : Int} {k7 : IntKind} {n7 : Int} {k8 : IntKind} {n8 : Int} {s9 : List UInt8} {s10 : List UInt8} {k11 : IntKind} {n11 : Int} {k12 : IntKind} {n12 : Int} {s13 : List UInt8} {α14 : Type} {z14 : Nat} {r14 : α14 → List PV} {x14 : List α14} {α15 : Type} {z15 : Nat} {r15 : α15 → List PV} {x15 : List α15} {s16 : List UInt8} {k17 : IntKind} {n17 : Int} {k18 : IntKind} {n18 : Int} {k19 : IntKind} {n19 : Int} {k20 : IntKind} {n20 : Int} {k21 : IntKind} {n21 : Int} {k22 : IntKind} {n22 : Int} {k23 : IntKind} {n23 : Int} {k24 : IntKind} {n24 : Int} {α25 : Type} {z25 : Nat} {r25 : α25 → List PV} {x25 : List α25} {b26 : Bool} : List AV := [.c (.int k0 n0), .c (.int k1 n1), .c (.int k2 n2), .c (.int k3 n3), .c (.int k4 n4), .c (.int k5 n5), .c (.int k6 n6), .c (.int k7 n7), .c (.int k8 n8), .c (.str s9), .c (.str s10), .c (.int k11 n11), .c (.int k12 n12), .c (.str s13), .c (PV.ls z14 r14 x14), .c (PV.ls z15 r15 x15), .c (.str s16), .c (.int k17 n17), .c (.int k18 n18), .c (.int k19 n19), .c (.int k20 n20), .c (.int k21 n21), .c (.int k22 n22), .c (.int k23 n23), .c (.int k24 n24), .c (PV.ls z25 r25 x25), .c (.bool b26)]
abbrev aIIIIIIISSIISLLSIIIIIIIIL {k0 : IntKind} {n0 : Int} {k1 : IntKind} {n1 : Int} {k2 : IntKind} {n2 : Int} {k3 : IntKind} {n3 : Int} {k4 : IntKind} {n4 : Int} {k5 : IntKind} {n5 : Int} {k6 : IntKind} {n6 : Int} {s7 : List UInt8} {s8 : List UInt8} {k9 : IntKind} {n9 : Int} {k10 : IntKind} {n10 : Int} {s11 : List UInt8} {α12 : Type} {z12 : Nat} {r12 : α12 → List PV} {x12 : List α12} {α13 : Type} {z13 : Nat} {r13 : α13 → List PV} {x13 : List α13} {s14 : List UInt8} {k15 : IntKind} {n15 : Int} {k16 : IntKind} {n16 : Int} {k17 : IntKind} {n17 : Int} {k18 : IntKind} {n18 : Int} {k19 : IntKind} {n19 : Int} {k20 : IntKind} {n20 : Int} {k21 : IntKind} {n21 : Int} {k22 : IntKind} {n22 : Int} {α23 : Type} {z23 : Nat} {r23 : α23 → List PV} {x23 : List α23} : List AV := [.c (.int k0 n0), .c (.int k1 n1), .c (.int k2 n2), .c (.int k3 n3), .c (.int k4 n4), .c (.int k5 n5), .c (.int k6 n6), .c (.str s7), .c (.str s8), .c (.int k9 n9), .c (.int k10 n10), .c (.str s11), .c (PV.ls z12 r12 x12), .c (PV.ls z13 r13 x13), .c (.str s14), .c (.int k15 n15), .c (.int k16 n16), .c (.int k17 n17), .c (.int k18 n18), .c (.int k19 n19), .c (.int k20 n20), .c (.int k21 n21), .c (.int k22 n22), .c (PV.ls z23 r23 x23)]
abbrev aIISLL {k0 : IntKind} {n0 : Int} {k1 : IntKind} {n1 : Int} {s2 : List UInt8} {α3 : Type} {z3 : Nat} {r3 : α3 → List PV} {x3 : List α3} {α4 : Type} {z4 : Nat} {r4 : α4 → List PV} {x4 : List α4} : List AV := [.c (.int k0 n0), .c (.int k1 n1), .c (.str s2), .c (PV.ls z3 r3 x3), .c (PV.ls z4 r4 x4)]
abbrev aIISSIIISLLSIIIIIIIIL {k0 : IntKind} {n0 : Int} {k1 : IntKind} {n1 : Int} {s2 : List UInt8} {s3 : List UInt8} {k4 : IntKind} {n4 : Int} {k5 : IntKind} {n5 : Int} {k6 : IntKind} {n6 : Int} {s7 : List UInt8} {α8 : Type} {z8 : Nat} {r8 : α8 → List PV} {x8 : List α8} {α9 : Type} {z9 : Nat} {r9 : α9 → List PV} {x9 : List α9} {s10 : List UInt8} {k11 : IntKind} {n11 : Int} {k12 : IntKind} {n12 : Int} {k13 : IntKind} {n13 : Int} {k14 : IntKind} {n14 : Int} {k15 : IntKind} {n15 : Int} {k16 : IntKind} {n16 : Int} {k17 : IntKind} {n17 : Int} {k18 : IntKind} {n18 : Int} {α19 : Type} {z19 : Nat} {r19 : α19 → List PV} {x19 : List α19} : List AV := [.c (.int k0 n0), .c (.int k1 n1), .c (.str s2), .c (.str s3), .c (.int k4 n4), .c (.int k5 n5), .c (.int k6 n6), .c (.str s7), .c (PV.ls z8 r8 x8), .c (PV.ls z9 r9 x9), .c (.str s10), .c (.int k11 n11), .c (.int k12 n12), .c (.int k13 n13), .c (.int k14 n14), .c (.int k15 n15), .c (.int k16 n16), .c (.int k17 n17), .c (.int k18 n18), .c (PV.ls z19 r19 x19)]
abbrev aSIIIIIIIIL {s0 : List UInt8} {k1 : IntKind} {n1 : Int} {k2 : IntKind} {n2 : Int} {k3 : IntKind} {n3 : Int} {k4 : IntKind} {n4 : Int} {k5 : IntKind} {n5 : Int} {k6 : IntKind} {n6 : Int} {k7 : IntKind} {n7 : Int} {k8 : IntKind} {n8 : Int} {α9 : Type} {z9 : Nat} {r9 : α9 → List PV} {x9 : List α9} : List AV := [.c (.str s0), .c (.int k1 n1), .c (.int k2 n2), .c (.int k3 n3), .c (.int k4 n4), .c (.int k5 n5), .c (.int k6 n6), .c (.int k7 n7), .c (.int k8 n8), .c (PV.ls z9 r9 x9)]
abbrev u10 {x0 x1 x2 x3 x4 x5 x6 x7 x8 x9 : AV} : List AV := [x0, x1, x2, x3, x4, x5, x6, x7, x8, x9]
abbrev u20 {x0 x1 x2 x3 x4 x5 x6 x7 x8 x9 x10 x11 x12 x13 x14 x15 x16 x17 x18 x19 : AV} : List AV := [x0, x1, x2, x3, x4, x5, x6, x7, x8, x9, x10, x11, x12, x13, x14, x15, x16, x17, x18, x19]
abbrev u24 {x0 x1 x2 x3 x4 x5 x6 x7 x8 x9 x10 x11 x12 x13 x14 x15 x16 x17 x18 x19 x20 x21 x22 x23 : AV} : List AV := [x0, x1, x2, x3, x4, x5, x6, x7, x8, x9, x10, x11, x12, x13, x14, x15, x16, x17, x18, x19, x20, x21, x22, x23]
abbrev u5 {x0 x1 x2 x3 x4 : AV} : List AV := [x0, x1, x2, x3, x4]
structure ApiValue where
  mk ::
  Kind : Int
  Int : Int
  Text : (List UInt8)
  Items : (List ApiValue)
  Keys : (List (List UInt8))
instance : Inhabited ApiValue := ⟨ApiValue.mk 0 0 [] [] []⟩
mutual
def rowApiValue : ApiValue → List PV
  | ⟨x0, x1, x2, x3, x4⟩ => [.int .i64 x0, .int .i64 x1, .str x2, .list 5 (rowsApiValue x3), PV.ls 1 rowS x4]
def rowsApiValue : List ApiValue → List (List PV)
  | [] => []
  | x :: l => rowApiValue x :: rowsApiValue l
end
theorem rowsApiValue_eq : ∀ l, rowsApiValue l = l.map rowApiValue
  | [] => by simp [rowsApiValue]
  | x :: l => by simp [rowsApiValue, rowsApiValue_eq l]
def exApiValue (x : ApiValue) : List PV := [.int .i64 x.Kind, .int .i64 x.Int, .str x.Text, PV.ls 5 rowApiValue x.Items, PV.ls 1 rowS x.Keys]
theorem rowApiValue_eq (x : ApiValue) : rowApiValue x = exApiValue x := by cases x; simp [rowApiValue, exApiValue, rowsApiValue_eq, PV.ls]
theorem rowApiValue_len (x : ApiValue) : (rowApiValue x).length = 5 := by rw [rowApiValue_eq]; rfl
structure ApiPolicy where
  mk ::
  Queue : (List UInt8)
  ToStart : Int
  ToClose : Int
  Total : Int
  Beat : Int
  First : Int
  Coef : Int
  Most : Int
  Attempts : Int
  Fatal : (List (List UInt8))
instance : Inhabited ApiPolicy := ⟨ApiPolicy.mk [] 0 0 0 0 0 0 0 0 []⟩
def rowApiPolicy (x : ApiPolicy) : List PV := [.str x.Queue, .int .i64 x.ToStart, .int .i64 x.ToClose, .int .i64 x.Total, .int .i64 x.Beat, .int .i64 x.First, .int .i64 x.Coef, .int .i64 x.Most, .int .i64 x.Attempts, PV.ls 1 rowS x.Fatal]
structure ApiEvent where
  mk ::
  ID : Int
  Kind : Int
  Time : Int
  Seq : Int
  Ref : Int
  N : Int
  Code : Int
  Name : (List UInt8)
  Key : (List UInt8)
  Data : ApiValue
  Opts : ApiPolicy
instance : Inhabited ApiEvent := ⟨ApiEvent.mk 0 0 0 0 0 0 0 [] [] default default⟩
def rowApiEvent (x : ApiEvent) : List PV := [.int .i64 x.ID, .int .i64 x.Kind, .int .i64 x.Time, .int .i64 x.Seq, .int .i64 x.Ref, .int .i64 x.N, .int .i64 x.Code, .str x.Name, .str x.Key, .int .i64 x.Data.Kind, .int .i64 x.Data.Int, .str x.Data.Text, PV.ls 5 rowApiValue x.Data.Items, PV.ls 1 rowS x.Data.Keys, .str x.Opts.Queue, .int .i64 x.Opts.ToStart, .int .i64 x.Opts.ToClose, .int .i64 x.Opts.Total, .int .i64 x.Opts.Beat, .int .i64 x.Opts.First, .int .i64 x.Opts.Coef, .int .i64 x.Opts.Most, .int .i64 x.Opts.Attempts, PV.ls 1 rowS x.Opts.Fatal]
structure ApiCommand where
  mk ::
  Kind : Int
  Seq : Int
  Name : (List UInt8)
  Key : (List UInt8)
  N : Int
  Data : ApiValue
  Opts : ApiPolicy
instance : Inhabited ApiCommand := ⟨ApiCommand.mk 0 0 [] [] 0 default default⟩
def rowApiCommand (x : ApiCommand) : List PV := [.int .i64 x.Kind, .int .i64 x.Seq, .str x.Name, .str x.Key, .int .i64 x.N, .int .i64 x.Data.Kind, .int .i64 x.Data.Int, .str x.Data.Text, PV.ls 5 rowApiValue x.Data.Items, PV.ls 1 rowS x.Data.Keys, .str x.Opts.Queue, .int .i64 x.Opts.ToStart, .int .i64 x.Opts.ToClose, .int .i64 x.Opts.Total, .int .i64 x.Opts.Beat, .int .i64 x.Opts.First, .int .i64 x.Opts.Coef, .int .i64 x.Opts.Most, .int .i64 x.Opts.Attempts, PV.ls 1 rowS x.Opts.Fatal]
structure CommandUses where
  mk ::
  seq_ : Bool
  name_ : Bool
  key_ : Bool
  n_ : Bool
  data_ : Bool
  opts_ : Bool
instance : Inhabited CommandUses := ⟨CommandUses.mk false false false false false false⟩
def rowCommandUses (x : CommandUses) : List PV := [.bool x.seq_, .bool x.name_, .bool x.key_, .bool x.n_, .bool x.data_, .bool x.opts_]
structure EventUses where
  mk ::
  seq_ : Bool
  ref_ : Bool
  n_ : Bool
  code_ : Bool
  name_ : Bool
  key_ : Bool
  data_ : Bool
instance : Inhabited EventUses := ⟨EventUses.mk false false false false false false false⟩
def rowEventUses (x : EventUses) : List PV := [.bool x.seq_, .bool x.ref_, .bool x.n_, .bool x.code_, .bool x.name_, .bool x.key_, .bool x.data_]
structure HistoryChecker where
  mk ::
  task_ : Int
  ref_ : Int
  before_ : ApiEvent
  closed_ : Bool
instance : Inhabited HistoryChecker := ⟨HistoryChecker.mk 0 0 default false⟩
def rowHistoryChecker (x : HistoryChecker) : List PV := [.int .i64 x.task_, .int .i64 x.ref_, .int .i64 x.before_.ID, .int .i64 x.before_.Kind, .int .i64 x.before_.Time, .int .i64 x.before_.Seq, .int .i64 x.before_.Ref, .int .i64 x.before_.N, .int .i64 x.before_.Code, .str x.before_.Name, .str x.before_.Key, .int .i64 x.before_.Data.Kind, .int .i64 x.before_.Data.Int, .str x.before_.Data.Text, PV.ls 5 rowApiValue x.before_.Data.Items, PV.ls 1 rowS x.before_.Data.Keys, .str x.before_.Opts.Queue, .int .i64 x.before_.Opts.ToStart, .int .i64 x.before_.Opts.ToClose, .int .i64 x.before_.Opts.Total, .int .i64 x.before_.Opts.Beat, .int .i64 x.before_.Opts.First, .int .i64 x.before_.Opts.Coef, .int .i64 x.before_.Opts.Most, .int .i64 x.before_.Opts.Attempts, PV.ls 1 rowS x.before_.Opts.Fatal, .bool x.closed_]
structure HistoryTurn where
  mk ::
  Start : Int
  End : Int
  Next : Int
  Done : Bool
instance : Inhabited HistoryTurn := ⟨HistoryTurn.mk 0 0 0 false⟩
def rowHistoryTurn (x : HistoryTurn) : List PV := [.int .i64 x.Start, .int .i64 x.End, .int .i64 x.Next, .bool x.Done]
theorem ti63 : tyIs Tryd.prog 63 = 3 := by kernel_rfl
theorem ti112 : tyIs Tryd.prog 112 = 6 := by kernel_rfl
theorem tz112 : tyZero Tryd.prog 112 = some [.int .i64 0, .int .i64 0, .string ByteArray.empty, .slice none 0 0, .slice none 0 0] := by kernel_rfl
theorem pl112 : plAll Tryd.prog 112 = some [(0, some 1), (1, some 1), (2, some 1), (3, some 1), (4, some 1)] := by kernel_rfl
theorem tb112 : tyIs Tryd.prog 112 = 6 ∧ tyOk Tryd.prog 112 = true ∧ tyZero Tryd.prog 112 = some [.int .i64 0, .int .i64 0, .string ByteArray.empty, .slice none 0 0, .slice none 0 0] ∧ ∀ i, tyPlace Tryd.prog 112 i = plOf [(0, some 1), (1, some 1), (2, some 1), (3, some 1), (4, some 1)] i := ⟨ti112, by kernel_rfl, tz112, fun i => tyPlace_all pl112 i⟩
theorem ts109 : tySlice Tryd.prog 109 = some (112, 5, 80) := by kernel_rfl
theorem tv112 : tyVar Tryd.prog 112 = some (true, 5) := by kernel_rfl
theorem ti116 : tyIs Tryd.prog 116 = 6 := by kernel_rfl
theorem tz116 : tyZero Tryd.prog 116 = some [.int .i64 0, .int .i64 0, .int .i64 0, .int .i64 0, .int .i64 0, .int .i64 0, .int .i64 0, .string ByteArray.empty, .string ByteArray.empty, .int .i64 0, .int .i64 0, .string ByteArray.empty, .slice none 0 0, .slice none 0 0, .string ByteArray.empty, .int .i64 0, .int .i64 0, .int .i64 0, .int .i64 0, .int .i64 0, .int .i64 0, .int .i64 0, .int .i64 0, .slice none 0 0] := by kernel_rfl
theorem pl116 : plAll Tryd.prog 116 = some [(0, some 1), (1, some 1), (2, some 1), (3, some 1), (4, some 1), (5, some 1), (6, some 1), (7, some 1), (8, some 1), (9, some 5), (14, some 10)] := by kernel_rfl
theorem tb116 : tyIs Tryd.prog 116 = 6 ∧ tyOk Tryd.prog 116 = true ∧ tyZero Tryd.prog 116 = some [.int .i64 0, .int .i64 0, .int .i64 0, .int .i64 0, .int .i64 0, .int .i64 0, .int .i64 0, .string ByteArray.empty, .string ByteArray.empty, .int .i64 0, .int .i64 0, .string ByteArray.empty, .slice none 0 0, .slice none 0 0, .string ByteArray.empty, .int .i64 0, .int .i64 0, .int .i64 0, .int .i64 0, .int .i64 0, .int .i64 0, .int .i64 0, .int .i64 0, .slice none 0 0] ∧ ∀ i, tyPlace Tryd.prog 116 i = plOf [(0, some 1), (1, some 1), (2, some 1), (3, some 1), (4, some 1), (5, some 1), (6, some 1), (7, some 1), (8, some 1), (9, some 5), (14, some 10)] i := ⟨ti116, by kernel_rfl, tz116, fun i => tyPlace_all pl116 i⟩
theorem ts63 : tySlice Tryd.prog 63 = some (116, 24, 272) := by kernel_rfl
theorem tz153 : tyZero Tryd.prog 153 = some [.int .i64 0, .int .i64 0, .int .i64 0, .int .i64 0, .int .i64 0, .int .i64 0, .int .i64 0, .int .i64 0, .int .i64 0, .string ByteArray.empty, .string ByteArray.empty, .int .i64 0, .int .i64 0, .string ByteArray.empty, .slice none 0 0, .slice none 0 0, .string ByteArray.empty, .int .i64 0, .int .i64 0, .int .i64 0, .int .i64 0, .int .i64 0, .int .i64 0, .int .i64 0, .int .i64 0, .slice none 0 0, .bool false] := by kernel_rfl
theorem tv116 : tyVar Tryd.prog 116 = some (true, 24) := by kernel_rfl
theorem tf116x1 : tyField Tryd.prog 116 1 = some (1, false, 1) := by kernel_rfl
theorem tv3 : tyVar Tryd.prog 3 = some (false, 1) := by kernel_rfl
theorem tf116x0 : tyField Tryd.prog 116 0 = some (0, false, 1) := by kernel_rfl
theorem tf116x2 : tyField Tryd.prog 116 2 = some (2, false, 1) := by kernel_rfl
theorem tf116x9 : tyField Tryd.prog 116 9 = some (9, true, 5) := by kernel_rfl
theorem tf112x3 : tyField Tryd.prog 112 3 = some (3, false, 1) := by kernel_rfl
theorem tv109 : tyVar Tryd.prog 109 = some (false, 1) := by kernel_rfl
theorem ti109 : tyIs Tryd.prog 109 = 3 := by kernel_rfl
theorem tf112x2 : tyField Tryd.prog 112 2 = some (2, false, 1) := by kernel_rfl
theorem tv9 : tyVar Tryd.prog 9 = some (false, 1) := by kernel_rfl
theorem ti9 : tyIs Tryd.prog 9 = 2 := by kernel_rfl
theorem tf112x4 : tyField Tryd.prog 112 4 = some (4, false, 1) := by kernel_rfl
theorem tv110 : tyVar Tryd.prog 110 = some (false, 1) := by kernel_rfl
theorem ti110 : tyIs Tryd.prog 110 = 3 := by kernel_rfl
theorem ts110 : tySlice Tryd.prog 110 = some (9, 1, 16) := by kernel_rfl
theorem tf112x1 : tyField Tryd.prog 112 1 = some (1, false, 1) := by kernel_rfl
theorem tf112x0 : tyField Tryd.prog 112 0 = some (0, false, 1) := by kernel_rfl
theorem tv4 : tyVar Tryd.prog 4 = some (false, 1) := by kernel_rfl
theorem tf116x3 : tyField Tryd.prog 116 3 = some (3, false, 1) := by kernel_rfl
theorem tf116x7 : tyField Tryd.prog 116 7 = some (7, false, 1) := by kernel_rfl
theorem tf116x8 : tyField Tryd.prog 116 8 = some (8, false, 1) := by kernel_rfl
theorem tf116x5 : tyField Tryd.prog 116 5 = some (5, false, 1) := by kernel_rfl
theorem tf116x10 : tyField Tryd.prog 116 10 = some (14, true, 10) := by kernel_rfl
theorem tv114 : tyVar Tryd.prog 114 = some (true, 10) := by kernel_rfl
theorem ti194 : tyIs Tryd.prog 194 = 6 := by kernel_rfl
theorem tz194 : tyZero Tryd.prog 194 = some [.int .i64 0, .int .i64 0, .string ByteArray.empty, .string ByteArray.empty, .int .i64 0, .int .i64 0, .int .i64 0, .string ByteArray.empty, .slice none 0 0, .slice none 0 0, .string ByteArray.empty, .int .i64 0, .int .i64 0, .int .i64 0, .int .i64 0, .int .i64 0, .int .i64 0, .int .i64 0, .int .i64 0, .slice none 0 0] := by kernel_rfl
theorem pl194 : plAll Tryd.prog 194 = some [(0, some 1), (1, some 1), (2, some 1), (3, some 1), (4, some 1), (5, some 5), (10, some 10)] := by kernel_rfl
theorem tb194 : tyIs Tryd.prog 194 = 6 ∧ tyOk Tryd.prog 194 = true ∧ tyZero Tryd.prog 194 = some [.int .i64 0, .int .i64 0, .string ByteArray.empty, .string ByteArray.empty, .int .i64 0, .int .i64 0, .int .i64 0, .string ByteArray.empty, .slice none 0 0, .slice none 0 0, .string ByteArray.empty, .int .i64 0, .int .i64 0, .int .i64 0, .int .i64 0, .int .i64 0, .int .i64 0, .int .i64 0, .int .i64 0, .slice none 0 0] ∧ ∀ i, tyPlace Tryd.prog 194 i = plOf [(0, some 1), (1, some 1), (2, some 1), (3, some 1), (4, some 1), (5, some 5), (10, some 10)] i := ⟨ti194, by kernel_rfl, tz194, fun i => tyPlace_all pl194 i⟩
theorem tv194 : tyVar Tryd.prog 194 = some (true, 20) := by kernel_rfl
theorem tf116x6 : tyField Tryd.prog 116 6 = some (6, false, 1) := by kernel_rfl
theorem tf116x4 : tyField Tryd.prog 116 4 = some (4, false, 1) := by kernel_rfl
theorem tf194x0 : tyField Tryd.prog 194 0 = some (0, false, 1) := by kernel_rfl
theorem tz216 : tyZero Tryd.prog 216 = some [.bool false, .bool false, .bool false, .bool false, .bool false, .bool false] := by kernel_rfl
theorem ti216 : tyIs Tryd.prog 216 = 6 := by kernel_rfl
theorem pl216 : plAll Tryd.prog 216 = some [(0, some 1), (1, some 1), (2, some 1), (3, some 1), (4, some 1), (5, some 1)] := by kernel_rfl
theorem tb216 : tyIs Tryd.prog 216 = 6 ∧ tyOk Tryd.prog 216 = true ∧ tyZero Tryd.prog 216 = some [.bool false, .bool false, .bool false, .bool false, .bool false, .bool false] ∧ ∀ i, tyPlace Tryd.prog 216 i = plOf [(0, some 1), (1, some 1), (2, some 1), (3, some 1), (4, some 1), (5, some 1)] i := ⟨ti216, by kernel_rfl, tz216, fun i => tyPlace_all pl216 i⟩
theorem tv216 : tyVar Tryd.prog 216 = some (true, 6) := by kernel_rfl
theorem tf216x0 : tyField Tryd.prog 216 0 = some (0, false, 1) := by kernel_rfl
theorem tf194x1 : tyField Tryd.prog 194 1 = some (1, false, 1) := by kernel_rfl
theorem tf216x1 : tyField Tryd.prog 216 1 = some (1, false, 1) := by kernel_rfl
theorem tf194x2 : tyField Tryd.prog 194 2 = some (2, false, 1) := by kernel_rfl
theorem tf216x2 : tyField Tryd.prog 216 2 = some (2, false, 1) := by kernel_rfl
theorem tf194x3 : tyField Tryd.prog 194 3 = some (3, false, 1) := by kernel_rfl
theorem tf216x3 : tyField Tryd.prog 216 3 = some (3, false, 1) := by kernel_rfl
theorem tf194x4 : tyField Tryd.prog 194 4 = some (4, false, 1) := by kernel_rfl
theorem tf216x4 : tyField Tryd.prog 216 4 = some (4, false, 1) := by kernel_rfl
theorem tf194x5 : tyField Tryd.prog 194 5 = some (5, true, 5) := by kernel_rfl
theorem tf216x5 : tyField Tryd.prog 216 5 = some (5, false, 1) := by kernel_rfl
theorem tf194x6 : tyField Tryd.prog 194 6 = some (10, true, 10) := by kernel_rfl
theorem ti114 : tyIs Tryd.prog 114 = 6 := by kernel_rfl
theorem tz114 : tyZero Tryd.prog 114 = some [.string ByteArray.empty, .int .i64 0, .int .i64 0, .int .i64 0, .int .i64 0, .int .i64 0, .int .i64 0, .int .i64 0, .int .i64 0, .slice none 0 0] := by kernel_rfl
theorem pl114 : plAll Tryd.prog 114 = some [(0, some 1), (1, some 1), (2, some 1), (3, some 1), (4, some 1), (5, some 1), (6, some 1), (7, some 1), (8, some 1), (9, some 1)] := by kernel_rfl
theorem tb114 : tyIs Tryd.prog 114 = 6 ∧ tyOk Tryd.prog 114 = true ∧ tyZero Tryd.prog 114 = some [.string ByteArray.empty, .int .i64 0, .int .i64 0, .int .i64 0, .int .i64 0, .int .i64 0, .int .i64 0, .int .i64 0, .int .i64 0, .slice none 0 0] ∧ ∀ i, tyPlace Tryd.prog 114 i = plOf [(0, some 1), (1, some 1), (2, some 1), (3, some 1), (4, some 1), (5, some 1), (6, some 1), (7, some 1), (8, some 1), (9, some 1)] i := ⟨ti114, by kernel_rfl, tz114, fun i => tyPlace_all pl114 i⟩
theorem tf114x1 : tyField Tryd.prog 114 1 = some (1, false, 1) := by kernel_rfl
theorem tf114x2 : tyField Tryd.prog 114 2 = some (2, false, 1) := by kernel_rfl
theorem tf114x3 : tyField Tryd.prog 114 3 = some (3, false, 1) := by kernel_rfl
theorem tf114x4 : tyField Tryd.prog 114 4 = some (4, false, 1) := by kernel_rfl
theorem tf114x5 : tyField Tryd.prog 114 5 = some (5, false, 1) := by kernel_rfl
theorem tf114x6 : tyField Tryd.prog 114 6 = some (6, false, 1) := by kernel_rfl
theorem tf114x7 : tyField Tryd.prog 114 7 = some (7, false, 1) := by kernel_rfl
theorem tf114x8 : tyField Tryd.prog 114 8 = some (8, false, 1) := by kernel_rfl
theorem ts222 : tySlice Tryd.prog 222 = some (225, 1, 8) := by kernel_rfl
theorem ti222 : tyIs Tryd.prog 222 = 3 := by kernel_rfl
theorem tv225 : tyVar Tryd.prog 225 = some (false, 1) := by kernel_rfl
theorem tf114x0 : tyField Tryd.prog 114 0 = some (0, false, 1) := by kernel_rfl
theorem tf114x9 : tyField Tryd.prog 114 9 = some (9, false, 1) := by kernel_rfl
theorem ts40 : tySlice Tryd.prog 40 = some (3, 1, 8) := by kernel_rfl
theorem ti40 : tyIs Tryd.prog 40 = 3 := by kernel_rfl
theorem tz179 : tyZero Tryd.prog 179 = some [.bool false, .bool false, .bool false, .bool false, .bool false, .bool false, .bool false] := by kernel_rfl
theorem ti179 : tyIs Tryd.prog 179 = 6 := by kernel_rfl
theorem pl179 : plAll Tryd.prog 179 = some [(0, some 1), (1, some 1), (2, some 1), (3, some 1), (4, some 1), (5, some 1), (6, some 1)] := by kernel_rfl
theorem tb179 : tyIs Tryd.prog 179 = 6 ∧ tyOk Tryd.prog 179 = true ∧ tyZero Tryd.prog 179 = some [.bool false, .bool false, .bool false, .bool false, .bool false, .bool false, .bool false] ∧ ∀ i, tyPlace Tryd.prog 179 i = plOf [(0, some 1), (1, some 1), (2, some 1), (3, some 1), (4, some 1), (5, some 1), (6, some 1)] i := ⟨ti179, by kernel_rfl, tz179, fun i => tyPlace_all pl179 i⟩
theorem tv179 : tyVar Tryd.prog 179 = some (true, 7) := by kernel_rfl
theorem tf179x0 : tyField Tryd.prog 179 0 = some (0, false, 1) := by kernel_rfl
theorem tf179x1 : tyField Tryd.prog 179 1 = some (1, false, 1) := by kernel_rfl
theorem tf179x2 : tyField Tryd.prog 179 2 = some (2, false, 1) := by kernel_rfl
theorem tf179x3 : tyField Tryd.prog 179 3 = some (3, false, 1) := by kernel_rfl
theorem tf179x4 : tyField Tryd.prog 179 4 = some (4, false, 1) := by kernel_rfl
theorem tf179x5 : tyField Tryd.prog 179 5 = some (5, false, 1) := by kernel_rfl
theorem tf179x6 : tyField Tryd.prog 179 6 = some (6, false, 1) := by kernel_rfl
theorem tf153x2 : tyField Tryd.prog 153 2 = some (2, true, 24) := by kernel_rfl
theorem tf153x3 : tyField Tryd.prog 153 3 = some (26, false, 1) := by kernel_rfl
theorem ti4 : tyIs Tryd.prog 4 = 4 := by kernel_rfl
theorem tf153x0 : tyField Tryd.prog 153 0 = some (0, false, 1) := by kernel_rfl
theorem tf153x1 : tyField Tryd.prog 153 1 = some (1, false, 1) := by kernel_rfl
theorem ti69 : tyIs Tryd.prog 69 = 6 := by kernel_rfl
theorem tz69 : tyZero Tryd.prog 69 = some [.int .i64 0, .int .i64 0, .int .i64 0, .bool false] := by kernel_rfl
theorem pl69 : plAll Tryd.prog 69 = some [(0, some 1), (1, some 1), (2, some 1), (3, some 1)] := by kernel_rfl
theorem tb69 : tyIs Tryd.prog 69 = 6 ∧ tyOk Tryd.prog 69 = true ∧ tyZero Tryd.prog 69 = some [.int .i64 0, .int .i64 0, .int .i64 0, .bool false] ∧ ∀ i, tyPlace Tryd.prog 69 i = plOf [(0, some 1), (1, some 1), (2, some 1), (3, some 1)] i := ⟨ti69, by kernel_rfl, tz69, fun i => tyPlace_all pl69 i⟩
theorem ts66 : tySlice Tryd.prog 66 = some (69, 4, 32) := by kernel_rfl
theorem ti66 : tyIs Tryd.prog 66 = 3 := by kernel_rfl
theorem tv69 : tyVar Tryd.prog 69 = some (true, 4) := by kernel_rfl
theorem tf69x3 : tyField Tryd.prog 69 3 = some (3, false, 1) := by kernel_rfl
theorem tf69x2 : tyField Tryd.prog 69 2 = some (2, false, 1) := by kernel_rfl
theorem eg69 : Tryd.prog.eqGuardType Tryd.prog.depth 69 = false := by kernel_rfl
theorem eqk69 : eqK Tryd.prog 40 69 = some [1, 1, 1, 0] := by kernel_rfl
theorem tf69x0 : tyField Tryd.prog 69 0 = some (0, false, 1) := by kernel_rfl
theorem by116 : Tryd.prog.bytesOf 116 = 272 := by kernel_rfl
theorem sl63 : tySl Tryd.prog 63 = some (116, 24) := by kernel_rfl
theorem fs116 : tyFs Tryd.prog 116 = some [3, 3, 3, 3, 3, 3, 3, 9, 9, 112, 114] := by kernel_rfl
theorem tk3 : tyInt Tryd.prog 3 = some .i64 := by kernel_rfl
theorem fs112 : tyFs Tryd.prog 112 = some [3, 3, 9, 109, 110] := by kernel_rfl
theorem by112 : Tryd.prog.bytesOf 112 = 80 := by kernel_rfl
theorem sl109 : tySl Tryd.prog 109 = some (112, 5) := by kernel_rfl
theorem by9 : Tryd.prog.bytesOf 9 = 16 := by kernel_rfl
theorem sl110 : tySl Tryd.prog 110 = some (9, 1) := by kernel_rfl
theorem fs114 : tyFs Tryd.prog 114 = some [9, 3, 3, 3, 3, 3, 3, 3, 3, 110] := by kernel_rfl
theorem fs194 : tyFs Tryd.prog 194 = some [3, 3, 9, 9, 3, 112, 114] := by kernel_rfl
end Go.Proofs.YtmbdbdhdcbdcpaaDoor

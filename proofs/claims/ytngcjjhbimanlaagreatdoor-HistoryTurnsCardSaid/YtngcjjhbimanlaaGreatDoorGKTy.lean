import Derived.Test.YtngcjjhbimanlaaGreatDoorProg
import Derived.Test.YtngcjjhbimanlaaGreatDoorAbs29
import Derived.Test.YtngcjjhbimanlaaGreatDoorLib
namespace Go.Proofs.YtngcjjhbimanlaaGreatDoor
open Go Abs
set_option maxRecDepth 100000
set_option linter.unusedVariables false
set_option linter.unusedSimpArgs false
abbrev aBBBBBB {b0 : Bool} {b1 : Bool} {b2 : Bool} {b3 : Bool} {b4 : Bool} {b5 : Bool} : List AV := [.c (.bool b0), .c (.bool b1), .c (.bool b2), .c (.bool b3), .c (.bool b4), .c (.bool b5)]
abbrev aBBBBBBB {b0 : Bool} {b1 : Bool} {b2 : Bool} {b3 : Bool} {b4 : Bool} {b5 : Bool} {b6 : Bool} : List AV := [.c (.bool b0), .c (.bool b1), .c (.bool b2), .c (.bool b3), .c (.bool b4), .c (.bool b5), .c (.bool b6)]
abbrev aBBBBBBBB {b0 : Bool} {b1 : Bool} {b2 : Bool} {b3 : Bool} {b4 : Bool} {b5 : Bool} {b6 : Bool} {b7 : Bool} : List AV := [.c (.bool b0), .c (.bool b1), .c (.bool b2), .c (.bool b3), .c (.bool b4), .c (.bool b5), .c (.bool b6), .c (.bool b7)]
abbrev aIIIB {k0 : IntKind} {n0 : Int} {k1 : IntKind} {n1 : Int} {k2 : IntKind} {n2 : Int} {b3 : Bool} : List AV := [.c (.int k0 n0), .c (.int k1 n1), .c (.int k2 n2), .c (.bool b3)]
abbrev aIIIIIIIIISSIISLLSIIIIIIIILB {k0 : IntKind} {n0 : Int} {k1 : IntKind} {n1 : Int} {k2 : IntKind} {n2 : Int} {k3 : IntKind} {n3 : Int} {k4 : IntKind} {n4 : Int} {k5 : IntKind} {n5 : Int} {k6 : IntKind} {n6 : Int} {k7 : IntKind} {n7 : Int} {k8 : IntKind} {n8 : Int} {s9 : List UInt8} {s10 : List UInt8} {k11 : IntKind} {n11 : Int} {k12 : IntKind} {n12 : Int} {s13 : List UInt8} {α14 : Type} {z14 : Nat} {r14 : α14 → List PV} {x14 : List α14} {α15 : Type} {z15 : Nat} {r15 : α15 → List PV} {x15 : List α15} {s16 : List UInt8} {k17 : IntKind} {n17 : Int} {k18 : IntKind} {n18 : Int} {k19 : IntKind} {n19 : Int} {k20 : IntKind} {n20 : Int} {k21 : IntKind} {n21 : Int} {k22 : IntKind} {n22 : Int} {k23 : IntKind} {n23 : Int} {k24 : IntKind} {n24 : Int} {α25 : Type} {z25 : Nat} {r25 : α25 → List PV} {x25 : List α25} {b26 : Bool} : List AV := [.c (.int k0 n0), .c (.int k1 n1), .c (.int k2 n2), .c (.int k3 n3), .c (.int k4 n4), .c (.int k5 n5), .c (.int k6 n6), .c (.int k7 n7), .c (.int k8 n8), .c (.str s9), .c (.str s10), .c (.int k11 n11), .c (.int k12 n12), .c (.str s13), .c (PV.ls z14 r14 x14), .c (PV.ls z15 r15 x15), .c (.str s16), .c (.int k17 n17), .c (.int k18 n18), .c (.int k19 n19), .c (.int k20 n20), .c (.int k21 n21), .c (.int k22 n22), .c (.int k23 n23), .c (.int k24 n24), .c (PV.ls z25 r25 x25), .c (.bool b26)]
abbrev aIIIIIIISSIISLLSIIIIIIIIL {k0 : IntKind} {n0 : Int} {k1 : IntKind} {n1 : Int} {k2 : IntKind} {n2 : Int} {k3 : IntKind} {n3 : Int} {k4 : IntKind} {n4 : Int} {k5 : IntKind} {n5 : Int} {k6 : IntKind} {n6 : Int} {s7 : List UInt8} {s8 : List UInt8} {k9 : IntKind} {n9 : Int} {k10 : IntKind} {n10 : Int} {s11 : List UInt8} {α12 : Type} {z12 : Nat} {r12 : α12 → List PV} {x12 : List α12} {α13 : Type} {z13 : Nat} {r13 : α13 → List PV} {x13 : List α13} {s14 : List UInt8} {k15 : IntKind} {n15 : Int} {k16 : IntKind} {n16 : Int} {k17 : IntKind} {n17 : Int} {k18 : IntKind} {n18 : Int} {k19 : IntKind} {n19 : Int} {k20 : IntKind} {n20 : Int} {k21 : IntKind} {n21 : Int} {k22 : IntKind} {n22 : Int} {α23 : Type} {z23 : Nat} {r23 : α23 → List PV} {x23 : List α23} : List AV := [.c (.int k0 n0), .c (.int k1 n1), .c (.int k2 n2), .c (.int k3 n3), .c (.int k4 n4), .c (.int k5 n5), .c (.int k6 n6), .c (.str s7), .c (.str s8), .c (.int k9 n9), .c (.int k10 n10), .c (.str s11), .c (PV.ls z12 r12 x12), .c (PV.ls z13 r13 x13), .c (.str s14), .c (.int k15 n15), .c (.int k16 n16), .c (.int k17 n17), .c (.int k18 n18), .c (.int k19 n19), .c (.int k20 n20), .c (.int k21 n21), .c (.int k22 n22), .c (PV.ls z23 r23 x23)]
abbrev aIISLL {k0 : IntKind} {n0 : Int} {k1 : IntKind} {n1 : Int} {s2 : List UInt8} {α3 : Type} {z3 : Nat} {r3 : α3 → List PV} {x3 : List α3} {α4 : Type} {z4 : Nat} {r4 : α4 → List PV} {x4 : List α4} : List AV := [.c (.int k0 n0), .c (.int k1 n1), .c (.str s2), .c (PV.ls z3 r3 x3), .c (PV.ls z4 r4 x4)]
abbrev aIISSIIISLLSIIIIIIIIL {k0 : IntKind} {n0 : Int} {k1 : IntKind} {n1 : Int} {s2 : List UInt8} {s3 : List UInt8} {k4 : IntKind} {n4 : Int} {k5 : IntKind} {n5 : Int} {k6 : IntKind} {n6 : Int} {s7 : List UInt8} {α8 : Type} {z8 : Nat} {r8 : α8 → List PV} {x8 : List α8} {α9 : Type} {z9 : Nat} {r9 : α9 → List PV} {x9 : List α9} {s10 : List UInt8} {k11 : IntKind} {n11 : Int} {k12 : IntKind} {n12 : Int} {k13 : IntKind} {n13 : Int} {k14 : IntKind} {n14 : Int} {k15 : IntKind} {n15 : Int} {k16 : IntKind} {n16 : Int} {k17 : IntKind} {n17 : Int} {k18 : IntKind} {n18 : Int} {α19 : Type} {z19 : Nat} {r19 : α19 → List PV} {x19 : List α19} : List AV := [.c (.int k0 n0), .c (.int k1 n1), .c (.str s2), .c (.str s3), .c (.int k4 n4), .c (.int k5 n5), .c (.int k6 n6), .c (.str s7), .c (PV.ls z8 r8 x8), .c (PV.ls z9 r9 x9), .c (.str s10), .c (.int k11 n11), .c (.int k12 n12), .c (.int k13 n13), .c (.int k14 n14), .c (.int k15 n15), .c (.int k16 n16), .c (.int k17 n17), .c (.int k18 n18), .c (PV.ls z19 r19 x19)]
abbrev aSIIIIIIIIL {s0 : List UInt8} {k1 : IntKind} {n1 : Int} {k2 : IntKind} {n2 : Int} {k3 : IntKind} {n3 : Int} {k4 : IntKind} {n4 : Int} {k5 : IntKind} {n5 : Int} {k6 : IntKind} {n6 : Int} {k7 : IntKind} {n7 : Int} {k8 : IntKind} {n8 : Int} {α9 : Type} {z9 : Nat} {r9 : α9 → List PV} {x9 : List α9} : List AV := [.c (.str s0), .c (.int k1 n1), .c (.int k2 n2), .c (.int k3 n3), .c (.int k4 n4), .c (.int k5 n5), .c (.int k6 n6), .c (.int k7 n7), .c (.int k8 n8), .c (PV.ls z9 r9 x9)]
abbrev u10 {x0 x1 x2 x3 x4 x5 x6 x7 x8 x9 : AV} : List AV := [x0, x1, x2, x3, x4, x5, x6, x7, x8, x9]
abbrev u20 {x0 x1 x2 x3 x4 x5 x6 x7 x8 x9 x10 x11 x12 x13 x14 x15 x16 x17 x18 x19 : AV} : List AV := [x0, x1, x2, x3, x4, x5, x6, x7, x8, x9, x10, x11, x12, x13, x14, x15, x16, x17, x18, x19]
abbrev u24 {x0 x1 x2 x3 x4 x5 x6 x7 x8 x9 x10 x11 x12 x13 x14 x15 x16 x17 x18 x19 x20 x21 x22 x23 : AV} : List AV := [x0, x1, x2, x3, x4, x5, x6, x7, x8, x9, x10, x11, x12, x13, x14, x15, x16, x17, x18, x19, x20, x21, x22, x23]
abbrev u5 {x0 x1 x2 x3 x4 : AV} : List AV := [x0, x1, x2, x3, x4]
structure ApiValue where
  mk ::
  Kind : Int
  Int : Int
  Text : (List UInt8)
  Items : (List ApiValue)
  Keys : (List (List UInt8))
instance : Inhabited ApiValue := ⟨ApiValue.mk 0 0 [] [] []⟩
mutual
def rowApiValue : ApiValue → List PV
  | ⟨x0, x1, x2, x3, x4⟩ => [.int .i64 x0, .int .i64 x1, .str x2, .list 5 (rowsApiValue x3), PV.ls 1 rowS x4]
def rowsApiValue : List ApiValue → List (List PV)
  | [] => []
  | x :: l => rowApiValue x :: rowsApiValue l
end
theorem rowsApiValue_eq : ∀ l, rowsApiValue l = l.map rowApiValue
  | [] => by simp [rowsApiValue]
  | x :: l => by simp [rowsApiValue, rowsApiValue_eq l]
def exApiValue (x : ApiValue) : List PV := [.int .i64 x.Kind, .int .i64 x.Int, .str x.Text, PV.ls 5 rowApiValue x.Items, PV.ls 1 rowS x.Keys]
theorem rowApiValue_eq (x : ApiValue) : rowApiValue x = exApiValue x := by cases x; simp [rowApiValue, exApiValue, rowsApiValue_eq, PV.ls]
structure ApiPolicy where
  mk ::
  Queue : (List UInt8)
  ToStart : Int
  ToClose : Int
  Total : Int
  Beat : Int
  First : Int
  Coef : Int
  Most : Int
  Attempts : Int
  Fatal : (List (List UInt8))
instance : Inhabited ApiPolicy := ⟨ApiPolicy.mk [] 0 0 0 0 0 0 0 0 []⟩
def rowApiPolicy (x : ApiPolicy) : List PV := [.str x.Queue, .int .i64 x.ToStart, .int .i64 x.ToClose, .int .i64 x.Total, .int .i64 x.Beat, .int .i64 x.First, .int .i64 x.Coef, .int .i64 x.Most, .int .i64 x.Attempts, PV.ls 1 rowS x.Fatal]
structure ApiEvent where
  mk ::
  ID : Int
  Kind : Int
  Time : Int
  Seq : Int
  Ref : Int
  N : Int
  Code : Int
  Name : (List UInt8)
  Key : (List UInt8)
  Data : ApiValue
  Opts : ApiPolicy
instance : Inhabited ApiEvent := ⟨ApiEvent.mk 0 0 0 0 0 0 0 [] [] default default⟩
def rowApiEvent (x : ApiEvent) : List PV := [.int .i64 x.ID, .int .i64 x.Kind, .int .i64 x.Time, .int .i64 x.Seq, .int .i64 x.Ref, .int .i64 x.N, .int .i64 x.Code, .str x.Name, .str x.Key, .int .i64 x.Data.Kind, .int .i64 x.Data.Int, .str x.Data.Text, PV.ls 5 rowApiValue x.Data.Items, PV.ls 1 rowS x.Data.Keys, .str x.Opts.Queue, .int .i64 x.Opts.ToStart, .int .i64 x.Opts.ToClose, .int .i64 x.Opts.Total, .int .i64 x.Opts.Beat, .int .i64 x.Opts.First, .int .i64 x.Opts.Coef, .int .i64 x.Opts.Most, .int .i64 x.Opts.Attempts, PV.ls 1 rowS x.Opts.Fatal]
structure ApiCommand where
  mk ::
  Kind : Int
  Seq : Int
  Name : (List UInt8)
  Key : (List UInt8)
  N : Int
  Data : ApiValue
  Opts : ApiPolicy
instance : Inhabited ApiCommand := ⟨ApiCommand.mk 0 0 [] [] 0 default default⟩
def rowApiCommand (x : ApiCommand) : List PV := [.int .i64 x.Kind, .int .i64 x.Seq, .str x.Name, .str x.Key, .int .i64 x.N, .int .i64 x.Data.Kind, .int .i64 x.Data.Int, .str x.Data.Text, PV.ls 5 rowApiValue x.Data.Items, PV.ls 1 rowS x.Data.Keys, .str x.Opts.Queue, .int .i64 x.Opts.ToStart, .int .i64 x.Opts.ToClose, .int .i64 x.Opts.Total, .int .i64 x.Opts.Beat, .int .i64 x.Opts.First, .int .i64 x.Opts.Coef, .int .i64 x.Opts.Most, .int .i64 x.Opts.Attempts, PV.ls 1 rowS x.Opts.Fatal]
structure CommandUses where
  mk ::
  seq_ : Bool
  name_ : Bool
  key_ : Bool
  n_ : Bool
  data_ : Bool
  opts_ : Bool
instance : Inhabited CommandUses := ⟨CommandUses.mk false false false false false false⟩
def rowCommandUses (x : CommandUses) : List PV := [.bool x.seq_, .bool x.name_, .bool x.key_, .bool x.n_, .bool x.data_, .bool x.opts_]
structure EventUses where
  mk ::
  seq_ : Bool
  ref_ : Bool
  n_ : Bool
  code_ : Bool
  name_ : Bool
  key_ : Bool
  data_ : Bool
instance : Inhabited EventUses := ⟨EventUses.mk false false false false false false false⟩
def rowEventUses (x : EventUses) : List PV := [.bool x.seq_, .bool x.ref_, .bool x.n_, .bool x.code_, .bool x.name_, .bool x.key_, .bool x.data_]
structure HistoryChecker where
  mk ::
  task_ : Int
  ref_ : Int
  before_ : ApiEvent
  closed_ : Bool
instance : Inhabited HistoryChecker := ⟨HistoryChecker.mk 0 0 default false⟩
def rowHistoryChecker (x : HistoryChecker) : List PV := [.int .i64 x.task_, .int .i64 x.ref_, .int .i64 x.before_.ID, .int .i64 x.before_.Kind, .int .i64 x.before_.Time, .int .i64 x.before_.Seq, .int .i64 x.before_.Ref, .int .i64 x.before_.N, .int .i64 x.before_.Code, .str x.before_.Name, .str x.before_.Key, .int .i64 x.before_.Data.Kind, .int .i64 x.before_.Data.Int, .str x.before_.Data.Text, PV.ls 5 rowApiValue x.before_.Data.Items, PV.ls 1 rowS x.before_.Data.Keys, .str x.before_.Opts.Queue, .int .i64 x.before_.Opts.ToStart, .int .i64 x.before_.Opts.ToClose, .int .i64 x.before_.Opts.Total, .int .i64 x.before_.Opts.Beat, .int .i64 x.before_.Opts.First, .int .i64 x.before_.Opts.Coef, .int .i64 x.before_.Opts.Most, .int .i64 x.before_.Opts.Attempts, PV.ls 1 rowS x.before_.Opts.Fatal, .bool x.closed_]
structure HistoryTurn where
  mk ::
  Start : Int
  End : Int
  Next : Int
  Done : Bool
instance : Inhabited HistoryTurn := ⟨HistoryTurn.mk 0 0 0 false⟩
def rowHistoryTurn (x : HistoryTurn) : List PV := [.int .i64 x.Start, .int .i64 x.End, .int .i64 x.Next, .bool x.Done]
structure Ref22Fields where
  mk ::
  seq_ : Bool
  ref_ : Bool
  n_ : Bool
  code_ : Bool
  name_ : Bool
  key_ : Bool
  data_ : Bool
  opts_ : Bool
instance : Inhabited Ref22Fields := ⟨Ref22Fields.mk false false false false false false false false⟩
def rowRef22Fields (x : Ref22Fields) : List PV := [.bool x.seq_, .bool x.ref_, .bool x.n_, .bool x.code_, .bool x.name_, .bool x.key_, .bool x.data_, .bool x.opts_]
structure Ref24Turn where
  mk ::
  Start : Int
  End : Int
  Next : Int
  Done : Bool
instance : Inhabited Ref24Turn := ⟨Ref24Turn.mk 0 0 0 false⟩
def rowRef24Turn (x : Ref24Turn) : List PV := [.int .i64 x.Start, .int .i64 x.End, .int .i64 x.Next, .bool x.Done]
theorem ti40 : tyIs Tryz.prog 40 = 3 := by kernel_rfl
theorem ti25 : tyIs Tryz.prog 25 = 6 := by kernel_rfl
theorem tz25 : tyZero Tryz.prog 25 = some [.int .i64 0, .int .i64 0, .string ByteArray.empty, .slice none 0 0, .slice none 0 0] := by kernel_rfl
theorem pl25 : plAll Tryz.prog 25 = some [(0, some 1), (1, some 1), (2, some 1), (3, some 1), (4, some 1)] := by kernel_rfl
theorem tb25 : tyIs Tryz.prog 25 = 6 ∧ tyOk Tryz.prog 25 = true ∧ tyZero Tryz.prog 25 = some [.int .i64 0, .int .i64 0, .string ByteArray.empty, .slice none 0 0, .slice none 0 0] ∧ ∀ i, tyPlace Tryz.prog 25 i = plOf [(0, some 1), (1, some 1), (2, some 1), (3, some 1), (4, some 1)] i := ⟨ti25, by kernel_rfl, tz25, fun i => tyPlace_all pl25 i⟩
theorem ts22 : tySlice Tryz.prog 22 = some (25, 5, 80) := by kernel_rfl
theorem tv25 : tyVar Tryz.prog 25 = some (true, 5) := by kernel_rfl
theorem ti29 : tyIs Tryz.prog 29 = 6 := by kernel_rfl
theorem tz29 : tyZero Tryz.prog 29 = some [.int .i64 0, .int .i64 0, .int .i64 0, .int .i64 0, .int .i64 0, .int .i64 0, .int .i64 0, .string ByteArray.empty, .string ByteArray.empty, .int .i64 0, .int .i64 0, .string ByteArray.empty, .slice none 0 0, .slice none 0 0, .string ByteArray.empty, .int .i64 0, .int .i64 0, .int .i64 0, .int .i64 0, .int .i64 0, .int .i64 0, .int .i64 0, .int .i64 0, .slice none 0 0] := by kernel_rfl
theorem pl29 : plAll Tryz.prog 29 = some [(0, some 1), (1, some 1), (2, some 1), (3, some 1), (4, some 1), (5, some 1), (6, some 1), (7, some 1), (8, some 1), (9, some 5), (14, some 10)] := by kernel_rfl
theorem tb29 : tyIs Tryz.prog 29 = 6 ∧ tyOk Tryz.prog 29 = true ∧ tyZero Tryz.prog 29 = some [.int .i64 0, .int .i64 0, .int .i64 0, .int .i64 0, .int .i64 0, .int .i64 0, .int .i64 0, .string ByteArray.empty, .string ByteArray.empty, .int .i64 0, .int .i64 0, .string ByteArray.empty, .slice none 0 0, .slice none 0 0, .string ByteArray.empty, .int .i64 0, .int .i64 0, .int .i64 0, .int .i64 0, .int .i64 0, .int .i64 0, .int .i64 0, .int .i64 0, .slice none 0 0] ∧ ∀ i, tyPlace Tryz.prog 29 i = plOf [(0, some 1), (1, some 1), (2, some 1), (3, some 1), (4, some 1), (5, some 1), (6, some 1), (7, some 1), (8, some 1), (9, some 5), (14, some 10)] i := ⟨ti29, by kernel_rfl, tz29, fun i => tyPlace_all pl29 i⟩
theorem ts40 : tySlice Tryz.prog 40 = some (29, 24, 272) := by kernel_rfl
theorem tz78 : tyZero Tryz.prog 78 = some [.int .i64 0, .int .i64 0, .int .i64 0, .int .i64 0, .int .i64 0, .int .i64 0, .int .i64 0, .int .i64 0, .int .i64 0, .string ByteArray.empty, .string ByteArray.empty, .int .i64 0, .int .i64 0, .string ByteArray.empty, .slice none 0 0, .slice none 0 0, .string ByteArray.empty, .int .i64 0, .int .i64 0, .int .i64 0, .int .i64 0, .int .i64 0, .int .i64 0, .int .i64 0, .int .i64 0, .slice none 0 0, .bool false] := by kernel_rfl
theorem tv29 : tyVar Tryz.prog 29 = some (true, 24) := by kernel_rfl
theorem tf29x1 : tyField Tryz.prog 29 1 = some (1, false, 1) := by kernel_rfl
theorem tv3 : tyVar Tryz.prog 3 = some (false, 1) := by kernel_rfl
theorem tf29x0 : tyField Tryz.prog 29 0 = some (0, false, 1) := by kernel_rfl
theorem tf29x2 : tyField Tryz.prog 29 2 = some (2, false, 1) := by kernel_rfl
theorem tf29x9 : tyField Tryz.prog 29 9 = some (9, true, 5) := by kernel_rfl
theorem tf25x3 : tyField Tryz.prog 25 3 = some (3, false, 1) := by kernel_rfl
theorem tv22 : tyVar Tryz.prog 22 = some (false, 1) := by kernel_rfl
theorem ti22 : tyIs Tryz.prog 22 = 3 := by kernel_rfl
theorem tf25x2 : tyField Tryz.prog 25 2 = some (2, false, 1) := by kernel_rfl
theorem tv9 : tyVar Tryz.prog 9 = some (false, 1) := by kernel_rfl
theorem ti9 : tyIs Tryz.prog 9 = 2 := by kernel_rfl
theorem tf25x4 : tyField Tryz.prog 25 4 = some (4, false, 1) := by kernel_rfl
theorem tv23 : tyVar Tryz.prog 23 = some (false, 1) := by kernel_rfl
theorem ti23 : tyIs Tryz.prog 23 = 3 := by kernel_rfl
theorem ts23 : tySlice Tryz.prog 23 = some (9, 1, 16) := by kernel_rfl
theorem tf25x1 : tyField Tryz.prog 25 1 = some (1, false, 1) := by kernel_rfl
theorem tf25x0 : tyField Tryz.prog 25 0 = some (0, false, 1) := by kernel_rfl
theorem tv4 : tyVar Tryz.prog 4 = some (false, 1) := by kernel_rfl
theorem tf29x3 : tyField Tryz.prog 29 3 = some (3, false, 1) := by kernel_rfl
theorem tf29x7 : tyField Tryz.prog 29 7 = some (7, false, 1) := by kernel_rfl
theorem tf29x8 : tyField Tryz.prog 29 8 = some (8, false, 1) := by kernel_rfl
theorem tf29x5 : tyField Tryz.prog 29 5 = some (5, false, 1) := by kernel_rfl
theorem tf29x10 : tyField Tryz.prog 29 10 = some (14, true, 10) := by kernel_rfl
theorem tv27 : tyVar Tryz.prog 27 = some (true, 10) := by kernel_rfl
theorem ti33 : tyIs Tryz.prog 33 = 6 := by kernel_rfl
theorem tz33 : tyZero Tryz.prog 33 = some [.int .i64 0, .int .i64 0, .string ByteArray.empty, .string ByteArray.empty, .int .i64 0, .int .i64 0, .int .i64 0, .string ByteArray.empty, .slice none 0 0, .slice none 0 0, .string ByteArray.empty, .int .i64 0, .int .i64 0, .int .i64 0, .int .i64 0, .int .i64 0, .int .i64 0, .int .i64 0, .int .i64 0, .slice none 0 0] := by kernel_rfl
theorem pl33 : plAll Tryz.prog 33 = some [(0, some 1), (1, some 1), (2, some 1), (3, some 1), (4, some 1), (5, some 5), (10, some 10)] := by kernel_rfl
theorem tb33 : tyIs Tryz.prog 33 = 6 ∧ tyOk Tryz.prog 33 = true ∧ tyZero Tryz.prog 33 = some [.int .i64 0, .int .i64 0, .string ByteArray.empty, .string ByteArray.empty, .int .i64 0, .int .i64 0, .int .i64 0, .string ByteArray.empty, .slice none 0 0, .slice none 0 0, .string ByteArray.empty, .int .i64 0, .int .i64 0, .int .i64 0, .int .i64 0, .int .i64 0, .int .i64 0, .int .i64 0, .int .i64 0, .slice none 0 0] ∧ ∀ i, tyPlace Tryz.prog 33 i = plOf [(0, some 1), (1, some 1), (2, some 1), (3, some 1), (4, some 1), (5, some 5), (10, some 10)] i := ⟨ti33, by kernel_rfl, tz33, fun i => tyPlace_all pl33 i⟩
theorem tv33 : tyVar Tryz.prog 33 = some (true, 20) := by kernel_rfl
theorem tf29x6 : tyField Tryz.prog 29 6 = some (6, false, 1) := by kernel_rfl
theorem tf29x4 : tyField Tryz.prog 29 4 = some (4, false, 1) := by kernel_rfl
theorem tf33x0 : tyField Tryz.prog 33 0 = some (0, false, 1) := by kernel_rfl
theorem tz93 : tyZero Tryz.prog 93 = some [.bool false, .bool false, .bool false, .bool false, .bool false, .bool false] := by kernel_rfl
theorem ti93 : tyIs Tryz.prog 93 = 6 := by kernel_rfl
theorem pl93 : plAll Tryz.prog 93 = some [(0, some 1), (1, some 1), (2, some 1), (3, some 1), (4, some 1), (5, some 1)] := by kernel_rfl
theorem tb93 : tyIs Tryz.prog 93 = 6 ∧ tyOk Tryz.prog 93 = true ∧ tyZero Tryz.prog 93 = some [.bool false, .bool false, .bool false, .bool false, .bool false, .bool false] ∧ ∀ i, tyPlace Tryz.prog 93 i = plOf [(0, some 1), (1, some 1), (2, some 1), (3, some 1), (4, some 1), (5, some 1)] i := ⟨ti93, by kernel_rfl, tz93, fun i => tyPlace_all pl93 i⟩
theorem tv93 : tyVar Tryz.prog 93 = some (true, 6) := by kernel_rfl
theorem tf93x0 : tyField Tryz.prog 93 0 = some (0, false, 1) := by kernel_rfl
theorem tf33x1 : tyField Tryz.prog 33 1 = some (1, false, 1) := by kernel_rfl
theorem tf93x1 : tyField Tryz.prog 93 1 = some (1, false, 1) := by kernel_rfl
theorem tf33x2 : tyField Tryz.prog 33 2 = some (2, false, 1) := by kernel_rfl
theorem tf93x2 : tyField Tryz.prog 93 2 = some (2, false, 1) := by kernel_rfl
theorem tf33x3 : tyField Tryz.prog 33 3 = some (3, false, 1) := by kernel_rfl
theorem tf93x3 : tyField Tryz.prog 93 3 = some (3, false, 1) := by kernel_rfl
theorem tf33x4 : tyField Tryz.prog 33 4 = some (4, false, 1) := by kernel_rfl
theorem tf93x4 : tyField Tryz.prog 93 4 = some (4, false, 1) := by kernel_rfl
theorem tf33x5 : tyField Tryz.prog 33 5 = some (5, true, 5) := by kernel_rfl
theorem tf93x5 : tyField Tryz.prog 93 5 = some (5, false, 1) := by kernel_rfl
theorem tf33x6 : tyField Tryz.prog 33 6 = some (10, true, 10) := by kernel_rfl
theorem ti27 : tyIs Tryz.prog 27 = 6 := by kernel_rfl
theorem tz27 : tyZero Tryz.prog 27 = some [.string ByteArray.empty, .int .i64 0, .int .i64 0, .int .i64 0, .int .i64 0, .int .i64 0, .int .i64 0, .int .i64 0, .int .i64 0, .slice none 0 0] := by kernel_rfl
theorem pl27 : plAll Tryz.prog 27 = some [(0, some 1), (1, some 1), (2, some 1), (3, some 1), (4, some 1), (5, some 1), (6, some 1), (7, some 1), (8, some 1), (9, some 1)] := by kernel_rfl
theorem tb27 : tyIs Tryz.prog 27 = 6 ∧ tyOk Tryz.prog 27 = true ∧ tyZero Tryz.prog 27 = some [.string ByteArray.empty, .int .i64 0, .int .i64 0, .int .i64 0, .int .i64 0, .int .i64 0, .int .i64 0, .int .i64 0, .int .i64 0, .slice none 0 0] ∧ ∀ i, tyPlace Tryz.prog 27 i = plOf [(0, some 1), (1, some 1), (2, some 1), (3, some 1), (4, some 1), (5, some 1), (6, some 1), (7, some 1), (8, some 1), (9, some 1)] i := ⟨ti27, by kernel_rfl, tz27, fun i => tyPlace_all pl27 i⟩
theorem tf27x1 : tyField Tryz.prog 27 1 = some (1, false, 1) := by kernel_rfl
theorem tf27x2 : tyField Tryz.prog 27 2 = some (2, false, 1) := by kernel_rfl
theorem tf27x3 : tyField Tryz.prog 27 3 = some (3, false, 1) := by kernel_rfl
theorem tf27x4 : tyField Tryz.prog 27 4 = some (4, false, 1) := by kernel_rfl
theorem tf27x5 : tyField Tryz.prog 27 5 = some (5, false, 1) := by kernel_rfl
theorem tf27x6 : tyField Tryz.prog 27 6 = some (6, false, 1) := by kernel_rfl
theorem tf27x7 : tyField Tryz.prog 27 7 = some (7, false, 1) := by kernel_rfl
theorem tf27x8 : tyField Tryz.prog 27 8 = some (8, false, 1) := by kernel_rfl
theorem ts107 : tySlice Tryz.prog 107 = some (110, 1, 8) := by kernel_rfl
theorem ti107 : tyIs Tryz.prog 107 = 3 := by kernel_rfl
theorem tv110 : tyVar Tryz.prog 110 = some (false, 1) := by kernel_rfl
theorem tf27x0 : tyField Tryz.prog 27 0 = some (0, false, 1) := by kernel_rfl
theorem tf27x9 : tyField Tryz.prog 27 9 = some (9, false, 1) := by kernel_rfl
theorem ts70 : tySlice Tryz.prog 70 = some (3, 1, 8) := by kernel_rfl
theorem ti70 : tyIs Tryz.prog 70 = 3 := by kernel_rfl
theorem tz60 : tyZero Tryz.prog 60 = some [.bool false, .bool false, .bool false, .bool false, .bool false, .bool false, .bool false] := by kernel_rfl
theorem ti60 : tyIs Tryz.prog 60 = 6 := by kernel_rfl
theorem pl60 : plAll Tryz.prog 60 = some [(0, some 1), (1, some 1), (2, some 1), (3, some 1), (4, some 1), (5, some 1), (6, some 1)] := by kernel_rfl
theorem tb60 : tyIs Tryz.prog 60 = 6 ∧ tyOk Tryz.prog 60 = true ∧ tyZero Tryz.prog 60 = some [.bool false, .bool false, .bool false, .bool false, .bool false, .bool false, .bool false] ∧ ∀ i, tyPlace Tryz.prog 60 i = plOf [(0, some 1), (1, some 1), (2, some 1), (3, some 1), (4, some 1), (5, some 1), (6, some 1)] i := ⟨ti60, by kernel_rfl, tz60, fun i => tyPlace_all pl60 i⟩
theorem tv60 : tyVar Tryz.prog 60 = some (true, 7) := by kernel_rfl
theorem tf60x0 : tyField Tryz.prog 60 0 = some (0, false, 1) := by kernel_rfl
theorem tf60x1 : tyField Tryz.prog 60 1 = some (1, false, 1) := by kernel_rfl
theorem tf60x2 : tyField Tryz.prog 60 2 = some (2, false, 1) := by kernel_rfl
theorem tf60x3 : tyField Tryz.prog 60 3 = some (3, false, 1) := by kernel_rfl
theorem tf60x4 : tyField Tryz.prog 60 4 = some (4, false, 1) := by kernel_rfl
theorem tf60x5 : tyField Tryz.prog 60 5 = some (5, false, 1) := by kernel_rfl
theorem tf60x6 : tyField Tryz.prog 60 6 = some (6, false, 1) := by kernel_rfl
theorem tf78x2 : tyField Tryz.prog 78 2 = some (2, true, 24) := by kernel_rfl
theorem tf78x3 : tyField Tryz.prog 78 3 = some (26, false, 1) := by kernel_rfl
theorem ti4 : tyIs Tryz.prog 4 = 4 := by kernel_rfl
theorem tf78x0 : tyField Tryz.prog 78 0 = some (0, false, 1) := by kernel_rfl
theorem tf78x1 : tyField Tryz.prog 78 1 = some (1, false, 1) := by kernel_rfl
theorem ti49 : tyIs Tryz.prog 49 = 6 := by kernel_rfl
theorem tz49 : tyZero Tryz.prog 49 = some [.int .i64 0, .int .i64 0, .int .i64 0, .bool false] := by kernel_rfl
theorem pl49 : plAll Tryz.prog 49 = some [(0, some 1), (1, some 1), (2, some 1), (3, some 1)] := by kernel_rfl
theorem tb49 : tyIs Tryz.prog 49 = 6 ∧ tyOk Tryz.prog 49 = true ∧ tyZero Tryz.prog 49 = some [.int .i64 0, .int .i64 0, .int .i64 0, .bool false] ∧ ∀ i, tyPlace Tryz.prog 49 i = plOf [(0, some 1), (1, some 1), (2, some 1), (3, some 1)] i := ⟨ti49, by kernel_rfl, tz49, fun i => tyPlace_all pl49 i⟩
theorem ts44 : tySlice Tryz.prog 44 = some (49, 4, 32) := by kernel_rfl
theorem ti44 : tyIs Tryz.prog 44 = 3 := by kernel_rfl
theorem tv49 : tyVar Tryz.prog 49 = some (true, 4) := by kernel_rfl
theorem tf49x3 : tyField Tryz.prog 49 3 = some (3, false, 1) := by kernel_rfl
theorem tf49x2 : tyField Tryz.prog 49 2 = some (2, false, 1) := by kernel_rfl
theorem eg49 : Tryz.prog.eqGuardType Tryz.prog.depth 49 = false := by kernel_rfl
theorem eqk49 : eqK Tryz.prog 40 49 = some [1, 1, 1, 0] := by kernel_rfl
theorem tz84 : tyZero Tryz.prog 84 = some [.bool false, .bool false, .bool false, .bool false, .bool false, .bool false, .bool false, .bool false] := by kernel_rfl
theorem ti84 : tyIs Tryz.prog 84 = 6 := by kernel_rfl
theorem pl84 : plAll Tryz.prog 84 = some [(0, some 1), (1, some 1), (2, some 1), (3, some 1), (4, some 1), (5, some 1), (6, some 1), (7, some 1)] := by kernel_rfl
theorem tb84 : tyIs Tryz.prog 84 = 6 ∧ tyOk Tryz.prog 84 = true ∧ tyZero Tryz.prog 84 = some [.bool false, .bool false, .bool false, .bool false, .bool false, .bool false, .bool false, .bool false] ∧ ∀ i, tyPlace Tryz.prog 84 i = plOf [(0, some 1), (1, some 1), (2, some 1), (3, some 1), (4, some 1), (5, some 1), (6, some 1), (7, some 1)] i := ⟨ti84, by kernel_rfl, tz84, fun i => tyPlace_all pl84 i⟩
theorem tv84 : tyVar Tryz.prog 84 = some (true, 8) := by kernel_rfl
theorem tf84x0 : tyField Tryz.prog 84 0 = some (0, false, 1) := by kernel_rfl
theorem tf84x1 : tyField Tryz.prog 84 1 = some (1, false, 1) := by kernel_rfl
theorem tf84x2 : tyField Tryz.prog 84 2 = some (2, false, 1) := by kernel_rfl
theorem tf84x3 : tyField Tryz.prog 84 3 = some (3, false, 1) := by kernel_rfl
theorem tf84x4 : tyField Tryz.prog 84 4 = some (4, false, 1) := by kernel_rfl
theorem tf84x5 : tyField Tryz.prog 84 5 = some (5, false, 1) := by kernel_rfl
theorem tf84x6 : tyField Tryz.prog 84 6 = some (6, false, 1) := by kernel_rfl
theorem tf84x7 : tyField Tryz.prog 84 7 = some (7, false, 1) := by kernel_rfl
theorem tk5 : tyInt Tryz.prog 5 = some .u8 := by kernel_rfl
theorem tk3 : tyInt Tryz.prog 3 = some .i64 := by kernel_rfl
theorem ts123 : tySlice Tryz.prog 123 = some (5, 1, 1) := by kernel_rfl
theorem tby123 : aval0.tyBytes Tryz.prog 123 := by show (match Tryz.prog.underlying 123 with | some (.slice e) => tyInt Tryz.prog e = some .u8 | _ => False); rw [show Tryz.prog.underlying 123 = some (.slice 5) by kernel_rfl]; exact (by kernel_rfl : tyInt Tryz.prog 5 = some .u8)
theorem ti50 : tyIs Tryz.prog 50 = 6 := by kernel_rfl
theorem tz50 : tyZero Tryz.prog 50 = some [.int .i64 0, .int .i64 0, .int .i64 0, .bool false] := by kernel_rfl
theorem pl50 : plAll Tryz.prog 50 = some [(0, some 1), (1, some 1), (2, some 1), (3, some 1)] := by kernel_rfl
theorem tb50 : tyIs Tryz.prog 50 = 6 ∧ tyOk Tryz.prog 50 = true ∧ tyZero Tryz.prog 50 = some [.int .i64 0, .int .i64 0, .int .i64 0, .bool false] ∧ ∀ i, tyPlace Tryz.prog 50 i = plOf [(0, some 1), (1, some 1), (2, some 1), (3, some 1)] i := ⟨ti50, by kernel_rfl, tz50, fun i => tyPlace_all pl50 i⟩
theorem tv50 : tyVar Tryz.prog 50 = some (true, 4) := by kernel_rfl
theorem tf50x3 : tyField Tryz.prog 50 3 = some (3, false, 1) := by kernel_rfl
theorem tf50x2 : tyField Tryz.prog 50 2 = some (2, false, 1) := by kernel_rfl
theorem ts46 : tySlice Tryz.prog 46 = some (50, 4, 32) := by kernel_rfl
theorem ti46 : tyIs Tryz.prog 46 = 3 := by kernel_rfl
theorem tf49x0 : tyField Tryz.prog 49 0 = some (0, false, 1) := by kernel_rfl
theorem tf50x0 : tyField Tryz.prog 50 0 = some (0, false, 1) := by kernel_rfl
theorem tf49x1 : tyField Tryz.prog 49 1 = some (1, false, 1) := by kernel_rfl
theorem tf50x1 : tyField Tryz.prog 50 1 = some (1, false, 1) := by kernel_rfl
theorem fs29 : tyFs Tryz.prog 29 = some [3, 3, 3, 3, 3, 3, 3, 9, 9, 25, 27] := by kernel_rfl
theorem fs25 : tyFs Tryz.prog 25 = some [3, 3, 9, 22, 23] := by kernel_rfl
theorem by25 : Tryz.prog.bytesOf 25 = 80 := by kernel_rfl
theorem sl22 : tySl Tryz.prog 22 = some (25, 5) := by kernel_rfl
theorem by9 : Tryz.prog.bytesOf 9 = 16 := by kernel_rfl
theorem sl23 : tySl Tryz.prog 23 = some (9, 1) := by kernel_rfl
theorem fs27 : tyFs Tryz.prog 27 = some [9, 3, 3, 3, 3, 3, 3, 3, 3, 23] := by kernel_rfl
theorem by29 : Tryz.prog.bytesOf 29 = 272 := by kernel_rfl
theorem sl40 : tySl Tryz.prog 40 = some (29, 24) := by kernel_rfl
end Go.Proofs.YtngcjjhbimanlaaGreatDoor

import Derived.Test.YtngcjjhbimanlaaDoorProg
import Derived.Test.YtngcjjhbimanlaaDoorAbs29
import Derived.Test.YtngcjjhbimanlaaDoorLib
namespace Go.Proofs.YtngcjjhbimanlaaDoor
open Go Abs
set_option maxRecDepth 100000
set_option linter.unusedVariables false
set_option linter.unusedSimpArgs false
abbrev aBBBBBB {b0 : Bool} {b1 : Bool} {b2 : Bool} {b3 : Bool} {b4 : Bool} {b5 : Bool} : List AV := [.c (.bool b0), .c (.bool b1), .c (.bool b2), .c (.bool b3), .c (.bool b4), .c (.bool b5)]
abbrev aBBBBBBB {b0 : Bool} {b1 : Bool} {b2 : Bool} {b3 : Bool} {b4 : Bool} {b5 : Bool} {b6 : Bool} : List AV := [.c (.bool b0), .c (.bool b1), .c (.bool b2), .c (.bool b3), .c (.bool b4), .c (.bool b5), .c (.bool b6)]
abbrev aIIIB {k0 : IntKind} {n0 : Int} {k1 : IntKind} {n1 : Int} {k2 : IntKind} {n2 : Int} {b3 : Bool} : List AV := [.c (.int k0 n0), .c (.int k1 n1), .c (.int k2 n2), .c (.bool b3)]
abbrev aIIIIIIIIISSIISLLSIIIIIIIILB {k0 : IntKind} {n0 : Int} {k1 : IntKind} {n1 : Int} {k2 : IntKind} {n2 : Int} {k3 : IntKind} {n3 : Int} {k4 : IntKind} {n4 : Int} {k5 : IntKind} {n5 : Int} {k6 : IntKind} {n6 : Int} {k7 : IntKind} {n7 : Int} {k8 : IntKind} {n8 : Int} {s9 : List UInt8} {s10 : List UInt8} {k11 : IntKind} {n11 : Int} {k12 : IntKind} {n12 : Int} {s13 : List UInt8} {α14 : Type} {z14 : Nat} {r14 : α14 → List PV} {x14 : List α14} {α15 : Type} {z15 : Nat} {r15 : α15 → List PV} {x15 : List α15} {s16 : List UInt8} {k17 : IntKind} {n17 : Int} {k18 : IntKind} {n18 : Int} {k19 : IntKind} {n19 : Int} {k20 : IntKind} {n20 : Int} {k21 : IntKind} {n21 : Int} {k22 : IntKind} {n22 : Int} {k23 : IntKind} {n23 : Int} {k24 : IntKind} {n24 : Int} {α25 : Type} {z25 : Nat} {r25 : α25 → List PV} {x25 : List α25} {b26 : Bool} : List AV := [.c (.int k0 n0), .c (.int k1 n1), .c (.int k2 n2), .c (.int k3 n3), .c (.int k4 n4), .c (.int k5 n5), .c (.int k6 n6), .c (.int k7 n7), .c (.int k8 n8), .c (.str s9), .c (.str s10), .c (.int k11 n11), .c (.int k12 n12), .c (.str s13), .c (PV.ls z14 r14 x14), .c (PV.ls z15 r15 x15), .c (.str s16), .c (.int k17 n17), .c (.int k18 n18), .c (.int k19 n19), .c (.int k20 n20), .c (.int k21 n21), .c (.int k22 n22), .c (.int k23 n23), .c (.int k24 n24), .c (PV.ls z25 r25 x25), .c (.bool b26)]
abbrev aIIIIIIISSIISLLSIIIIIIIIL {k0 : IntKind} {n0 : Int} {k1 : IntKind} {n1 : Int} {k2 : IntKind} {n2 : Int} {k3 : IntKind} {n3 : Int} {k4 : IntKind} {n4 : Int} {k5 : IntKind} {n5 : Int} {k6 : IntKind} {n6 : Int} {s7 : List UInt8} {s8 : List UInt8} {k9 : IntKind} {n9 : Int} {k10 : IntKind} {n10 : Int} {s11 : List UInt8} {α12 : Type} {z12 : Nat} {r12 : α12 → List PV} {x12 : List α12} {α13 : Type} {z13 : Nat} {r13 : α13 → List PV} {x13 : List α13} {s14 : List UInt8} {k15 : IntKind} {n15 : Int} {k16 : IntKind} {n16 : Int} {k17 : IntKind} {n17 : Int} {k18 : IntKind} {n18 : Int} {k19 : IntKind} {n19 : Int} {k20 : IntKind} {n20 : Int} {k21 : IntKind} {n21 : Int} {k22 : IntKind} {n22 : Int} {α23 : Type} {z23 : Nat} {r23 : α23 → List PV} {x23 : List α23} : List AV := [.c (.int k0 n0), .c (.int k1 n1), .c (.int k2 n2), .c (.int k3 n3), .c (.int k4 n4), .c (.int k5 n5), .c (.int k6 n6), .c (.str s7), .c (.str s8), .c (.int k9 n9), .c (.int k10 n10), .c (.str s11), .c (PV.ls z12 r12 x12), .c (PV.ls z13 r13 x13), .c (.str s14), .c (.int k15 n15), .c (.int k16 n16), .c (.int k17 n17), .c (.int k18 n18), .c (.int k19 n19), .c (.int k20 n20), .c (.int k21 n21), .c (.int k22 n22), .c (PV.ls z23 r23 x23)]
abbrev aIISLL {k0 : IntKind} {n0 : Int} {k1 : IntKind} {n1 : Int} {s2 : List UInt8} {α3 : Type} {z3 : Nat} {r3 : α3 → List PV} {x3 : List α3} {α4 : Type} {z4 : Nat} {r4 : α4 → List PV} {x4 : List α4} : List AV := [.c (.int k0 n0), .c (.int k1 n1), .c (.str s2), .c (PV.ls z3 r3 x3), .c (PV.ls z4 r4 x4)]
abbrev aIISSIIISLLSIIIIIIIIL {k0 : IntKind} {n0 : Int} {k1 : IntKind} {n1 : Int} {s2 : List UInt8} {s3 : List UInt8} {k4 : IntKind} {n4 : Int} {k5 : IntKind} {n5 : Int} {k6 : IntKind} {n6 : Int} {s7 : List UInt8} {α8 : Type} {z8 : Nat} {r8 : α8 → List PV} {x8 : List α8} {α9 : Type} {z9 : Nat} {r9 : α9 → List PV} {x9 : List α9} {s10 : List UInt8} {k11 : IntKind} {n11 : Int} {k12 : IntKind} {n12 : Int} {k13 : IntKind} {n13 : Int} {k14 : IntKind} {n14 : Int} {k15 : IntKind} {n15 : Int} {k16 : IntKind} {n16 : Int} {k17 : IntKind} {n17 : Int} {k18 : IntKind} {n18 : Int} {α19 : Type} {z19 : Nat} {r19 : α19 → List PV} {x19 : List α19} : List AV := [.c (.int k0 n0), .c (.int k1 n1), .c (.str s2), .c (.str s3), .c (.int k4 n4), .c (.int k5 n5), .c (.int k6 n6), .c (.str s7), .c (PV.ls z8 r8 x8), .c (PV.ls z9 r9 x9), .c (.str s10), .c (.int k11 n11), .c (.int k12 n12), .c (.int k13 n13), .c (.int k14 n14), .c (.int k15 n15), .c (.int k16 n16), .c (.int k17 n17), .c (.int k18 n18), .c (PV.ls z19 r19 x19)]
abbrev aSIIIIIIIIL {s0 : List UInt8} {k1 : IntKind} {n1 : Int} {k2 : IntKind} {n2 : Int} {k3 : IntKind} {n3 : Int} {k4 : IntKind} {n4 : Int} {k5 : IntKind} {n5 : Int} {k6 : IntKind} {n6 : Int} {k7 : IntKind} {n7 : Int} {k8 : IntKind} {n8 : Int} {α9 : Type} {z9 : Nat} {r9 : α9 → List PV} {x9 : List α9} : List AV := [.c (.str s0), .c (.int k1 n1), .c (.int k2 n2), .c (.int k3 n3), .c (.int k4 n4), .c (.int k5 n5), .c (.int k6 n6), .c (.int k7 n7), .c (.int k8 n8), .c (PV.ls z9 r9 x9)]
abbrev u10 {x0 x1 x2 x3 x4 x5 x6 x7 x8 x9 : AV} : List AV := [x0, x1, x2, x3, x4, x5, x6, x7, x8, x9]
abbrev u20 {x0 x1 x2 x3 x4 x5 x6 x7 x8 x9 x10 x11 x12 x13 x14 x15 x16 x17 x18 x19 : AV} : List AV := [x0, x1, x2, x3, x4, x5, x6, x7, x8, x9, x10, x11, x12, x13, x14, x15, x16, x17, x18, x19]
abbrev u24 {x0 x1 x2 x3 x4 x5 x6 x7 x8 x9 x10 x11 x12 x13 x14 x15 x16 x17 x18 x19 x20 x21 x22 x23 : AV} : List AV := [x0, x1, x2, x3, x4, x5, x6, x7, x8, x9, x10, x11, x12, x13, x14, x15, x16, x17, x18, x19, x20, x21, x22, x23]
abbrev u5 {x0 x1 x2 x3 x4 : AV} : List AV := [x0, x1, x2, x3, x4]
structure ApiValue where
  mk ::
  Kind : Int
  Int : Int
  Text : (List UInt8)
  Items : (List ApiValue)
  Keys : (List (List UInt8))
instance : Inhabited ApiValue := ⟨ApiValue.mk 0 0 [] [] []⟩
mutual
def rowApiValue : ApiValue → List PV
  | ⟨x0, x1, x2, x3, x4⟩ => [.int .i64 x0, .int .i64 x1, .str x2, .list 5 (rowsApiValue x3), PV.ls 1 rowS x4]
def rowsApiValue : List ApiValue → List (List PV)
  | [] => []
  | x :: l => rowApiValue x :: rowsApiValue l
end
theorem rowsApiValue_eq : ∀ l, rowsApiValue l = l.map rowApiValue
  | [] => by simp [rowsApiValue]
  | x :: l => by simp [rowsApiValue, rowsApiValue_eq l]
def exApiValue (x : ApiValue) : List PV := [.int .i64 x.Kind, .int .i64 x.Int, .str x.Text, PV.ls 5 rowApiValue x.Items, PV.ls 1 rowS x.Keys]
theorem rowApiValue_eq (x : ApiValue) : rowApiValue x = exApiValue x := by cases x; simp [rowApiValue, exApiValue, rowsApiValue_eq, PV.ls]
theorem rowApiValue_len (x : ApiValue) : (rowApiValue x).length = 5 := by rw [rowApiValue_eq]; rfl
structure ApiPolicy where
  mk ::
  Queue : (List UInt8)
  ToStart : Int
  ToClose : Int
  Total : Int
  Beat : Int
  First : Int
  Coef : Int
  Most : Int
  Attempts : Int
  Fatal : (List (List UInt8))
instance : Inhabited ApiPolicy := ⟨ApiPolicy.mk [] 0 0 0 0 0 0 0 0 []⟩
def rowApiPolicy (x : ApiPolicy) : List PV := [.str x.Queue, .int .i64 x.ToStart, .int .i64 x.ToClose, .int .i64 x.Total, .int .i64 x.Beat, .int .i64 x.First, .int .i64 x.Coef, .int .i64 x.Most, .int .i64 x.Attempts, PV.ls 1 rowS x.Fatal]
structure ApiEvent where
  mk ::
  ID : Int
  Kind : Int
  Time : Int
  Seq : Int
  Ref : Int
  N : Int
  Code : Int
  Name : (List UInt8)
  Key : (List UInt8)
  Data : ApiValue
  Opts : ApiPolicy
instance : Inhabited ApiEvent := ⟨ApiEvent.mk 0 0 0 0 0 0 0 [] [] default default⟩
def rowApiEvent (x : ApiEvent) : List PV := [.int .i64 x.ID, .int .i64 x.Kind, .int .i64 x.Time, .int .i64 x.Seq, .int .i64 x.Ref, .int .i64 x.N, .int .i64 x.Code, .str x.Name, .str x.Key, .int .i64 x.Data.Kind, .int .i64 x.Data.Int, .str x.Data.Text, PV.ls 5 rowApiValue x.Data.Items, PV.ls 1 rowS x.Data.Keys, .str x.Opts.Queue, .int .i64 x.Opts.ToStart, .int .i64 x.Opts.ToClose, .int .i64 x.Opts.Total, .int .i64 x.Opts.Beat, .int .i64 x.Opts.First, .int .i64 x.Opts.Coef, .int .i64 x.Opts.Most, .int .i64 x.Opts.Attempts, PV.ls 1 rowS x.Opts.Fatal]
structure ApiCommand where
  mk ::
  Kind : Int
  Seq : Int
  Name : (List UInt8)
  Key : (List UInt8)
  N : Int
  Data : ApiValue
  Opts : ApiPolicy
instance : Inhabited ApiCommand := ⟨ApiCommand.mk 0 0 [] [] 0 default default⟩
def rowApiCommand (x : ApiCommand) : List PV := [.int .i64 x.Kind, .int .i64 x.Seq, .str x.Name, .str x.Key, .int .i64 x.N, .int .i64 x.Data.Kind, .int .i64 x.Data.Int, .str x.Data.Text, PV.ls 5 rowApiValue x.Data.Items, PV.ls 1 rowS x.Data.Keys, .str x.Opts.Queue, .int .i64 x.Opts.ToStart, .int .i64 x.Opts.ToClose, .int .i64 x.Opts.Total, .int .i64 x.Opts.Beat, .int .i64 x.Opts.First, .int .i64 x.Opts.Coef, .int .i64 x.Opts.Most, .int .i64 x.Opts.Attempts, PV.ls 1 rowS x.Opts.Fatal]
structure CommandUses where
  mk ::
  seq_ : Bool
  name_ : Bool
  key_ : Bool
  n_ : Bool
  data_ : Bool
  opts_ : Bool
instance : Inhabited CommandUses := ⟨CommandUses.mk false false false false false false⟩
def rowCommandUses (x : CommandUses) : List PV := [.bool x.seq_, .bool x.name_, .bool x.key_, .bool x.n_, .bool x.data_, .bool x.opts_]
structure EventUses where
  mk ::
  seq_ : Bool
  ref_ : Bool
  n_ : Bool
  code_ : Bool
  name_ : Bool
  key_ : Bool
  data_ : Bool
instance : Inhabited EventUses := ⟨EventUses.mk false false false false false false false⟩
def rowEventUses (x : EventUses) : List PV := [.bool x.seq_, .bool x.ref_, .bool x.n_, .bool x.code_, .bool x.name_, .bool x.key_, .bool x.data_]
structure HistoryChecker where
  mk ::
  task_ : Int
  ref_ : Int
  before_ : ApiEvent
  closed_ : Bool
instance : Inhabited HistoryChecker := ⟨HistoryChecker.mk 0 0 default false⟩
def rowHistoryChecker (x : HistoryChecker) : List PV := [.int .i64 x.task_, .int .i64 x.ref_, .int .i64 x.before_.ID, .int .i64 x.before_.Kind, .int .i64 x.before_.Time, .int .i64 x.before_.Seq, .int .i64 x.before_.Ref, .int .i64 x.before_.N, .int .i64 x.before_.Code, .str x.before_.Name, .str x.before_.Key, .int .i64 x.before_.Data.Kind, .int .i64 x.before_.Data.Int, .str x.before_.Data.Text, PV.ls 5 rowApiValue x.before_.Data.Items, PV.ls 1 rowS x.before_.Data.Keys, .str x.before_.Opts.Queue, .int .i64 x.before_.Opts.ToStart, .int .i64 x.before_.Opts.ToClose, .int .i64 x.before_.Opts.Total, .int .i64 x.before_.Opts.Beat, .int .i64 x.before_.Opts.First, .int .i64 x.before_.Opts.Coef, .int .i64 x.before_.Opts.Most, .int .i64 x.before_.Opts.Attempts, PV.ls 1 rowS x.before_.Opts.Fatal, .bool x.closed_]
structure HistoryTurn where
  mk ::
  Start : Int
  End : Int
  Next : Int
  Done : Bool
instance : Inhabited HistoryTurn := ⟨HistoryTurn.mk 0 0 0 false⟩
def rowHistoryTurn (x : HistoryTurn) : List PV := [.int .i64 x.Start, .int .i64 x.End, .int .i64 x.Next, .bool x.Done]
theorem ti44 : tyIs Tryd.prog 44 = 3 := by kernel_rfl
theorem tz76 : tyZero Tryd.prog 76 = some [.int .i64 0, .int .i64 0, .int .i64 0, .int .i64 0, .int .i64 0, .int .i64 0, .int .i64 0, .int .i64 0, .int .i64 0, .string ByteArray.empty, .string ByteArray.empty, .int .i64 0, .int .i64 0, .string ByteArray.empty, .slice none 0 0, .slice none 0 0, .string ByteArray.empty, .int .i64 0, .int .i64 0, .int .i64 0, .int .i64 0, .int .i64 0, .int .i64 0, .int .i64 0, .int .i64 0, .slice none 0 0, .bool false] := by kernel_rfl
theorem ts44 : tySlice Tryd.prog 44 = some (31, 24, 272) := by kernel_rfl
theorem tv31 : tyVar Tryd.prog 31 = some (true, 24) := by kernel_rfl
theorem tz31 : tyZero Tryd.prog 31 = some [.int .i64 0, .int .i64 0, .int .i64 0, .int .i64 0, .int .i64 0, .int .i64 0, .int .i64 0, .string ByteArray.empty, .string ByteArray.empty, .int .i64 0, .int .i64 0, .string ByteArray.empty, .slice none 0 0, .slice none 0 0, .string ByteArray.empty, .int .i64 0, .int .i64 0, .int .i64 0, .int .i64 0, .int .i64 0, .int .i64 0, .int .i64 0, .int .i64 0, .slice none 0 0] := by kernel_rfl
theorem tf31x1 : tyField Tryd.prog 31 1 = some (1, false, 1) := by kernel_rfl
theorem tv3 : tyVar Tryd.prog 3 = some (false, 1) := by kernel_rfl
theorem tf31x0 : tyField Tryd.prog 31 0 = some (0, false, 1) := by kernel_rfl
theorem tf31x2 : tyField Tryd.prog 31 2 = some (2, false, 1) := by kernel_rfl
theorem tf31x9 : tyField Tryd.prog 31 9 = some (9, true, 5) := by kernel_rfl
theorem tv25 : tyVar Tryd.prog 25 = some (true, 5) := by kernel_rfl
theorem tf25x3 : tyField Tryd.prog 25 3 = some (3, false, 1) := by kernel_rfl
theorem tv22 : tyVar Tryd.prog 22 = some (false, 1) := by kernel_rfl
theorem ti22 : tyIs Tryd.prog 22 = 3 := by kernel_rfl
theorem ts22 : tySlice Tryd.prog 22 = some (25, 5, 80) := by kernel_rfl
theorem tz25 : tyZero Tryd.prog 25 = some [.int .i64 0, .int .i64 0, .string ByteArray.empty, .slice none 0 0, .slice none 0 0] := by kernel_rfl
theorem tf25x2 : tyField Tryd.prog 25 2 = some (2, false, 1) := by kernel_rfl
theorem tv9 : tyVar Tryd.prog 9 = some (false, 1) := by kernel_rfl
theorem ti9 : tyIs Tryd.prog 9 = 2 := by kernel_rfl
theorem tf25x4 : tyField Tryd.prog 25 4 = some (4, false, 1) := by kernel_rfl
theorem tv23 : tyVar Tryd.prog 23 = some (false, 1) := by kernel_rfl
theorem ti23 : tyIs Tryd.prog 23 = 3 := by kernel_rfl
theorem ts23 : tySlice Tryd.prog 23 = some (9, 1, 16) := by kernel_rfl
theorem tf25x1 : tyField Tryd.prog 25 1 = some (1, false, 1) := by kernel_rfl
theorem tf25x0 : tyField Tryd.prog 25 0 = some (0, false, 1) := by kernel_rfl
theorem tv4 : tyVar Tryd.prog 4 = some (false, 1) := by kernel_rfl
theorem tf31x3 : tyField Tryd.prog 31 3 = some (3, false, 1) := by kernel_rfl
theorem tf31x7 : tyField Tryd.prog 31 7 = some (7, false, 1) := by kernel_rfl
theorem tf31x8 : tyField Tryd.prog 31 8 = some (8, false, 1) := by kernel_rfl
theorem tf31x5 : tyField Tryd.prog 31 5 = some (5, false, 1) := by kernel_rfl
theorem tf31x10 : tyField Tryd.prog 31 10 = some (14, true, 10) := by kernel_rfl
theorem tv27 : tyVar Tryd.prog 27 = some (true, 10) := by kernel_rfl
theorem ti29 : tyIs Tryd.prog 29 = 6 := by kernel_rfl
theorem tz29 : tyZero Tryd.prog 29 = some [.int .i64 0, .int .i64 0, .string ByteArray.empty, .string ByteArray.empty, .int .i64 0, .int .i64 0, .int .i64 0, .string ByteArray.empty, .slice none 0 0, .slice none 0 0, .string ByteArray.empty, .int .i64 0, .int .i64 0, .int .i64 0, .int .i64 0, .int .i64 0, .int .i64 0, .int .i64 0, .int .i64 0, .slice none 0 0] := by kernel_rfl
theorem pl29 : plAll Tryd.prog 29 = some [(0, some 1), (1, some 1), (2, some 1), (3, some 1), (4, some 1), (5, some 5), (10, some 10)] := by kernel_rfl
theorem tb29 : tyIs Tryd.prog 29 = 6 ∧ tyOk Tryd.prog 29 = true ∧ tyZero Tryd.prog 29 = some [.int .i64 0, .int .i64 0, .string ByteArray.empty, .string ByteArray.empty, .int .i64 0, .int .i64 0, .int .i64 0, .string ByteArray.empty, .slice none 0 0, .slice none 0 0, .string ByteArray.empty, .int .i64 0, .int .i64 0, .int .i64 0, .int .i64 0, .int .i64 0, .int .i64 0, .int .i64 0, .int .i64 0, .slice none 0 0] ∧ ∀ i, tyPlace Tryd.prog 29 i = plOf [(0, some 1), (1, some 1), (2, some 1), (3, some 1), (4, some 1), (5, some 5), (10, some 10)] i := ⟨ti29, by kernel_rfl, tz29, fun i => tyPlace_all pl29 i⟩
theorem tv29 : tyVar Tryd.prog 29 = some (true, 20) := by kernel_rfl
theorem tf31x6 : tyField Tryd.prog 31 6 = some (6, false, 1) := by kernel_rfl
theorem tf31x4 : tyField Tryd.prog 31 4 = some (4, false, 1) := by kernel_rfl
theorem tf29x0 : tyField Tryd.prog 29 0 = some (0, false, 1) := by kernel_rfl
theorem tz82 : tyZero Tryd.prog 82 = some [.bool false, .bool false, .bool false, .bool false, .bool false, .bool false] := by kernel_rfl
theorem ti82 : tyIs Tryd.prog 82 = 6 := by kernel_rfl
theorem pl82 : plAll Tryd.prog 82 = some [(0, some 1), (1, some 1), (2, some 1), (3, some 1), (4, some 1), (5, some 1)] := by kernel_rfl
theorem tb82 : tyIs Tryd.prog 82 = 6 ∧ tyOk Tryd.prog 82 = true ∧ tyZero Tryd.prog 82 = some [.bool false, .bool false, .bool false, .bool false, .bool false, .bool false] ∧ ∀ i, tyPlace Tryd.prog 82 i = plOf [(0, some 1), (1, some 1), (2, some 1), (3, some 1), (4, some 1), (5, some 1)] i := ⟨ti82, by kernel_rfl, tz82, fun i => tyPlace_all pl82 i⟩
theorem tv82 : tyVar Tryd.prog 82 = some (true, 6) := by kernel_rfl
theorem tf82x0 : tyField Tryd.prog 82 0 = some (0, false, 1) := by kernel_rfl
theorem tf29x1 : tyField Tryd.prog 29 1 = some (1, false, 1) := by kernel_rfl
theorem tf82x1 : tyField Tryd.prog 82 1 = some (1, false, 1) := by kernel_rfl
theorem tf29x2 : tyField Tryd.prog 29 2 = some (2, false, 1) := by kernel_rfl
theorem tf82x2 : tyField Tryd.prog 82 2 = some (2, false, 1) := by kernel_rfl
theorem tf29x3 : tyField Tryd.prog 29 3 = some (3, false, 1) := by kernel_rfl
theorem tf82x3 : tyField Tryd.prog 82 3 = some (3, false, 1) := by kernel_rfl
theorem tf29x4 : tyField Tryd.prog 29 4 = some (4, false, 1) := by kernel_rfl
theorem tf82x4 : tyField Tryd.prog 82 4 = some (4, false, 1) := by kernel_rfl
theorem tf29x5 : tyField Tryd.prog 29 5 = some (5, true, 5) := by kernel_rfl
theorem ti25 : tyIs Tryd.prog 25 = 6 := by kernel_rfl
theorem pl25 : plAll Tryd.prog 25 = some [(0, some 1), (1, some 1), (2, some 1), (3, some 1), (4, some 1)] := by kernel_rfl
theorem tb25 : tyIs Tryd.prog 25 = 6 ∧ tyOk Tryd.prog 25 = true ∧ tyZero Tryd.prog 25 = some [.int .i64 0, .int .i64 0, .string ByteArray.empty, .slice none 0 0, .slice none 0 0] ∧ ∀ i, tyPlace Tryd.prog 25 i = plOf [(0, some 1), (1, some 1), (2, some 1), (3, some 1), (4, some 1)] i := ⟨ti25, by kernel_rfl, tz25, fun i => tyPlace_all pl25 i⟩
theorem tf82x5 : tyField Tryd.prog 82 5 = some (5, false, 1) := by kernel_rfl
theorem tf29x6 : tyField Tryd.prog 29 6 = some (10, true, 10) := by kernel_rfl
theorem ti27 : tyIs Tryd.prog 27 = 6 := by kernel_rfl
theorem tz27 : tyZero Tryd.prog 27 = some [.string ByteArray.empty, .int .i64 0, .int .i64 0, .int .i64 0, .int .i64 0, .int .i64 0, .int .i64 0, .int .i64 0, .int .i64 0, .slice none 0 0] := by kernel_rfl
theorem pl27 : plAll Tryd.prog 27 = some [(0, some 1), (1, some 1), (2, some 1), (3, some 1), (4, some 1), (5, some 1), (6, some 1), (7, some 1), (8, some 1), (9, some 1)] := by kernel_rfl
theorem tb27 : tyIs Tryd.prog 27 = 6 ∧ tyOk Tryd.prog 27 = true ∧ tyZero Tryd.prog 27 = some [.string ByteArray.empty, .int .i64 0, .int .i64 0, .int .i64 0, .int .i64 0, .int .i64 0, .int .i64 0, .int .i64 0, .int .i64 0, .slice none 0 0] ∧ ∀ i, tyPlace Tryd.prog 27 i = plOf [(0, some 1), (1, some 1), (2, some 1), (3, some 1), (4, some 1), (5, some 1), (6, some 1), (7, some 1), (8, some 1), (9, some 1)] i := ⟨ti27, by kernel_rfl, tz27, fun i => tyPlace_all pl27 i⟩
theorem tf27x1 : tyField Tryd.prog 27 1 = some (1, false, 1) := by kernel_rfl
theorem tf27x2 : tyField Tryd.prog 27 2 = some (2, false, 1) := by kernel_rfl
theorem tf27x3 : tyField Tryd.prog 27 3 = some (3, false, 1) := by kernel_rfl
theorem tf27x4 : tyField Tryd.prog 27 4 = some (4, false, 1) := by kernel_rfl
theorem tf27x5 : tyField Tryd.prog 27 5 = some (5, false, 1) := by kernel_rfl
theorem tf27x6 : tyField Tryd.prog 27 6 = some (6, false, 1) := by kernel_rfl
theorem tf27x7 : tyField Tryd.prog 27 7 = some (7, false, 1) := by kernel_rfl
theorem tf27x8 : tyField Tryd.prog 27 8 = some (8, false, 1) := by kernel_rfl
theorem ts92 : tySlice Tryd.prog 92 = some (95, 1, 8) := by kernel_rfl
theorem ti92 : tyIs Tryd.prog 92 = 3 := by kernel_rfl
theorem tv95 : tyVar Tryd.prog 95 = some (false, 1) := by kernel_rfl
theorem tf27x0 : tyField Tryd.prog 27 0 = some (0, false, 1) := by kernel_rfl
theorem tf27x9 : tyField Tryd.prog 27 9 = some (9, false, 1) := by kernel_rfl
theorem ts96 : tySlice Tryd.prog 96 = some (3, 1, 8) := by kernel_rfl
theorem ti96 : tyIs Tryd.prog 96 = 3 := by kernel_rfl
theorem tz68 : tyZero Tryd.prog 68 = some [.bool false, .bool false, .bool false, .bool false, .bool false, .bool false, .bool false] := by kernel_rfl
theorem ti68 : tyIs Tryd.prog 68 = 6 := by kernel_rfl
theorem pl68 : plAll Tryd.prog 68 = some [(0, some 1), (1, some 1), (2, some 1), (3, some 1), (4, some 1), (5, some 1), (6, some 1)] := by kernel_rfl
theorem tb68 : tyIs Tryd.prog 68 = 6 ∧ tyOk Tryd.prog 68 = true ∧ tyZero Tryd.prog 68 = some [.bool false, .bool false, .bool false, .bool false, .bool false, .bool false, .bool false] ∧ ∀ i, tyPlace Tryd.prog 68 i = plOf [(0, some 1), (1, some 1), (2, some 1), (3, some 1), (4, some 1), (5, some 1), (6, some 1)] i := ⟨ti68, by kernel_rfl, tz68, fun i => tyPlace_all pl68 i⟩
theorem tv68 : tyVar Tryd.prog 68 = some (true, 7) := by kernel_rfl
theorem tf68x0 : tyField Tryd.prog 68 0 = some (0, false, 1) := by kernel_rfl
theorem tf68x1 : tyField Tryd.prog 68 1 = some (1, false, 1) := by kernel_rfl
theorem tf68x2 : tyField Tryd.prog 68 2 = some (2, false, 1) := by kernel_rfl
theorem tf68x3 : tyField Tryd.prog 68 3 = some (3, false, 1) := by kernel_rfl
theorem tf68x4 : tyField Tryd.prog 68 4 = some (4, false, 1) := by kernel_rfl
theorem tf68x5 : tyField Tryd.prog 68 5 = some (5, false, 1) := by kernel_rfl
theorem tf68x6 : tyField Tryd.prog 68 6 = some (6, false, 1) := by kernel_rfl
theorem tf76x2 : tyField Tryd.prog 76 2 = some (2, true, 24) := by kernel_rfl
theorem tf76x3 : tyField Tryd.prog 76 3 = some (26, false, 1) := by kernel_rfl
theorem ti4 : tyIs Tryd.prog 4 = 4 := by kernel_rfl
theorem tf76x0 : tyField Tryd.prog 76 0 = some (0, false, 1) := by kernel_rfl
theorem tf76x1 : tyField Tryd.prog 76 1 = some (1, false, 1) := by kernel_rfl
theorem ti31 : tyIs Tryd.prog 31 = 6 := by kernel_rfl
theorem pl31 : plAll Tryd.prog 31 = some [(0, some 1), (1, some 1), (2, some 1), (3, some 1), (4, some 1), (5, some 1), (6, some 1), (7, some 1), (8, some 1), (9, some 5), (14, some 10)] := by kernel_rfl
theorem tb31 : tyIs Tryd.prog 31 = 6 ∧ tyOk Tryd.prog 31 = true ∧ tyZero Tryd.prog 31 = some [.int .i64 0, .int .i64 0, .int .i64 0, .int .i64 0, .int .i64 0, .int .i64 0, .int .i64 0, .string ByteArray.empty, .string ByteArray.empty, .int .i64 0, .int .i64 0, .string ByteArray.empty, .slice none 0 0, .slice none 0 0, .string ByteArray.empty, .int .i64 0, .int .i64 0, .int .i64 0, .int .i64 0, .int .i64 0, .int .i64 0, .int .i64 0, .int .i64 0, .slice none 0 0] ∧ ∀ i, tyPlace Tryd.prog 31 i = plOf [(0, some 1), (1, some 1), (2, some 1), (3, some 1), (4, some 1), (5, some 1), (6, some 1), (7, some 1), (8, some 1), (9, some 5), (14, some 10)] i := ⟨ti31, by kernel_rfl, tz31, fun i => tyPlace_all pl31 i⟩
theorem ti58 : tyIs Tryd.prog 58 = 6 := by kernel_rfl
theorem tz58 : tyZero Tryd.prog 58 = some [.int .i64 0, .int .i64 0, .int .i64 0, .bool false] := by kernel_rfl
theorem pl58 : plAll Tryd.prog 58 = some [(0, some 1), (1, some 1), (2, some 1), (3, some 1)] := by kernel_rfl
theorem tb58 : tyIs Tryd.prog 58 = 6 ∧ tyOk Tryd.prog 58 = true ∧ tyZero Tryd.prog 58 = some [.int .i64 0, .int .i64 0, .int .i64 0, .bool false] ∧ ∀ i, tyPlace Tryd.prog 58 i = plOf [(0, some 1), (1, some 1), (2, some 1), (3, some 1)] i := ⟨ti58, by kernel_rfl, tz58, fun i => tyPlace_all pl58 i⟩
theorem ts55 : tySlice Tryd.prog 55 = some (58, 4, 32) := by kernel_rfl
theorem ti55 : tyIs Tryd.prog 55 = 3 := by kernel_rfl
theorem tv58 : tyVar Tryd.prog 58 = some (true, 4) := by kernel_rfl
theorem tf58x3 : tyField Tryd.prog 58 3 = some (3, false, 1) := by kernel_rfl
theorem tf58x2 : tyField Tryd.prog 58 2 = some (2, false, 1) := by kernel_rfl
theorem eg58 : Tryd.prog.eqGuardType Tryd.prog.depth 58 = false := by kernel_rfl
theorem eqk58 : eqK Tryd.prog 40 58 = some [1, 1, 1, 0] := by kernel_rfl
theorem tn44 : tyIs Tryd.prog 44 ≠ 7 := by rw [ti44]; decide
theorem tz72 : tyZero Tryd.prog 72 = some [.string ByteArray.empty, .string ByteArray.empty, .string ByteArray.empty, .string ByteArray.empty, .string ByteArray.empty, .string ByteArray.empty, .string ByteArray.empty, .string ByteArray.empty, .string ByteArray.empty, .string ByteArray.empty, .string ByteArray.empty, .string ByteArray.empty, .string ByteArray.empty, .string ByteArray.empty, .string ByteArray.empty, .string ByteArray.empty, .string ByteArray.empty, .string ByteArray.empty, .string ByteArray.empty, .string ByteArray.empty, .string ByteArray.empty, .string ByteArray.empty, .string ByteArray.empty, .string ByteArray.empty, .string ByteArray.empty, .string ByteArray.empty, .string ByteArray.empty, .string ByteArray.empty, .string ByteArray.empty, .string ByteArray.empty, .string ByteArray.empty, .string ByteArray.empty, .string ByteArray.empty, .string ByteArray.empty, .string ByteArray.empty] := by kernel_rfl
theorem ta72 : tyArr Tryd.prog 72 = some (9, 1, 35, false) := by kernel_rfl
theorem tv72 : tyVar Tryd.prog 72 = some (true, 35) := by kernel_rfl
theorem fs29 : tyFs Tryd.prog 29 = some [3, 3, 9, 9, 3, 25, 27] := by kernel_rfl
theorem tk3 : tyInt Tryd.prog 3 = some .i64 := by kernel_rfl
theorem fs25 : tyFs Tryd.prog 25 = some [3, 3, 9, 22, 23] := by kernel_rfl
theorem by25 : Tryd.prog.bytesOf 25 = 80 := by kernel_rfl
theorem sl22 : tySl Tryd.prog 22 = some (25, 5) := by kernel_rfl
theorem by9 : Tryd.prog.bytesOf 9 = 16 := by kernel_rfl
theorem sl23 : tySl Tryd.prog 23 = some (9, 1) := by kernel_rfl
theorem fs27 : tyFs Tryd.prog 27 = some [9, 3, 3, 3, 3, 3, 3, 3, 3, 23] := by kernel_rfl
theorem fs31 : tyFs Tryd.prog 31 = some [3, 3, 3, 3, 3, 3, 3, 9, 9, 25, 27] := by kernel_rfl
theorem by31 : Tryd.prog.bytesOf 31 = 272 := by kernel_rfl
theorem sl44 : tySl Tryd.prog 44 = some (31, 24) := by kernel_rfl
end Go.Proofs.YtngcjjhbimanlaaDoor

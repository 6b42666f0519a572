import Derived.Test.YtmnobgopfnhbnaaProg
import Derived.Test.YtmnobgopfnhbnaaAbs29
namespace Go.Proofs.Ytmnobgopfnhbnaa
open Go Abs
set_option maxRecDepth 100000
set_option linter.unusedVariables false
set_option linter.unusedSimpArgs false
abbrev aBBBBBB {b0 : Bool} {b1 : Bool} {b2 : Bool} {b3 : Bool} {b4 : Bool} {b5 : Bool} : List AV := [.c (.bool b0), .c (.bool b1), .c (.bool b2), .c (.bool b3), .c (.bool b4), .c (.bool b5)]
abbrev aBLI {b0 : Bool} {α1 : Type} {z1 : Nat} {r1 : α1 → List PV} {x1 : List α1} {k2 : IntKind} {n2 : Int} : List AV := [.c (.bool b0), .c (PV.ls z1 r1 x1), .c (.int k2 n2)]
abbrev aIISLL {k0 : IntKind} {n0 : Int} {k1 : IntKind} {n1 : Int} {s2 : List UInt8} {α3 : Type} {z3 : Nat} {r3 : α3 → List PV} {x3 : List α3} {α4 : Type} {z4 : Nat} {r4 : α4 → List PV} {x4 : List α4} : List AV := [.c (.int k0 n0), .c (.int k1 n1), .c (.str s2), .c (PV.ls z3 r3 x3), .c (PV.ls z4 r4 x4)]
abbrev aIISSIIISLLSIIIIIIIIL {k0 : IntKind} {n0 : Int} {k1 : IntKind} {n1 : Int} {s2 : List UInt8} {s3 : List UInt8} {k4 : IntKind} {n4 : Int} {k5 : IntKind} {n5 : Int} {k6 : IntKind} {n6 : Int} {s7 : List UInt8} {α8 : Type} {z8 : Nat} {r8 : α8 → List PV} {x8 : List α8} {α9 : Type} {z9 : Nat} {r9 : α9 → List PV} {x9 : List α9} {s10 : List UInt8} {k11 : IntKind} {n11 : Int} {k12 : IntKind} {n12 : Int} {k13 : IntKind} {n13 : Int} {k14 : IntKind} {n14 : Int} {k15 : IntKind} {n15 : Int} {k16 : IntKind} {n16 : Int} {k17 : IntKind} {n17 : Int} {k18 : IntKind} {n18 : Int} {α19 : Type} {z19 : Nat} {r19 : α19 → List PV} {x19 : List α19} : List AV := [.c (.int k0 n0), .c (.int k1 n1), .c (.str s2), .c (.str s3), .c (.int k4 n4), .c (.int k5 n5), .c (.int k6 n6), .c (.str s7), .c (PV.ls z8 r8 x8), .c (PV.ls z9 r9 x9), .c (.str s10), .c (.int k11 n11), .c (.int k12 n12), .c (.int k13 n13), .c (.int k14 n14), .c (.int k15 n15), .c (.int k16 n16), .c (.int k17 n17), .c (.int k18 n18), .c (PV.ls z19 r19 x19)]
abbrev aLIIB {α0 : Type} {z0 : Nat} {r0 : α0 → List PV} {x0 : List α0} {k1 : IntKind} {n1 : Int} {k2 : IntKind} {n2 : Int} {b3 : Bool} : List AV := [.c (PV.ls z0 r0 x0), .c (.int k1 n1), .c (.int k2 n2), .c (.bool b3)]
abbrev aSIIIIIIIIL {s0 : List UInt8} {k1 : IntKind} {n1 : Int} {k2 : IntKind} {n2 : Int} {k3 : IntKind} {n3 : Int} {k4 : IntKind} {n4 : Int} {k5 : IntKind} {n5 : Int} {k6 : IntKind} {n6 : Int} {k7 : IntKind} {n7 : Int} {k8 : IntKind} {n8 : Int} {α9 : Type} {z9 : Nat} {r9 : α9 → List PV} {x9 : List α9} : List AV := [.c (.str s0), .c (.int k1 n1), .c (.int k2 n2), .c (.int k3 n3), .c (.int k4 n4), .c (.int k5 n5), .c (.int k6 n6), .c (.int k7 n7), .c (.int k8 n8), .c (PV.ls z9 r9 x9)]
abbrev u10 {x0 x1 x2 x3 x4 x5 x6 x7 x8 x9 : AV} : List AV := [x0, x1, x2, x3, x4, x5, x6, x7, x8, x9]
abbrev u20 {x0 x1 x2 x3 x4 x5 x6 x7 x8 x9 x10 x11 x12 x13 x14 x15 x16 x17 x18 x19 : AV} : List AV := [x0, x1, x2, x3, x4, x5, x6, x7, x8, x9, x10, x11, x12, x13, x14, x15, x16, x17, x18, x19]
structure ApiValue where
  mk ::
  Kind : Int
  Int : Int
  Text : (List UInt8)
  Items : (List ApiValue)
  Keys : (List (List UInt8))
instance : Inhabited ApiValue := ⟨ApiValue.mk 0 0 [] [] []⟩
mutual
def rowApiValue : ApiValue → List PV
  | ⟨x0, x1, x2, x3, x4⟩ => [.int .i64 x0, .int .i64 x1, .str x2, .list 5 (rowsApiValue x3), PV.ls 1 rowS x4]
def rowsApiValue : List ApiValue → List (List PV)
  | [] => []
  | x :: l => rowApiValue x :: rowsApiValue l
end
theorem rowsApiValue_eq : ∀ l, rowsApiValue l = l.map rowApiValue
  | [] => by simp [rowsApiValue]
  | x :: l => by simp [rowsApiValue, rowsApiValue_eq l]
def exApiValue (x : ApiValue) : List PV := [.int .i64 x.Kind, .int .i64 x.Int, .str x.Text, PV.ls 5 rowApiValue x.Items, PV.ls 1 rowS x.Keys]
theorem rowApiValue_eq (x : ApiValue) : rowApiValue x = exApiValue x := by cases x; simp [rowApiValue, exApiValue, rowsApiValue_eq, PV.ls]
theorem rowApiValue_len (x : ApiValue) : (rowApiValue x).length = 5 := by rw [rowApiValue_eq]; rfl
structure ApiPolicy where
  mk ::
  Queue : (List UInt8)
  ToStart : Int
  ToClose : Int
  Total : Int
  Beat : Int
  First : Int
  Coef : Int
  Most : Int
  Attempts : Int
  Fatal : (List (List UInt8))
instance : Inhabited ApiPolicy := ⟨ApiPolicy.mk [] 0 0 0 0 0 0 0 0 []⟩
def rowApiPolicy (x : ApiPolicy) : List PV := [.str x.Queue, .int .i64 x.ToStart, .int .i64 x.ToClose, .int .i64 x.Total, .int .i64 x.Beat, .int .i64 x.First, .int .i64 x.Coef, .int .i64 x.Most, .int .i64 x.Attempts, PV.ls 1 rowS x.Fatal]
structure ApiCommand where
  mk ::
  Kind : Int
  Seq : Int
  Name : (List UInt8)
  Key : (List UInt8)
  N : Int
  Data : ApiValue
  Opts : ApiPolicy
instance : Inhabited ApiCommand := ⟨ApiCommand.mk 0 0 [] [] 0 default default⟩
def rowApiCommand (x : ApiCommand) : List PV := [.int .i64 x.Kind, .int .i64 x.Seq, .str x.Name, .str x.Key, .int .i64 x.N, .int .i64 x.Data.Kind, .int .i64 x.Data.Int, .str x.Data.Text, PV.ls 5 rowApiValue x.Data.Items, PV.ls 1 rowS x.Data.Keys, .str x.Opts.Queue, .int .i64 x.Opts.ToStart, .int .i64 x.Opts.ToClose, .int .i64 x.Opts.Total, .int .i64 x.Opts.Beat, .int .i64 x.Opts.First, .int .i64 x.Opts.Coef, .int .i64 x.Opts.Most, .int .i64 x.Opts.Attempts, PV.ls 1 rowS x.Opts.Fatal]
structure CommandUses where
  mk ::
  seq_ : Bool
  name_ : Bool
  key_ : Bool
  n_ : Bool
  data_ : Bool
  opts_ : Bool
instance : Inhabited CommandUses := ⟨CommandUses.mk false false false false false false⟩
def rowCommandUses (x : CommandUses) : List PV := [.bool x.seq_, .bool x.name_, .bool x.key_, .bool x.n_, .bool x.data_, .bool x.opts_]
structure WireReader where
  mk ::
  b_ : (List UInt8)
  at_ : Int
  err_ : Int
  made_ : Bool
instance : Inhabited WireReader := ⟨WireReader.mk [] 0 0 false⟩
def rowWireReader (x : WireReader) : List PV := [PV.ls 1 brow x.b_, .int .i64 x.at_, .int .i64 x.err_, .bool x.made_]
structure Ref01Reader where
  mk ::
  Made : Bool
  Rest : (List UInt8)
  Bad : Int
instance : Inhabited Ref01Reader := ⟨Ref01Reader.mk false [] 0⟩
def rowRef01Reader (x : Ref01Reader) : List PV := [.bool x.Made, PV.ls 1 brow x.Rest, .int .i64 x.Bad]
theorem ti40 : tyIs Try.prog 40 = 3 := by kernel_rfl
theorem ts23 : tySlice Try.prog 23 = some (9, 1, 16) := by kernel_rfl
theorem ti25 : tyIs Try.prog 25 = 6 := by kernel_rfl
theorem tz25 : tyZero Try.prog 25 = some [.int .i64 0, .int .i64 0, .string ByteArray.empty, .slice none 0 0, .slice none 0 0] := by kernel_rfl
theorem pl25 : plAll Try.prog 25 = some [(0, some 1), (1, some 1), (2, some 1), (3, some 1), (4, some 1)] := by kernel_rfl
theorem tb25 : tyIs Try.prog 25 = 6 ∧ tyOk Try.prog 25 = true ∧ tyZero Try.prog 25 = some [.int .i64 0, .int .i64 0, .string ByteArray.empty, .slice none 0 0, .slice none 0 0] ∧ ∀ i, tyPlace Try.prog 25 i = plOf [(0, some 1), (1, some 1), (2, some 1), (3, some 1), (4, some 1)] i := ⟨ti25, by kernel_rfl, tz25, fun i => tyPlace_all pl25 i⟩
theorem ts22 : tySlice Try.prog 22 = some (25, 5, 80) := by kernel_rfl
theorem tv25 : tyVar Try.prog 25 = some (true, 5) := by kernel_rfl
theorem tz27 : tyZero Try.prog 27 = some [.string ByteArray.empty, .int .i64 0, .int .i64 0, .int .i64 0, .int .i64 0, .int .i64 0, .int .i64 0, .int .i64 0, .int .i64 0, .slice none 0 0] := by kernel_rfl
theorem tf25x0 : tyField Try.prog 25 0 = some (0, false, 1) := by kernel_rfl
theorem tv3 : tyVar Try.prog 3 = some (false, 1) := by kernel_rfl
theorem tf25x3 : tyField Try.prog 25 3 = some (3, false, 1) := by kernel_rfl
theorem tv22 : tyVar Try.prog 22 = some (false, 1) := by kernel_rfl
theorem ti22 : tyIs Try.prog 22 = 3 := by kernel_rfl
theorem tf25x2 : tyField Try.prog 25 2 = some (2, false, 1) := by kernel_rfl
theorem tv9 : tyVar Try.prog 9 = some (false, 1) := by kernel_rfl
theorem ti9 : tyIs Try.prog 9 = 2 := by kernel_rfl
theorem tf25x4 : tyField Try.prog 25 4 = some (4, false, 1) := by kernel_rfl
theorem tv23 : tyVar Try.prog 23 = some (false, 1) := by kernel_rfl
theorem ti23 : tyIs Try.prog 23 = 3 := by kernel_rfl
theorem tf25x1 : tyField Try.prog 25 1 = some (1, false, 1) := by kernel_rfl
theorem tv4 : tyVar Try.prog 4 = some (false, 1) := by kernel_rfl
theorem ti27 : tyIs Try.prog 27 = 6 := by kernel_rfl
theorem pl27 : plAll Try.prog 27 = some [(0, some 1), (1, some 1), (2, some 1), (3, some 1), (4, some 1), (5, some 1), (6, some 1), (7, some 1), (8, some 1), (9, some 1)] := by kernel_rfl
theorem tb27 : tyIs Try.prog 27 = 6 ∧ tyOk Try.prog 27 = true ∧ tyZero Try.prog 27 = some [.string ByteArray.empty, .int .i64 0, .int .i64 0, .int .i64 0, .int .i64 0, .int .i64 0, .int .i64 0, .int .i64 0, .int .i64 0, .slice none 0 0] ∧ ∀ i, tyPlace Try.prog 27 i = plOf [(0, some 1), (1, some 1), (2, some 1), (3, some 1), (4, some 1), (5, some 1), (6, some 1), (7, some 1), (8, some 1), (9, some 1)] i := ⟨ti27, by kernel_rfl, tz27, fun i => tyPlace_all pl27 i⟩
theorem tv27 : tyVar Try.prog 27 = some (true, 10) := by kernel_rfl
theorem tf27x1 : tyField Try.prog 27 1 = some (1, false, 1) := by kernel_rfl
theorem tf27x2 : tyField Try.prog 27 2 = some (2, false, 1) := by kernel_rfl
theorem tf27x3 : tyField Try.prog 27 3 = some (3, false, 1) := by kernel_rfl
theorem tf27x4 : tyField Try.prog 27 4 = some (4, false, 1) := by kernel_rfl
theorem tf27x5 : tyField Try.prog 27 5 = some (5, false, 1) := by kernel_rfl
theorem tf27x6 : tyField Try.prog 27 6 = some (6, false, 1) := by kernel_rfl
theorem tf27x7 : tyField Try.prog 27 7 = some (7, false, 1) := by kernel_rfl
theorem tf27x8 : tyField Try.prog 27 8 = some (8, false, 1) := by kernel_rfl
theorem ts70 : tySlice Try.prog 70 = some (69, 1, 8) := by kernel_rfl
theorem tv69 : tyVar Try.prog 69 = some (false, 1) := by kernel_rfl
theorem tf27x0 : tyField Try.prog 27 0 = some (0, false, 1) := by kernel_rfl
theorem tf27x9 : tyField Try.prog 27 9 = some (9, false, 1) := by kernel_rfl
theorem ts65 : tySlice Try.prog 65 = some (3, 1, 8) := by kernel_rfl
theorem ti65 : tyIs Try.prog 65 = 3 := by kernel_rfl
theorem ti29 : tyIs Try.prog 29 = 6 := by kernel_rfl
theorem tz29 : tyZero Try.prog 29 = some [.int .i64 0, .int .i64 0, .string ByteArray.empty, .string ByteArray.empty, .int .i64 0, .int .i64 0, .int .i64 0, .string ByteArray.empty, .slice none 0 0, .slice none 0 0, .string ByteArray.empty, .int .i64 0, .int .i64 0, .int .i64 0, .int .i64 0, .int .i64 0, .int .i64 0, .int .i64 0, .int .i64 0, .slice none 0 0] := by kernel_rfl
theorem pl29 : plAll Try.prog 29 = some [(0, some 1), (1, some 1), (2, some 1), (3, some 1), (4, some 1), (5, some 5), (10, some 10)] := by kernel_rfl
theorem tb29 : tyIs Try.prog 29 = 6 ∧ tyOk Try.prog 29 = true ∧ tyZero Try.prog 29 = some [.int .i64 0, .int .i64 0, .string ByteArray.empty, .string ByteArray.empty, .int .i64 0, .int .i64 0, .int .i64 0, .string ByteArray.empty, .slice none 0 0, .slice none 0 0, .string ByteArray.empty, .int .i64 0, .int .i64 0, .int .i64 0, .int .i64 0, .int .i64 0, .int .i64 0, .int .i64 0, .int .i64 0, .slice none 0 0] ∧ ∀ i, tyPlace Try.prog 29 i = plOf [(0, some 1), (1, some 1), (2, some 1), (3, some 1), (4, some 1), (5, some 5), (10, some 10)] i := ⟨ti29, by kernel_rfl, tz29, fun i => tyPlace_all pl29 i⟩
theorem tv29 : tyVar Try.prog 29 = some (true, 20) := by kernel_rfl
theorem tf29x0 : tyField Try.prog 29 0 = some (0, false, 1) := by kernel_rfl
theorem tz59 : tyZero Try.prog 59 = some [.bool false, .bool false, .bool false, .bool false, .bool false, .bool false] := by kernel_rfl
theorem ti59 : tyIs Try.prog 59 = 6 := by kernel_rfl
theorem pl59 : plAll Try.prog 59 = some [(0, some 1), (1, some 1), (2, some 1), (3, some 1), (4, some 1), (5, some 1)] := by kernel_rfl
theorem tb59 : tyIs Try.prog 59 = 6 ∧ tyOk Try.prog 59 = true ∧ tyZero Try.prog 59 = some [.bool false, .bool false, .bool false, .bool false, .bool false, .bool false] ∧ ∀ i, tyPlace Try.prog 59 i = plOf [(0, some 1), (1, some 1), (2, some 1), (3, some 1), (4, some 1), (5, some 1)] i := ⟨ti59, by kernel_rfl, tz59, fun i => tyPlace_all pl59 i⟩
theorem tv59 : tyVar Try.prog 59 = some (true, 6) := by kernel_rfl
theorem tf59x0 : tyField Try.prog 59 0 = some (0, false, 1) := by kernel_rfl
theorem tf29x1 : tyField Try.prog 29 1 = some (1, false, 1) := by kernel_rfl
theorem tf59x1 : tyField Try.prog 59 1 = some (1, false, 1) := by kernel_rfl
theorem tf29x2 : tyField Try.prog 29 2 = some (2, false, 1) := by kernel_rfl
theorem tf59x2 : tyField Try.prog 59 2 = some (2, false, 1) := by kernel_rfl
theorem tf29x3 : tyField Try.prog 29 3 = some (3, false, 1) := by kernel_rfl
theorem tf59x3 : tyField Try.prog 59 3 = some (3, false, 1) := by kernel_rfl
theorem tf29x4 : tyField Try.prog 29 4 = some (4, false, 1) := by kernel_rfl
theorem tf59x4 : tyField Try.prog 59 4 = some (4, false, 1) := by kernel_rfl
theorem tf29x5 : tyField Try.prog 29 5 = some (5, true, 5) := by kernel_rfl
theorem tf59x5 : tyField Try.prog 59 5 = some (5, false, 1) := by kernel_rfl
theorem tf29x6 : tyField Try.prog 29 6 = some (10, true, 10) := by kernel_rfl
theorem ti70 : tyIs Try.prog 70 = 3 := by kernel_rfl
theorem tk3 : tyInt Try.prog 3 = some .i64 := by kernel_rfl
theorem tk103 : tyInt Try.prog 103 = some .u64 := by kernel_rfl
theorem tk5 : tyInt Try.prog 5 = some .u8 := by kernel_rfl
theorem ts40 : tySlice Try.prog 40 = some (5, 1, 1) := by kernel_rfl
theorem ti78 : tyIs Try.prog 78 = 6 := by kernel_rfl
theorem tz78 : tyZero Try.prog 78 = some [.slice none 0 0, .int .i64 0, .int .i64 0, .bool false] := by kernel_rfl
theorem pl78 : plAll Try.prog 78 = some [(0, some 1), (1, some 1), (2, some 1), (3, some 1)] := by kernel_rfl
theorem tb78 : tyIs Try.prog 78 = 6 ∧ tyOk Try.prog 78 = true ∧ tyZero Try.prog 78 = some [.slice none 0 0, .int .i64 0, .int .i64 0, .bool false] ∧ ∀ i, tyPlace Try.prog 78 i = plOf [(0, some 1), (1, some 1), (2, some 1), (3, some 1)] i := ⟨ti78, by kernel_rfl, tz78, fun i => tyPlace_all pl78 i⟩
theorem ti41 : tyIs Try.prog 41 = 5 := by kernel_rfl
theorem tf78x3 : tyField Try.prog 78 3 = some (3, false, 1) := by kernel_rfl
theorem tf78x2 : tyField Try.prog 78 2 = some (2, false, 1) := by kernel_rfl
theorem tv34 : tyVar Try.prog 34 = some (false, 1) := by kernel_rfl
theorem tf78x0 : tyField Try.prog 78 0 = some (0, false, 1) := by kernel_rfl
theorem tv40 : tyVar Try.prog 40 = some (false, 1) := by kernel_rfl
theorem tf78x1 : tyField Try.prog 78 1 = some (1, false, 1) := by kernel_rfl
theorem tn40 : tyIs Try.prog 40 ≠ 7 := by rw [ti40]; decide
theorem tv5 : tyVar Try.prog 5 = some (false, 1) := by kernel_rfl
theorem tby40 : aval.tyBytes Try.prog 40 := by show (match Try.prog.underlying 40 with | some (.slice e) => tyInt Try.prog e = some .u8 | _ => False); rw [show Try.prog.underlying 40 = some (.slice 5) by kernel_rfl]; exact (by kernel_rfl : tyInt Try.prog 5 = some .u8)
theorem ti98 : tyIs Try.prog 98 = 6 := by kernel_rfl
theorem tz98 : tyZero Try.prog 98 = some [.pointer none, .int .i64 0] := by kernel_rfl
theorem pl98 : plAll Try.prog 98 = some [(0, some 1), (1, some 1)] := by kernel_rfl
theorem tb98 : tyIs Try.prog 98 = 6 ∧ tyOk Try.prog 98 = true ∧ tyZero Try.prog 98 = some [.pointer none, .int .i64 0] ∧ ∀ i, tyPlace Try.prog 98 i = plOf [(0, some 1), (1, some 1)] i := ⟨ti98, by kernel_rfl, tz98, fun i => tyPlace_all pl98 i⟩
theorem tf98x1 : tyField Try.prog 98 1 = some (1, false, 1) := by kernel_rfl
theorem tf98x0 : tyField Try.prog 98 0 = some (0, false, 1) := by kernel_rfl
theorem tv41 : tyVar Try.prog 41 = some (false, 1) := by kernel_rfl
theorem ti80 : tyIs Try.prog 80 = 6 := by kernel_rfl
theorem tz80 : tyZero Try.prog 80 = some [.bool false, .slice none 0 0, .int .i64 0] := by kernel_rfl
theorem pl80 : plAll Try.prog 80 = some [(0, some 1), (1, some 1), (2, some 1)] := by kernel_rfl
theorem tb80 : tyIs Try.prog 80 = 6 ∧ tyOk Try.prog 80 = true ∧ tyZero Try.prog 80 = some [.bool false, .slice none 0 0, .int .i64 0] ∧ ∀ i, tyPlace Try.prog 80 i = plOf [(0, some 1), (1, some 1), (2, some 1)] i := ⟨ti80, by kernel_rfl, tz80, fun i => tyPlace_all pl80 i⟩
theorem ti43 : tyIs Try.prog 43 = 5 := by kernel_rfl
theorem tf80x0 : tyField Try.prog 80 0 = some (0, false, 1) := by kernel_rfl
theorem tf80x2 : tyField Try.prog 80 2 = some (2, false, 1) := by kernel_rfl
theorem tf80x1 : tyField Try.prog 80 1 = some (1, false, 1) := by kernel_rfl
theorem ti102 : tyIs Try.prog 102 = 6 := by kernel_rfl
theorem tz102 : tyZero Try.prog 102 = some [.pointer none, .int .i64 0] := by kernel_rfl
theorem pl102 : plAll Try.prog 102 = some [(0, some 1), (1, some 1)] := by kernel_rfl
theorem tb102 : tyIs Try.prog 102 = 6 ∧ tyOk Try.prog 102 = true ∧ tyZero Try.prog 102 = some [.pointer none, .int .i64 0] ∧ ∀ i, tyPlace Try.prog 102 i = plOf [(0, some 1), (1, some 1)] i := ⟨ti102, by kernel_rfl, tz102, fun i => tyPlace_all pl102 i⟩
theorem tf102x1 : tyField Try.prog 102 1 = some (1, false, 1) := by kernel_rfl
theorem tf102x0 : tyField Try.prog 102 0 = some (0, false, 1) := by kernel_rfl
theorem tv43 : tyVar Try.prog 43 = some (false, 1) := by kernel_rfl
theorem by5 : Try.prog.bytesOf 5 = 1 := by kernel_rfl
theorem sl40 : tySl Try.prog 40 = some (5, 1) := by kernel_rfl
end Go.Proofs.Ytmnobgopfnhbnaa

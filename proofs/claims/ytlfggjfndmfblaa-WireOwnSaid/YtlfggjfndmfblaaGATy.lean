import Derived.Test.YtlfggjfndmfblaaProg
import Derived.Test.YtlfggjfndmfblaaAbs29
namespace Go.Proofs.Ytlfggjfndmfblaa
open Go Abs
set_option maxRecDepth 100000
set_option linter.unusedVariables false
set_option linter.unusedSimpArgs false
abbrev ci (n : Int) : AV := .c (.int .i64 n)
abbrev aBLI {b0 : Bool} {α1 : Type} {z1 : Nat} {r1 : α1 → List PV} {x1 : List α1} {k2 : IntKind} {n2 : Int} : List AV := [.c (.bool b0), .c (PV.ls z1 r1 x1), .c (.int k2 n2)]
abbrev aBNI {b0 : Bool}  {k2 : IntKind} {n2 : Int} : List AV := [.c (.bool b0), AV.nil, .c (.int k2 n2)]
abbrev aLIIB {α0 : Type} {z0 : Nat} {r0 : α0 → List PV} {x0 : List α0} {k1 : IntKind} {n1 : Int} {k2 : IntKind} {n2 : Int} {b3 : Bool} : List AV := [.c (PV.ls z0 r0 x0), .c (.int k1 n1), .c (.int k2 n2), .c (.bool b3)]
abbrev aNIIB  {k1 : IntKind} {n1 : Int} {k2 : IntKind} {n2 : Int} {b3 : Bool} : List AV := [AV.nil, .c (.int k1 n1), .c (.int k2 n2), .c (.bool b3)]
structure WireReader where
  mk ::
  b_ : (List UInt8)
  at_ : Int
  err_ : Int
  made_ : Bool
instance : Inhabited WireReader := ⟨WireReader.mk [] 0 0 false⟩
def rowWireReader (x : WireReader) : List PV := [PV.ls 1 brow x.b_, .int .i64 x.at_, .int .i64 x.err_, .bool x.made_]
structure Ref01Reader where
  mk ::
  Made : Bool
  Rest : (List UInt8)
  Bad : Int
instance : Inhabited Ref01Reader := ⟨Ref01Reader.mk false [] 0⟩
def rowRef01Reader (x : Ref01Reader) : List PV := [.bool x.Made, PV.ls 1 brow x.Rest, .int .i64 x.Bad]
theorem ti22 : tyIs Try.prog 22 = 3 := by kernel_rfl
theorem ts22 : tySlice Try.prog 22 = some (5, 1, 1) := by kernel_rfl
theorem ti29 : tyIs Try.prog 29 = 6 := by kernel_rfl
theorem tz29 : tyZero Try.prog 29 = some [.slice none 0 0, .int .i64 0, .int .i64 0, .bool false] := by kernel_rfl
theorem pl29 : plAll Try.prog 29 = some [(0, some 1), (1, some 1), (2, some 1), (3, some 1)] := by kernel_rfl
theorem tb29 : tyIs Try.prog 29 = 6 ∧ tyOk Try.prog 29 = true ∧ tyZero Try.prog 29 = some [.slice none 0 0, .int .i64 0, .int .i64 0, .bool false] ∧ ∀ i, tyPlace Try.prog 29 i = plOf [(0, some 1), (1, some 1), (2, some 1), (3, some 1)] i := ⟨ti29, by kernel_rfl, tz29, fun i => tyPlace_all pl29 i⟩
theorem ti25 : tyIs Try.prog 25 = 5 := by kernel_rfl
theorem tf29x3 : tyField Try.prog 29 3 = some (3, false, 1) := by kernel_rfl
theorem tv4 : tyVar Try.prog 4 = some (false, 1) := by kernel_rfl
theorem tf29x2 : tyField Try.prog 29 2 = some (2, false, 1) := by kernel_rfl
theorem tv27 : tyVar Try.prog 27 = some (false, 1) := by kernel_rfl
theorem tf29x0 : tyField Try.prog 29 0 = some (0, false, 1) := by kernel_rfl
theorem tv22 : tyVar Try.prog 22 = some (false, 1) := by kernel_rfl
theorem tf29x1 : tyField Try.prog 29 1 = some (1, false, 1) := by kernel_rfl
theorem tv3 : tyVar Try.prog 3 = some (false, 1) := by kernel_rfl
theorem tn22 : tyIs Try.prog 22 ≠ 7 := by rw [ti22]; decide
theorem tv5 : tyVar Try.prog 5 = some (false, 1) := by kernel_rfl
theorem tk5 : tyInt Try.prog 5 = some .u8 := by kernel_rfl
theorem tk41 : tyInt Try.prog 41 = some .u64 := by kernel_rfl
theorem tk3 : tyInt Try.prog 3 = some .i64 := by kernel_rfl
theorem tby22 : aval0.tyBytes Try.prog 22 := by show (match Try.prog.underlying 22 with | some (.slice e) => tyInt Try.prog e = some .u8 | _ => False); rw [show Try.prog.underlying 22 = some (.slice 5) by kernel_rfl]; exact (by kernel_rfl : tyInt Try.prog 5 = some .u8)
theorem ti9 : tyIs Try.prog 9 = 2 := by kernel_rfl
theorem ti45 : tyIs Try.prog 45 = 6 := by kernel_rfl
theorem tz45 : tyZero Try.prog 45 = some [.bool false, .slice none 0 0, .int .i64 0] := by kernel_rfl
theorem pl45 : plAll Try.prog 45 = some [(0, some 1), (1, some 1), (2, some 1)] := by kernel_rfl
theorem tb45 : tyIs Try.prog 45 = 6 ∧ tyOk Try.prog 45 = true ∧ tyZero Try.prog 45 = some [.bool false, .slice none 0 0, .int .i64 0] ∧ ∀ i, tyPlace Try.prog 45 i = plOf [(0, some 1), (1, some 1), (2, some 1)] i := ⟨ti45, by kernel_rfl, tz45, fun i => tyPlace_all pl45 i⟩
theorem ti36 : tyIs Try.prog 36 = 5 := by kernel_rfl
theorem tf45x0 : tyField Try.prog 45 0 = some (0, false, 1) := by kernel_rfl
theorem tf45x2 : tyField Try.prog 45 2 = some (2, false, 1) := by kernel_rfl
theorem tf45x1 : tyField Try.prog 45 1 = some (1, false, 1) := by kernel_rfl
theorem by5 : Try.prog.bytesOf 5 = 1 := by kernel_rfl
theorem sl22 : tySl Try.prog 22 = some (5, 1) := by kernel_rfl
end Go.Proofs.Ytlfggjfndmfblaa

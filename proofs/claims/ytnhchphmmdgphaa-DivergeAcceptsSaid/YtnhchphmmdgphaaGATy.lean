import Derived.Test.YtnhchphmmdgphaaProg
import Derived.Test.YtnhchphmmdgphaaAbs28
namespace Go.Proofs.Ytnhchphmmdgphaa
open Go Abs
set_option maxRecDepth 100000
set_option linter.unusedVariables false
set_option linter.unusedSimpArgs false
structure ApiValue where
  mk ::
  Kind : Int
  Int : Int
  Text : (List UInt8)
  Items : (List ApiValue)
  Keys : (List (List UInt8))
instance : Inhabited ApiValue := ⟨ApiValue.mk 0 0 [] [] []⟩
mutual
def rowApiValue : ApiValue → List PV
  | ⟨x0, x1, x2, x3, x4⟩ => [.int .i64 x0, .int .i64 x1, .str x2, .list 5 (rowsApiValue x3), PV.ls 1 rowS x4]
def rowsApiValue : List ApiValue → List (List PV)
  | [] => []
  | x :: l => rowApiValue x :: rowsApiValue l
end
theorem rowsApiValue_eq : ∀ l, rowsApiValue l = l.map rowApiValue
  | [] => by simp [rowsApiValue]
  | x :: l => by simp [rowsApiValue, rowsApiValue_eq l]
def exApiValue (x : ApiValue) : List PV := [.int .i64 x.Kind, .int .i64 x.Int, .str x.Text, PV.ls 5 rowApiValue x.Items, PV.ls 1 rowS x.Keys]
theorem rowApiValue_eq (x : ApiValue) : rowApiValue x = exApiValue x := by cases x; simp [rowApiValue, exApiValue, rowsApiValue_eq, PV.ls]
theorem rowApiValue_len (x : ApiValue) : (rowApiValue x).length = 5 := by rw [rowApiValue_eq]; rfl
structure ApiPolicy where
  mk ::
  Queue : (List UInt8)
  ToStart : Int
  ToClose : Int
  Total : Int
  Beat : Int
  First : Int
  Coef : Int
  Most : Int
  Attempts : Int
  Fatal : (List (List UInt8))
instance : Inhabited ApiPolicy := ⟨ApiPolicy.mk [] 0 0 0 0 0 0 0 0 []⟩
def rowApiPolicy (x : ApiPolicy) : List PV := [.str x.Queue, .int .i64 x.ToStart, .int .i64 x.ToClose, .int .i64 x.Total, .int .i64 x.Beat, .int .i64 x.First, .int .i64 x.Coef, .int .i64 x.Most, .int .i64 x.Attempts, PV.ls 1 rowS x.Fatal]
structure ApiCommand where
  mk ::
  Kind : Int
  Seq : Int
  Name : (List UInt8)
  Key : (List UInt8)
  N : Int
  Data : ApiValue
  Opts : ApiPolicy
instance : Inhabited ApiCommand := ⟨ApiCommand.mk 0 0 [] [] 0 default default⟩
def rowApiCommand (x : ApiCommand) : List PV := [.int .i64 x.Kind, .int .i64 x.Seq, .str x.Name, .str x.Key, .int .i64 x.N, .int .i64 x.Data.Kind, .int .i64 x.Data.Int, .str x.Data.Text, PV.ls 5 rowApiValue x.Data.Items, PV.ls 1 rowS x.Data.Keys, .str x.Opts.Queue, .int .i64 x.Opts.ToStart, .int .i64 x.Opts.ToClose, .int .i64 x.Opts.Total, .int .i64 x.Opts.Beat, .int .i64 x.Opts.First, .int .i64 x.Opts.Coef, .int .i64 x.Opts.Most, .int .i64 x.Opts.Attempts, PV.ls 1 rowS x.Opts.Fatal]
structure ApiEvent where
  mk ::
  ID : Int
  Kind : Int
  Time : Int
  Seq : Int
  Ref : Int
  N : Int
  Code : Int
  Name : (List UInt8)
  Key : (List UInt8)
  Data : ApiValue
  Opts : ApiPolicy
instance : Inhabited ApiEvent := ⟨ApiEvent.mk 0 0 0 0 0 0 0 [] [] default default⟩
def rowApiEvent (x : ApiEvent) : List PV := [.int .i64 x.ID, .int .i64 x.Kind, .int .i64 x.Time, .int .i64 x.Seq, .int .i64 x.Ref, .int .i64 x.N, .int .i64 x.Code, .str x.Name, .str x.Key, .int .i64 x.Data.Kind, .int .i64 x.Data.Int, .str x.Data.Text, PV.ls 5 rowApiValue x.Data.Items, PV.ls 1 rowS x.Data.Keys, .str x.Opts.Queue, .int .i64 x.Opts.ToStart, .int .i64 x.Opts.ToClose, .int .i64 x.Opts.Total, .int .i64 x.Opts.Beat, .int .i64 x.Opts.First, .int .i64 x.Opts.Coef, .int .i64 x.Opts.Most, .int .i64 x.Opts.Attempts, PV.ls 1 rowS x.Opts.Fatal]
structure DivergeFields where
  mk ::
  seq_ : Bool
  name_ : Bool
  key_ : Bool
  n_ : Bool
instance : Inhabited DivergeFields := ⟨DivergeFields.mk false false false false⟩
def rowDivergeFields (x : DivergeFields) : List PV := [.bool x.seq_, .bool x.name_, .bool x.key_, .bool x.n_]
structure ApiPatch where
  mk ::
  Kind : Int
  Name : (List UInt8)
  N : Int
  Data : ApiValue
instance : Inhabited ApiPatch := ⟨ApiPatch.mk 0 [] 0 default⟩
def rowApiPatch (x : ApiPatch) : List PV := [.int .i64 x.Kind, .str x.Name, .int .i64 x.N, .int .i64 x.Data.Kind, .int .i64 x.Data.Int, .str x.Data.Text, PV.ls 5 rowApiValue x.Data.Items, PV.ls 1 rowS x.Data.Keys]
structure CommandUses where
  mk ::
  seq_ : Bool
  name_ : Bool
  key_ : Bool
  n_ : Bool
  data_ : Bool
  opts_ : Bool
instance : Inhabited CommandUses := ⟨CommandUses.mk false false false false false false⟩
def rowCommandUses (x : CommandUses) : List PV := [.bool x.seq_, .bool x.name_, .bool x.key_, .bool x.n_, .bool x.data_, .bool x.opts_]
structure WireReader where
  mk ::
  b_ : (List UInt8)
  at_ : Int
  err_ : Int
  made_ : Bool
instance : Inhabited WireReader := ⟨WireReader.mk [] 0 0 false⟩
def rowWireReader (x : WireReader) : List PV := [PV.ls 1 brow x.b_, .int .i64 x.at_, .int .i64 x.err_, .bool x.made_]
structure Law01Read where
  mk ::
  Kind : Int
  Low : Int
  High : Int
instance : Inhabited Law01Read := ⟨Law01Read.mk 0 0 0⟩
def rowLaw01Read (x : Law01Read) : List PV := [.int .i64 x.Kind, .int .i64 x.Low, .int .i64 x.High]
structure Ref01Reader where
  mk ::
  Made : Bool
  Rest : (List UInt8)
  Bad : Int
instance : Inhabited Ref01Reader := ⟨Ref01Reader.mk false [] 0⟩
def rowRef01Reader (x : Ref01Reader) : List PV := [.bool x.Made, PV.ls 1 brow x.Rest, .int .i64 x.Bad]
structure ApiAdmit where
  mk ::
  Key : (List UInt8)
  Name : (List UInt8)
  Data : ApiValue
instance : Inhabited ApiAdmit := ⟨ApiAdmit.mk [] [] default⟩
def rowApiAdmit (x : ApiAdmit) : List PV := [.str x.Key, .str x.Name, .int .i64 x.Data.Kind, .int .i64 x.Data.Int, .str x.Data.Text, PV.ls 5 rowApiValue x.Data.Items, PV.ls 1 rowS x.Data.Keys]
theorem ti48 : tyIs Try.prog 48 = 3 := by kernel_rfl
theorem ti44 : tyIs Try.prog 44 = 6 := by kernel_rfl
theorem tz44 : tyZero Try.prog 44 = some [.int .i64 0, .int .i64 0, .string ByteArray.empty, .string ByteArray.empty, .int .i64 0, .int .i64 0, .int .i64 0, .string ByteArray.empty, .slice none 0 0, .slice none 0 0, .string ByteArray.empty, .int .i64 0, .int .i64 0, .int .i64 0, .int .i64 0, .int .i64 0, .int .i64 0, .int .i64 0, .int .i64 0, .slice none 0 0] := by kernel_rfl
theorem pl44 : plAll Try.prog 44 = some [(0, some 1), (1, some 1), (2, some 1), (3, some 1), (4, some 1), (5, some 5), (10, some 10)] := by kernel_rfl
theorem tb44 : tyIs Try.prog 44 = 6 ∧ tyOk Try.prog 44 = true ∧ tyZero Try.prog 44 = some [.int .i64 0, .int .i64 0, .string ByteArray.empty, .string ByteArray.empty, .int .i64 0, .int .i64 0, .int .i64 0, .string ByteArray.empty, .slice none 0 0, .slice none 0 0, .string ByteArray.empty, .int .i64 0, .int .i64 0, .int .i64 0, .int .i64 0, .int .i64 0, .int .i64 0, .int .i64 0, .int .i64 0, .slice none 0 0] ∧ ∀ i, tyPlace Try.prog 44 i = plOf [(0, some 1), (1, some 1), (2, some 1), (3, some 1), (4, some 1), (5, some 5), (10, some 10)] i := ⟨ti44, by kernel_rfl, tz44, fun i => tyPlace_all pl44 i⟩
theorem tv44 : tyVar Try.prog 44 = some (true, 20) := by kernel_rfl
theorem ti46 : tyIs Try.prog 46 = 6 := by kernel_rfl
theorem tz46 : tyZero Try.prog 46 = some [.int .i64 0, .int .i64 0, .int .i64 0, .int .i64 0, .int .i64 0, .int .i64 0, .int .i64 0, .string ByteArray.empty, .string ByteArray.empty, .int .i64 0, .int .i64 0, .string ByteArray.empty, .slice none 0 0, .slice none 0 0, .string ByteArray.empty, .int .i64 0, .int .i64 0, .int .i64 0, .int .i64 0, .int .i64 0, .int .i64 0, .int .i64 0, .int .i64 0, .slice none 0 0] := by kernel_rfl
theorem pl46 : plAll Try.prog 46 = some [(0, some 1), (1, some 1), (2, some 1), (3, some 1), (4, some 1), (5, some 1), (6, some 1), (7, some 1), (8, some 1), (9, some 5), (14, some 10)] := by kernel_rfl
theorem tb46 : tyIs Try.prog 46 = 6 ∧ tyOk Try.prog 46 = true ∧ tyZero Try.prog 46 = some [.int .i64 0, .int .i64 0, .int .i64 0, .int .i64 0, .int .i64 0, .int .i64 0, .int .i64 0, .string ByteArray.empty, .string ByteArray.empty, .int .i64 0, .int .i64 0, .string ByteArray.empty, .slice none 0 0, .slice none 0 0, .string ByteArray.empty, .int .i64 0, .int .i64 0, .int .i64 0, .int .i64 0, .int .i64 0, .int .i64 0, .int .i64 0, .int .i64 0, .slice none 0 0] ∧ ∀ i, tyPlace Try.prog 46 i = plOf [(0, some 1), (1, some 1), (2, some 1), (3, some 1), (4, some 1), (5, some 1), (6, some 1), (7, some 1), (8, some 1), (9, some 5), (14, some 10)] i := ⟨ti46, by kernel_rfl, tz46, fun i => tyPlace_all pl46 i⟩
theorem tv46 : tyVar Try.prog 46 = some (true, 24) := by kernel_rfl
theorem tf44x0 : tyField Try.prog 44 0 = some (0, false, 1) := by kernel_rfl
theorem tv3 : tyVar Try.prog 3 = some (false, 1) := by kernel_rfl
theorem tz85 : tyZero Try.prog 85 = some [.bool false, .bool false, .bool false, .bool false] := by kernel_rfl
theorem ti85 : tyIs Try.prog 85 = 6 := by kernel_rfl
theorem pl85 : plAll Try.prog 85 = some [(0, some 1), (1, some 1), (2, some 1), (3, some 1)] := by kernel_rfl
theorem tb85 : tyIs Try.prog 85 = 6 ∧ tyOk Try.prog 85 = true ∧ tyZero Try.prog 85 = some [.bool false, .bool false, .bool false, .bool false] ∧ ∀ i, tyPlace Try.prog 85 i = plOf [(0, some 1), (1, some 1), (2, some 1), (3, some 1)] i := ⟨ti85, by kernel_rfl, tz85, fun i => tyPlace_all pl85 i⟩
theorem tv85 : tyVar Try.prog 85 = some (true, 4) := by kernel_rfl
theorem tf46x1 : tyField Try.prog 46 1 = some (1, false, 1) := by kernel_rfl
theorem ts105 : tySlice Try.prog 105 = some (3, 1, 8) := by kernel_rfl
theorem tf85x0 : tyField Try.prog 85 0 = some (0, false, 1) := by kernel_rfl
theorem tv4 : tyVar Try.prog 4 = some (false, 1) := by kernel_rfl
theorem tf44x1 : tyField Try.prog 44 1 = some (1, false, 1) := by kernel_rfl
theorem tf46x3 : tyField Try.prog 46 3 = some (3, false, 1) := by kernel_rfl
theorem tf85x1 : tyField Try.prog 85 1 = some (1, false, 1) := by kernel_rfl
theorem tf44x2 : tyField Try.prog 44 2 = some (2, false, 1) := by kernel_rfl
theorem tv9 : tyVar Try.prog 9 = some (false, 1) := by kernel_rfl
theorem tf46x7 : tyField Try.prog 46 7 = some (7, false, 1) := by kernel_rfl
theorem tf85x2 : tyField Try.prog 85 2 = some (2, false, 1) := by kernel_rfl
theorem tf44x3 : tyField Try.prog 44 3 = some (3, false, 1) := by kernel_rfl
theorem tf46x8 : tyField Try.prog 46 8 = some (8, false, 1) := by kernel_rfl
theorem tf85x3 : tyField Try.prog 85 3 = some (3, false, 1) := by kernel_rfl
theorem tf44x4 : tyField Try.prog 44 4 = some (4, false, 1) := by kernel_rfl
theorem tf46x5 : tyField Try.prog 46 5 = some (5, false, 1) := by kernel_rfl
theorem ts48 : tySlice Try.prog 48 = some (44, 20, 240) := by kernel_rfl
theorem ts49 : tySlice Try.prog 49 = some (46, 24, 272) := by kernel_rfl
theorem ti49 : tyIs Try.prog 49 = 3 := by kernel_rfl
theorem tf46x9 : tyField Try.prog 46 9 = some (9, true, 5) := by kernel_rfl
theorem tv40 : tyVar Try.prog 40 = some (true, 5) := by kernel_rfl
theorem tz40 : tyZero Try.prog 40 = some [.int .i64 0, .int .i64 0, .string ByteArray.empty, .slice none 0 0, .slice none 0 0] := by kernel_rfl
theorem tf40x3 : tyField Try.prog 40 3 = some (3, false, 1) := by kernel_rfl
theorem tv37 : tyVar Try.prog 37 = some (false, 1) := by kernel_rfl
theorem ti37 : tyIs Try.prog 37 = 3 := by kernel_rfl
theorem ts37 : tySlice Try.prog 37 = some (40, 5, 80) := by kernel_rfl
theorem tf40x4 : tyField Try.prog 40 4 = some (4, false, 1) := by kernel_rfl
theorem tv38 : tyVar Try.prog 38 = some (false, 1) := by kernel_rfl
theorem ti71 : tyIs Try.prog 71 = 6 := by kernel_rfl
theorem tz71 : tyZero Try.prog 71 = some [.int .i64 0, .string ByteArray.empty, .int .i64 0, .int .i64 0, .int .i64 0, .string ByteArray.empty, .slice none 0 0, .slice none 0 0] := by kernel_rfl
theorem pl71 : plAll Try.prog 71 = some [(0, some 1), (1, some 1), (2, some 1), (3, some 5)] := by kernel_rfl
theorem tb71 : tyIs Try.prog 71 = 6 ∧ tyOk Try.prog 71 = true ∧ tyZero Try.prog 71 = some [.int .i64 0, .string ByteArray.empty, .int .i64 0, .int .i64 0, .int .i64 0, .string ByteArray.empty, .slice none 0 0, .slice none 0 0] ∧ ∀ i, tyPlace Try.prog 71 i = plOf [(0, some 1), (1, some 1), (2, some 1), (3, some 5)] i := ⟨ti71, by kernel_rfl, tz71, fun i => tyPlace_all pl71 i⟩
theorem ts66 : tySlice Try.prog 66 = some (71, 8, 112) := by kernel_rfl
theorem ti66 : tyIs Try.prog 66 = 3 := by kernel_rfl
theorem ti40 : tyIs Try.prog 40 = 6 := by kernel_rfl
theorem pl40 : plAll Try.prog 40 = some [(0, some 1), (1, some 1), (2, some 1), (3, some 1), (4, some 1)] := by kernel_rfl
theorem tb40 : tyIs Try.prog 40 = 6 ∧ tyOk Try.prog 40 = true ∧ tyZero Try.prog 40 = some [.int .i64 0, .int .i64 0, .string ByteArray.empty, .slice none 0 0, .slice none 0 0] ∧ ∀ i, tyPlace Try.prog 40 i = plOf [(0, some 1), (1, some 1), (2, some 1), (3, some 1), (4, some 1)] i := ⟨ti40, by kernel_rfl, tz40, fun i => tyPlace_all pl40 i⟩
theorem tf44x5 : tyField Try.prog 44 5 = some (5, true, 5) := by kernel_rfl
theorem ti42 : tyIs Try.prog 42 = 6 := by kernel_rfl
theorem tz42 : tyZero Try.prog 42 = some [.string ByteArray.empty, .int .i64 0, .int .i64 0, .int .i64 0, .int .i64 0, .int .i64 0, .int .i64 0, .int .i64 0, .int .i64 0, .slice none 0 0] := by kernel_rfl
theorem pl42 : plAll Try.prog 42 = some [(0, some 1), (1, some 1), (2, some 1), (3, some 1), (4, some 1), (5, some 1), (6, some 1), (7, some 1), (8, some 1), (9, some 1)] := by kernel_rfl
theorem tb42 : tyIs Try.prog 42 = 6 ∧ tyOk Try.prog 42 = true ∧ tyZero Try.prog 42 = some [.string ByteArray.empty, .int .i64 0, .int .i64 0, .int .i64 0, .int .i64 0, .int .i64 0, .int .i64 0, .int .i64 0, .int .i64 0, .slice none 0 0] ∧ ∀ i, tyPlace Try.prog 42 i = plOf [(0, some 1), (1, some 1), (2, some 1), (3, some 1), (4, some 1), (5, some 1), (6, some 1), (7, some 1), (8, some 1), (9, some 1)] i := ⟨ti42, by kernel_rfl, tz42, fun i => tyPlace_all pl42 i⟩
theorem tf44x6 : tyField Try.prog 44 6 = some (10, true, 10) := by kernel_rfl
theorem tv42 : tyVar Try.prog 42 = some (true, 10) := by kernel_rfl
theorem tf40x0 : tyField Try.prog 40 0 = some (0, false, 1) := by kernel_rfl
theorem tf40x1 : tyField Try.prog 40 1 = some (1, false, 1) := by kernel_rfl
theorem tf40x2 : tyField Try.prog 40 2 = some (2, false, 1) := by kernel_rfl
theorem ti38 : tyIs Try.prog 38 = 3 := by kernel_rfl
theorem ts38 : tySlice Try.prog 38 = some (9, 1, 16) := by kernel_rfl
theorem tf42x0 : tyField Try.prog 42 0 = some (0, false, 1) := by kernel_rfl
theorem tf42x1 : tyField Try.prog 42 1 = some (1, false, 1) := by kernel_rfl
theorem tf42x2 : tyField Try.prog 42 2 = some (2, false, 1) := by kernel_rfl
theorem tf42x3 : tyField Try.prog 42 3 = some (3, false, 1) := by kernel_rfl
theorem tf42x4 : tyField Try.prog 42 4 = some (4, false, 1) := by kernel_rfl
theorem tf42x5 : tyField Try.prog 42 5 = some (5, false, 1) := by kernel_rfl
theorem tf42x6 : tyField Try.prog 42 6 = some (6, false, 1) := by kernel_rfl
theorem tf42x7 : tyField Try.prog 42 7 = some (7, false, 1) := by kernel_rfl
theorem tf42x8 : tyField Try.prog 42 8 = some (8, false, 1) := by kernel_rfl
theorem tf42x9 : tyField Try.prog 42 9 = some (9, false, 1) := by kernel_rfl
theorem ti9 : tyIs Try.prog 9 = 2 := by kernel_rfl
theorem ti105 : tyIs Try.prog 105 = 3 := by kernel_rfl
theorem tz102 : tyZero Try.prog 102 = some [.bool false, .bool false, .bool false, .bool false, .bool false, .bool false] := by kernel_rfl
theorem ti102 : tyIs Try.prog 102 = 6 := by kernel_rfl
theorem pl102 : plAll Try.prog 102 = some [(0, some 1), (1, some 1), (2, some 1), (3, some 1), (4, some 1), (5, some 1)] := by kernel_rfl
theorem tb102 : tyIs Try.prog 102 = 6 ∧ tyOk Try.prog 102 = true ∧ tyZero Try.prog 102 = some [.bool false, .bool false, .bool false, .bool false, .bool false, .bool false] ∧ ∀ i, tyPlace Try.prog 102 i = plOf [(0, some 1), (1, some 1), (2, some 1), (3, some 1), (4, some 1), (5, some 1)] i := ⟨ti102, by kernel_rfl, tz102, fun i => tyPlace_all pl102 i⟩
theorem tv102 : tyVar Try.prog 102 = some (true, 6) := by kernel_rfl
theorem tf102x0 : tyField Try.prog 102 0 = some (0, false, 1) := by kernel_rfl
theorem tf102x1 : tyField Try.prog 102 1 = some (1, false, 1) := by kernel_rfl
theorem tf102x2 : tyField Try.prog 102 2 = some (2, false, 1) := by kernel_rfl
theorem tf102x3 : tyField Try.prog 102 3 = some (3, false, 1) := by kernel_rfl
theorem tf102x4 : tyField Try.prog 102 4 = some (4, false, 1) := by kernel_rfl
theorem tf102x5 : tyField Try.prog 102 5 = some (5, false, 1) := by kernel_rfl
theorem ts115 : tySlice Try.prog 115 = some (118, 1, 8) := by kernel_rfl
theorem ti115 : tyIs Try.prog 115 = 3 := by kernel_rfl
theorem tv118 : tyVar Try.prog 118 = some (false, 1) := by kernel_rfl
theorem tn49 : tyIs Try.prog 49 ≠ 7 := by rw [ti49]; decide
theorem tn48 : tyIs Try.prog 48 ≠ 7 := by rw [ti48]; decide
theorem tk3 : tyInt Try.prog 3 = some .i64 := by kernel_rfl
theorem tk81 : tyInt Try.prog 81 = some .u64 := by kernel_rfl
theorem tk5 : tyInt Try.prog 5 = some .u8 := by kernel_rfl
theorem ts22 : tySlice Try.prog 22 = some (5, 1, 1) := by kernel_rfl
theorem ti22 : tyIs Try.prog 22 = 3 := by kernel_rfl
theorem tn22 : tyIs Try.prog 22 ≠ 7 := by rw [ti22]; decide
theorem tv5 : tyVar Try.prog 5 = some (false, 1) := by kernel_rfl
theorem ti4 : tyIs Try.prog 4 = 4 := by kernel_rfl
theorem ti60 : tyIs Try.prog 60 = 6 := by kernel_rfl
theorem tz60 : tyZero Try.prog 60 = some [.slice none 0 0, .int .i64 0, .int .i64 0, .bool false] := by kernel_rfl
theorem pl60 : plAll Try.prog 60 = some [(0, some 1), (1, some 1), (2, some 1), (3, some 1)] := by kernel_rfl
theorem tb60 : tyIs Try.prog 60 = 6 ∧ tyOk Try.prog 60 = true ∧ tyZero Try.prog 60 = some [.slice none 0 0, .int .i64 0, .int .i64 0, .bool false] ∧ ∀ i, tyPlace Try.prog 60 i = plOf [(0, some 1), (1, some 1), (2, some 1), (3, some 1)] i := ⟨ti60, by kernel_rfl, tz60, fun i => tyPlace_all pl60 i⟩
theorem ti27 : tyIs Try.prog 27 = 5 := by kernel_rfl
theorem tf60x3 : tyField Try.prog 60 3 = some (3, false, 1) := by kernel_rfl
theorem tf60x2 : tyField Try.prog 60 2 = some (2, false, 1) := by kernel_rfl
theorem tv30 : tyVar Try.prog 30 = some (false, 1) := by kernel_rfl
theorem tf60x0 : tyField Try.prog 60 0 = some (0, false, 1) := by kernel_rfl
theorem tv22 : tyVar Try.prog 22 = some (false, 1) := by kernel_rfl
theorem tf60x1 : tyField Try.prog 60 1 = some (1, false, 1) := by kernel_rfl
theorem tby22 : aval.tyBytes Try.prog 22 := by show (match Try.prog.underlying 22 with | some (.slice e) => tyInt Try.prog e = some .u8 | _ => False); rw [show Try.prog.underlying 22 = some (.slice 5) by kernel_rfl]; exact (by kernel_rfl : tyInt Try.prog 5 = some .u8)
theorem by5 : Try.prog.bytesOf 5 = 1 := by kernel_rfl
theorem sl22 : tySl Try.prog 22 = some (5, 1) := by kernel_rfl
theorem fs44 : tyFs Try.prog 44 = some [3, 3, 9, 9, 3, 40, 42] := by kernel_rfl
theorem fs40 : tyFs Try.prog 40 = some [3, 3, 9, 37, 38] := by kernel_rfl
theorem by40 : Try.prog.bytesOf 40 = 80 := by kernel_rfl
theorem sl37 : tySl Try.prog 37 = some (40, 5) := by kernel_rfl
theorem by9 : Try.prog.bytesOf 9 = 16 := by kernel_rfl
theorem sl38 : tySl Try.prog 38 = some (9, 1) := by kernel_rfl
theorem fs42 : tyFs Try.prog 42 = some [9, 3, 3, 3, 3, 3, 3, 3, 3, 38] := by kernel_rfl
theorem fs46 : tyFs Try.prog 46 = some [3, 3, 3, 3, 3, 3, 3, 9, 9, 40, 42] := by kernel_rfl
theorem by44 : Try.prog.bytesOf 44 = 240 := by kernel_rfl
theorem sl48 : tySl Try.prog 48 = some (44, 20) := by kernel_rfl
theorem by46 : Try.prog.bytesOf 46 = 272 := by kernel_rfl
theorem sl49 : tySl Try.prog 49 = some (46, 24) := by kernel_rfl
theorem ti52 : tyIs Try.prog 52 = 3 := by kernel_rfl
theorem ti90 : tyIs Try.prog 90 = 6 := by kernel_rfl
theorem tz90 : tyZero Try.prog 90 = some [.bool false, .slice none 0 0, .int .i64 0] := by kernel_rfl
theorem pl90 : plAll Try.prog 90 = some [(0, some 1), (1, some 1), (2, some 1)] := by kernel_rfl
theorem tb90 : tyIs Try.prog 90 = 6 ∧ tyOk Try.prog 90 = true ∧ tyZero Try.prog 90 = some [.bool false, .slice none 0 0, .int .i64 0] ∧ ∀ i, tyPlace Try.prog 90 i = plOf [(0, some 1), (1, some 1), (2, some 1)] i := ⟨ti90, by kernel_rfl, tz90, fun i => tyPlace_all pl90 i⟩
theorem ts52 : tySlice Try.prog 52 = some (56, 3, 24) := by kernel_rfl
theorem tv56 : tyVar Try.prog 56 = some (true, 3) := by kernel_rfl
theorem tz56 : tyZero Try.prog 56 = some [.int .i64 0, .int .i64 0, .int .i64 0] := by kernel_rfl
theorem tf56x0 : tyField Try.prog 56 0 = some (0, false, 1) := by kernel_rfl
theorem tf56x1 : tyField Try.prog 56 1 = some (1, false, 1) := by kernel_rfl
theorem tf56x2 : tyField Try.prog 56 2 = some (2, false, 1) := by kernel_rfl
theorem ti53 : tyIs Try.prog 53 = 5 := by kernel_rfl
theorem tf90x0 : tyField Try.prog 90 0 = some (0, false, 1) := by kernel_rfl
theorem tf90x2 : tyField Try.prog 90 2 = some (2, false, 1) := by kernel_rfl
theorem tf90x1 : tyField Try.prog 90 1 = some (1, false, 1) := by kernel_rfl
theorem by56 : Try.prog.bytesOf 56 = 24 := by kernel_rfl
theorem sl52 : tySl Try.prog 52 = some (56, 3) := by kernel_rfl
theorem fs56 : tyFs Try.prog 56 = some [3, 3, 3] := by kernel_rfl
theorem ti74 : tyIs Try.prog 74 = 6 := by kernel_rfl
theorem tz74 : tyZero Try.prog 74 = some [.string ByteArray.empty, .string ByteArray.empty, .int .i64 0, .int .i64 0, .string ByteArray.empty, .slice none 0 0, .slice none 0 0] := by kernel_rfl
theorem pl74 : plAll Try.prog 74 = some [(0, some 1), (1, some 1), (2, some 5)] := by kernel_rfl
theorem tb74 : tyIs Try.prog 74 = 6 ∧ tyOk Try.prog 74 = true ∧ tyZero Try.prog 74 = some [.string ByteArray.empty, .string ByteArray.empty, .int .i64 0, .int .i64 0, .string ByteArray.empty, .slice none 0 0, .slice none 0 0] ∧ ∀ i, tyPlace Try.prog 74 i = plOf [(0, some 1), (1, some 1), (2, some 5)] i := ⟨ti74, by kernel_rfl, tz74, fun i => tyPlace_all pl74 i⟩
theorem ts68 : tySlice Try.prog 68 = some (74, 7, 112) := by kernel_rfl
theorem ti68 : tyIs Try.prog 68 = 3 := by kernel_rfl
theorem tf71x0 : tyField Try.prog 71 0 = some (0, false, 1) := by kernel_rfl
theorem tf71x1 : tyField Try.prog 71 1 = some (1, false, 1) := by kernel_rfl
theorem tf71x2 : tyField Try.prog 71 2 = some (2, false, 1) := by kernel_rfl
theorem tf71x3 : tyField Try.prog 71 3 = some (3, true, 5) := by kernel_rfl
theorem tf46x0 : tyField Try.prog 46 0 = some (0, false, 1) := by kernel_rfl
theorem tf46x2 : tyField Try.prog 46 2 = some (2, false, 1) := by kernel_rfl
theorem tf46x4 : tyField Try.prog 46 4 = some (4, false, 1) := by kernel_rfl
theorem tf46x6 : tyField Try.prog 46 6 = some (6, false, 1) := by kernel_rfl
theorem tf46x10 : tyField Try.prog 46 10 = some (14, true, 10) := by kernel_rfl
theorem tf74x0 : tyField Try.prog 74 0 = some (0, false, 1) := by kernel_rfl
theorem tf74x1 : tyField Try.prog 74 1 = some (1, false, 1) := by kernel_rfl
theorem tf74x2 : tyField Try.prog 74 2 = some (2, true, 5) := by kernel_rfl
end Go.Proofs.Ytnhchphmmdgphaa

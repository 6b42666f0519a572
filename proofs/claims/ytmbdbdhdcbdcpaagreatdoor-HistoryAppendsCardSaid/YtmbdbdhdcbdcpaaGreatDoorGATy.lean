import Derived.Test.YtmbdbdhdcbdcpaaGreatDoorProg
import Derived.Test.YtmbdbdhdcbdcpaaGreatDoorAbs29
import Derived.Test.YtmbdbdhdcbdcpaaGreatDoorLib
namespace Go.Proofs.YtmbdbdhdcbdcpaaGreatDoor
open Go Abs
set_option maxRecDepth 100000
set_option linter.unusedVariables false
set_option linter.unusedSimpArgs false
abbrev aBBBBBB {b0:Bool}{b1:Bool}{b2:Bool}{b3:Bool}{b4:Bool}{b5:Bool}:List AV:=[.c (.bool b0),.c (.bool b1),.c (.bool b2),.c (.bool b3),.c (.bool b4),.c (.bool b5)]
abbrev aBBBBBBB {b0:Bool}{b1:Bool}{b2:Bool}{b3:Bool}{b4:Bool}{b5:Bool}{b6:Bool}:List AV:=[.c (.bool b0),.c (.bool b1),.c (.bool b2),.c (.bool b3),.c (.bool b4),.c (.bool b5),.c (.bool b6)]
abbrev aBBBBBBBB {b0:Bool}{b1:Bool}{b2:Bool}{b3:Bool}{b4:Bool}{b5:Bool}{b6:Bool}{b7:Bool}:List AV:=[.c (.bool b0),.c (.bool b1),.c (.bool b2),.c (.bool b3),.c (.bool b4),.c (.bool b5),.c (.bool b6),.c (.bool b7)]
abbrev aIIIB {k0:IntKind}{n0:Int}{k1:IntKind}{n1:Int}{k2:IntKind}{n2:Int}{b3:Bool}:List AV:=[.c (.int k0 n0),.c (.int k1 n1),.c (.int k2 n2),.c (.bool b3)]
abbrev aIIIIIIIIISSIISLLSIIIIIIIILB {k0:IntKind}{n0:Int}{k1:IntKind}{n1:Int}{k2:IntKind}{n2:Int}{k3:IntKind}{n3:Int}{k4:IntKind}{n4:Int}{k5:IntKind}{n5:Int}{k6:IntKind}{n6:Int}{k7:IntKind}{n7:Int}{k8:IntKind}{n8:Int}{s9:List UInt8}{s10:List UInt8}{k11:IntKind}{n11:Int}{k12:IntKind}{n12:Int}{s13:List UInt8}{α14:Type}{z14:Nat}{r14:α14→List PV}{x14:List α14}{α15:Type}{z15:Nat}{r15:α15→List PV}{x15:List α15}{s16:List UInt8}{k17:IntKind}{n17:Int}{k18:IntKind}{n18:Int}{k19:IntKind}{n19:Int}{k20:IntKind}{n20:Int}{k21:IntKind}{n21:Int}{k22:IntKind}{n22:Int}{k23:IntKind}{n23:Int}{k24:IntKind}{n24:Int}{α25:Type}{z25:Nat}{r25:α25→List PV}{x25:List α25}{b26:Bool}:List AV:=[.c (.int k0 n0),.c (.int k1 n1),.c (.int k2 n2),.c (.int k3 n3),.c (.int k4 n4),.c (.int k5 n5),.c (.int k6 n6),.c (.int k7 n7),.c (.int k8 n8),.c (.str s9),.c (.str s10),.c (.int k11 n11),.c (.int k12 n12),.c (.str s13),.c (PV.ls z14 r14 x14),.c (PV.ls z15 r15 x15),.c (.str s16),.c (.int k17 n17),.c (.int k18 n18),.c (.int k19 n19),.c (.int k20 n20),.c (.int k21 n21),.c (.int k22 n22),.c (.int k23 n23),.c (.int k24 n24),.c (PV.ls z25 r25 x25),.c (.bool b26)]
abbrev aIIIIIIISSIISLLSIIIIIIIIL {k0:IntKind}{n0:Int}{k1:IntKind}{n1:Int}{k2:IntKind}{n2:Int}{k3:IntKind}{n3:Int}{k4:IntKind}{n4:Int}{k5:IntKind}{n5:Int}{k6:IntKind}{n6:Int}{s7:List UInt8}{s8:List UInt8}{k9:IntKind}{n9:Int}{k10:IntKind}{n10:Int}{s11:List UInt8}{α12:Type}{z12:Nat}{r12:α12→List PV}{x12:List α12}{α13:Type}{z13:Nat}{r13:α13→List PV}{x13:List α13}{s14:List UInt8}{k15:IntKind}{n15:Int}{k16:IntKind}{n16:Int}{k17:IntKind}{n17:Int}{k18:IntKind}{n18:Int}{k19:IntKind}{n19:Int}{k20:IntKind}{n20:Int}{k21:IntKind}{n21:Int}{k22:IntKind}{n22:Int}{α23:Type}{z23:Nat}{r23:α23→List PV}{x23:List α23}:List AV:=[.c (.int k0 n0),.c (.int k1 n1),.c (.int k2 n2),.c (.int k3 n3),.c (.int k4 n4),.c (.int k5 n5),.c (.int k6 n6),.c (.str s7),.c (.str s8),.c (.int k9 n9),.c (.int k10 n10),.c (.str s11),.c (PV.ls z12 r12 x12),.c (PV.ls z13 r13 x13),.c (.str s14),.c (.int k15 n15),.c (.int k16 n16),.c (.int k17 n17),.c (.int k18 n18),.c (.int k19 n19),.c (.int k20 n20),.c (.int k21 n21),.c (.int k22 n22),.c (PV.ls z23 r23 x23)]
abbrev aIISLL {k0:IntKind}{n0:Int}{k1:IntKind}{n1:Int}{s2:List UInt8}{α3:Type}{z3:Nat}{r3:α3→List PV}{x3:List α3}{α4:Type}{z4:Nat}{r4:α4→List PV}{x4:List α4}:List AV:=[.c (.int k0 n0),.c (.int k1 n1),.c (.str s2),.c (PV.ls z3 r3 x3),.c (PV.ls z4 r4 x4)]
abbrev aIISSIIISLLSIIIIIIIIL {k0:IntKind}{n0:Int}{k1:IntKind}{n1:Int}{s2:List UInt8}{s3:List UInt8}{k4:IntKind}{n4:Int}{k5:IntKind}{n5:Int}{k6:IntKind}{n6:Int}{s7:List UInt8}{α8:Type}{z8:Nat}{r8:α8→List PV}{x8:List α8}{α9:Type}{z9:Nat}{r9:α9→List PV}{x9:List α9}{s10:List UInt8}{k11:IntKind}{n11:Int}{k12:IntKind}{n12:Int}{k13:IntKind}{n13:Int}{k14:IntKind}{n14:Int}{k15:IntKind}{n15:Int}{k16:IntKind}{n16:Int}{k17:IntKind}{n17:Int}{k18:IntKind}{n18:Int}{α19:Type}{z19:Nat}{r19:α19→List PV}{x19:List α19}:List AV:=[.c (.int k0 n0),.c (.int k1 n1),.c (.str s2),.c (.str s3),.c (.int k4 n4),.c (.int k5 n5),.c (.int k6 n6),.c (.str s7),.c (PV.ls z8 r8 x8),.c (PV.ls z9 r9 x9),.c (.str s10),.c (.int k11 n11),.c (.int k12 n12),.c (.int k13 n13),.c (.int k14 n14),.c (.int k15 n15),.c (.int k16 n16),.c (.int k17 n17),.c (.int k18 n18),.c (PV.ls z19 r19 x19)]
abbrev aSIIIIIIIIL {s0:List UInt8}{k1:IntKind}{n1:Int}{k2:IntKind}{n2:Int}{k3:IntKind}{n3:Int}{k4:IntKind}{n4:Int}{k5:IntKind}{n5:Int}{k6:IntKind}{n6:Int}{k7:IntKind}{n7:Int}{k8:IntKind}{n8:Int}{α9:Type}{z9:Nat}{r9:α9→List PV}{x9:List α9}:List AV:=[.c (.str s0),.c (.int k1 n1),.c (.int k2 n2),.c (.int k3 n3),.c (.int k4 n4),.c (.int k5 n5),.c (.int k6 n6),.c (.int k7 n7),.c (.int k8 n8),.c (PV.ls z9 r9 x9)]
abbrev u10 {x0 x1 x2 x3 x4 x5 x6 x7 x8 x9:AV}:List AV:=[x0,x1,x2,x3,x4,x5,x6,x7,x8,x9]
abbrev u20 {x0 x1 x2 x3 x4 x5 x6 x7 x8 x9 x10 x11 x12 x13 x14 x15 x16 x17 x18 x19:AV}:List AV:=[x0,x1,x2,x3,x4,x5,x6,x7,x8,x9,x10,x11,x12,x13,x14,x15,x16,x17,x18,x19]
abbrev u24 {x0 x1 x2 x3 x4 x5 x6 x7 x8 x9 x10 x11 x12 x13 x14 x15 x16 x17 x18 x19 x20 x21 x22 x23:AV}:List AV:=[x0,x1,x2,x3,x4,x5,x6,x7,x8,x9,x10,x11,x12,x13,x14,x15,x16,x17,x18,x19,x20,x21,x22,x23]
abbrev u5 {x0 x1 x2 x3 x4:AV}:List AV:=[x0,x1,x2,x3,x4]
structure ApiValue where
 mk ::
 Kind:Int
 Int:Int
 Text:(List UInt8)
 Items:(List ApiValue)
 Keys:(List (List UInt8))
instance:Inhabited ApiValue:=⟨ApiValue.mk 0 0 [] [] []⟩
mutual
def rowApiValue:ApiValue→List PV
 | ⟨x0,x1,x2,x3,x4⟩=>[.int .i64 x0,.int .i64 x1,.str x2,.list 5 (rowsApiValue x3),PV.ls 1 rowS x4]
def rowsApiValue:List ApiValue→List (List PV)
 | []=>[]
 | x :: l=>rowApiValue x :: rowsApiValue l
end
theorem rowsApiValue_eq:∀ l,rowsApiValue l=l.map rowApiValue
 | []=>by simp [rowsApiValue]
 | x :: l=>by simp [rowsApiValue,rowsApiValue_eq l]
def exApiValue (x:ApiValue):List PV:=[.int .i64 x.Kind,.int .i64 x.Int,.str x.Text,PV.ls 5 rowApiValue x.Items,PV.ls 1 rowS x.Keys]
theorem rowApiValue_eq (x:ApiValue):rowApiValue x=exApiValue x:=by cases x;simp [rowApiValue,exApiValue,rowsApiValue_eq,PV.ls]
theorem rowApiValue_len (x:ApiValue):(rowApiValue x).length=5:=by rw [rowApiValue_eq];rfl
structure ApiPolicy where
 mk ::
 Queue:(List UInt8)
 ToStart:Int
 ToClose:Int
 Total:Int
 Beat:Int
 First:Int
 Coef:Int
 Most:Int
 Attempts:Int
 Fatal:(List (List UInt8))
instance:Inhabited ApiPolicy:=⟨ApiPolicy.mk [] 0 0 0 0 0 0 0 0 []⟩
def rowApiPolicy (x:ApiPolicy):List PV:=[.str x.Queue,.int .i64 x.ToStart,.int .i64 x.ToClose,.int .i64 x.Total,.int .i64 x.Beat,.int .i64 x.First,.int .i64 x.Coef,.int .i64 x.Most,.int .i64 x.Attempts,PV.ls 1 rowS x.Fatal]
structure ApiEvent where
 mk ::
 ID:Int
 Kind:Int
 Time:Int
 Seq:Int
 Ref:Int
 N:Int
 Code:Int
 Name:(List UInt8)
 Key:(List UInt8)
 Data:ApiValue
 Opts:ApiPolicy
instance:Inhabited ApiEvent:=⟨ApiEvent.mk 0 0 0 0 0 0 0 [] [] default default⟩
def rowApiEvent (x:ApiEvent):List PV:=[.int .i64 x.ID,.int .i64 x.Kind,.int .i64 x.Time,.int .i64 x.Seq,.int .i64 x.Ref,.int .i64 x.N,.int .i64 x.Code,.str x.Name,.str x.Key,.int .i64 x.Data.Kind,.int .i64 x.Data.Int,.str x.Data.Text,PV.ls 5 rowApiValue x.Data.Items,PV.ls 1 rowS x.Data.Keys,.str x.Opts.Queue,.int .i64 x.Opts.ToStart,.int .i64 x.Opts.ToClose,.int .i64 x.Opts.Total,.int .i64 x.Opts.Beat,.int .i64 x.Opts.First,.int .i64 x.Opts.Coef,.int .i64 x.Opts.Most,.int .i64 x.Opts.Attempts,PV.ls 1 rowS x.Opts.Fatal]
structure ApiCommand where
 mk ::
 Kind:Int
 Seq:Int
 Name:(List UInt8)
 Key:(List UInt8)
 N:Int
 Data:ApiValue
 Opts:ApiPolicy
instance:Inhabited ApiCommand:=⟨ApiCommand.mk 0 0 [] [] 0 default default⟩
def rowApiCommand (x:ApiCommand):List PV:=[.int .i64 x.Kind,.int .i64 x.Seq,.str x.Name,.str x.Key,.int .i64 x.N,.int .i64 x.Data.Kind,.int .i64 x.Data.Int,.str x.Data.Text,PV.ls 5 rowApiValue x.Data.Items,PV.ls 1 rowS x.Data.Keys,.str x.Opts.Queue,.int .i64 x.Opts.ToStart,.int .i64 x.Opts.ToClose,.int .i64 x.Opts.Total,.int .i64 x.Opts.Beat,.int .i64 x.Opts.First,.int .i64 x.Opts.Coef,.int .i64 x.Opts.Most,.int .i64 x.Opts.Attempts,PV.ls 1 rowS x.Opts.Fatal]
structure CommandUses where
 mk ::
 seq_:Bool
 name_:Bool
 key_:Bool
 n_:Bool
 data_:Bool
 opts_:Bool
instance:Inhabited CommandUses:=⟨CommandUses.mk false false false false false false⟩
def rowCommandUses (x:CommandUses):List PV:=[.bool x.seq_,.bool x.name_,.bool x.key_,.bool x.n_,.bool x.data_,.bool x.opts_]
structure EventUses where
 mk ::
 seq_:Bool
 ref_:Bool
 n_:Bool
 code_:Bool
 name_:Bool
 key_:Bool
 data_:Bool
instance:Inhabited EventUses:=⟨EventUses.mk false false false false false false false⟩
def rowEventUses (x:EventUses):List PV:=[.bool x.seq_,.bool x.ref_,.bool x.n_,.bool x.code_,.bool x.name_,.bool x.key_,.bool x.data_]
structure HistoryChecker where
 mk ::
 task_:Int
 ref_:Int
 before_:ApiEvent
 closed_:Bool
instance:Inhabited HistoryChecker:=⟨HistoryChecker.mk 0 0 default false⟩
def rowHistoryChecker (x:HistoryChecker):List PV:=[.int .i64 x.task_,.int .i64 x.ref_,.int .i64 x.before_.ID,.int .i64 x.before_.Kind,.int .i64 x.before_.Time,.int .i64 x.before_.Seq,.int .i64 x.before_.Ref,.int .i64 x.before_.N,.int .i64 x.before_.Code,.str x.before_.Name,.str x.before_.Key,.int .i64 x.before_.Data.Kind,.int .i64 x.before_.Data.Int,.str x.before_.Data.Text,PV.ls 5 rowApiValue x.before_.Data.Items,PV.ls 1 rowS x.before_.Data.Keys,.str x.before_.Opts.Queue,.int .i64 x.before_.Opts.ToStart,.int .i64 x.before_.Opts.ToClose,.int .i64 x.before_.Opts.Total,.int .i64 x.before_.Opts.Beat,.int .i64 x.before_.Opts.First,.int .i64 x.before_.Opts.Coef,.int .i64 x.before_.Opts.Most,.int .i64 x.before_.Opts.Attempts,PV.ls 1 rowS x.before_.Opts.Fatal,.bool x.closed_]
structure HistoryTurn where
 mk ::
 Start:Int
 End:Int
 Next:Int
 Done:Bool
instance:Inhabited HistoryTurn:=⟨HistoryTurn.mk 0 0 0 false⟩
def rowHistoryTurn (x:HistoryTurn):List PV:=[.int .i64 x.Start,.int .i64 x.End,.int .i64 x.Next,.bool x.Done]
structure Ref22Fields where
 mk ::
 seq_:Bool
 ref_:Bool
 n_:Bool
 code_:Bool
 name_:Bool
 key_:Bool
 data_:Bool
 opts_:Bool
instance:Inhabited Ref22Fields:=⟨Ref22Fields.mk false false false false false false false false⟩
def rowRef22Fields (x:Ref22Fields):List PV:=[.bool x.seq_,.bool x.ref_,.bool x.n_,.bool x.code_,.bool x.name_,.bool x.key_,.bool x.data_,.bool x.opts_]
theorem ti22:tyIs Tryz.prog 22=3:=by kernel_rfl
theorem ti41:tyIs Tryz.prog 41=6:=by kernel_rfl
theorem tz41:tyZero Tryz.prog 41=some [.int .i64 0,.int .i64 0,.string ByteArray.empty,.slice none 0 0,.slice none 0 0]:=by kernel_rfl
theorem pl41:plAll Tryz.prog 41=some [(0,some 1),(1,some 1),(2,some 1),(3,some 1),(4,some 1)]:=by kernel_rfl
theorem tb41:tyIs Tryz.prog 41=6∧tyOk Tryz.prog 41=true∧tyZero Tryz.prog 41=some [.int .i64 0,.int .i64 0,.string ByteArray.empty,.slice none 0 0,.slice none 0 0]∧∀ i,tyPlace Tryz.prog 41 i=plOf [(0,some 1),(1,some 1),(2,some 1),(3,some 1),(4,some 1)] i:=⟨ti41,by kernel_rfl,tz41,fun i=>tyPlace_all pl41 i⟩
theorem ts38:tySlice Tryz.prog 38=some (41,5,80):=by kernel_rfl
theorem tv41:tyVar Tryz.prog 41=some (true,5):=by kernel_rfl
theorem ti45:tyIs Tryz.prog 45=6:=by kernel_rfl
theorem tz45:tyZero Tryz.prog 45=some [.int .i64 0,.int .i64 0,.int .i64 0,.int .i64 0,.int .i64 0,.int .i64 0,.int .i64 0,.string ByteArray.empty,.string ByteArray.empty,.int .i64 0,.int .i64 0,.string ByteArray.empty,.slice none 0 0,.slice none 0 0,.string ByteArray.empty,.int .i64 0,.int .i64 0,.int .i64 0,.int .i64 0,.int .i64 0,.int .i64 0,.int .i64 0,.int .i64 0,.slice none 0 0]:=by kernel_rfl
theorem pl45:plAll Tryz.prog 45=some [(0,some 1),(1,some 1),(2,some 1),(3,some 1),(4,some 1),(5,some 1),(6,some 1),(7,some 1),(8,some 1),(9,some 5),(14,some 10)]:=by kernel_rfl
theorem tb45:tyIs Tryz.prog 45=6∧tyOk Tryz.prog 45=true∧tyZero Tryz.prog 45=some [.int .i64 0,.int .i64 0,.int .i64 0,.int .i64 0,.int .i64 0,.int .i64 0,.int .i64 0,.string ByteArray.empty,.string ByteArray.empty,.int .i64 0,.int .i64 0,.string ByteArray.empty,.slice none 0 0,.slice none 0 0,.string ByteArray.empty,.int .i64 0,.int .i64 0,.int .i64 0,.int .i64 0,.int .i64 0,.int .i64 0,.int .i64 0,.int .i64 0,.slice none 0 0]∧∀ i,tyPlace Tryz.prog 45 i=plOf [(0,some 1),(1,some 1),(2,some 1),(3,some 1),(4,some 1),(5,some 1),(6,some 1),(7,some 1),(8,some 1),(9,some 5),(14,some 10)] i:=⟨ti45,by kernel_rfl,tz45,fun i=>tyPlace_all pl45 i⟩
theorem ts22:tySlice Tryz.prog 22=some (45,24,272):=by kernel_rfl
theorem tz50:tyZero Tryz.prog 50=some [.int .i64 0,.int .i64 0,.int .i64 0,.int .i64 0,.int .i64 0,.int .i64 0,.int .i64 0,.int .i64 0,.int .i64 0,.string ByteArray.empty,.string ByteArray.empty,.int .i64 0,.int .i64 0,.string ByteArray.empty,.slice none 0 0,.slice none 0 0,.string ByteArray.empty,.int .i64 0,.int .i64 0,.int .i64 0,.int .i64 0,.int .i64 0,.int .i64 0,.int .i64 0,.int .i64 0,.slice none 0 0,.bool false]:=by kernel_rfl
theorem tv45:tyVar Tryz.prog 45=some (true,24):=by kernel_rfl
theorem tf45x1:tyField Tryz.prog 45 1=some (1,false,1):=by kernel_rfl
theorem tv3:tyVar Tryz.prog 3=some (false,1):=by kernel_rfl
theorem tf45x0:tyField Tryz.prog 45 0=some (0,false,1):=by kernel_rfl
theorem tf45x2:tyField Tryz.prog 45 2=some (2,false,1):=by kernel_rfl
theorem tf45x9:tyField Tryz.prog 45 9=some (9,true,5):=by kernel_rfl
theorem tf41x3:tyField Tryz.prog 41 3=some (3,false,1):=by kernel_rfl
theorem tv38:tyVar Tryz.prog 38=some (false,1):=by kernel_rfl
theorem ti38:tyIs Tryz.prog 38=3:=by kernel_rfl
theorem tf41x2:tyField Tryz.prog 41 2=some (2,false,1):=by kernel_rfl
theorem tv9:tyVar Tryz.prog 9=some (false,1):=by kernel_rfl
theorem ti9:tyIs Tryz.prog 9=2:=by kernel_rfl
theorem tf41x4:tyField Tryz.prog 41 4=some (4,false,1):=by kernel_rfl
theorem tv39:tyVar Tryz.prog 39=some (false,1):=by kernel_rfl
theorem ti39:tyIs Tryz.prog 39=3:=by kernel_rfl
theorem ts39:tySlice Tryz.prog 39=some (9,1,16):=by kernel_rfl
theorem tf41x1:tyField Tryz.prog 41 1=some (1,false,1):=by kernel_rfl
theorem tf41x0:tyField Tryz.prog 41 0=some (0,false,1):=by kernel_rfl
theorem tv4:tyVar Tryz.prog 4=some (false,1):=by kernel_rfl
theorem tf45x3:tyField Tryz.prog 45 3=some (3,false,1):=by kernel_rfl
theorem tf45x7:tyField Tryz.prog 45 7=some (7,false,1):=by kernel_rfl
theorem tf45x8:tyField Tryz.prog 45 8=some (8,false,1):=by kernel_rfl
theorem tf45x5:tyField Tryz.prog 45 5=some (5,false,1):=by kernel_rfl
theorem tf45x10:tyField Tryz.prog 45 10=some (14,true,10):=by kernel_rfl
theorem tv43:tyVar Tryz.prog 43=some (true,10):=by kernel_rfl
theorem ti70:tyIs Tryz.prog 70=6:=by kernel_rfl
theorem tz70:tyZero Tryz.prog 70=some [.int .i64 0,.int .i64 0,.string ByteArray.empty,.string ByteArray.empty,.int .i64 0,.int .i64 0,.int .i64 0,.string ByteArray.empty,.slice none 0 0,.slice none 0 0,.string ByteArray.empty,.int .i64 0,.int .i64 0,.int .i64 0,.int .i64 0,.int .i64 0,.int .i64 0,.int .i64 0,.int .i64 0,.slice none 0 0]:=by kernel_rfl
theorem pl70:plAll Tryz.prog 70=some [(0,some 1),(1,some 1),(2,some 1),(3,some 1),(4,some 1),(5,some 5),(10,some 10)]:=by kernel_rfl
theorem tb70:tyIs Tryz.prog 70=6∧tyOk Tryz.prog 70=true∧tyZero Tryz.prog 70=some [.int .i64 0,.int .i64 0,.string ByteArray.empty,.string ByteArray.empty,.int .i64 0,.int .i64 0,.int .i64 0,.string ByteArray.empty,.slice none 0 0,.slice none 0 0,.string ByteArray.empty,.int .i64 0,.int .i64 0,.int .i64 0,.int .i64 0,.int .i64 0,.int .i64 0,.int .i64 0,.int .i64 0,.slice none 0 0]∧∀ i,tyPlace Tryz.prog 70 i=plOf [(0,some 1),(1,some 1),(2,some 1),(3,some 1),(4,some 1),(5,some 5),(10,some 10)] i:=⟨ti70,by kernel_rfl,tz70,fun i=>tyPlace_all pl70 i⟩
theorem tv70:tyVar Tryz.prog 70=some (true,20):=by kernel_rfl
theorem tf45x6:tyField Tryz.prog 45 6=some (6,false,1):=by kernel_rfl
theorem tf45x4:tyField Tryz.prog 45 4=some (4,false,1):=by kernel_rfl
theorem tf70x0:tyField Tryz.prog 70 0=some (0,false,1):=by kernel_rfl
theorem tz88:tyZero Tryz.prog 88=some [.bool false,.bool false,.bool false,.bool false,.bool false,.bool false]:=by kernel_rfl
theorem ti88:tyIs Tryz.prog 88=6:=by kernel_rfl
theorem pl88:plAll Tryz.prog 88=some [(0,some 1),(1,some 1),(2,some 1),(3,some 1),(4,some 1),(5,some 1)]:=by kernel_rfl
theorem tb88:tyIs Tryz.prog 88=6∧tyOk Tryz.prog 88=true∧tyZero Tryz.prog 88=some [.bool false,.bool false,.bool false,.bool false,.bool false,.bool false]∧∀ i,tyPlace Tryz.prog 88 i=plOf [(0,some 1),(1,some 1),(2,some 1),(3,some 1),(4,some 1),(5,some 1)] i:=⟨ti88,by kernel_rfl,tz88,fun i=>tyPlace_all pl88 i⟩
theorem tv88:tyVar Tryz.prog 88=some (true,6):=by kernel_rfl
theorem tf88x0:tyField Tryz.prog 88 0=some (0,false,1):=by kernel_rfl
theorem tf70x1:tyField Tryz.prog 70 1=some (1,false,1):=by kernel_rfl
theorem tf88x1:tyField Tryz.prog 88 1=some (1,false,1):=by kernel_rfl
theorem tf70x2:tyField Tryz.prog 70 2=some (2,false,1):=by kernel_rfl
theorem tf88x2:tyField Tryz.prog 88 2=some (2,false,1):=by kernel_rfl
theorem tf70x3:tyField Tryz.prog 70 3=some (3,false,1):=by kernel_rfl
theorem tf88x3:tyField Tryz.prog 88 3=some (3,false,1):=by kernel_rfl
theorem tf70x4:tyField Tryz.prog 70 4=some (4,false,1):=by kernel_rfl
theorem tf88x4:tyField Tryz.prog 88 4=some (4,false,1):=by kernel_rfl
theorem tf70x5:tyField Tryz.prog 70 5=some (5,true,5):=by kernel_rfl
theorem tf88x5:tyField Tryz.prog 88 5=some (5,false,1):=by kernel_rfl
theorem tf70x6:tyField Tryz.prog 70 6=some (10,true,10):=by kernel_rfl
theorem ti43:tyIs Tryz.prog 43=6:=by kernel_rfl
theorem tz43:tyZero Tryz.prog 43=some [.string ByteArray.empty,.int .i64 0,.int .i64 0,.int .i64 0,.int .i64 0,.int .i64 0,.int .i64 0,.int .i64 0,.int .i64 0,.slice none 0 0]:=by kernel_rfl
theorem pl43:plAll Tryz.prog 43=some [(0,some 1),(1,some 1),(2,some 1),(3,some 1),(4,some 1),(5,some 1),(6,some 1),(7,some 1),(8,some 1),(9,some 1)]:=by kernel_rfl
theorem tb43:tyIs Tryz.prog 43=6∧tyOk Tryz.prog 43=true∧tyZero Tryz.prog 43=some [.string ByteArray.empty,.int .i64 0,.int .i64 0,.int .i64 0,.int .i64 0,.int .i64 0,.int .i64 0,.int .i64 0,.int .i64 0,.slice none 0 0]∧∀ i,tyPlace Tryz.prog 43 i=plOf [(0,some 1),(1,some 1),(2,some 1),(3,some 1),(4,some 1),(5,some 1),(6,some 1),(7,some 1),(8,some 1),(9,some 1)] i:=⟨ti43,by kernel_rfl,tz43,fun i=>tyPlace_all pl43 i⟩
theorem tf43x1:tyField Tryz.prog 43 1=some (1,false,1):=by kernel_rfl
theorem tf43x2:tyField Tryz.prog 43 2=some (2,false,1):=by kernel_rfl
theorem tf43x3:tyField Tryz.prog 43 3=some (3,false,1):=by kernel_rfl
theorem tf43x4:tyField Tryz.prog 43 4=some (4,false,1):=by kernel_rfl
theorem tf43x5:tyField Tryz.prog 43 5=some (5,false,1):=by kernel_rfl
theorem tf43x6:tyField Tryz.prog 43 6=some (6,false,1):=by kernel_rfl
theorem tf43x7:tyField Tryz.prog 43 7=some (7,false,1):=by kernel_rfl
theorem tf43x8:tyField Tryz.prog 43 8=some (8,false,1):=by kernel_rfl
theorem ts93:tySlice Tryz.prog 93=some (96,1,8):=by kernel_rfl
theorem ti93:tyIs Tryz.prog 93=3:=by kernel_rfl
theorem tv96:tyVar Tryz.prog 96=some (false,1):=by kernel_rfl
theorem tf43x0:tyField Tryz.prog 43 0=some (0,false,1):=by kernel_rfl
theorem tf43x9:tyField Tryz.prog 43 9=some (9,false,1):=by kernel_rfl
theorem ts103:tySlice Tryz.prog 103=some (3,1,8):=by kernel_rfl
theorem ti103:tyIs Tryz.prog 103=3:=by kernel_rfl
theorem tz63:tyZero Tryz.prog 63=some [.bool false,.bool false,.bool false,.bool false,.bool false,.bool false,.bool false]:=by kernel_rfl
theorem ti63:tyIs Tryz.prog 63=6:=by kernel_rfl
theorem pl63:plAll Tryz.prog 63=some [(0,some 1),(1,some 1),(2,some 1),(3,some 1),(4,some 1),(5,some 1),(6,some 1)]:=by kernel_rfl
theorem tb63:tyIs Tryz.prog 63=6∧tyOk Tryz.prog 63=true∧tyZero Tryz.prog 63=some [.bool false,.bool false,.bool false,.bool false,.bool false,.bool false,.bool false]∧∀ i,tyPlace Tryz.prog 63 i=plOf [(0,some 1),(1,some 1),(2,some 1),(3,some 1),(4,some 1),(5,some 1),(6,some 1)] i:=⟨ti63,by kernel_rfl,tz63,fun i=>tyPlace_all pl63 i⟩
theorem tv63:tyVar Tryz.prog 63=some (true,7):=by kernel_rfl
theorem tf63x0:tyField Tryz.prog 63 0=some (0,false,1):=by kernel_rfl
theorem tf63x1:tyField Tryz.prog 63 1=some (1,false,1):=by kernel_rfl
theorem tf63x2:tyField Tryz.prog 63 2=some (2,false,1):=by kernel_rfl
theorem tf63x3:tyField Tryz.prog 63 3=some (3,false,1):=by kernel_rfl
theorem tf63x4:tyField Tryz.prog 63 4=some (4,false,1):=by kernel_rfl
theorem tf63x5:tyField Tryz.prog 63 5=some (5,false,1):=by kernel_rfl
theorem tf63x6:tyField Tryz.prog 63 6=some (6,false,1):=by kernel_rfl
theorem tf50x2:tyField Tryz.prog 50 2=some (2,true,24):=by kernel_rfl
theorem tf50x3:tyField Tryz.prog 50 3=some (26,false,1):=by kernel_rfl
theorem ti4:tyIs Tryz.prog 4=4:=by kernel_rfl
theorem tf50x0:tyField Tryz.prog 50 0=some (0,false,1):=by kernel_rfl
theorem tf50x1:tyField Tryz.prog 50 1=some (1,false,1):=by kernel_rfl
theorem ti35:tyIs Tryz.prog 35=6:=by kernel_rfl
theorem tz35:tyZero Tryz.prog 35=some [.int .i64 0,.int .i64 0,.int .i64 0,.bool false]:=by kernel_rfl
theorem pl35:plAll Tryz.prog 35=some [(0,some 1),(1,some 1),(2,some 1),(3,some 1)]:=by kernel_rfl
theorem tb35:tyIs Tryz.prog 35=6∧tyOk Tryz.prog 35=true∧tyZero Tryz.prog 35=some [.int .i64 0,.int .i64 0,.int .i64 0,.bool false]∧∀ i,tyPlace Tryz.prog 35 i=plOf [(0,some 1),(1,some 1),(2,some 1),(3,some 1)] i:=⟨ti35,by kernel_rfl,tz35,fun i=>tyPlace_all pl35 i⟩
theorem ts28:tySlice Tryz.prog 28=some (35,4,32):=by kernel_rfl
theorem ti28:tyIs Tryz.prog 28=3:=by kernel_rfl
theorem tv35:tyVar Tryz.prog 35=some (true,4):=by kernel_rfl
theorem tf35x3:tyField Tryz.prog 35 3=some (3,false,1):=by kernel_rfl
theorem tf35x2:tyField Tryz.prog 35 2=some (2,false,1):=by kernel_rfl
theorem eg35:Tryz.prog.eqGuardType Tryz.prog.depth 35=false:=by kernel_rfl
theorem eqk35:eqK Tryz.prog 40 35=some [1,1,1,0]:=by kernel_rfl
theorem tz77:tyZero Tryz.prog 77=some [.bool false,.bool false,.bool false,.bool false,.bool false,.bool false,.bool false,.bool false]:=by kernel_rfl
theorem ti77:tyIs Tryz.prog 77=6:=by kernel_rfl
theorem pl77:plAll Tryz.prog 77=some [(0,some 1),(1,some 1),(2,some 1),(3,some 1),(4,some 1),(5,some 1),(6,some 1),(7,some 1)]:=by kernel_rfl
theorem tb77:tyIs Tryz.prog 77=6∧tyOk Tryz.prog 77=true∧tyZero Tryz.prog 77=some [.bool false,.bool false,.bool false,.bool false,.bool false,.bool false,.bool false,.bool false]∧∀ i,tyPlace Tryz.prog 77 i=plOf [(0,some 1),(1,some 1),(2,some 1),(3,some 1),(4,some 1),(5,some 1),(6,some 1),(7,some 1)] i:=⟨ti77,by kernel_rfl,tz77,fun i=>tyPlace_all pl77 i⟩
theorem tv77:tyVar Tryz.prog 77=some (true,8):=by kernel_rfl
theorem tf77x0:tyField Tryz.prog 77 0=some (0,false,1):=by kernel_rfl
theorem tf77x1:tyField Tryz.prog 77 1=some (1,false,1):=by kernel_rfl
theorem tf77x2:tyField Tryz.prog 77 2=some (2,false,1):=by kernel_rfl
theorem tf77x3:tyField Tryz.prog 77 3=some (3,false,1):=by kernel_rfl
theorem tf77x4:tyField Tryz.prog 77 4=some (4,false,1):=by kernel_rfl
theorem tf77x5:tyField Tryz.prog 77 5=some (5,false,1):=by kernel_rfl
theorem tf77x6:tyField Tryz.prog 77 6=some (6,false,1):=by kernel_rfl
theorem tf77x7:tyField Tryz.prog 77 7=some (7,false,1):=by kernel_rfl
theorem tk5:tyInt Tryz.prog 5=some .u8:=by kernel_rfl
theorem tk3:tyInt Tryz.prog 3=some .i64:=by kernel_rfl
theorem ts111:tySlice Tryz.prog 111=some (5,1,1):=by kernel_rfl
theorem tby111:aval0.tyBytes Tryz.prog 111:=by show (match Tryz.prog.underlying 111 with | some (.slice e)=>tyInt Tryz.prog e=some .u8 | _=>False);rw [show Tryz.prog.underlying 111=some (.slice 5) by kernel_rfl];exact (by kernel_rfl:tyInt Tryz.prog 5=some .u8)
theorem by45:Tryz.prog.bytesOf 45=272:=by kernel_rfl
theorem sl22:tySl Tryz.prog 22=some (45,24):=by kernel_rfl
theorem fs45:tyFs Tryz.prog 45=some [3,3,3,3,3,3,3,9,9,41,43]:=by kernel_rfl
theorem fs41:tyFs Tryz.prog 41=some [3,3,9,38,39]:=by kernel_rfl
theorem by41:Tryz.prog.bytesOf 41=80:=by kernel_rfl
theorem sl38:tySl Tryz.prog 38=some (41,5):=by kernel_rfl
theorem by9:Tryz.prog.bytesOf 9=16:=by kernel_rfl
theorem sl39:tySl Tryz.prog 39=some (9,1):=by kernel_rfl
theorem fs43:tyFs Tryz.prog 43=some [9,3,3,3,3,3,3,3,3,39]:=by kernel_rfl
end Go.Proofs.YtmbdbdhdcbdcpaaGreatDoor

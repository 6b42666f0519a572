import Derived.Test.YtnigjppddilpcaaGreatDoorProg
import Derived.Test.YtnigjppddilpcaaGreatDoorAbs29
import Derived.Test.YtnigjppddilpcaaGreatDoorLib
namespace Go.Proofs.YtnigjppddilpcaaGreatDoor
open Go Abs
set_option maxRecDepth 100000
set_option linter.unusedVariables false
set_option linter.unusedSimpArgs false
abbrev ci (n:Int):AV:=.c (.int .i64 n)
abbrev cR {b0:Bool}{b1:Bool}{b2:Bool}{b3:Bool}{b4:Bool}{b5:Bool}:List AV:=[.c (.bool b0),.c (.bool b1),.c (.bool b2),.c (.bool b3),.c (.bool b4),.c (.bool b5)]
abbrev bQ {b0:Bool}{b1:Bool}{b2:Bool}{b3:Bool}{b4:Bool}{b5:Bool}{b6:Bool}:List AV:=[.c (.bool b0),.c (.bool b1),.c (.bool b2),.c (.bool b3),.c (.bool b4),.c (.bool b5),.c (.bool b6)]
abbrev aR {b0:Bool}{b1:Bool}{b2:Bool}{b3:Bool}{b4:Bool}{b5:Bool}{b6:Bool}{b7:Bool}:List AV:=[.c (.bool b0),.c (.bool b1),.c (.bool b2),.c (.bool b3),.c (.bool b4),.c (.bool b5),.c (.bool b6),.c (.bool b7)]
abbrev sP {k0:IntKind}{n0:Int}{k1:IntKind}{n1:Int}{k2:IntKind}{n2:Int}{k3:IntKind}{n3:Int}:List AV:=[.c (.int k0 n0),.c (.int k1 n1),.c (.int k2 n2),.c (.int k3 n3)]
abbrev aD {k0:IntKind}{n0:Int}{k1:IntKind}{n1:Int}{k2:IntKind}{n2:Int}{k3:IntKind}{n3:Int}{k4:IntKind}{n4:Int}{k5:IntKind}{n5:Int}{k6:IntKind}{n6:Int}{s7:List UInt8}{s8:List UInt8}{k9:IntKind}{n9:Int}{k10:IntKind}{n10:Int}{s11:List UInt8}{α12:Type}{z12:Nat}{r12:α12→List PV}{x12:List α12}{α13:Type}{z13:Nat}{r13:α13→List PV}{x13:List α13}{s14:List UInt8}{k15:IntKind}{n15:Int}{k16:IntKind}{n16:Int}{k17:IntKind}{n17:Int}{k18:IntKind}{n18:Int}{k19:IntKind}{n19:Int}{k20:IntKind}{n20:Int}{k21:IntKind}{n21:Int}{k22:IntKind}{n22:Int}{α23:Type}{z23:Nat}{r23:α23→List PV}{x23:List α23}:List AV:=[.c (.int k0 n0),.c (.int k1 n1),.c (.int k2 n2),.c (.int k3 n3),.c (.int k4 n4),.c (.int k5 n5),.c (.int k6 n6),.c (.str s7),.c (.str s8),.c (.int k9 n9),.c (.int k10 n10),.c (.str s11),.c (PV.ls z12 r12 x12),.c (PV.ls z13 r13 x13),.c (.str s14),.c (.int k15 n15),.c (.int k16 n16),.c (.int k17 n17),.c (.int k18 n18),.c (.int k19 n19),.c (.int k20 n20),.c (.int k21 n21),.c (.int k22 n22),.c (PV.ls z23 r23 x23)]
abbrev lR {k0:IntKind}{n0:Int}{k1:IntKind}{n1:Int}{k2:IntKind}{n2:Int}{k3:IntKind}{n3:Int}{k4:IntKind}{n4:Int}{k5:IntKind}{n5:Int}{k6:IntKind}{n6:Int}{s7:List UInt8}{s8:List UInt8}{k9:IntKind}{n9:Int}{k10:IntKind}{n10:Int}{s11:List UInt8}{α12:Type}{z12:Nat}{r12:α12→List PV}{x12:List α12}{α13:Type}{z13:Nat}{r13:α13→List PV}{x13:List α13}{s14:List UInt8}{k15:IntKind}{n15:Int}{k16:IntKind}{n16:Int}{k17:IntKind}{n17:Int}{k18:IntKind}{n18:Int}{k19:IntKind}{n19:Int}{k20:IntKind}{n20:Int}{k21:IntKind}{n21:Int}{k22:IntKind}{n22:Int}  : List AV:=[.c (.int k0 n0),.c (.int k1 n1),.c (.int k2 n2),.c (.int k3 n3),.c (.int k4 n4),.c (.int k5 n5),.c (.int k6 n6),.c (.str s7),.c (.str s8),.c (.int k9 n9),.c (.int k10 n10),.c (.str s11),.c (PV.ls z12 r12 x12),.c (PV.ls z13 r13 x13),.c (.str s14),.c (.int k15 n15),.c (.int k16 n16),.c (.int k17 n17),.c (.int k18 n18),.c (.int k19 n19),.c (.int k20 n20),.c (.int k21 n21),.c (.int k22 n22),AV.nil]
abbrev aG {k0:IntKind}{n0:Int}{k1:IntKind}{n1:Int}{k2:IntKind}{n2:Int}{k3:IntKind}{n3:Int}{k4:IntKind}{n4:Int}{k5:IntKind}{n5:Int}{k6:IntKind}{n6:Int}{s7:List UInt8}{s8:List UInt8}{k9:IntKind}{n9:Int}{k10:IntKind}{n10:Int}{s11:List UInt8}   {s14:List UInt8}{k15:IntKind}{n15:Int}{k16:IntKind}{n16:Int}{k17:IntKind}{n17:Int}{k18:IntKind}{n18:Int}{k19:IntKind}{n19:Int}{k20:IntKind}{n20:Int}{k21:IntKind}{n21:Int}{k22:IntKind}{n22:Int}  : List AV:=[.c (.int k0 n0),.c (.int k1 n1),.c (.int k2 n2),.c (.int k3 n3),.c (.int k4 n4),.c (.int k5 n5),.c (.int k6 n6),.c (.str s7),.c (.str s8),.c (.int k9 n9),.c (.int k10 n10),.c (.str s11),AV.nil,AV.nil,.c (.str s14),.c (.int k15 n15),.c (.int k16 n16),.c (.int k17 n17),.c (.int k18 n18),.c (.int k19 n19),.c (.int k20 n20),.c (.int k21 n21),.c (.int k22 n22),AV.nil]
abbrev bL {k0:IntKind}{n0:Int}{k1:IntKind}{n1:Int}{s2:List UInt8}{α3:Type}{z3:Nat}{r3:α3→List PV}{x3:List α3}{α4:Type}{z4:Nat}{r4:α4→List PV}{x4:List α4}:List AV:=[.c (.int k0 n0),.c (.int k1 n1),.c (.str s2),.c (PV.ls z3 r3 x3),.c (PV.ls z4 r4 x4)]
abbrev bT {k0:IntKind}{n0:Int}{k1:IntKind}{n1:Int}{s2:List UInt8}   : List AV:=[.c (.int k0 n0),.c (.int k1 n1),.c (.str s2),AV.nil,AV.nil]
abbrev aV {k0:IntKind}{n0:Int}{k1:IntKind}{n1:Int}{s2:List UInt8}{s3:List UInt8}{k4:IntKind}{n4:Int}{k5:IntKind}{n5:Int}{k6:IntKind}{n6:Int}{s7:List UInt8}{α8:Type}{z8:Nat}{r8:α8→List PV}{x8:List α8}{α9:Type}{z9:Nat}{r9:α9→List PV}{x9:List α9}{s10:List UInt8}{k11:IntKind}{n11:Int}{k12:IntKind}{n12:Int}{k13:IntKind}{n13:Int}{k14:IntKind}{n14:Int}{k15:IntKind}{n15:Int}{k16:IntKind}{n16:Int}{k17:IntKind}{n17:Int}{k18:IntKind}{n18:Int}{α19:Type}{z19:Nat}{r19:α19→List PV}{x19:List α19}:List AV:=[.c (.int k0 n0),.c (.int k1 n1),.c (.str s2),.c (.str s3),.c (.int k4 n4),.c (.int k5 n5),.c (.int k6 n6),.c (.str s7),.c (PV.ls z8 r8 x8),.c (PV.ls z9 r9 x9),.c (.str s10),.c (.int k11 n11),.c (.int k12 n12),.c (.int k13 n13),.c (.int k14 n14),.c (.int k15 n15),.c (.int k16 n16),.c (.int k17 n17),.c (.int k18 n18),.c (PV.ls z19 r19 x19)]
abbrev gE {k0:IntKind}{n0:Int}{k1:IntKind}{n1:Int}{s2:List UInt8}{s3:List UInt8}{k4:IntKind}{n4:Int}{k5:IntKind}{n5:Int}{k6:IntKind}{n6:Int}{s7:List UInt8}{α8:Type}{z8:Nat}{r8:α8→List PV}{x8:List α8}{α9:Type}{z9:Nat}{r9:α9→List PV}{x9:List α9}{s10:List UInt8}{k11:IntKind}{n11:Int}{k12:IntKind}{n12:Int}{k13:IntKind}{n13:Int}{k14:IntKind}{n14:Int}{k15:IntKind}{n15:Int}{k16:IntKind}{n16:Int}{k17:IntKind}{n17:Int}{k18:IntKind}{n18:Int}  : List AV:=[.c (.int k0 n0),.c (.int k1 n1),.c (.str s2),.c (.str s3),.c (.int k4 n4),.c (.int k5 n5),.c (.int k6 n6),.c (.str s7),.c (PV.ls z8 r8 x8),.c (PV.ls z9 r9 x9),.c (.str s10),.c (.int k11 n11),.c (.int k12 n12),.c (.int k13 n13),.c (.int k14 n14),.c (.int k15 n15),.c (.int k16 n16),.c (.int k17 n17),.c (.int k18 n18),AV.nil]
abbrev aAo {k0:IntKind}{n0:Int}{k1:IntKind}{n1:Int}{s2:List UInt8}{s3:List UInt8}{k4:IntKind}{n4:Int}{k5:IntKind}{n5:Int}{k6:IntKind}{n6:Int}{s7:List UInt8}   {s10:List UInt8}{k11:IntKind}{n11:Int}{k12:IntKind}{n12:Int}{k13:IntKind}{n13:Int}{k14:IntKind}{n14:Int}{k15:IntKind}{n15:Int}{k16:IntKind}{n16:Int}{k17:IntKind}{n17:Int}{k18:IntKind}{n18:Int}{α19:Type}{z19:Nat}{r19:α19→List PV}{x19:List α19}:List AV:=[.c (.int k0 n0),.c (.int k1 n1),.c (.str s2),.c (.str s3),.c (.int k4 n4),.c (.int k5 n5),.c (.int k6 n6),.c (.str s7),AV.nil,AV.nil,.c (.str s10),.c (.int k11 n11),.c (.int k12 n12),.c (.int k13 n13),.c (.int k14 n14),.c (.int k15 n15),.c (.int k16 n16),.c (.int k17 n17),.c (.int k18 n18),.c (PV.ls z19 r19 x19)]
abbrev cT {k0:IntKind}{n0:Int}{k1:IntKind}{n1:Int}{s2:List UInt8}{s3:List UInt8}{k4:IntKind}{n4:Int}{k5:IntKind}{n5:Int}{k6:IntKind}{n6:Int}{s7:List UInt8}   {s10:List UInt8}{k11:IntKind}{n11:Int}{k12:IntKind}{n12:Int}{k13:IntKind}{n13:Int}{k14:IntKind}{n14:Int}{k15:IntKind}{n15:Int}{k16:IntKind}{n16:Int}{k17:IntKind}{n17:Int}{k18:IntKind}{n18:Int}  : List AV:=[.c (.int k0 n0),.c (.int k1 n1),.c (.str s2),.c (.str s3),.c (.int k4 n4),.c (.int k5 n5),.c (.int k6 n6),.c (.str s7),AV.nil,AV.nil,.c (.str s10),.c (.int k11 n11),.c (.int k12 n12),.c (.int k13 n13),.c (.int k14 n14),.c (.int k15 n15),.c (.int k16 n16),.c (.int k17 n17),.c (.int k18 n18),AV.nil]
abbrev cP {α0:Type}{z0:Nat}{r0:α0→List PV}{x0:List α0}{k1:IntKind}{n1:Int}{k2:IntKind}{n2:Int}{b3:Bool}:List AV:=[.c (PV.ls z0 r0 x0),.c (.int k1 n1),.c (.int k2 n2),.c (.bool b3)]
abbrev bZ {s0:List UInt8}{k1:IntKind}{n1:Int}{k2:IntKind}{n2:Int}{k3:IntKind}{n3:Int}{k4:IntKind}{n4:Int}{k5:IntKind}{n5:Int}{k6:IntKind}{n6:Int}{k7:IntKind}{n7:Int}{k8:IntKind}{n8:Int}{α9:Type}{z9:Nat}{r9:α9→List PV}{x9:List α9}:List AV:=[.c (.str s0),.c (.int k1 n1),.c (.int k2 n2),.c (.int k3 n3),.c (.int k4 n4),.c (.int k5 n5),.c (.int k6 n6),.c (.int k7 n7),.c (.int k8 n8),.c (PV.ls z9 r9 x9)]
abbrev bN {s0:List UInt8}{k1:IntKind}{n1:Int}{k2:IntKind}{n2:Int}{k3:IntKind}{n3:Int}{k4:IntKind}{n4:Int}{k5:IntKind}{n5:Int}{k6:IntKind}{n6:Int}{k7:IntKind}{n7:Int}{k8:IntKind}{n8:Int}  : List AV:=[.c (.str s0),.c (.int k1 n1),.c (.int k2 n2),.c (.int k3 n3),.c (.int k4 n4),.c (.int k5 n5),.c (.int k6 n6),.c (.int k7 n7),.c (.int k8 n8),AV.nil]
abbrev u10 {x0 x1 x2 x3 x4 x5 x6 x7 x8 x9:AV}:List AV:=[x0,x1,x2,x3,x4,x5,x6,x7,x8,x9]
abbrev u20 {x0 x1 x2 x3 x4 x5 x6 x7 x8 x9 x10 x11 x12 x13 x14 x15 x16 x17 x18 x19:AV}:List AV:=[x0,x1,x2,x3,x4,x5,x6,x7,x8,x9,x10,x11,x12,x13,x14,x15,x16,x17,x18,x19]
abbrev u24 {x0 x1 x2 x3 x4 x5 x6 x7 x8 x9 x10 x11 x12 x13 x14 x15 x16 x17 x18 x19 x20 x21 x22 x23:AV}:List AV:=[x0,x1,x2,x3,x4,x5,x6,x7,x8,x9,x10,x11,x12,x13,x14,x15,x16,x17,x18,x19,x20,x21,x22,x23]
abbrev u5 {x0 x1 x2 x3 x4:AV}:List AV:=[x0,x1,x2,x3,x4]
structure aC where
 mk ::
 Kind:Int
 Int:Int
 Text:(List UInt8)
 Items:(List aC)
 Keys:(List (List UInt8))
instance:Inhabited aC:=⟨aC.mk 0 0 [] [] []⟩
mutual
def bF:aC→List PV
 | ⟨x0,x1,x2,x3,x4⟩=>[.int .i64 x0,.int .i64 x1,.str x2,.list 5 (tR x3),PV.ls 1 eA x4]
def tR:List aC→List (List PV)
 | []=>[]
 | x :: l=>bF x :: tR l
end
theorem aAl:∀ l,tR l=l.map bF
 | []=>by simp [tR]
 | x :: l=>by simp [tR,aAl l]
def cQ (x:aC):List PV:=[.int .i64 x.Kind,.int .i64 x.Int,.str x.Text,PV.ls 5 bF x.Items,PV.ls 1 eA x.Keys]
theorem cE (x:aC):bF x=cQ x:=by cases x;simp [bF,cQ,aAl,PV.ls]
theorem aEd (x:aC):(bF x).length=5:=by rw [cE];rfl
structure bG where
 mk ::
 Queue:(List UInt8)
 ToStart:Int
 ToClose:Int
 Total:Int
 Beat:Int
 First:Int
 Coef:Int
 Most:Int
 Attempts:Int
 Fatal:(List (List UInt8))
instance:Inhabited bG:=⟨bG.mk [] 0 0 0 0 0 0 0 0 []⟩
def gS (x:bG):List PV:=[.str x.Queue,.int .i64 x.ToStart,.int .i64 x.ToClose,.int .i64 x.Total,.int .i64 x.Beat,.int .i64 x.First,.int .i64 x.Coef,.int .i64 x.Most,.int .i64 x.Attempts,PV.ls 1 eA x.Fatal]
structure bI where
 mk ::
 ID:Int
 Kind:Int
 Time:Int
 Seq:Int
 Ref:Int
 N:Int
 Code:Int
 Name:(List UInt8)
 Key:(List UInt8)
 Data:aC
 Opts:bG
instance:Inhabited bI:=⟨bI.mk 0 0 0 0 0 0 0 [] [] default default⟩
def cD (x:bI):List PV:=[.int .i64 x.ID,.int .i64 x.Kind,.int .i64 x.Time,.int .i64 x.Seq,.int .i64 x.Ref,.int .i64 x.N,.int .i64 x.Code,.str x.Name,.str x.Key,.int .i64 x.Data.Kind,.int .i64 x.Data.Int,.str x.Data.Text,PV.ls 5 bF x.Data.Items,PV.ls 1 eA x.Data.Keys,.str x.Opts.Queue,.int .i64 x.Opts.ToStart,.int .i64 x.Opts.ToClose,.int .i64 x.Opts.Total,.int .i64 x.Opts.Beat,.int .i64 x.Opts.First,.int .i64 x.Opts.Coef,.int .i64 x.Opts.Most,.int .i64 x.Opts.Attempts,PV.ls 1 eA x.Opts.Fatal]
structure cW where
 mk ::
 Kind:Int
 Seq:Int
 Name:(List UInt8)
 Key:(List UInt8)
 N:Int
 Data:aC
 Opts:bG
instance:Inhabited cW:=⟨cW.mk 0 0 [] [] 0 default default⟩
def jO (x:cW):List PV:=[.int .i64 x.Kind,.int .i64 x.Seq,.str x.Name,.str x.Key,.int .i64 x.N,.int .i64 x.Data.Kind,.int .i64 x.Data.Int,.str x.Data.Text,PV.ls 5 bF x.Data.Items,PV.ls 1 eA x.Data.Keys,.str x.Opts.Queue,.int .i64 x.Opts.ToStart,.int .i64 x.Opts.ToClose,.int .i64 x.Opts.Total,.int .i64 x.Opts.Beat,.int .i64 x.Opts.First,.int .i64 x.Opts.Coef,.int .i64 x.Opts.Most,.int .i64 x.Opts.Attempts,PV.ls 1 eA x.Opts.Fatal]
structure fU where
 mk ::
 seq_:Bool
 name_:Bool
 key_:Bool
 n_:Bool
 data_:Bool
 opts_:Bool
instance:Inhabited fU:=⟨fU.mk false false false false false false⟩
def aAQ (x:fU):List PV:=[.bool x.seq_,.bool x.name_,.bool x.key_,.bool x.n_,.bool x.data_,.bool x.opts_]
structure fZ where
 mk ::
 seq_:Bool
 ref_:Bool
 n_:Bool
 code_:Bool
 name_:Bool
 key_:Bool
 data_:Bool
instance:Inhabited fZ:=⟨fZ.mk false false false false false false false⟩
def aCQ (x:fZ):List PV:=[.bool x.seq_,.bool x.ref_,.bool x.n_,.bool x.code_,.bool x.name_,.bool x.key_,.bool x.data_]
structure aBO where
 mk ::
 E0:Int
 E1:Int
 E2:Int
 E3:Int
instance:Inhabited aBO:=⟨aBO.mk 0 0 0 0⟩
def aMc (x:aBO):List PV:=[.int .u8 x.E0,.int .u8 x.E1,.int .u8 x.E2,.int .u8 x.E3]
structure aT where
 mk ::
 b_:(List UInt8)
 at_:Int
 err_:Int
 made_:Bool
instance:Inhabited aT:=⟨aT.mk [] 0 0 false⟩
def cY (x:aT):List PV:=[PV.ls 1 dF x.b_,.int .i64 x.at_,.int .i64 x.err_,.bool x.made_]
structure dZ where
 mk ::
 seq_:Bool
 ref_:Bool
 n_:Bool
 code_:Bool
 name_:Bool
 key_:Bool
 data_:Bool
 opts_:Bool
instance:Inhabited dZ:=⟨dZ.mk false false false false false false false false⟩
def aFK (x:dZ):List PV:=[.bool x.seq_,.bool x.ref_,.bool x.n_,.bool x.code_,.bool x.name_,.bool x.key_,.bool x.data_,.bool x.opts_]
structure aDG where
 mk ::
 Made:Bool
 Rest:(List UInt8)
 Bad:Int
instance:Inhabited aDG:=⟨aDG.mk false [] 0⟩
structure aEJ where
 mk ::
 Kind:Int
 Time:Int
 Workflow:(List UInt8)
 Run:(List UInt8)
 ID:(List UInt8)
 Name:(List UInt8)
 Token:Int
 Event:Int
 Seq:Int
 N:Int
 Data:aC
 Opts:bG
 Commands:(List cW)
 Parent:(List UInt8)
instance:Inhabited aEJ:=⟨aEJ.mk 0 0 [] [] [] [] 0 0 0 0 default default [] []⟩
structure aDH where
 mk ::
 id_:Bool
 name_:Bool
 token_:Bool
 event_:Bool
 seq_:Bool
 n_:Bool
 data_:Bool
 commands_:Bool
 parent_:Bool
instance:Inhabited aDH:=⟨aDH.mk false false false false false false false false false⟩
structure aIo where
 mk ::
 Err:Int
 Run:(List UInt8)
 Token:Int
 N:Int
 Data:aC
 Events:(List bI)
instance:Inhabited aIo:=⟨aIo.mk 0 [] 0 0 default []⟩
theorem sD:fT Tryz.prog 22=3:=by kernel_rfl
theorem aJB:iM Tryz.prog 30=some [.int .i64 0,.int .i64 0,.int .i64 0,.int .i64 0,.int .i64 0,.int .i64 0,.int .i64 0,.string ByteArray.empty,.string ByteArray.empty,.int .i64 0,.int .i64 0,.string ByteArray.empty,.slice none 0 0,.slice none 0 0,.string ByteArray.empty,.int .i64 0,.int .i64 0,.int .i64 0,.int .i64 0,.int .i64 0,.int .i64 0,.int .i64 0,.int .i64 0,.slice none 0 0]:=by kernel_rfl
theorem aSp:fT Tryz.prog 30=6:=by kernel_rfl
theorem aSg:aAJ Tryz.prog 30=some [(0,some 1),(1,some 1),(2,some 1),(3,some 1),(4,some 1),(5,some 1),(6,some 1),(7,some 1),(8,some 1),(9,some 5),(14,some 10)]:=by kernel_rfl
theorem aQv:fT Tryz.prog 30=6∧aDA Tryz.prog 30=true∧iM Tryz.prog 30=some [.int .i64 0,.int .i64 0,.int .i64 0,.int .i64 0,.int .i64 0,.int .i64 0,.int .i64 0,.string ByteArray.empty,.string ByteArray.empty,.int .i64 0,.int .i64 0,.string ByteArray.empty,.slice none 0 0,.slice none 0 0,.string ByteArray.empty,.int .i64 0,.int .i64 0,.int .i64 0,.int .i64 0,.int .i64 0,.int .i64 0,.int .i64 0,.int .i64 0,.slice none 0 0]∧∀ i,lO Tryz.prog 30 i=aFs [(0,some 1),(1,some 1),(2,some 1),(3,some 1),(4,some 1),(5,some 1),(6,some 1),(7,some 1),(8,some 1),(9,some 5),(14,some 10)] i:=⟨aSp,by kernel_rfl,aJB,fun i=>mF aSg i⟩
theorem qF:gH Tryz.prog 30=some (true,24):=by kernel_rfl
theorem aEe:gT Tryz.prog 32=some (30,24,272):=by kernel_rfl
theorem aDz:fT Tryz.prog 32=3:=by kernel_rfl
theorem tk3:vY Tryz.prog 3=some .i64:=by kernel_rfl
theorem aAY:vY Tryz.prog 131=some .u64:=by kernel_rfl
theorem tk5:vY Tryz.prog 5=some .u8:=by kernel_rfl
theorem pK:gT Tryz.prog 22=some (5,1,1):=by kernel_rfl
theorem tU:dE Tryz.prog 30 1=some (1,false,1):=by kernel_rfl
theorem eP:gH Tryz.prog 3=some (false,1):=by kernel_rfl
theorem aCg:dE Tryz.prog 30 0=some (0,false,1):=by kernel_rfl
theorem aCh:dE Tryz.prog 30 2=some (2,false,1):=by kernel_rfl
theorem tV:dE Tryz.prog 30 9=some (9,true,5):=by kernel_rfl
theorem fM:gH Tryz.prog 26=some (true,5):=by kernel_rfl
theorem eJ:dE Tryz.prog 26 3=some (3,false,1):=by kernel_rfl
theorem iF:gH Tryz.prog 23=some (false,1):=by kernel_rfl
theorem nH:fT Tryz.prog 23=3:=by kernel_rfl
theorem mP:gT Tryz.prog 23=some (26,5,80):=by kernel_rfl
theorem aCi:iM Tryz.prog 26=some [.int .i64 0,.int .i64 0,.string ByteArray.empty,.slice none 0 0,.slice none 0 0]:=by kernel_rfl
theorem lT:dE Tryz.prog 26 2=some (2,false,1):=by kernel_rfl
theorem kD:gH Tryz.prog 9=some (false,1):=by kernel_rfl
theorem pJ:fT Tryz.prog 9=2:=by kernel_rfl
theorem jA:dE Tryz.prog 26 4=some (4,false,1):=by kernel_rfl
theorem kM:gH Tryz.prog 24=some (false,1):=by kernel_rfl
theorem pI:fT Tryz.prog 24=3:=by kernel_rfl
theorem vV:gT Tryz.prog 24=some (9,1,16):=by kernel_rfl
theorem mM:dE Tryz.prog 26 1=some (1,false,1):=by kernel_rfl
theorem gW:dE Tryz.prog 26 0=some (0,false,1):=by kernel_rfl
theorem tv4:gH Tryz.prog 4=some (false,1):=by kernel_rfl
theorem xE:dE Tryz.prog 30 3=some (3,false,1):=by kernel_rfl
theorem oW:dE Tryz.prog 30 7=some (7,false,1):=by kernel_rfl
theorem oX:dE Tryz.prog 30 8=some (8,false,1):=by kernel_rfl
theorem sC:dE Tryz.prog 30 5=some (5,false,1):=by kernel_rfl
theorem rW:dE Tryz.prog 30 10=some (14,true,10):=by kernel_rfl
theorem wH:gH Tryz.prog 28=some (true,10):=by kernel_rfl
theorem aRG:fT Tryz.prog 103=6:=by kernel_rfl
theorem aLr:iM Tryz.prog 103=some [.int .i64 0,.int .i64 0,.string ByteArray.empty,.string ByteArray.empty,.int .i64 0,.int .i64 0,.int .i64 0,.string ByteArray.empty,.slice none 0 0,.slice none 0 0,.string ByteArray.empty,.int .i64 0,.int .i64 0,.int .i64 0,.int .i64 0,.int .i64 0,.int .i64 0,.int .i64 0,.int .i64 0,.slice none 0 0]:=by kernel_rfl
theorem aRo:aAJ Tryz.prog 103=some [(0,some 1),(1,some 1),(2,some 1),(3,some 1),(4,some 1),(5,some 5),(10,some 10)]:=by kernel_rfl
theorem aNF:fT Tryz.prog 103=6∧aDA Tryz.prog 103=true∧iM Tryz.prog 103=some [.int .i64 0,.int .i64 0,.string ByteArray.empty,.string ByteArray.empty,.int .i64 0,.int .i64 0,.int .i64 0,.string ByteArray.empty,.slice none 0 0,.slice none 0 0,.string ByteArray.empty,.int .i64 0,.int .i64 0,.int .i64 0,.int .i64 0,.int .i64 0,.int .i64 0,.int .i64 0,.int .i64 0,.slice none 0 0]∧∀ i,lO Tryz.prog 103 i=aFs [(0,some 1),(1,some 1),(2,some 1),(3,some 1),(4,some 1),(5,some 5),(10,some 10)] i:=⟨aRG,by kernel_rfl,aLr,fun i=>mF aRo i⟩
theorem yU:gH Tryz.prog 103=some (true,20):=by kernel_rfl
theorem vU:dE Tryz.prog 30 6=some (6,false,1):=by kernel_rfl
theorem xF:dE Tryz.prog 30 4=some (4,false,1):=by kernel_rfl
theorem mW:dE Tryz.prog 103 0=some (0,false,1):=by kernel_rfl
theorem aNO:iM Tryz.prog 160=some [.bool false,.bool false,.bool false,.bool false,.bool false,.bool false]:=by kernel_rfl
theorem aRK:fT Tryz.prog 160=6:=by kernel_rfl
theorem aRs:aAJ Tryz.prog 160=some [(0,some 1),(1,some 1),(2,some 1),(3,some 1),(4,some 1),(5,some 1)]:=by kernel_rfl
theorem aBH:fT Tryz.prog 160=6∧aDA Tryz.prog 160=true∧iM Tryz.prog 160=some [.bool false,.bool false,.bool false,.bool false,.bool false,.bool false]∧∀ i,lO Tryz.prog 160 i=aFs [(0,some 1),(1,some 1),(2,some 1),(3,some 1),(4,some 1),(5,some 1)] i:=⟨aRK,by kernel_rfl,aNO,fun i=>mF aRs i⟩
theorem qV:gH Tryz.prog 160=some (true,6):=by kernel_rfl
theorem aLm:dE Tryz.prog 160 0=some (0,false,1):=by kernel_rfl
theorem aBl:dE Tryz.prog 103 1=some (1,false,1):=by kernel_rfl
theorem aLn:dE Tryz.prog 160 1=some (1,false,1):=by kernel_rfl
theorem xY:dE Tryz.prog 103 2=some (2,false,1):=by kernel_rfl
theorem aLo:dE Tryz.prog 160 2=some (2,false,1):=by kernel_rfl
theorem aBm:dE Tryz.prog 103 3=some (3,false,1):=by kernel_rfl
theorem aPj:dE Tryz.prog 160 3=some (3,false,1):=by kernel_rfl
theorem pF:dE Tryz.prog 103 4=some (4,false,1):=by kernel_rfl
theorem aPk:dE Tryz.prog 160 4=some (4,false,1):=by kernel_rfl
theorem rV:dE Tryz.prog 103 5=some (5,true,5):=by kernel_rfl
theorem aSn:fT Tryz.prog 26=6:=by kernel_rfl
theorem aSe:aAJ Tryz.prog 26=some [(0,some 1),(1,some 1),(2,some 1),(3,some 1),(4,some 1)]:=by kernel_rfl
theorem aFP:fT Tryz.prog 26=6∧aDA Tryz.prog 26=true∧iM Tryz.prog 26=some [.int .i64 0,.int .i64 0,.string ByteArray.empty,.slice none 0 0,.slice none 0 0]∧∀ i,lO Tryz.prog 26 i=aFs [(0,some 1),(1,some 1),(2,some 1),(3,some 1),(4,some 1)] i:=⟨aSn,by kernel_rfl,aCi,fun i=>mF aSe i⟩
theorem aPl:dE Tryz.prog 160 5=some (5,false,1):=by kernel_rfl
theorem aBn:dE Tryz.prog 103 6=some (10,true,10):=by kernel_rfl
theorem aSo:fT Tryz.prog 28=6:=by kernel_rfl
theorem aQw:iM Tryz.prog 28=some [.string ByteArray.empty,.int .i64 0,.int .i64 0,.int .i64 0,.int .i64 0,.int .i64 0,.int .i64 0,.int .i64 0,.int .i64 0,.slice none 0 0]:=by kernel_rfl
theorem aSf:aAJ Tryz.prog 28=some [(0,some 1),(1,some 1),(2,some 1),(3,some 1),(4,some 1),(5,some 1),(6,some 1),(7,some 1),(8,some 1),(9,some 1)]:=by kernel_rfl
theorem aNG:fT Tryz.prog 28=6∧aDA Tryz.prog 28=true∧iM Tryz.prog 28=some [.string ByteArray.empty,.int .i64 0,.int .i64 0,.int .i64 0,.int .i64 0,.int .i64 0,.int .i64 0,.int .i64 0,.int .i64 0,.slice none 0 0]∧∀ i,lO Tryz.prog 28 i=aFs [(0,some 1),(1,some 1),(2,some 1),(3,some 1),(4,some 1),(5,some 1),(6,some 1),(7,some 1),(8,some 1),(9,some 1)] i:=⟨aSo,by kernel_rfl,aQw,fun i=>mF aSf i⟩
theorem aB8:dE Tryz.prog 28 1=some (1,false,1):=by kernel_rfl
theorem aB9:dE Tryz.prog 28 2=some (2,false,1):=by kernel_rfl
theorem aCa:dE Tryz.prog 28 3=some (3,false,1):=by kernel_rfl
theorem aCb:dE Tryz.prog 28 4=some (4,false,1):=by kernel_rfl
theorem aCc:dE Tryz.prog 28 5=some (5,false,1):=by kernel_rfl
theorem aCd:dE Tryz.prog 28 6=some (6,false,1):=by kernel_rfl
theorem aCe:dE Tryz.prog 28 7=some (7,false,1):=by kernel_rfl
theorem aCf:dE Tryz.prog 28 8=some (8,false,1):=by kernel_rfl
theorem mQ:gT Tryz.prog 93=some (92,1,8):=by kernel_rfl
theorem aPn:fT Tryz.prog 93=3:=by kernel_rfl
theorem nS:gH Tryz.prog 92=some (false,1):=by kernel_rfl
theorem vT:dE Tryz.prog 28 0=some (0,false,1):=by kernel_rfl
theorem lI:dE Tryz.prog 28 9=some (9,false,1):=by kernel_rfl
theorem aEf:gT Tryz.prog 76=some (3,1,8):=by kernel_rfl
theorem aMm:fT Tryz.prog 76=3:=by kernel_rfl
theorem aNM:iM Tryz.prog 139=some [.bool false,.bool false,.bool false,.bool false,.bool false,.bool false,.bool false]:=by kernel_rfl
theorem aRH:fT Tryz.prog 139=6:=by kernel_rfl
theorem aRp:aAJ Tryz.prog 139=some [(0,some 1),(1,some 1),(2,some 1),(3,some 1),(4,some 1),(5,some 1),(6,some 1)]:=by kernel_rfl
theorem xD:fT Tryz.prog 139=6∧aDA Tryz.prog 139=true∧iM Tryz.prog 139=some [.bool false,.bool false,.bool false,.bool false,.bool false,.bool false,.bool false]∧∀ i,lO Tryz.prog 139 i=aFs [(0,some 1),(1,some 1),(2,some 1),(3,some 1),(4,some 1),(5,some 1),(6,some 1)] i:=⟨aRH,by kernel_rfl,aNM,fun i=>mF aRp i⟩
theorem kX:gH Tryz.prog 139=some (true,7):=by kernel_rfl
theorem aLi:dE Tryz.prog 139 0=some (0,false,1):=by kernel_rfl
theorem aLj:dE Tryz.prog 139 1=some (1,false,1):=by kernel_rfl
theorem aO8:dE Tryz.prog 139 2=some (2,false,1):=by kernel_rfl
theorem aO9:dE Tryz.prog 139 3=some (3,false,1):=by kernel_rfl
theorem aPa:dE Tryz.prog 139 4=some (4,false,1):=by kernel_rfl
theorem aPb:dE Tryz.prog 139 5=some (5,false,1):=by kernel_rfl
theorem aPc:dE Tryz.prog 139 6=some (6,false,1):=by kernel_rfl
theorem aQx:iM Tryz.prog 81=some [.int .u8 0,.int .u8 0,.int .u8 0,.int .u8 0]:=by kernel_rfl
theorem tv5:gH Tryz.prog 5=some (false,1):=by kernel_rfl
theorem aLp:vY Tryz.prog 141=some .u32:=by kernel_rfl
theorem aQu:aA0 Tryz.prog 81=some (5,1,4,false):=by kernel_rfl
theorem aNK:gH Tryz.prog 81=some (true,4):=by kernel_rfl
theorem aNI:fT Tryz.prog 22≠7:=by rw [sD];decide
theorem aR0:Tryz.prog.eqGuardType Tryz.prog.depth 81=false:=by kernel_rfl
theorem aQQ:eqK Tryz.prog 40 81=some [1,1,1,1]:=by kernel_rfl
theorem aSq:fT Tryz.prog 89=6:=by kernel_rfl
theorem aSr:iM Tryz.prog 89=some [.slice none 0 0,.int .i64 0,.int .i64 0,.bool false]:=by kernel_rfl
theorem aSh:aAJ Tryz.prog 89=some [(0,some 1),(1,some 1),(2,some 1),(3,some 1)]:=by kernel_rfl
theorem aSm:fT Tryz.prog 89=6∧aDA Tryz.prog 89=true∧iM Tryz.prog 89=some [.slice none 0 0,.int .i64 0,.int .i64 0,.bool false]∧∀ i,lO Tryz.prog 89 i=aFs [(0,some 1),(1,some 1),(2,some 1),(3,some 1)] i:=⟨aSq,by kernel_rfl,aSr,fun i=>mF aSh i⟩
theorem aPm:fT Tryz.prog 45=5:=by kernel_rfl
theorem aNH:dE Tryz.prog 89 3=some (3,false,1):=by kernel_rfl
theorem aAX:dE Tryz.prog 89 2=some (2,false,1):=by kernel_rfl
theorem aJA:gH Tryz.prog 37=some (false,1):=by kernel_rfl
theorem aFQ:dE Tryz.prog 89 0=some (0,false,1):=by kernel_rfl
theorem aNJ:gH Tryz.prog 22=some (false,1):=by kernel_rfl
theorem yE:dE Tryz.prog 89 1=some (1,false,1):=by kernel_rfl
theorem aPH:cK.tyBytes Tryz.prog 22:=by show (match Tryz.prog.underlying 22 with | some (.slice e)=>vY Tryz.prog e=some .u8 | _=>False);rw [show Tryz.prog.underlying 22=some (.slice 5) by kernel_rfl];exact (by kernel_rfl:vY Tryz.prog 5=some .u8)
theorem aRI:fT Tryz.prog 146=6:=by kernel_rfl
theorem aRL:iM Tryz.prog 146=some [.pointer none,.int .i64 0]:=by kernel_rfl
theorem aRq:aAJ Tryz.prog 146=some [(0,some 1),(1,some 1)]:=by kernel_rfl
theorem aRF:fT Tryz.prog 146=6∧aDA Tryz.prog 146=true∧iM Tryz.prog 146=some [.pointer none,.int .i64 0]∧∀ i,lO Tryz.prog 146 i=aFs [(0,some 1),(1,some 1)] i:=⟨aRI,by kernel_rfl,aRL,fun i=>mF aRq i⟩
theorem aH5:dE Tryz.prog 146 1=some (1,false,1):=by kernel_rfl
theorem uX:dE Tryz.prog 146 0=some (0,false,1):=by kernel_rfl
theorem aGx:gH Tryz.prog 45=some (false,1):=by kernel_rfl
theorem aNN:iM Tryz.prog 154=some [.bool false,.bool false,.bool false,.bool false,.bool false,.bool false,.bool false,.bool false]:=by kernel_rfl
theorem aRJ:fT Tryz.prog 154=6:=by kernel_rfl
theorem aRr:aAJ Tryz.prog 154=some [(0,some 1),(1,some 1),(2,some 1),(3,some 1),(4,some 1),(5,some 1),(6,some 1),(7,some 1)]:=by kernel_rfl
theorem pE:fT Tryz.prog 154=6∧aDA Tryz.prog 154=true∧iM Tryz.prog 154=some [.bool false,.bool false,.bool false,.bool false,.bool false,.bool false,.bool false,.bool false]∧∀ i,lO Tryz.prog 154 i=aFs [(0,some 1),(1,some 1),(2,some 1),(3,some 1),(4,some 1),(5,some 1),(6,some 1),(7,some 1)] i:=⟨aRJ,by kernel_rfl,aNN,fun i=>mF aRr i⟩
theorem hD:gH Tryz.prog 154=some (true,8):=by kernel_rfl
theorem aLk:dE Tryz.prog 154 0=some (0,false,1):=by kernel_rfl
theorem aLl:dE Tryz.prog 154 1=some (1,false,1):=by kernel_rfl
theorem aPd:dE Tryz.prog 154 2=some (2,false,1):=by kernel_rfl
theorem aPe:dE Tryz.prog 154 3=some (3,false,1):=by kernel_rfl
theorem aPf:dE Tryz.prog 154 4=some (4,false,1):=by kernel_rfl
theorem aPg:dE Tryz.prog 154 5=some (5,false,1):=by kernel_rfl
theorem aPh:dE Tryz.prog 154 6=some (6,false,1):=by kernel_rfl
theorem aPi:dE Tryz.prog 154 7=some (7,false,1):=by kernel_rfl
theorem by5:Tryz.prog.bytesOf 5=1:=by kernel_rfl
theorem aRC:aMn Tryz.prog 22=some (5,1):=by kernel_rfl
theorem aSc:aNL Tryz.prog 30=some [3,3,3,3,3,3,3,9,9,26,28]:=by kernel_rfl
theorem aSa:aNL Tryz.prog 26=some [3,3,9,23,24]:=by kernel_rfl
theorem aRY:Tryz.prog.bytesOf 26=80:=by kernel_rfl
theorem aSk:aMn Tryz.prog 23=some (26,5):=by kernel_rfl
theorem by9:Tryz.prog.bytesOf 9=16:=by kernel_rfl
theorem aRD:aMn Tryz.prog 24=some (9,1):=by kernel_rfl
theorem aSb:aNL Tryz.prog 28=some [9,3,3,3,3,3,3,3,3,24]:=by kernel_rfl
theorem aRZ:Tryz.prog.bytesOf 30=272:=by kernel_rfl
theorem aSl:aMn Tryz.prog 32=some (30,24):=by kernel_rfl
end Go.Proofs.YtnigjppddilpcaaGreatDoor

import Derived.Test.YtnigjppddilpcaaGreatDoorProg
import Derived.Test.YtnigjppddilpcaaGreatDoorAbs29
import Derived.Test.YtnigjppddilpcaaGreatDoorLib
namespace Go.Proofs.YtnigjppddilpcaaGreatDoor
open Go Abs
set_option maxRecDepth 100000
set_option linter.unusedVariables false
set_option linter.unusedSimpArgs false
abbrev ci (n:Int):AV:=.c (.int .i64 n)
abbrev bW {b0:Bool}{b1:Bool}{b2:Bool}{b3:Bool}{b4:Bool}{b5:Bool}:List AV:=[.c (.bool b0),.c (.bool b1),.c (.bool b2),.c (.bool b3),.c (.bool b4),.c (.bool b5)]
abbrev aW {b0:Bool}{b1:Bool}{b2:Bool}{b3:Bool}{b4:Bool}{b5:Bool}{b6:Bool}:List AV:=[.c (.bool b0),.c (.bool b1),.c (.bool b2),.c (.bool b3),.c (.bool b4),.c (.bool b5),.c (.bool b6)]
abbrev oI {k0:IntKind}{n0:Int}{k1:IntKind}{n1:Int}{k2:IntKind}{n2:Int}{k3:IntKind}{n3:Int}:List AV:=[.c (.int k0 n0),.c (.int k1 n1),.c (.int k2 n2),.c (.int k3 n3)]
abbrev aH {k0:IntKind}{n0:Int}{k1:IntKind}{n1:Int}{k2:IntKind}{n2:Int}{k3:IntKind}{n3:Int}{k4:IntKind}{n4:Int}{k5:IntKind}{n5:Int}{k6:IntKind}{n6:Int}{s7:List UInt8}{s8:List UInt8}{k9:IntKind}{n9:Int}{k10:IntKind}{n10:Int}{s11:List UInt8}{α12:Type}{z12:Nat}{r12:α12→List PV}{x12:List α12}{α13:Type}{z13:Nat}{r13:α13→List PV}{x13:List α13}{s14:List UInt8}{k15:IntKind}{n15:Int}{k16:IntKind}{n16:Int}{k17:IntKind}{n17:Int}{k18:IntKind}{n18:Int}{k19:IntKind}{n19:Int}{k20:IntKind}{n20:Int}{k21:IntKind}{n21:Int}{k22:IntKind}{n22:Int}{α23:Type}{z23:Nat}{r23:α23→List PV}{x23:List α23}:List AV:=[.c (.int k0 n0),.c (.int k1 n1),.c (.int k2 n2),.c (.int k3 n3),.c (.int k4 n4),.c (.int k5 n5),.c (.int k6 n6),.c (.str s7),.c (.str s8),.c (.int k9 n9),.c (.int k10 n10),.c (.str s11),.c (PV.ls z12 r12 x12),.c (PV.ls z13 r13 x13),.c (.str s14),.c (.int k15 n15),.c (.int k16 n16),.c (.int k17 n17),.c (.int k18 n18),.c (.int k19 n19),.c (.int k20 n20),.c (.int k21 n21),.c (.int k22 n22),.c (PV.ls z23 r23 x23)]
abbrev jD {k0:IntKind}{n0:Int}{k1:IntKind}{n1:Int}{k2:IntKind}{n2:Int}{k3:IntKind}{n3:Int}{k4:IntKind}{n4:Int}{k5:IntKind}{n5:Int}{k6:IntKind}{n6:Int}{s7:List UInt8}{s8:List UInt8}{k9:IntKind}{n9:Int}{k10:IntKind}{n10:Int}{s11:List UInt8}{α12:Type}{z12:Nat}{r12:α12→List PV}{x12:List α12}{α13:Type}{z13:Nat}{r13:α13→List PV}{x13:List α13}{s14:List UInt8}{k15:IntKind}{n15:Int}{k16:IntKind}{n16:Int}{k17:IntKind}{n17:Int}{k18:IntKind}{n18:Int}{k19:IntKind}{n19:Int}{k20:IntKind}{n20:Int}{k21:IntKind}{n21:Int}{k22:IntKind}{n22:Int}  : List AV:=[.c (.int k0 n0),.c (.int k1 n1),.c (.int k2 n2),.c (.int k3 n3),.c (.int k4 n4),.c (.int k5 n5),.c (.int k6 n6),.c (.str s7),.c (.str s8),.c (.int k9 n9),.c (.int k10 n10),.c (.str s11),.c (PV.ls z12 r12 x12),.c (PV.ls z13 r13 x13),.c (.str s14),.c (.int k15 n15),.c (.int k16 n16),.c (.int k17 n17),.c (.int k18 n18),.c (.int k19 n19),.c (.int k20 n20),.c (.int k21 n21),.c (.int k22 n22),AV.nil]
abbrev aA {k0:IntKind}{n0:Int}{k1:IntKind}{n1:Int}{k2:IntKind}{n2:Int}{k3:IntKind}{n3:Int}{k4:IntKind}{n4:Int}{k5:IntKind}{n5:Int}{k6:IntKind}{n6:Int}{s7:List UInt8}{s8:List UInt8}{k9:IntKind}{n9:Int}{k10:IntKind}{n10:Int}{s11:List UInt8}   {s14:List UInt8}{k15:IntKind}{n15:Int}{k16:IntKind}{n16:Int}{k17:IntKind}{n17:Int}{k18:IntKind}{n18:Int}{k19:IntKind}{n19:Int}{k20:IntKind}{n20:Int}{k21:IntKind}{n21:Int}{k22:IntKind}{n22:Int}  : List AV:=[.c (.int k0 n0),.c (.int k1 n1),.c (.int k2 n2),.c (.int k3 n3),.c (.int k4 n4),.c (.int k5 n5),.c (.int k6 n6),.c (.str s7),.c (.str s8),.c (.int k9 n9),.c (.int k10 n10),.c (.str s11),AV.nil,AV.nil,.c (.str s14),.c (.int k15 n15),.c (.int k16 n16),.c (.int k17 n17),.c (.int k18 n18),.c (.int k19 n19),.c (.int k20 n20),.c (.int k21 n21),.c (.int k22 n22),AV.nil]
abbrev bI {k0:IntKind}{n0:Int}{k1:IntKind}{n1:Int}{s2:List UInt8}{α3:Type}{z3:Nat}{r3:α3→List PV}{x3:List α3}{α4:Type}{z4:Nat}{r4:α4→List PV}{x4:List α4}:List AV:=[.c (.int k0 n0),.c (.int k1 n1),.c (.str s2),.c (PV.ls z3 r3 x3),.c (PV.ls z4 r4 x4)]
abbrev bH {k0:IntKind}{n0:Int}{k1:IntKind}{n1:Int}{s2:List UInt8}   : List AV:=[.c (.int k0 n0),.c (.int k1 n1),.c (.str s2),AV.nil,AV.nil]
abbrev cG {k0:IntKind}{n0:Int}{k1:IntKind}{n1:Int}{s2:List UInt8}{s3:List UInt8}{k4:IntKind}{n4:Int}{k5:IntKind}{n5:Int}{k6:IntKind}{n6:Int}{s7:List UInt8}{α8:Type}{z8:Nat}{r8:α8→List PV}{x8:List α8}{α9:Type}{z9:Nat}{r9:α9→List PV}{x9:List α9}{s10:List UInt8}{k11:IntKind}{n11:Int}{k12:IntKind}{n12:Int}{k13:IntKind}{n13:Int}{k14:IntKind}{n14:Int}{k15:IntKind}{n15:Int}{k16:IntKind}{n16:Int}{k17:IntKind}{n17:Int}{k18:IntKind}{n18:Int}{α19:Type}{z19:Nat}{r19:α19→List PV}{x19:List α19}:List AV:=[.c (.int k0 n0),.c (.int k1 n1),.c (.str s2),.c (.str s3),.c (.int k4 n4),.c (.int k5 n5),.c (.int k6 n6),.c (.str s7),.c (PV.ls z8 r8 x8),.c (PV.ls z9 r9 x9),.c (.str s10),.c (.int k11 n11),.c (.int k12 n12),.c (.int k13 n13),.c (.int k14 n14),.c (.int k15 n15),.c (.int k16 n16),.c (.int k17 n17),.c (.int k18 n18),.c (PV.ls z19 r19 x19)]
abbrev iW {k0:IntKind}{n0:Int}{k1:IntKind}{n1:Int}{s2:List UInt8}{s3:List UInt8}{k4:IntKind}{n4:Int}{k5:IntKind}{n5:Int}{k6:IntKind}{n6:Int}{s7:List UInt8}   {s10:List UInt8}{k11:IntKind}{n11:Int}{k12:IntKind}{n12:Int}{k13:IntKind}{n13:Int}{k14:IntKind}{n14:Int}{k15:IntKind}{n15:Int}{k16:IntKind}{n16:Int}{k17:IntKind}{n17:Int}{k18:IntKind}{n18:Int}  : List AV:=[.c (.int k0 n0),.c (.int k1 n1),.c (.str s2),.c (.str s3),.c (.int k4 n4),.c (.int k5 n5),.c (.int k6 n6),.c (.str s7),AV.nil,AV.nil,.c (.str s10),.c (.int k11 n11),.c (.int k12 n12),.c (.int k13 n13),.c (.int k14 n14),.c (.int k15 n15),.c (.int k16 n16),.c (.int k17 n17),.c (.int k18 n18),AV.nil]
abbrev bV {α0:Type}{z0:Nat}{r0:α0→List PV}{x0:List α0}{k1:IntKind}{n1:Int}{k2:IntKind}{n2:Int}{b3:Bool}:List AV:=[.c (PV.ls z0 r0 x0),.c (.int k1 n1),.c (.int k2 n2),.c (.bool b3)]
abbrev bU {s0:List UInt8}{k1:IntKind}{n1:Int}{k2:IntKind}{n2:Int}{k3:IntKind}{n3:Int}{k4:IntKind}{n4:Int}{k5:IntKind}{n5:Int}{k6:IntKind}{n6:Int}{k7:IntKind}{n7:Int}{k8:IntKind}{n8:Int}{α9:Type}{z9:Nat}{r9:α9→List PV}{x9:List α9}:List AV:=[.c (.str s0),.c (.int k1 n1),.c (.int k2 n2),.c (.int k3 n3),.c (.int k4 n4),.c (.int k5 n5),.c (.int k6 n6),.c (.int k7 n7),.c (.int k8 n8),.c (PV.ls z9 r9 x9)]
abbrev aX {s0:List UInt8}{k1:IntKind}{n1:Int}{k2:IntKind}{n2:Int}{k3:IntKind}{n3:Int}{k4:IntKind}{n4:Int}{k5:IntKind}{n5:Int}{k6:IntKind}{n6:Int}{k7:IntKind}{n7:Int}{k8:IntKind}{n8:Int}  : List AV:=[.c (.str s0),.c (.int k1 n1),.c (.int k2 n2),.c (.int k3 n3),.c (.int k4 n4),.c (.int k5 n5),.c (.int k6 n6),.c (.int k7 n7),.c (.int k8 n8),AV.nil]
abbrev u10 {x0 x1 x2 x3 x4 x5 x6 x7 x8 x9:AV}:List AV:=[x0,x1,x2,x3,x4,x5,x6,x7,x8,x9]
abbrev u20 {x0 x1 x2 x3 x4 x5 x6 x7 x8 x9 x10 x11 x12 x13 x14 x15 x16 x17 x18 x19:AV}:List AV:=[x0,x1,x2,x3,x4,x5,x6,x7,x8,x9,x10,x11,x12,x13,x14,x15,x16,x17,x18,x19]
abbrev u24 {x0 x1 x2 x3 x4 x5 x6 x7 x8 x9 x10 x11 x12 x13 x14 x15 x16 x17 x18 x19 x20 x21 x22 x23:AV}:List AV:=[x0,x1,x2,x3,x4,x5,x6,x7,x8,x9,x10,x11,x12,x13,x14,x15,x16,x17,x18,x19,x20,x21,x22,x23]
abbrev u5 {x0 x1 x2 x3 x4:AV}:List AV:=[x0,x1,x2,x3,x4]
structure aD where
 mk ::
 Kind:Int
 Int:Int
 Text:(List UInt8)
 Items:(List aD)
 Keys:(List (List UInt8))
instance:Inhabited aD:=⟨aD.mk 0 0 [] [] []⟩
mutual
def aZ:aD→List PV
 | ⟨x0,x1,x2,x3,x4⟩=>[.int .i64 x0,.int .i64 x1,.str x2,.list 5 (oV x3),PV.ls 1 fD x4]
def oV:List aD→List (List PV)
 | []=>[]
 | x :: l=>aZ x :: oV l
end
theorem vI:∀ l,oV l=l.map aZ
 | []=>by simp [oV]
 | x :: l=>by simp [oV,vI l]
def dD (x:aD):List PV:=[.int .i64 x.Kind,.int .i64 x.Int,.str x.Text,PV.ls 5 aZ x.Items,PV.ls 1 fD x.Keys]
theorem dA (x:aD):aZ x=dD x:=by cases x;simp [aZ,dD,vI,PV.ls]
theorem aBq (x:aD):(aZ x).length=5:=by rw [dA];rfl
structure bP where
 mk ::
 Queue:(List UInt8)
 ToStart:Int
 ToClose:Int
 Total:Int
 Beat:Int
 First:Int
 Coef:Int
 Most:Int
 Attempts:Int
 Fatal:(List (List UInt8))
instance:Inhabited bP:=⟨bP.mk [] 0 0 0 0 0 0 0 0 []⟩
def gA (x:bP):List PV:=[.str x.Queue,.int .i64 x.ToStart,.int .i64 x.ToClose,.int .i64 x.Total,.int .i64 x.Beat,.int .i64 x.First,.int .i64 x.Coef,.int .i64 x.Most,.int .i64 x.Attempts,PV.ls 1 fD x.Fatal]
structure aV where
 mk ::
 ID:Int
 Kind:Int
 Time:Int
 Seq:Int
 Ref:Int
 N:Int
 Code:Int
 Name:(List UInt8)
 Key:(List UInt8)
 Data:aD
 Opts:bP
instance:Inhabited aV:=⟨aV.mk 0 0 0 0 0 0 0 [] [] default default⟩
def bZ (x:aV):List PV:=[.int .i64 x.ID,.int .i64 x.Kind,.int .i64 x.Time,.int .i64 x.Seq,.int .i64 x.Ref,.int .i64 x.N,.int .i64 x.Code,.str x.Name,.str x.Key,.int .i64 x.Data.Kind,.int .i64 x.Data.Int,.str x.Data.Text,PV.ls 5 aZ x.Data.Items,PV.ls 1 fD x.Data.Keys,.str x.Opts.Queue,.int .i64 x.Opts.ToStart,.int .i64 x.Opts.ToClose,.int .i64 x.Opts.Total,.int .i64 x.Opts.Beat,.int .i64 x.Opts.First,.int .i64 x.Opts.Coef,.int .i64 x.Opts.Most,.int .i64 x.Opts.Attempts,PV.ls 1 fD x.Opts.Fatal]
structure fL where
 mk ::
 Kind:Int
 Seq:Int
 Name:(List UInt8)
 Key:(List UInt8)
 N:Int
 Data:aD
 Opts:bP
instance:Inhabited fL:=⟨fL.mk 0 0 [] [] 0 default default⟩
def tG (x:fL):List PV:=[.int .i64 x.Kind,.int .i64 x.Seq,.str x.Name,.str x.Key,.int .i64 x.N,.int .i64 x.Data.Kind,.int .i64 x.Data.Int,.str x.Data.Text,PV.ls 5 aZ x.Data.Items,PV.ls 1 fD x.Data.Keys,.str x.Opts.Queue,.int .i64 x.Opts.ToStart,.int .i64 x.Opts.ToClose,.int .i64 x.Opts.Total,.int .i64 x.Opts.Beat,.int .i64 x.Opts.First,.int .i64 x.Opts.Coef,.int .i64 x.Opts.Most,.int .i64 x.Opts.Attempts,PV.ls 1 fD x.Opts.Fatal]
structure eN where
 mk ::
 seq_:Bool
 name_:Bool
 key_:Bool
 n_:Bool
 data_:Bool
 opts_:Bool
instance:Inhabited eN:=⟨eN.mk false false false false false false⟩
def wK (x:eN):List PV:=[.bool x.seq_,.bool x.name_,.bool x.key_,.bool x.n_,.bool x.data_,.bool x.opts_]
structure eS where
 mk ::
 seq_:Bool
 ref_:Bool
 n_:Bool
 code_:Bool
 name_:Bool
 key_:Bool
 data_:Bool
instance:Inhabited eS:=⟨eS.mk false false false false false false false⟩
def aAg (x:eS):List PV:=[.bool x.seq_,.bool x.ref_,.bool x.n_,.bool x.code_,.bool x.name_,.bool x.key_,.bool x.data_]
structure yG where
 mk ::
 E0:Int
 E1:Int
 E2:Int
 E3:Int
instance:Inhabited yG:=⟨yG.mk 0 0 0 0⟩
def aIG (x:yG):List PV:=[.int .u8 x.E0,.int .u8 x.E1,.int .u8 x.E2,.int .u8 x.E3]
structure aG where
 mk ::
 b_:(List UInt8)
 at_:Int
 err_:Int
 made_:Bool
instance:Inhabited aG:=⟨aG.mk [] 0 0 false⟩
def cN (x:aG):List PV:=[PV.ls 1 eD x.b_,.int .i64 x.at_,.int .i64 x.err_,.bool x.made_]
structure aA0 where
 mk ::
 seq_:Bool
 ref_:Bool
 n_:Bool
 code_:Bool
 name_:Bool
 key_:Bool
 data_:Bool
 opts_:Bool
instance:Inhabited aA0:=⟨aA0.mk false false false false false false false false⟩
structure aAZ where
 mk ::
 Made:Bool
 Rest:(List UInt8)
 Bad:Int
instance:Inhabited aAZ:=⟨aAZ.mk false [] 0⟩
structure aBR where
 mk ::
 Kind:Int
 Time:Int
 Workflow:(List UInt8)
 Run:(List UInt8)
 ID:(List UInt8)
 Name:(List UInt8)
 Token:Int
 Event:Int
 Seq:Int
 N:Int
 Data:aD
 Opts:bP
 Commands:(List fL)
 Parent:(List UInt8)
instance:Inhabited aBR:=⟨aBR.mk 0 0 [] [] [] [] 0 0 0 0 default default [] []⟩
structure aA1 where
 mk ::
 id_:Bool
 name_:Bool
 token_:Bool
 event_:Bool
 seq_:Bool
 n_:Bool
 data_:Bool
 commands_:Bool
 parent_:Bool
instance:Inhabited aA1:=⟨aA1.mk false false false false false false false false false⟩
structure aE2 where
 mk ::
 Err:Int
 Run:(List UInt8)
 Token:Int
 N:Int
 Data:aD
 Events:(List aV)
instance:Inhabited aE2:=⟨aE2.mk 0 [] 0 0 default []⟩
theorem yW:eR Tryz.prog 22=3:=by kernel_rfl
theorem aIQ:gK Tryz.prog 30=some [.int .i64 0,.int .i64 0,.int .i64 0,.int .i64 0,.int .i64 0,.int .i64 0,.int .i64 0,.string ByteArray.empty,.string ByteArray.empty,.int .i64 0,.int .i64 0,.string ByteArray.empty,.slice none 0 0,.slice none 0 0,.string ByteArray.empty,.int .i64 0,.int .i64 0,.int .i64 0,.int .i64 0,.int .i64 0,.int .i64 0,.int .i64 0,.int .i64 0,.slice none 0 0]:=by kernel_rfl
theorem aN9:eR Tryz.prog 30=6:=by kernel_rfl
theorem aNZ:yA Tryz.prog 30=some [(0,some 1),(1,some 1),(2,some 1),(3,some 1),(4,some 1),(5,some 1),(6,some 1),(7,some 1),(8,some 1),(9,some 5),(14,some 10)]:=by kernel_rfl
theorem aMM:eR Tryz.prog 30=6∧aBr Tryz.prog 30=true∧gK Tryz.prog 30=some [.int .i64 0,.int .i64 0,.int .i64 0,.int .i64 0,.int .i64 0,.int .i64 0,.int .i64 0,.string ByteArray.empty,.string ByteArray.empty,.int .i64 0,.int .i64 0,.string ByteArray.empty,.slice none 0 0,.slice none 0 0,.string ByteArray.empty,.int .i64 0,.int .i64 0,.int .i64 0,.int .i64 0,.int .i64 0,.int .i64 0,.int .i64 0,.int .i64 0,.slice none 0 0]∧∀ i,jO Tryz.prog 30 i=aDf [(0,some 1),(1,some 1),(2,some 1),(3,some 1),(4,some 1),(5,some 1),(6,some 1),(7,some 1),(8,some 1),(9,some 5),(14,some 10)] i:=⟨aN9,by kernel_rfl,aIQ,fun i=>kS aNZ i⟩
theorem vO:fA Tryz.prog 30=some (true,24):=by kernel_rfl
theorem aHc:fO Tryz.prog 32=some (30,24,272):=by kernel_rfl
theorem aF6:eR Tryz.prog 32=3:=by kernel_rfl
theorem tk3:sD Tryz.prog 3=some .i64:=by kernel_rfl
theorem aCR:sD Tryz.prog 131=some .u64:=by kernel_rfl
theorem tk5:sD Tryz.prog 5=some .u8:=by kernel_rfl
theorem uV:fO Tryz.prog 22=some (5,1,1):=by kernel_rfl
theorem wP:dC Tryz.prog 30 1=some (1,false,1):=by kernel_rfl
theorem fC:fA Tryz.prog 3=some (false,1):=by kernel_rfl
theorem aCO:dC Tryz.prog 30 0=some (0,false,1):=by kernel_rfl
theorem aCP:dC Tryz.prog 30 2=some (2,false,1):=by kernel_rfl
theorem uT:dC Tryz.prog 30 9=some (9,true,5):=by kernel_rfl
theorem fQ:fA Tryz.prog 26=some (true,5):=by kernel_rfl
theorem gG:dC Tryz.prog 26 3=some (3,false,1):=by kernel_rfl
theorem nR:fA Tryz.prog 23=some (false,1):=by kernel_rfl
theorem sJ:eR Tryz.prog 23=3:=by kernel_rfl
theorem sK:fO Tryz.prog 23=some (26,5,80):=by kernel_rfl
theorem aAm:gK Tryz.prog 26=some [.int .i64 0,.int .i64 0,.string ByteArray.empty,.slice none 0 0,.slice none 0 0]:=by kernel_rfl
theorem qR:dC Tryz.prog 26 2=some (2,false,1):=by kernel_rfl
theorem nV:fA Tryz.prog 9=some (false,1):=by kernel_rfl
theorem tT:eR Tryz.prog 9=2:=by kernel_rfl
theorem mR:dC Tryz.prog 26 4=some (4,false,1):=by kernel_rfl
theorem nA:fA Tryz.prog 24=some (false,1):=by kernel_rfl
theorem rZ:eR Tryz.prog 24=3:=by kernel_rfl
theorem uW:fO Tryz.prog 24=some (9,1,16):=by kernel_rfl
theorem pO:dC Tryz.prog 26 1=some (1,false,1):=by kernel_rfl
theorem jE:dC Tryz.prog 26 0=some (0,false,1):=by kernel_rfl
theorem tv4:fA Tryz.prog 4=some (false,1):=by kernel_rfl
theorem yV:dC Tryz.prog 30 3=some (3,false,1):=by kernel_rfl
theorem rX:dC Tryz.prog 30 7=some (7,false,1):=by kernel_rfl
theorem rY:dC Tryz.prog 30 8=some (8,false,1):=by kernel_rfl
theorem uS:dC Tryz.prog 30 5=some (5,false,1):=by kernel_rfl
theorem rB:dC Tryz.prog 30 10=some (14,true,10):=by kernel_rfl
theorem xQ:fA Tryz.prog 28=some (true,10):=by kernel_rfl
theorem aNw:eR Tryz.prog 103=6:=by kernel_rfl
theorem aLY:gK Tryz.prog 103=some [.int .i64 0,.int .i64 0,.string ByteArray.empty,.string ByteArray.empty,.int .i64 0,.int .i64 0,.int .i64 0,.string ByteArray.empty,.slice none 0 0,.slice none 0 0,.string ByteArray.empty,.int .i64 0,.int .i64 0,.int .i64 0,.int .i64 0,.int .i64 0,.int .i64 0,.int .i64 0,.int .i64 0,.slice none 0 0]:=by kernel_rfl
theorem aNg:yA Tryz.prog 103=some [(0,some 1),(1,some 1),(2,some 1),(3,some 1),(4,some 1),(5,some 5),(10,some 10)]:=by kernel_rfl
theorem aNt:eR Tryz.prog 103=6∧aBr Tryz.prog 103=true∧gK Tryz.prog 103=some [.int .i64 0,.int .i64 0,.string ByteArray.empty,.string ByteArray.empty,.int .i64 0,.int .i64 0,.int .i64 0,.string ByteArray.empty,.slice none 0 0,.slice none 0 0,.string ByteArray.empty,.int .i64 0,.int .i64 0,.int .i64 0,.int .i64 0,.int .i64 0,.int .i64 0,.int .i64 0,.int .i64 0,.slice none 0 0]∧∀ i,jO Tryz.prog 103 i=aDf [(0,some 1),(1,some 1),(2,some 1),(3,some 1),(4,some 1),(5,some 5),(10,some 10)] i:=⟨aNw,by kernel_rfl,aLY,fun i=>kS aNg i⟩
theorem aHT:fA Tryz.prog 103=some (true,20):=by kernel_rfl
theorem wR:dC Tryz.prog 30 6=some (6,false,1):=by kernel_rfl
theorem wQ:dC Tryz.prog 30 4=some (4,false,1):=by kernel_rfl
theorem aAk:dC Tryz.prog 103 0=some (0,false,1):=by kernel_rfl
theorem aKp:gK Tryz.prog 160=some [.bool false,.bool false,.bool false,.bool false,.bool false,.bool false]:=by kernel_rfl
theorem aNz:eR Tryz.prog 160=6:=by kernel_rfl
theorem aNj:yA Tryz.prog 160=some [(0,some 1),(1,some 1),(2,some 1),(3,some 1),(4,some 1),(5,some 1)]:=by kernel_rfl
theorem yC:eR Tryz.prog 160=6∧aBr Tryz.prog 160=true∧gK Tryz.prog 160=some [.bool false,.bool false,.bool false,.bool false,.bool false,.bool false]∧∀ i,jO Tryz.prog 160 i=aDf [(0,some 1),(1,some 1),(2,some 1),(3,some 1),(4,some 1),(5,some 1)] i:=⟨aNz,by kernel_rfl,aKp,fun i=>kS aNj i⟩
theorem nC:fA Tryz.prog 160=some (true,6):=by kernel_rfl
theorem aHQ:dC Tryz.prog 160 0=some (0,false,1):=by kernel_rfl
theorem aHL:dC Tryz.prog 103 1=some (1,false,1):=by kernel_rfl
theorem aHR:dC Tryz.prog 160 1=some (1,false,1):=by kernel_rfl
theorem aEL:dC Tryz.prog 103 2=some (2,false,1):=by kernel_rfl
theorem aHS:dC Tryz.prog 160 2=some (2,false,1):=by kernel_rfl
theorem aHM:dC Tryz.prog 103 3=some (3,false,1):=by kernel_rfl
theorem aLu:dC Tryz.prog 160 3=some (3,false,1):=by kernel_rfl
theorem xO:dC Tryz.prog 103 4=some (4,false,1):=by kernel_rfl
theorem aLv:dC Tryz.prog 160 4=some (4,false,1):=by kernel_rfl
theorem aAl:dC Tryz.prog 103 5=some (5,true,5):=by kernel_rfl
theorem aN7:eR Tryz.prog 26=6:=by kernel_rfl
theorem aNX:yA Tryz.prog 26=some [(0,some 1),(1,some 1),(2,some 1),(3,some 1),(4,some 1)]:=by kernel_rfl
theorem aDl:eR Tryz.prog 26=6∧aBr Tryz.prog 26=true∧gK Tryz.prog 26=some [.int .i64 0,.int .i64 0,.string ByteArray.empty,.slice none 0 0,.slice none 0 0]∧∀ i,jO Tryz.prog 26 i=aDf [(0,some 1),(1,some 1),(2,some 1),(3,some 1),(4,some 1)] i:=⟨aN7,by kernel_rfl,aAm,fun i=>kS aNX i⟩
theorem aLw:dC Tryz.prog 160 5=some (5,false,1):=by kernel_rfl
theorem aHN:dC Tryz.prog 103 6=some (10,true,10):=by kernel_rfl
theorem aN8:eR Tryz.prog 28=6:=by kernel_rfl
theorem aMO:gK Tryz.prog 28=some [.string ByteArray.empty,.int .i64 0,.int .i64 0,.int .i64 0,.int .i64 0,.int .i64 0,.int .i64 0,.int .i64 0,.int .i64 0,.slice none 0 0]:=by kernel_rfl
theorem aNY:yA Tryz.prog 28=some [(0,some 1),(1,some 1),(2,some 1),(3,some 1),(4,some 1),(5,some 1),(6,some 1),(7,some 1),(8,some 1),(9,some 1)]:=by kernel_rfl
theorem aML:eR Tryz.prog 28=6∧aBr Tryz.prog 28=true∧gK Tryz.prog 28=some [.string ByteArray.empty,.int .i64 0,.int .i64 0,.int .i64 0,.int .i64 0,.int .i64 0,.int .i64 0,.int .i64 0,.int .i64 0,.slice none 0 0]∧∀ i,jO Tryz.prog 28 i=aDf [(0,some 1),(1,some 1),(2,some 1),(3,some 1),(4,some 1),(5,some 1),(6,some 1),(7,some 1),(8,some 1),(9,some 1)] i:=⟨aN8,by kernel_rfl,aMO,fun i=>kS aNY i⟩
theorem aCG:dC Tryz.prog 28 1=some (1,false,1):=by kernel_rfl
theorem aCH:dC Tryz.prog 28 2=some (2,false,1):=by kernel_rfl
theorem aCI:dC Tryz.prog 28 3=some (3,false,1):=by kernel_rfl
theorem aCJ:dC Tryz.prog 28 4=some (4,false,1):=by kernel_rfl
theorem aCK:dC Tryz.prog 28 5=some (5,false,1):=by kernel_rfl
theorem aCL:dC Tryz.prog 28 6=some (6,false,1):=by kernel_rfl
theorem aCM:dC Tryz.prog 28 7=some (7,false,1):=by kernel_rfl
theorem aCN:dC Tryz.prog 28 8=some (8,false,1):=by kernel_rfl
theorem kA:fO Tryz.prog 93=some (92,1,8):=by kernel_rfl
theorem aLx:eR Tryz.prog 93=3:=by kernel_rfl
theorem kY:fA Tryz.prog 92=some (false,1):=by kernel_rfl
theorem uR:dC Tryz.prog 28 0=some (0,false,1):=by kernel_rfl
theorem mT:dC Tryz.prog 28 9=some (9,false,1):=by kernel_rfl
theorem aLz:fO Tryz.prog 76=some (3,1,8):=by kernel_rfl
theorem aNA:eR Tryz.prog 76=3:=by kernel_rfl
theorem aKo:gK Tryz.prog 139=some [.bool false,.bool false,.bool false,.bool false,.bool false,.bool false,.bool false]:=by kernel_rfl
theorem aNx:eR Tryz.prog 139=6:=by kernel_rfl
theorem aNh:yA Tryz.prog 139=some [(0,some 1),(1,some 1),(2,some 1),(3,some 1),(4,some 1),(5,some 1),(6,some 1)]:=by kernel_rfl
theorem rW:eR Tryz.prog 139=6∧aBr Tryz.prog 139=true∧gK Tryz.prog 139=some [.bool false,.bool false,.bool false,.bool false,.bool false,.bool false,.bool false]∧∀ i,jO Tryz.prog 139 i=aDf [(0,some 1),(1,some 1),(2,some 1),(3,some 1),(4,some 1),(5,some 1),(6,some 1)] i:=⟨aNx,by kernel_rfl,aKo,fun i=>kS aNh i⟩
theorem iR:fA Tryz.prog 139=some (true,7):=by kernel_rfl
theorem aHO:dC Tryz.prog 139 0=some (0,false,1):=by kernel_rfl
theorem aHP:dC Tryz.prog 139 1=some (1,false,1):=by kernel_rfl
theorem aLp:dC Tryz.prog 139 2=some (2,false,1):=by kernel_rfl
theorem aLq:dC Tryz.prog 139 3=some (3,false,1):=by kernel_rfl
theorem aLr:dC Tryz.prog 139 4=some (4,false,1):=by kernel_rfl
theorem aLs:dC Tryz.prog 139 5=some (5,false,1):=by kernel_rfl
theorem aLt:dC Tryz.prog 139 6=some (6,false,1):=by kernel_rfl
theorem aMP:gK Tryz.prog 81=some [.int .u8 0,.int .u8 0,.int .u8 0,.int .u8 0]:=by kernel_rfl
theorem tv5:fA Tryz.prog 5=some (false,1):=by kernel_rfl
theorem aLW:sD Tryz.prog 141=some .u32:=by kernel_rfl
theorem aMK:wT Tryz.prog 81=some (5,1,4,false):=by kernel_rfl
theorem aKl:fA Tryz.prog 81=some (true,4):=by kernel_rfl
theorem aKj:eR Tryz.prog 22≠7:=by rw [yW];decide
theorem aNQ:Tryz.prog.eqGuardType Tryz.prog.depth 81=false:=by kernel_rfl
theorem aM4:eqK Tryz.prog 40 81=some [1,1,1,1]:=by kernel_rfl
theorem aOa:eR Tryz.prog 89=6:=by kernel_rfl
theorem aOb:gK Tryz.prog 89=some [.slice none 0 0,.int .i64 0,.int .i64 0,.bool false]:=by kernel_rfl
theorem aN0:yA Tryz.prog 89=some [(0,some 1),(1,some 1),(2,some 1),(3,some 1)]:=by kernel_rfl
theorem aN6:eR Tryz.prog 89=6∧aBr Tryz.prog 89=true∧gK Tryz.prog 89=some [.slice none 0 0,.int .i64 0,.int .i64 0,.bool false]∧∀ i,jO Tryz.prog 89 i=aDf [(0,some 1),(1,some 1),(2,some 1),(3,some 1)] i:=⟨aOa,by kernel_rfl,aOb,fun i=>kS aN0 i⟩
theorem aMN:eR Tryz.prog 45=5:=by kernel_rfl
theorem aKi:dC Tryz.prog 89 3=some (3,false,1):=by kernel_rfl
theorem wS:dC Tryz.prog 89 2=some (2,false,1):=by kernel_rfl
theorem aF7:fA Tryz.prog 37=some (false,1):=by kernel_rfl
theorem aEN:dC Tryz.prog 89 0=some (0,false,1):=by kernel_rfl
theorem aLA:fA Tryz.prog 22=some (false,1):=by kernel_rfl
theorem uU:dC Tryz.prog 89 1=some (1,false,1):=by kernel_rfl
theorem aNv:bN.tyBytes Tryz.prog 22:=by show (match Tryz.prog.underlying 22 with | some (.slice e)=>sD Tryz.prog e=some .u8 | _=>False);rw [show Tryz.prog.underlying 22=some (.slice 5) by kernel_rfl];exact (by kernel_rfl:sD Tryz.prog 5=some .u8)
theorem aNy:eR Tryz.prog 146=6:=by kernel_rfl
theorem aNC:gK Tryz.prog 146=some [.pointer none,.int .i64 0]:=by kernel_rfl
theorem aNi:yA Tryz.prog 146=some [(0,some 1),(1,some 1)]:=by kernel_rfl
theorem aNu:eR Tryz.prog 146=6∧aBr Tryz.prog 146=true∧gK Tryz.prog 146=some [.pointer none,.int .i64 0]∧∀ i,jO Tryz.prog 146 i=aDf [(0,some 1),(1,some 1)] i:=⟨aNy,by kernel_rfl,aNC,fun i=>kS aNi i⟩
theorem aEM:dC Tryz.prog 146 1=some (1,false,1):=by kernel_rfl
theorem pW:dC Tryz.prog 146 0=some (0,false,1):=by kernel_rfl
theorem aDm:fA Tryz.prog 45=some (false,1):=by kernel_rfl
theorem aNT:aKm Tryz.prog 30=some [3,3,3,3,3,3,3,9,9,26,28]:=by kernel_rfl
theorem aNR:aKm Tryz.prog 26=some [3,3,9,23,24]:=by kernel_rfl
theorem aNM:Tryz.prog.bytesOf 26=80:=by kernel_rfl
theorem aN4:aKn Tryz.prog 23=some (26,5):=by kernel_rfl
theorem by9:Tryz.prog.bytesOf 9=16:=by kernel_rfl
theorem aNr:aKn Tryz.prog 24=some (9,1):=by kernel_rfl
theorem aNS:aKm Tryz.prog 28=some [9,3,3,3,3,3,3,3,3,24]:=by kernel_rfl
theorem aNN:Tryz.prog.bytesOf 30=272:=by kernel_rfl
theorem aN5:aKn Tryz.prog 32=some (30,24):=by kernel_rfl
end Go.Proofs.YtnigjppddilpcaaGreatDoor

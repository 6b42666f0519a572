import Derived.Test.YtnigjppddilpcaaGreatDoorProg
import Derived.Test.YtnigjppddilpcaaGreatDoorAbs29
import Derived.Test.YtnigjppddilpcaaGreatDoorLib
namespace Go.Proofs.YtnigjppddilpcaaGreatDoor
open Go Abs
set_option maxRecDepth 100000
set_option linter.unusedVariables false
set_option linter.unusedSimpArgs false
theorem bx {α β:Type}{o:Option α}{f:α→Option β}{r:β}{Q:Prop}(h:o.bind f=some r)(k:∀ x,o=some x→f x=some r→Q):Q:=by
 obtain ⟨x,a,b⟩:=eF h
 exact k x a b
abbrev aD:AV:=.box 0 0
abbrev aL8:AV:=.box 0 1
abbrev aL9:AV:=.box 0 2
abbrev aMa:AV:=.box 0 3
abbrev aMb:AV:=.box 0 4
abbrev aMc:AV:=.box 0 5
abbrev aMd:AV:=.box 0 6
abbrev aMe:AV:=.box 0 7
abbrev aMf:AV:=.box 0 8
abbrev bD:AV:=.box 1 0
abbrev dE:AV:=.box 2 0
abbrev aE2:AV:=.box 2 1
abbrev aE3:AV:=.box 2 2
abbrev aDO:AV:=.box 2 3
abbrev aDP:AV:=.box 2 4
abbrev aE4:AV:=.box 2 5
abbrev aE5:AV:=.box 2 6
abbrev aMg:AV:=.box 2 7
abbrev aMh:AV:=.box 2 8
abbrev aOX:AV:=.box 2 9
abbrev jD:AV:=.box 3 0
abbrev aOY:AV:=.box 4 0
theorem aWB {a0 a1 a2 a3 a4 a5 a6 a7 a8 a9:AV}:a0.le a0∧a1.le a1∧a2.le a2∧a3.le a3∧a4.le a4∧a5.le a5∧a6.le a6∧a7.le a7∧a8.le a8∧a9.le a9∧True:=⟨lr,lr,lr,lr,lr,lr,lr,lr,lr,lr,trivial⟩
theorem kR {a0 a1:AV}:a0.le a0∧a1.le a1∧True:=⟨lr,lr,trivial⟩
theorem nW {a0 a1 a2:AV}:a0.le a0∧a1.le a1∧a2.le a2∧True:=⟨lr,lr,lr,trivial⟩
theorem kL4 {a0 a1 a2 a3:AV}:a0.le a0∧a1.le a1∧a2.le a2∧a3.le a3∧True:=⟨lr,lr,lr,lr,trivial⟩
theorem kL5 {a0 a1 a2 a3 a4:AV}:a0.le a0∧a1.le a1∧a2.le a2∧a3.le a3∧a4.le a4∧True:=⟨lr,lr,lr,lr,lr,trivial⟩
theorem kL6 {a0 a1 a2 a3 a4 a5:AV}:a0.le a0∧a1.le a1∧a2.le a2∧a3.le a3∧a4.le a4∧a5.le a5∧True:=⟨lr,lr,lr,lr,lr,lr,trivial⟩
theorem aDf {α:Type}{a0 a1 a2 a3 a4 a5 a6 a7 a8 a9:α}:a0=a0∧a1=a1∧a2=a2∧a3=a3∧a4=a4∧a5=a5∧a6=a6∧a7=a7∧a8=a8∧a9=a9∧True:=⟨r,r,r,r,r,r,r,r,r,r,trivial⟩
theorem aMt {α:Type}{a0 a1 a2 a3 a4 a5 a6 a7 a8 a9 a10 a11 a12 a13 a14 a15 a16 a17 a18 a19:α}:a0=a0∧a1=a1∧a2=a2∧a3=a3∧a4=a4∧a5=a5∧a6=a6∧a7=a7∧a8=a8∧a9=a9∧a10=a10∧a11=a11∧a12=a12∧a13=a13∧a14=a14∧a15=a15∧a16=a16∧a17=a17∧a18=a18∧a19=a19∧True:=⟨r,r,r,r,r,r,r,r,r,r,r,r,r,r,r,r,r,r,r,r,trivial⟩
theorem aEg {α:Type}{a0 a1 a2 a3 a4 a5 a6 a7 a8 a9 a10 a11 a12 a13 a14 a15 a16 a17 a18 a19 a20 a21 a22 a23:α}:a0=a0∧a1=a1∧a2=a2∧a3=a3∧a4=a4∧a5=a5∧a6=a6∧a7=a7∧a8=a8∧a9=a9∧a10=a10∧a11=a11∧a12=a12∧a13=a13∧a14=a14∧a15=a15∧a16=a16∧a17=a17∧a18=a18∧a19=a19∧a20=a20∧a21=a21∧a22=a22∧a23=a23∧True:=⟨r,r,r,r,r,r,r,r,r,r,r,r,r,r,r,r,r,r,r,r,r,r,r,r,trivial⟩
theorem tJ {α:Type}{a0 a1 a2:α}:a0=a0∧a1=a1∧a2=a2∧True:=⟨r,r,r,trivial⟩
theorem sG {α:Type}{a0 a1 a2 a3:α}:a0=a0∧a1=a1∧a2=a2∧a3=a3∧True:=⟨r,r,r,r,trivial⟩
theorem kR5 {α:Type}{a0 a1 a2 a3 a4:α}:a0=a0∧a1=a1∧a2=a2∧a3=a3∧a4=a4∧True:=⟨r,r,r,r,r,trivial⟩
theorem kR6 {α:Type}{a0 a1 a2 a3 a4 a5:α}:a0=a0∧a1=a1∧a2=a2∧a3=a3∧a4=a4∧a5=a5∧True:=⟨r,r,r,r,r,r,trivial⟩
theorem kR7 {α:Type}{a0 a1 a2 a3 a4 a5 a6:α}:a0=a0∧a1=a1∧a2=a2∧a3=a3∧a4=a4∧a5=a5∧a6=a6∧True:=⟨r,r,r,r,r,r,r,trivial⟩
theorem kR8 {α:Type}{a0 a1 a2 a3 a4 a5 a6 a7:α}:a0=a0∧a1=a1∧a2=a2∧a3=a3∧a4=a4∧a5=a5∧a6=a6∧a7=a7∧True:=⟨r,r,r,r,r,r,r,r,trivial⟩
abbrev ci (n:Int):AV:=.c (.int .i64 n)
abbrev eP {b0:Bool}{b1:Bool}{b2:Bool}{b3:Bool}{b4:Bool}{b5:Bool}:List AV:=[.c (.bool b0),.c (.bool b1),.c (.bool b2),.c (.bool b3),.c (.bool b4),.c (.bool b5)]
abbrev cW {b0:Bool}{b1:Bool}{b2:Bool}{b3:Bool}{b4:Bool}{b5:Bool}{b6:Bool}:List AV:=[.c (.bool b0),.c (.bool b1),.c (.bool b2),.c (.bool b3),.c (.bool b4),.c (.bool b5),.c (.bool b6)]
abbrev bF {b0:Bool}{b1:Bool}{b2:Bool}{b3:Bool}{b4:Bool}{b5:Bool}{b6:Bool}{b7:Bool}:List AV:=[.c (.bool b0),.c (.bool b1),.c (.bool b2),.c (.bool b3),.c (.bool b4),.c (.bool b5),.c (.bool b6),.c (.bool b7)]
abbrev iG {b0:Bool}{α1:Type}{z1:Nat}{r1:α1→List PV}{x1:List α1}{k2:IntKind}{n2:Int}:List AV:=[.c (.bool b0),.c (PV.ls z1 r1 x1),.c (.int k2 n2)]
abbrev aWl {b0:Bool}  {k2:IntKind}{n2:Int}:List AV:=[.c (.bool b0),AV.nil,.c (.int k2 n2)]
abbrev aAb {k0:IntKind}{n0:Int}{k1:IntKind}{n1:Int}{k2:IntKind}{n2:Int}{k3:IntKind}{n3:Int}:List AV:=[.c (.int k0 n0),.c (.int k1 n1),.c (.int k2 n2),.c (.int k3 n3)]
abbrev aG {k0:IntKind}{n0:Int}{k1:IntKind}{n1:Int}{k2:IntKind}{n2:Int}{k3:IntKind}{n3:Int}{k4:IntKind}{n4:Int}{k5:IntKind}{n5:Int}{k6:IntKind}{n6:Int}{s7:List UInt8}{s8:List UInt8}{k9:IntKind}{n9:Int}{k10:IntKind}{n10:Int}{s11:List UInt8}{α12:Type}{z12:Nat}{r12:α12→List PV}{x12:List α12}{α13:Type}{z13:Nat}{r13:α13→List PV}{x13:List α13}{s14:List UInt8}{k15:IntKind}{n15:Int}{k16:IntKind}{n16:Int}{k17:IntKind}{n17:Int}{k18:IntKind}{n18:Int}{k19:IntKind}{n19:Int}{k20:IntKind}{n20:Int}{k21:IntKind}{n21:Int}{k22:IntKind}{n22:Int}{α23:Type}{z23:Nat}{r23:α23→List PV}{x23:List α23}:List AV:=[.c (.int k0 n0),.c (.int k1 n1),.c (.int k2 n2),.c (.int k3 n3),.c (.int k4 n4),.c (.int k5 n5),.c (.int k6 n6),.c (.str s7),.c (.str s8),.c (.int k9 n9),.c (.int k10 n10),.c (.str s11),.c (PV.ls z12 r12 x12),.c (PV.ls z13 r13 x13),.c (.str s14),.c (.int k15 n15),.c (.int k16 n16),.c (.int k17 n17),.c (.int k18 n18),.c (.int k19 n19),.c (.int k20 n20),.c (.int k21 n21),.c (.int k22 n22),.c (PV.ls z23 r23 x23)]
abbrev lZ {k0:IntKind}{n0:Int}{k1:IntKind}{n1:Int}{k2:IntKind}{n2:Int}{k3:IntKind}{n3:Int}{k4:IntKind}{n4:Int}{k5:IntKind}{n5:Int}{k6:IntKind}{n6:Int}{s7:List UInt8}{s8:List UInt8}{k9:IntKind}{n9:Int}{k10:IntKind}{n10:Int}{s11:List UInt8}{α12:Type}{z12:Nat}{r12:α12→List PV}{x12:List α12}{α13:Type}{z13:Nat}{r13:α13→List PV}{x13:List α13}{s14:List UInt8}{k15:IntKind}{n15:Int}{k16:IntKind}{n16:Int}{k17:IntKind}{n17:Int}{k18:IntKind}{n18:Int}{k19:IntKind}{n19:Int}{k20:IntKind}{n20:Int}{k21:IntKind}{n21:Int}{k22:IntKind}{n22:Int}  : List AV:=[.c (.int k0 n0),.c (.int k1 n1),.c (.int k2 n2),.c (.int k3 n3),.c (.int k4 n4),.c (.int k5 n5),.c (.int k6 n6),.c (.str s7),.c (.str s8),.c (.int k9 n9),.c (.int k10 n10),.c (.str s11),.c (PV.ls z12 r12 x12),.c (PV.ls z13 r13 x13),.c (.str s14),.c (.int k15 n15),.c (.int k16 n16),.c (.int k17 n17),.c (.int k18 n18),.c (.int k19 n19),.c (.int k20 n20),.c (.int k21 n21),.c (.int k22 n22),AV.nil]
abbrev aE {k0:IntKind}{n0:Int}{k1:IntKind}{n1:Int}{k2:IntKind}{n2:Int}{k3:IntKind}{n3:Int}{k4:IntKind}{n4:Int}{k5:IntKind}{n5:Int}{k6:IntKind}{n6:Int}{s7:List UInt8}{s8:List UInt8}{k9:IntKind}{n9:Int}{k10:IntKind}{n10:Int}{s11:List UInt8}   {s14:List UInt8}{k15:IntKind}{n15:Int}{k16:IntKind}{n16:Int}{k17:IntKind}{n17:Int}{k18:IntKind}{n18:Int}{k19:IntKind}{n19:Int}{k20:IntKind}{n20:Int}{k21:IntKind}{n21:Int}{k22:IntKind}{n22:Int}  : List AV:=[.c (.int k0 n0),.c (.int k1 n1),.c (.int k2 n2),.c (.int k3 n3),.c (.int k4 n4),.c (.int k5 n5),.c (.int k6 n6),.c (.str s7),.c (.str s8),.c (.int k9 n9),.c (.int k10 n10),.c (.str s11),AV.nil,AV.nil,.c (.str s14),.c (.int k15 n15),.c (.int k16 n16),.c (.int k17 n17),.c (.int k18 n18),.c (.int k19 n19),.c (.int k20 n20),.c (.int k21 n21),.c (.int k22 n22),AV.nil]
abbrev cJ {k0:IntKind}{n0:Int}{k1:IntKind}{n1:Int}{s2:List UInt8}{α3:Type}{z3:Nat}{r3:α3→List PV}{x3:List α3}{α4:Type}{z4:Nat}{r4:α4→List PV}{x4:List α4}:List AV:=[.c (.int k0 n0),.c (.int k1 n1),.c (.str s2),.c (PV.ls z3 r3 x3),.c (PV.ls z4 r4 x4)]
abbrev bY {k0:IntKind}{n0:Int}{k1:IntKind}{n1:Int}{s2:List UInt8}   : List AV:=[.c (.int k0 n0),.c (.int k1 n1),.c (.str s2),AV.nil,AV.nil]
abbrev bL {k0:IntKind}{n0:Int}{k1:IntKind}{n1:Int}{s2:List UInt8}{s3:List UInt8}{k4:IntKind}{n4:Int}{k5:IntKind}{n5:Int}{k6:IntKind}{n6:Int}{s7:List UInt8}{α8:Type}{z8:Nat}{r8:α8→List PV}{x8:List α8}{α9:Type}{z9:Nat}{r9:α9→List PV}{x9:List α9}{s10:List UInt8}{k11:IntKind}{n11:Int}{k12:IntKind}{n12:Int}{k13:IntKind}{n13:Int}{k14:IntKind}{n14:Int}{k15:IntKind}{n15:Int}{k16:IntKind}{n16:Int}{k17:IntKind}{n17:Int}{k18:IntKind}{n18:Int}{α19:Type}{z19:Nat}{r19:α19→List PV}{x19:List α19}:List AV:=[.c (.int k0 n0),.c (.int k1 n1),.c (.str s2),.c (.str s3),.c (.int k4 n4),.c (.int k5 n5),.c (.int k6 n6),.c (.str s7),.c (PV.ls z8 r8 x8),.c (PV.ls z9 r9 x9),.c (.str s10),.c (.int k11 n11),.c (.int k12 n12),.c (.int k13 n13),.c (.int k14 n14),.c (.int k15 n15),.c (.int k16 n16),.c (.int k17 n17),.c (.int k18 n18),.c (PV.ls z19 r19 x19)]
abbrev lF {k0:IntKind}{n0:Int}{k1:IntKind}{n1:Int}{s2:List UInt8}{s3:List UInt8}{k4:IntKind}{n4:Int}{k5:IntKind}{n5:Int}{k6:IntKind}{n6:Int}{s7:List UInt8}{α8:Type}{z8:Nat}{r8:α8→List PV}{x8:List α8}{α9:Type}{z9:Nat}{r9:α9→List PV}{x9:List α9}{s10:List UInt8}{k11:IntKind}{n11:Int}{k12:IntKind}{n12:Int}{k13:IntKind}{n13:Int}{k14:IntKind}{n14:Int}{k15:IntKind}{n15:Int}{k16:IntKind}{n16:Int}{k17:IntKind}{n17:Int}{k18:IntKind}{n18:Int}  : List AV:=[.c (.int k0 n0),.c (.int k1 n1),.c (.str s2),.c (.str s3),.c (.int k4 n4),.c (.int k5 n5),.c (.int k6 n6),.c (.str s7),.c (PV.ls z8 r8 x8),.c (PV.ls z9 r9 x9),.c (.str s10),.c (.int k11 n11),.c (.int k12 n12),.c (.int k13 n13),.c (.int k14 n14),.c (.int k15 n15),.c (.int k16 n16),.c (.int k17 n17),.c (.int k18 n18),AV.nil]
abbrev aD0 {k0:IntKind}{n0:Int}{k1:IntKind}{n1:Int}{s2:List UInt8}{s3:List UInt8}{k4:IntKind}{n4:Int}{k5:IntKind}{n5:Int}{k6:IntKind}{n6:Int}{s7:List UInt8}   {s10:List UInt8}{k11:IntKind}{n11:Int}{k12:IntKind}{n12:Int}{k13:IntKind}{n13:Int}{k14:IntKind}{n14:Int}{k15:IntKind}{n15:Int}{k16:IntKind}{n16:Int}{k17:IntKind}{n17:Int}{k18:IntKind}{n18:Int}{α19:Type}{z19:Nat}{r19:α19→List PV}{x19:List α19}:List AV:=[.c (.int k0 n0),.c (.int k1 n1),.c (.str s2),.c (.str s3),.c (.int k4 n4),.c (.int k5 n5),.c (.int k6 n6),.c (.str s7),AV.nil,AV.nil,.c (.str s10),.c (.int k11 n11),.c (.int k12 n12),.c (.int k13 n13),.c (.int k14 n14),.c (.int k15 n15),.c (.int k16 n16),.c (.int k17 n17),.c (.int k18 n18),.c (PV.ls z19 r19 x19)]
abbrev eV {k0:IntKind}{n0:Int}{k1:IntKind}{n1:Int}{s2:List UInt8}{s3:List UInt8}{k4:IntKind}{n4:Int}{k5:IntKind}{n5:Int}{k6:IntKind}{n6:Int}{s7:List UInt8}   {s10:List UInt8}{k11:IntKind}{n11:Int}{k12:IntKind}{n12:Int}{k13:IntKind}{n13:Int}{k14:IntKind}{n14:Int}{k15:IntKind}{n15:Int}{k16:IntKind}{n16:Int}{k17:IntKind}{n17:Int}{k18:IntKind}{n18:Int}  : List AV:=[.c (.int k0 n0),.c (.int k1 n1),.c (.str s2),.c (.str s3),.c (.int k4 n4),.c (.int k5 n5),.c (.int k6 n6),.c (.str s7),AV.nil,AV.nil,.c (.str s10),.c (.int k11 n11),.c (.int k12 n12),.c (.int k13 n13),.c (.int k14 n14),.c (.int k15 n15),.c (.int k16 n16),.c (.int k17 n17),.c (.int k18 n18),AV.nil]
abbrev eG {α0:Type}{z0:Nat}{r0:α0→List PV}{x0:List α0}{k1:IntKind}{n1:Int}{k2:IntKind}{n2:Int}{b3:Bool}:List AV:=[.c (PV.ls z0 r0 x0),.c (.int k1 n1),.c (.int k2 n2),.c (.bool b3)]
abbrev dO {s0:List UInt8}{k1:IntKind}{n1:Int}{k2:IntKind}{n2:Int}{k3:IntKind}{n3:Int}{k4:IntKind}{n4:Int}{k5:IntKind}{n5:Int}{k6:IntKind}{n6:Int}{k7:IntKind}{n7:Int}{k8:IntKind}{n8:Int}{α9:Type}{z9:Nat}{r9:α9→List PV}{x9:List α9}:List AV:=[.c (.str s0),.c (.int k1 n1),.c (.int k2 n2),.c (.int k3 n3),.c (.int k4 n4),.c (.int k5 n5),.c (.int k6 n6),.c (.int k7 n7),.c (.int k8 n8),.c (PV.ls z9 r9 x9)]
abbrev bB {s0:List UInt8}{k1:IntKind}{n1:Int}{k2:IntKind}{n2:Int}{k3:IntKind}{n3:Int}{k4:IntKind}{n4:Int}{k5:IntKind}{n5:Int}{k6:IntKind}{n6:Int}{k7:IntKind}{n7:Int}{k8:IntKind}{n8:Int}  : List AV:=[.c (.str s0),.c (.int k1 n1),.c (.int k2 n2),.c (.int k3 n3),.c (.int k4 n4),.c (.int k5 n5),.c (.int k6 n6),.c (.int k7 n7),.c (.int k8 n8),AV.nil]
abbrev u10 {x0 x1 x2 x3 x4 x5 x6 x7 x8 x9:AV}:List AV:=[x0,x1,x2,x3,x4,x5,x6,x7,x8,x9]
abbrev u20 {x0 x1 x2 x3 x4 x5 x6 x7 x8 x9 x10 x11 x12 x13 x14 x15 x16 x17 x18 x19:AV}:List AV:=[x0,x1,x2,x3,x4,x5,x6,x7,x8,x9,x10,x11,x12,x13,x14,x15,x16,x17,x18,x19]
abbrev u24 {x0 x1 x2 x3 x4 x5 x6 x7 x8 x9 x10 x11 x12 x13 x14 x15 x16 x17 x18 x19 x20 x21 x22 x23:AV}:List AV:=[x0,x1,x2,x3,x4,x5,x6,x7,x8,x9,x10,x11,x12,x13,x14,x15,x16,x17,x18,x19,x20,x21,x22,x23]
abbrev u5 {x0 x1 x2 x3 x4:AV}:List AV:=[x0,x1,x2,x3,x4]
structure aF where
 mk ::
 Kind:Int
 Int:Int
 Text:(List UInt8)
 Items:(List aF)
 Keys:(List (List UInt8))
instance:Inhabited aF:=⟨aF.mk 0 0 [] [] []⟩
mutual
def cF:aF→List PV
 | ⟨x0,x1,x2,x3,x4⟩=>[.int .i64 x0,.int .i64 x1,.str x2,.list 5 (aAA x3),PV.ls 1 iF x4]
def aAA:List aF→List (List PV)
 | []=>[]
 | x :: l=>cF x :: aAA l
end
theorem aDV:∀ l,aAA l=l.map cF
 | []=>by simp [aAA]
 | x :: l=>by simp [aAA,aDV l]
def eR (x:aF):List PV:=[.int .i64 x.Kind,.int .i64 x.Int,.str x.Text,PV.ls 5 cF x.Items,PV.ls 1 iF x.Keys]
theorem dZ (x:aF):cF x=eR x:=by cases x;simp [cF,eR,aDV,PV.ls]
theorem aDU (x:aF):(cF x).length=5:=by rw [dZ];rfl
structure bV where
 mk ::
 Queue:(List UInt8)
 ToStart:Int
 ToClose:Int
 Total:Int
 Beat:Int
 First:Int
 Coef:Int
 Most:Int
 Attempts:Int
 Fatal:(List (List UInt8))
instance:Inhabited bV:=⟨bV.mk [] 0 0 0 0 0 0 0 0 []⟩
def mU (x:bV):List PV:=[.str x.Queue,.int .i64 x.ToStart,.int .i64 x.ToClose,.int .i64 x.Total,.int .i64 x.Beat,.int .i64 x.First,.int .i64 x.Coef,.int .i64 x.Most,.int .i64 x.Attempts,PV.ls 1 iF x.Fatal]
structure bW where
 mk ::
 ID:Int
 Kind:Int
 Time:Int
 Seq:Int
 Ref:Int
 N:Int
 Code:Int
 Name:(List UInt8)
 Key:(List UInt8)
 Data:aF
 Opts:bV
instance:Inhabited bW:=⟨bW.mk 0 0 0 0 0 0 0 [] [] default default⟩
def eM (x:bW):List PV:=[.int .i64 x.ID,.int .i64 x.Kind,.int .i64 x.Time,.int .i64 x.Seq,.int .i64 x.Ref,.int .i64 x.N,.int .i64 x.Code,.str x.Name,.str x.Key,.int .i64 x.Data.Kind,.int .i64 x.Data.Int,.str x.Data.Text,PV.ls 5 cF x.Data.Items,PV.ls 1 iF x.Data.Keys,.str x.Opts.Queue,.int .i64 x.Opts.ToStart,.int .i64 x.Opts.ToClose,.int .i64 x.Opts.Total,.int .i64 x.Opts.Beat,.int .i64 x.Opts.First,.int .i64 x.Opts.Coef,.int .i64 x.Opts.Most,.int .i64 x.Opts.Attempts,PV.ls 1 iF x.Opts.Fatal]
structure fG where
 mk ::
 Kind:Int
 Seq:Int
 Name:(List UInt8)
 Key:(List UInt8)
 N:Int
 Data:aF
 Opts:bV
instance:Inhabited fG:=⟨fG.mk 0 0 [] [] 0 default default⟩
def qE (x:fG):List PV:=[.int .i64 x.Kind,.int .i64 x.Seq,.str x.Name,.str x.Key,.int .i64 x.N,.int .i64 x.Data.Kind,.int .i64 x.Data.Int,.str x.Data.Text,PV.ls 5 cF x.Data.Items,PV.ls 1 iF x.Data.Keys,.str x.Opts.Queue,.int .i64 x.Opts.ToStart,.int .i64 x.Opts.ToClose,.int .i64 x.Opts.Total,.int .i64 x.Opts.Beat,.int .i64 x.Opts.First,.int .i64 x.Opts.Coef,.int .i64 x.Opts.Most,.int .i64 x.Opts.Attempts,PV.ls 1 iF x.Opts.Fatal]
structure kK where
 mk ::
 seq_:Bool
 name_:Bool
 key_:Bool
 n_:Bool
 data_:Bool
 opts_:Bool
instance:Inhabited kK:=⟨kK.mk false false false false false false⟩
def aEo (x:kK):List PV:=[.bool x.seq_,.bool x.name_,.bool x.key_,.bool x.n_,.bool x.data_,.bool x.opts_]
structure kQ where
 mk ::
 seq_:Bool
 ref_:Bool
 n_:Bool
 code_:Bool
 name_:Bool
 key_:Bool
 data_:Bool
instance:Inhabited kQ:=⟨kQ.mk false false false false false false false⟩
def aGl (x:kQ):List PV:=[.bool x.seq_,.bool x.ref_,.bool x.n_,.bool x.code_,.bool x.name_,.bool x.key_,.bool x.data_]
structure aFi where
 mk ::
 E0:Int
 E1:Int
 E2:Int
 E3:Int
instance:Inhabited aFi:=⟨aFi.mk 0 0 0 0⟩
def aQo (x:aFi):List PV:=[.int .u8 x.E0,.int .u8 x.E1,.int .u8 x.E2,.int .u8 x.E3]
structure aM where
 mk ::
 b_:(List UInt8)
 at_:Int
 err_:Int
 made_:Bool
instance:Inhabited aM:=⟨aM.mk [] 0 0 false⟩
def fL (x:aM):List PV:=[PV.ls 1 gW x.b_,.int .i64 x.at_,.int .i64 x.err_,.bool x.made_]
structure gQ where
 mk ::
 seq_:Bool
 ref_:Bool
 n_:Bool
 code_:Bool
 name_:Bool
 key_:Bool
 data_:Bool
 opts_:Bool
instance:Inhabited gQ:=⟨gQ.mk false false false false false false false false⟩
def aJf (x:gQ):List PV:=[.bool x.seq_,.bool x.ref_,.bool x.n_,.bool x.code_,.bool x.name_,.bool x.key_,.bool x.data_,.bool x.opts_]
structure aV where
 mk ::
 Made:Bool
 Rest:(List UInt8)
 Bad:Int
instance:Inhabited aV:=⟨aV.mk false [] 0⟩
def eB (x:aV):List PV:=[.bool x.Made,PV.ls 1 gW x.Rest,.int .i64 x.Bad]
structure aIh where
 mk ::
 Kind:Int
 Time:Int
 Workflow:(List UInt8)
 Run:(List UInt8)
 ID:(List UInt8)
 Name:(List UInt8)
 Token:Int
 Event:Int
 Seq:Int
 N:Int
 Data:aF
 Opts:bV
 Commands:(List fG)
 Parent:(List UInt8)
instance:Inhabited aIh:=⟨aIh.mk 0 0 [] [] [] [] 0 0 0 0 default default [] []⟩
structure aHc where
 mk ::
 id_:Bool
 name_:Bool
 token_:Bool
 event_:Bool
 seq_:Bool
 n_:Bool
 data_:Bool
 commands_:Bool
 parent_:Bool
instance:Inhabited aHc:=⟨aHc.mk false false false false false false false false false⟩
structure aLS where
 mk ::
 Err:Int
 Run:(List UInt8)
 Token:Int
 N:Int
 Data:aF
 Events:(List bW)
instance:Inhabited aLS:=⟨aLS.mk 0 [] 0 0 default []⟩
theorem aAM:kH Tryz.prog 22=3:=by kernel_rfl
theorem aLE:nE Tryz.prog 30=some [.int .i64 0,.int .i64 0,.int .i64 0,.int .i64 0,.int .i64 0,.int .i64 0,.int .i64 0,.string ByteArray.empty,.string ByteArray.empty,.int .i64 0,.int .i64 0,.string ByteArray.empty,.slice none 0 0,.slice none 0 0,.string ByteArray.empty,.int .i64 0,.int .i64 0,.int .i64 0,.int .i64 0,.int .i64 0,.int .i64 0,.int .i64 0,.int .i64 0,.slice none 0 0]:=by kernel_rfl
theorem aWO:kH Tryz.prog 30=6:=by kernel_rfl
theorem aWE:aCR Tryz.prog 30=some [(0,some 1),(1,some 1),(2,some 1),(3,some 1),(4,some 1),(5,some 1),(6,some 1),(7,some 1),(8,some 1),(9,some 5),(14,some 10)]:=by kernel_rfl
theorem aQx:kH Tryz.prog 30=6∧aFI Tryz.prog 30=true∧nE Tryz.prog 30=some [.int .i64 0,.int .i64 0,.int .i64 0,.int .i64 0,.int .i64 0,.int .i64 0,.int .i64 0,.string ByteArray.empty,.string ByteArray.empty,.int .i64 0,.int .i64 0,.string ByteArray.empty,.slice none 0 0,.slice none 0 0,.string ByteArray.empty,.int .i64 0,.int .i64 0,.int .i64 0,.int .i64 0,.int .i64 0,.int .i64 0,.int .i64 0,.int .i64 0,.slice none 0 0]∧∀ i,qZ Tryz.prog 30 i=aGX [(0,some 1),(1,some 1),(2,some 1),(3,some 1),(4,some 1),(5,some 1),(6,some 1),(7,some 1),(8,some 1),(9,some 5),(14,some 10)] i:=⟨aWO,by kernel_rfl,aLE,fun i=>qQ aWE i⟩
theorem zJ:lM Tryz.prog 30=some (true,24):=by kernel_rfl
theorem aJ1:mK Tryz.prog 32=some (30,24,272):=by kernel_rfl
theorem aLC:kH Tryz.prog 32=3:=by kernel_rfl
theorem tk3:aCa Tryz.prog 3=some .i64:=by kernel_rfl
theorem aGr:aCa Tryz.prog 131=some .u64:=by kernel_rfl
theorem tk5:aCa Tryz.prog 5=some .u8:=by kernel_rfl
theorem yW:mK Tryz.prog 22=some (5,1,1):=by kernel_rfl
theorem aAU:fJ Tryz.prog 30 1=some (1,false,1):=by kernel_rfl
theorem hU:lM Tryz.prog 3=some (false,1):=by kernel_rfl
theorem aG5:fJ Tryz.prog 30 0=some (0,false,1):=by kernel_rfl
theorem aG6:fJ Tryz.prog 30 2=some (2,false,1):=by kernel_rfl
theorem aAV:fJ Tryz.prog 30 9=some (9,true,5):=by kernel_rfl
theorem jC:lM Tryz.prog 26=some (true,5):=by kernel_rfl
theorem iB:fJ Tryz.prog 26 3=some (3,false,1):=by kernel_rfl
theorem nS:lM Tryz.prog 23=some (false,1):=by kernel_rfl
theorem vL:kH Tryz.prog 23=3:=by kernel_rfl
theorem uF:mK Tryz.prog 23=some (26,5,80):=by kernel_rfl
theorem aDE:nE Tryz.prog 26=some [.int .i64 0,.int .i64 0,.string ByteArray.empty,.slice none 0 0,.slice none 0 0]:=by kernel_rfl
theorem uA:fJ Tryz.prog 26 2=some (2,false,1):=by kernel_rfl
theorem rZ:lM Tryz.prog 9=some (false,1):=by kernel_rfl
theorem zZ:kH Tryz.prog 9=2:=by kernel_rfl
theorem oI:fJ Tryz.prog 26 4=some (4,false,1):=by kernel_rfl
theorem qP:lM Tryz.prog 24=some (false,1):=by kernel_rfl
theorem yV:kH Tryz.prog 24=3:=by kernel_rfl
theorem aAW:mK Tryz.prog 24=some (9,1,16):=by kernel_rfl
theorem rO:fJ Tryz.prog 26 1=some (1,false,1):=by kernel_rfl
theorem mE:fJ Tryz.prog 26 0=some (0,false,1):=by kernel_rfl
theorem tv4:lM Tryz.prog 4=some (false,1):=by kernel_rfl
theorem aCA:fJ Tryz.prog 30 3=some (3,false,1):=by kernel_rfl
theorem xP:fJ Tryz.prog 30 7=some (7,false,1):=by kernel_rfl
theorem xQ:fJ Tryz.prog 30 8=some (8,false,1):=by kernel_rfl
theorem aAC:fJ Tryz.prog 30 5=some (5,false,1):=by kernel_rfl
theorem aBG:fJ Tryz.prog 30 10=some (14,true,10):=by kernel_rfl
theorem zW:lM Tryz.prog 28=some (true,10):=by kernel_rfl
theorem aV0:kH Tryz.prog 103=6:=by kernel_rfl
theorem aPv:nE Tryz.prog 103=some [.int .i64 0,.int .i64 0,.string ByteArray.empty,.string ByteArray.empty,.int .i64 0,.int .i64 0,.int .i64 0,.string ByteArray.empty,.slice none 0 0,.slice none 0 0,.string ByteArray.empty,.int .i64 0,.int .i64 0,.int .i64 0,.int .i64 0,.int .i64 0,.int .i64 0,.int .i64 0,.int .i64 0,.slice none 0 0]:=by kernel_rfl
theorem aVI:aCR Tryz.prog 103=some [(0,some 1),(1,some 1),(2,some 1),(3,some 1),(4,some 1),(5,some 5),(10,some 10)]:=by kernel_rfl
theorem aRR:kH Tryz.prog 103=6∧aFI Tryz.prog 103=true∧nE Tryz.prog 103=some [.int .i64 0,.int .i64 0,.string ByteArray.empty,.string ByteArray.empty,.int .i64 0,.int .i64 0,.int .i64 0,.string ByteArray.empty,.slice none 0 0,.slice none 0 0,.string ByteArray.empty,.int .i64 0,.int .i64 0,.int .i64 0,.int .i64 0,.int .i64 0,.int .i64 0,.int .i64 0,.int .i64 0,.slice none 0 0]∧∀ i,qZ Tryz.prog 103 i=aGX [(0,some 1),(1,some 1),(2,some 1),(3,some 1),(4,some 1),(5,some 5),(10,some 10)] i:=⟨aV0,by kernel_rfl,aPv,fun i=>qQ aVI i⟩
theorem aC1:lM Tryz.prog 103=some (true,20):=by kernel_rfl
theorem aB7:fJ Tryz.prog 30 6=some (6,false,1):=by kernel_rfl
theorem aCB:fJ Tryz.prog 30 4=some (4,false,1):=by kernel_rfl
theorem uM:fJ Tryz.prog 103 0=some (0,false,1):=by kernel_rfl
theorem aRZ:nE Tryz.prog 160=some [.bool false,.bool false,.bool false,.bool false,.bool false,.bool false]:=by kernel_rfl
theorem aV5:kH Tryz.prog 160=6:=by kernel_rfl
theorem aVN:aCR Tryz.prog 160=some [(0,some 1),(1,some 1),(2,some 1),(3,some 1),(4,some 1),(5,some 1)]:=by kernel_rfl
theorem aFe:kH Tryz.prog 160=6∧aFI Tryz.prog 160=true∧nE Tryz.prog 160=some [.bool false,.bool false,.bool false,.bool false,.bool false,.bool false]∧∀ i,qZ Tryz.prog 160 i=aGX [(0,some 1),(1,some 1),(2,some 1),(3,some 1),(4,some 1),(5,some 1)] i:=⟨aV5,by kernel_rfl,aRZ,fun i=>qQ aVN i⟩
theorem yE:lM Tryz.prog 160=some (true,6):=by kernel_rfl
theorem aPp:fJ Tryz.prog 160 0=some (0,false,1):=by kernel_rfl
theorem aER:fJ Tryz.prog 103 1=some (1,false,1):=by kernel_rfl
theorem aPq:fJ Tryz.prog 160 1=some (1,false,1):=by kernel_rfl
theorem aCs:fJ Tryz.prog 103 2=some (2,false,1):=by kernel_rfl
theorem aPr:fJ Tryz.prog 160 2=some (2,false,1):=by kernel_rfl
theorem aES:fJ Tryz.prog 103 3=some (3,false,1):=by kernel_rfl
theorem aTq:fJ Tryz.prog 160 3=some (3,false,1):=by kernel_rfl
theorem wW:fJ Tryz.prog 103 4=some (4,false,1):=by kernel_rfl
theorem aTr:fJ Tryz.prog 160 4=some (4,false,1):=by kernel_rfl
theorem zD:fJ Tryz.prog 103 5=some (5,true,5):=by kernel_rfl
theorem aWM:kH Tryz.prog 26=6:=by kernel_rfl
theorem aWC:aCR Tryz.prog 26=some [(0,some 1),(1,some 1),(2,some 1),(3,some 1),(4,some 1)]:=by kernel_rfl
theorem aGq:kH Tryz.prog 26=6∧aFI Tryz.prog 26=true∧nE Tryz.prog 26=some [.int .i64 0,.int .i64 0,.string ByteArray.empty,.slice none 0 0,.slice none 0 0]∧∀ i,qZ Tryz.prog 26 i=aGX [(0,some 1),(1,some 1),(2,some 1),(3,some 1),(4,some 1)] i:=⟨aWM,by kernel_rfl,aDE,fun i=>qQ aWC i⟩
theorem aTs:fJ Tryz.prog 160 5=some (5,false,1):=by kernel_rfl
theorem aET:fJ Tryz.prog 103 6=some (10,true,10):=by kernel_rfl
theorem aWN:kH Tryz.prog 28=6:=by kernel_rfl
theorem aR0:nE Tryz.prog 28=some [.string ByteArray.empty,.int .i64 0,.int .i64 0,.int .i64 0,.int .i64 0,.int .i64 0,.int .i64 0,.int .i64 0,.int .i64 0,.slice none 0 0]:=by kernel_rfl
theorem aWD:aCR Tryz.prog 28=some [(0,some 1),(1,some 1),(2,some 1),(3,some 1),(4,some 1),(5,some 1),(6,some 1),(7,some 1),(8,some 1),(9,some 1)]:=by kernel_rfl
theorem aOC:kH Tryz.prog 28=6∧aFI Tryz.prog 28=true∧nE Tryz.prog 28=some [.string ByteArray.empty,.int .i64 0,.int .i64 0,.int .i64 0,.int .i64 0,.int .i64 0,.int .i64 0,.int .i64 0,.int .i64 0,.slice none 0 0]∧∀ i,qZ Tryz.prog 28 i=aGX [(0,some 1),(1,some 1),(2,some 1),(3,some 1),(4,some 1),(5,some 1),(6,some 1),(7,some 1),(8,some 1),(9,some 1)] i:=⟨aWN,by kernel_rfl,aR0,fun i=>qQ aWD i⟩
theorem aFA:fJ Tryz.prog 28 1=some (1,false,1):=by kernel_rfl
theorem aFB:fJ Tryz.prog 28 2=some (2,false,1):=by kernel_rfl
theorem aFC:fJ Tryz.prog 28 3=some (3,false,1):=by kernel_rfl
theorem aFD:fJ Tryz.prog 28 4=some (4,false,1):=by kernel_rfl
theorem aFE:fJ Tryz.prog 28 5=some (5,false,1):=by kernel_rfl
theorem aFF:fJ Tryz.prog 28 6=some (6,false,1):=by kernel_rfl
theorem aFG:fJ Tryz.prog 28 7=some (7,false,1):=by kernel_rfl
theorem aFH:fJ Tryz.prog 28 8=some (8,false,1):=by kernel_rfl
theorem uG:mK Tryz.prog 93=some (92,1,8):=by kernel_rfl
theorem aTu:kH Tryz.prog 93=3:=by kernel_rfl
theorem vM:lM Tryz.prog 92=some (false,1):=by kernel_rfl
theorem aCz:fJ Tryz.prog 28 0=some (0,false,1):=by kernel_rfl
theorem tC:fJ Tryz.prog 28 9=some (9,false,1):=by kernel_rfl
theorem aBH:mK Tryz.prog 76=some (3,1,8):=by kernel_rfl
theorem aRV:kH Tryz.prog 76=3:=by kernel_rfl
theorem aRX:nE Tryz.prog 139=some [.bool false,.bool false,.bool false,.bool false,.bool false,.bool false,.bool false]:=by kernel_rfl
theorem aV1:kH Tryz.prog 139=6:=by kernel_rfl
theorem aVJ:aCR Tryz.prog 139=some [(0,some 1),(1,some 1),(2,some 1),(3,some 1),(4,some 1),(5,some 1),(6,some 1)]:=by kernel_rfl
theorem aB6:kH Tryz.prog 139=6∧aFI Tryz.prog 139=true∧nE Tryz.prog 139=some [.bool false,.bool false,.bool false,.bool false,.bool false,.bool false,.bool false]∧∀ i,qZ Tryz.prog 139 i=aGX [(0,some 1),(1,some 1),(2,some 1),(3,some 1),(4,some 1),(5,some 1),(6,some 1)] i:=⟨aV1,by kernel_rfl,aRX,fun i=>qQ aVJ i⟩
theorem rY:lM Tryz.prog 139=some (true,7):=by kernel_rfl
theorem aPl:fJ Tryz.prog 139 0=some (0,false,1):=by kernel_rfl
theorem aPm:fJ Tryz.prog 139 1=some (1,false,1):=by kernel_rfl
theorem aTf:fJ Tryz.prog 139 2=some (2,false,1):=by kernel_rfl
theorem aTg:fJ Tryz.prog 139 3=some (3,false,1):=by kernel_rfl
theorem aTh:fJ Tryz.prog 139 4=some (4,false,1):=by kernel_rfl
theorem aTi:fJ Tryz.prog 139 5=some (5,false,1):=by kernel_rfl
theorem aTj:fJ Tryz.prog 139 6=some (6,false,1):=by kernel_rfl
theorem aUP:nE Tryz.prog 81=some [.int .u8 0,.int .u8 0,.int .u8 0,.int .u8 0]:=by kernel_rfl
theorem tv5:lM Tryz.prog 5=some (false,1):=by kernel_rfl
theorem aPs:aCa Tryz.prog 141=some .u32:=by kernel_rfl
theorem aUN:aEv Tryz.prog 81=some (5,1,4,false):=by kernel_rfl
theorem aRW:lM Tryz.prog 81=some (true,4):=by kernel_rfl
theorem aJl:kH Tryz.prog 22≠7:=by rw [aAM];decide
theorem aWq:Tryz.prog.eqGuardType Tryz.prog.depth 81=false:=by kernel_rfl
theorem aU8:eqK Tryz.prog 40 81=some [1,1,1,1]:=by kernel_rfl
theorem aWP:kH Tryz.prog 89=6:=by kernel_rfl
theorem aWR:nE Tryz.prog 89=some [.slice none 0 0,.int .i64 0,.int .i64 0,.bool false]:=by kernel_rfl
theorem aWF:aCR Tryz.prog 89=some [(0,some 1),(1,some 1),(2,some 1),(3,some 1)]:=by kernel_rfl
theorem aWK:kH Tryz.prog 89=6∧aFI Tryz.prog 89=true∧nE Tryz.prog 89=some [.slice none 0 0,.int .i64 0,.int .i64 0,.bool false]∧∀ i,qZ Tryz.prog 89 i=aGX [(0,some 1),(1,some 1),(2,some 1),(3,some 1)] i:=⟨aWP,by kernel_rfl,aWR,fun i=>qQ aWF i⟩
theorem aTt:kH Tryz.prog 45=5:=by kernel_rfl
theorem aRT:fJ Tryz.prog 89 3=some (3,false,1):=by kernel_rfl
theorem aEt:fJ Tryz.prog 89 2=some (2,false,1):=by kernel_rfl
theorem aJm:lM Tryz.prog 37=some (false,1):=by kernel_rfl
theorem aJi:fJ Tryz.prog 89 0=some (0,false,1):=by kernel_rfl
theorem aEu:lM Tryz.prog 22=some (false,1):=by kernel_rfl
theorem aCC:fJ Tryz.prog 89 1=some (1,false,1):=by kernel_rfl
theorem aRS:eD.tyBytes Tryz.prog 22:=by show (match Tryz.prog.underlying 22 with | some (.slice e)=>aCa Tryz.prog e=some .u8 | _=>False);rw [show Tryz.prog.underlying 22=some (.slice 5) by kernel_rfl];exact (by kernel_rfl:aCa Tryz.prog 5=some .u8)
theorem aV2:kH Tryz.prog 146=6:=by kernel_rfl
theorem aV7:nE Tryz.prog 146=some [.pointer none,.int .i64 0]:=by kernel_rfl
theorem aVK:aCR Tryz.prog 146=some [(0,some 1),(1,some 1)]:=by kernel_rfl
theorem aVY:kH Tryz.prog 146=6∧aFI Tryz.prog 146=true∧nE Tryz.prog 146=some [.pointer none,.int .i64 0]∧∀ i,qZ Tryz.prog 146 i=aGX [(0,some 1),(1,some 1)] i:=⟨aV2,by kernel_rfl,aV7,fun i=>qQ aVK i⟩
theorem aLA:fJ Tryz.prog 146 1=some (1,false,1):=by kernel_rfl
theorem aA4:fJ Tryz.prog 146 0=some (0,false,1):=by kernel_rfl
theorem aJ2:lM Tryz.prog 45=some (false,1):=by kernel_rfl
theorem aRY:nE Tryz.prog 154=some [.bool false,.bool false,.bool false,.bool false,.bool false,.bool false,.bool false,.bool false]:=by kernel_rfl
theorem aV4:kH Tryz.prog 154=6:=by kernel_rfl
theorem aVM:aCR Tryz.prog 154=some [(0,some 1),(1,some 1),(2,some 1),(3,some 1),(4,some 1),(5,some 1),(6,some 1),(7,some 1)]:=by kernel_rfl
theorem wV:kH Tryz.prog 154=6∧aFI Tryz.prog 154=true∧nE Tryz.prog 154=some [.bool false,.bool false,.bool false,.bool false,.bool false,.bool false,.bool false,.bool false]∧∀ i,qZ Tryz.prog 154 i=aGX [(0,some 1),(1,some 1),(2,some 1),(3,some 1),(4,some 1),(5,some 1),(6,some 1),(7,some 1)] i:=⟨aV4,by kernel_rfl,aRY,fun i=>qQ aVM i⟩
theorem mW:lM Tryz.prog 154=some (true,8):=by kernel_rfl
theorem aPn:fJ Tryz.prog 154 0=some (0,false,1):=by kernel_rfl
theorem aPo:fJ Tryz.prog 154 1=some (1,false,1):=by kernel_rfl
theorem aTk:fJ Tryz.prog 154 2=some (2,false,1):=by kernel_rfl
theorem aTl:fJ Tryz.prog 154 3=some (3,false,1):=by kernel_rfl
theorem aTm:fJ Tryz.prog 154 4=some (4,false,1):=by kernel_rfl
theorem aTn:fJ Tryz.prog 154 5=some (5,false,1):=by kernel_rfl
theorem aTo:fJ Tryz.prog 154 6=some (6,false,1):=by kernel_rfl
theorem aTp:fJ Tryz.prog 154 7=some (7,false,1):=by kernel_rfl
theorem aWQ:kH Tryz.prog 91=6:=by kernel_rfl
theorem aWS:nE Tryz.prog 91=some [.bool false,.slice none 0 0,.int .i64 0]:=by kernel_rfl
theorem aWG:aCR Tryz.prog 91=some [(0,some 1),(1,some 1),(2,some 1)]:=by kernel_rfl
theorem aWL:kH Tryz.prog 91=6∧aFI Tryz.prog 91=true∧nE Tryz.prog 91=some [.bool false,.slice none 0 0,.int .i64 0]∧∀ i,qZ Tryz.prog 91 i=aGX [(0,some 1),(1,some 1),(2,some 1)] i:=⟨aWQ,by kernel_rfl,aWS,fun i=>qQ aWG i⟩
theorem aV6:kH Tryz.prog 47=5:=by kernel_rfl
theorem aRU:fJ Tryz.prog 91 0=some (0,false,1):=by kernel_rfl
theorem aOD:fJ Tryz.prog 91 2=some (2,false,1):=by kernel_rfl
theorem aBv:fJ Tryz.prog 91 1=some (1,false,1):=by kernel_rfl
theorem aV3:kH Tryz.prog 152=6:=by kernel_rfl
theorem aV8:nE Tryz.prog 152=some [.pointer none,.int .i64 0]:=by kernel_rfl
theorem aVL:aCR Tryz.prog 152=some [(0,some 1),(1,some 1)]:=by kernel_rfl
theorem aVZ:kH Tryz.prog 152=6∧aFI Tryz.prog 152=true∧nE Tryz.prog 152=some [.pointer none,.int .i64 0]∧∀ i,qZ Tryz.prog 152 i=aGX [(0,some 1),(1,some 1)] i:=⟨aV3,by kernel_rfl,aV8,fun i=>qQ aVL i⟩
theorem aLB:fJ Tryz.prog 152 1=some (1,false,1):=by kernel_rfl
theorem aIe:fJ Tryz.prog 152 0=some (0,false,1):=by kernel_rfl
theorem aTw:lM Tryz.prog 47=some (false,1):=by kernel_rfl
theorem by5:Tryz.prog.bytesOf 5=1:=by kernel_rfl
theorem aVW:aUO Tryz.prog 22=some (5,1):=by kernel_rfl

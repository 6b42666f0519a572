import Derived.Test.YtnigjppddilpcaaGreatDoorProg
import Derived.Test.YtnigjppddilpcaaGreatDoorAbs29
import Derived.Test.YtnigjppddilpcaaGreatDoorLib
namespace Go.Proofs.YtnigjppddilpcaaGreatDoor
open Go Abs
set_option maxRecDepth 100000
set_option linter.unusedVariables false
set_option linter.unusedSimpArgs false
theorem bx {α β:Type}{o:Option α}{f:α→Option β}{r:β}{Q:Prop}(h:o.bind f=some r)(k:∀ x,o=some x→f x=some r→Q):Q:=by
 obtain ⟨x,a,b⟩:=lB h
 exact k x a b
abbrev aD:AV:=.box 0 0
abbrev aM1:AV:=.box 0 1
abbrev aUx:AV:=.box 0 10
abbrev aM2:AV:=.box 0 2
abbrev aM3:AV:=.box 0 3
abbrev aM4:AV:=.box 0 4
abbrev aM5:AV:=.box 0 5
abbrev aM6:AV:=.box 0 6
abbrev aM7:AV:=.box 0 7
abbrev aM8:AV:=.box 0 8
abbrev bK:AV:=.box 1 0
abbrev eE:AV:=.box 2 0
abbrev aFp:AV:=.box 2 1
abbrev aFq:AV:=.box 2 2
abbrev aFr:AV:=.box 2 3
abbrev aFs:AV:=.box 2 4
abbrev aFt:AV:=.box 2 5
abbrev aFu:AV:=.box 2 6
abbrev aM9:AV:=.box 2 7
abbrev aNa:AV:=.box 2 8
abbrev aT7:AV:=.box 2 9
abbrev pD:AV:=.box 3 0
abbrev aPG:AV:=.box 4 0
theorem aWc {a0 a1 a2 a3 a4 a5 a6 a7 a8 a9:AV}:a0.le a0∧a1.le a1∧a2.le a2∧a3.le a3∧a4.le a4∧a5.le a5∧a6.le a6∧a7.le a7∧a8.le a8∧a9.le a9∧True:=⟨lr,lr,lr,lr,lr,lr,lr,lr,lr,lr,trivial⟩
theorem kU {a0 a1:AV}:a0.le a0∧a1.le a1∧True:=⟨lr,lr,trivial⟩
theorem lG {a0 a1 a2:AV}:a0.le a0∧a1.le a1∧a2.le a2∧True:=⟨lr,lr,lr,trivial⟩
theorem kL4 {a0 a1 a2 a3:AV}:a0.le a0∧a1.le a1∧a2.le a2∧a3.le a3∧True:=⟨lr,lr,lr,lr,trivial⟩
theorem kL5 {a0 a1 a2 a3 a4:AV}:a0.le a0∧a1.le a1∧a2.le a2∧a3.le a3∧a4.le a4∧True:=⟨lr,lr,lr,lr,lr,trivial⟩
theorem kL6 {a0 a1 a2 a3 a4 a5:AV}:a0.le a0∧a1.le a1∧a2.le a2∧a3.le a3∧a4.le a4∧a5.le a5∧True:=⟨lr,lr,lr,lr,lr,lr,trivial⟩
theorem zX {α:Type}{a0 a1 a2 a3 a4 a5 a6 a7 a8 a9:α}:a0=a0∧a1=a1∧a2=a2∧a3=a3∧a4=a4∧a5=a5∧a6=a6∧a7=a7∧a8=a8∧a9=a9∧True:=⟨r,r,r,r,r,r,r,r,r,r,trivial⟩
theorem aFh {α:Type}{a0 a1 a2 a3 a4 a5 a6 a7 a8 a9 a10 a11 a12 a13 a14 a15 a16 a17 a18 a19:α}:a0=a0∧a1=a1∧a2=a2∧a3=a3∧a4=a4∧a5=a5∧a6=a6∧a7=a7∧a8=a8∧a9=a9∧a10=a10∧a11=a11∧a12=a12∧a13=a13∧a14=a14∧a15=a15∧a16=a16∧a17=a17∧a18=a18∧a19=a19∧True:=⟨r,r,r,r,r,r,r,r,r,r,r,r,r,r,r,r,r,r,r,r,trivial⟩
theorem aGD {α:Type}{a0 a1 a2 a3 a4 a5 a6 a7 a8 a9 a10 a11 a12 a13 a14 a15 a16 a17 a18 a19 a20 a21 a22 a23:α}:a0=a0∧a1=a1∧a2=a2∧a3=a3∧a4=a4∧a5=a5∧a6=a6∧a7=a7∧a8=a8∧a9=a9∧a10=a10∧a11=a11∧a12=a12∧a13=a13∧a14=a14∧a15=a15∧a16=a16∧a17=a17∧a18=a18∧a19=a19∧a20=a20∧a21=a21∧a22=a22∧a23=a23∧True:=⟨r,r,r,r,r,r,r,r,r,r,r,r,r,r,r,r,r,r,r,r,r,r,r,r,trivial⟩
theorem aR4 {α:Type}{a0 a1 a2 a3 a4 a5 a6 a7 a8 a9 a10 a11 a12 a13 a14 a15 a16 a17 a18 a19 a20 a21 a22 a23 a24 a25 a26:α}:a0=a0∧a1=a1∧a2=a2∧a3=a3∧a4=a4∧a5=a5∧a6=a6∧a7=a7∧a8=a8∧a9=a9∧a10=a10∧a11=a11∧a12=a12∧a13=a13∧a14=a14∧a15=a15∧a16=a16∧a17=a17∧a18=a18∧a19=a19∧a20=a20∧a21=a21∧a22=a22∧a23=a23∧a24=a24∧a25=a25∧a26=a26∧True:=⟨r,r,r,r,r,r,r,r,r,r,r,r,r,r,r,r,r,r,r,r,r,r,r,r,r,r,r,trivial⟩
theorem mZ {α:Type}{a0 a1 a2 a3:α}:a0=a0∧a1=a1∧a2=a2∧a3=a3∧True:=⟨r,r,r,r,trivial⟩
theorem zA {α:Type}{a0 a1 a2 a3 a4:α}:a0=a0∧a1=a1∧a2=a2∧a3=a3∧a4=a4∧True:=⟨r,r,r,r,r,trivial⟩
theorem kR6 {α:Type}{a0 a1 a2 a3 a4 a5:α}:a0=a0∧a1=a1∧a2=a2∧a3=a3∧a4=a4∧a5=a5∧True:=⟨r,r,r,r,r,r,trivial⟩
theorem kR7 {α:Type}{a0 a1 a2 a3 a4 a5 a6:α}:a0=a0∧a1=a1∧a2=a2∧a3=a3∧a4=a4∧a5=a5∧a6=a6∧True:=⟨r,r,r,r,r,r,r,trivial⟩
theorem kR8 {α:Type}{a0 a1 a2 a3 a4 a5 a6 a7:α}:a0=a0∧a1=a1∧a2=a2∧a3=a3∧a4=a4∧a5=a5∧a6=a6∧a7=a7∧True:=⟨r,r,r,r,r,r,r,r,trivial⟩
theorem kR9 {α:Type}{a0 a1 a2 a3 a4 a5 a6 a7 a8:α}:a0=a0∧a1=a1∧a2=a2∧a3=a3∧a4=a4∧a5=a5∧a6=a6∧a7=a7∧a8=a8∧True:=⟨r,r,r,r,r,r,r,r,r,trivial⟩
abbrev ci (n:Int):AV:=.c (.int .i64 n)
abbrev eY {b0:Bool}{b1:Bool}{b2:Bool}{b3:Bool}{b4:Bool}{b5:Bool}:List AV:=[.c (.bool b0),.c (.bool b1),.c (.bool b2),.c (.bool b3),.c (.bool b4),.c (.bool b5)]
abbrev cU {b0:Bool}{b1:Bool}{b2:Bool}{b3:Bool}{b4:Bool}{b5:Bool}{b6:Bool}:List AV:=[.c (.bool b0),.c (.bool b1),.c (.bool b2),.c (.bool b3),.c (.bool b4),.c (.bool b5),.c (.bool b6)]
abbrev bF {b0:Bool}{b1:Bool}{b2:Bool}{b3:Bool}{b4:Bool}{b5:Bool}{b6:Bool}{b7:Bool}:List AV:=[.c (.bool b0),.c (.bool b1),.c (.bool b2),.c (.bool b3),.c (.bool b4),.c (.bool b5),.c (.bool b6),.c (.bool b7)]
abbrev bW {b0:Bool}{b1:Bool}{b2:Bool}{b3:Bool}{b4:Bool}{b5:Bool}{b6:Bool}{b7:Bool}{b8:Bool}:List AV:=[.c (.bool b0),.c (.bool b1),.c (.bool b2),.c (.bool b3),.c (.bool b4),.c (.bool b5),.c (.bool b6),.c (.bool b7),.c (.bool b8)]
abbrev aT {k0:IntKind}{n0:Int}{k1:IntKind}{n1:Int}{k2:IntKind}{n2:Int}{k3:IntKind}{n3:Int}{k4:IntKind}{n4:Int}{k5:IntKind}{n5:Int}{k6:IntKind}{n6:Int}{s7:List UInt8}{s8:List UInt8}{k9:IntKind}{n9:Int}{k10:IntKind}{n10:Int}{s11:List UInt8}{α12:Type}{z12:Nat}{r12:α12→List PV}{x12:List α12}{α13:Type}{z13:Nat}{r13:α13→List PV}{x13:List α13}{s14:List UInt8}{k15:IntKind}{n15:Int}{k16:IntKind}{n16:Int}{k17:IntKind}{n17:Int}{k18:IntKind}{n18:Int}{k19:IntKind}{n19:Int}{k20:IntKind}{n20:Int}{k21:IntKind}{n21:Int}{k22:IntKind}{n22:Int}{α23:Type}{z23:Nat}{r23:α23→List PV}{x23:List α23}:List AV:=[.c (.int k0 n0),.c (.int k1 n1),.c (.int k2 n2),.c (.int k3 n3),.c (.int k4 n4),.c (.int k5 n5),.c (.int k6 n6),.c (.str s7),.c (.str s8),.c (.int k9 n9),.c (.int k10 n10),.c (.str s11),.c (PV.ls z12 r12 x12),.c (PV.ls z13 r13 x13),.c (.str s14),.c (.int k15 n15),.c (.int k16 n16),.c (.int k17 n17),.c (.int k18 n18),.c (.int k19 n19),.c (.int k20 n20),.c (.int k21 n21),.c (.int k22 n22),.c (PV.ls z23 r23 x23)]
abbrev sT {k0:IntKind}{n0:Int}{k1:IntKind}{n1:Int}{k2:IntKind}{n2:Int}{k3:IntKind}{n3:Int}{k4:IntKind}{n4:Int}{k5:IntKind}{n5:Int}{k6:IntKind}{n6:Int}{s7:List UInt8}{s8:List UInt8}{k9:IntKind}{n9:Int}{k10:IntKind}{n10:Int}{s11:List UInt8}{α12:Type}{z12:Nat}{r12:α12→List PV}{x12:List α12}{α13:Type}{z13:Nat}{r13:α13→List PV}{x13:List α13}{s14:List UInt8}{k15:IntKind}{n15:Int}{k16:IntKind}{n16:Int}{k17:IntKind}{n17:Int}{k18:IntKind}{n18:Int}{k19:IntKind}{n19:Int}{k20:IntKind}{n20:Int}{k21:IntKind}{n21:Int}{k22:IntKind}{n22:Int}  : List AV:=[.c (.int k0 n0),.c (.int k1 n1),.c (.int k2 n2),.c (.int k3 n3),.c (.int k4 n4),.c (.int k5 n5),.c (.int k6 n6),.c (.str s7),.c (.str s8),.c (.int k9 n9),.c (.int k10 n10),.c (.str s11),.c (PV.ls z12 r12 x12),.c (PV.ls z13 r13 x13),.c (.str s14),.c (.int k15 n15),.c (.int k16 n16),.c (.int k17 n17),.c (.int k18 n18),.c (.int k19 n19),.c (.int k20 n20),.c (.int k21 n21),.c (.int k22 n22),AV.nil]
abbrev aV {k0:IntKind}{n0:Int}{k1:IntKind}{n1:Int}{k2:IntKind}{n2:Int}{k3:IntKind}{n3:Int}{k4:IntKind}{n4:Int}{k5:IntKind}{n5:Int}{k6:IntKind}{n6:Int}{s7:List UInt8}{s8:List UInt8}{k9:IntKind}{n9:Int}{k10:IntKind}{n10:Int}{s11:List UInt8}   {s14:List UInt8}{k15:IntKind}{n15:Int}{k16:IntKind}{n16:Int}{k17:IntKind}{n17:Int}{k18:IntKind}{n18:Int}{k19:IntKind}{n19:Int}{k20:IntKind}{n20:Int}{k21:IntKind}{n21:Int}{k22:IntKind}{n22:Int}  : List AV:=[.c (.int k0 n0),.c (.int k1 n1),.c (.int k2 n2),.c (.int k3 n3),.c (.int k4 n4),.c (.int k5 n5),.c (.int k6 n6),.c (.str s7),.c (.str s8),.c (.int k9 n9),.c (.int k10 n10),.c (.str s11),AV.nil,AV.nil,.c (.str s14),.c (.int k15 n15),.c (.int k16 n16),.c (.int k17 n17),.c (.int k18 n18),.c (.int k19 n19),.c (.int k20 n20),.c (.int k21 n21),.c (.int k22 n22),AV.nil]
abbrev cH {k0:IntKind}{n0:Int}{k1:IntKind}{n1:Int}{s2:List UInt8}{α3:Type}{z3:Nat}{r3:α3→List PV}{x3:List α3}{α4:Type}{z4:Nat}{r4:α4→List PV}{x4:List α4}:List AV:=[.c (.int k0 n0),.c (.int k1 n1),.c (.str s2),.c (PV.ls z3 r3 x3),.c (PV.ls z4 r4 x4)]
abbrev dF {k0:IntKind}{n0:Int}{k1:IntKind}{n1:Int}{s2:List UInt8}   : List AV:=[.c (.int k0 n0),.c (.int k1 n1),.c (.str s2),AV.nil,AV.nil]
abbrev aW {k0:IntKind}{n0:Int}{k1:IntKind}{n1:Int}{s2:List UInt8}{s3:List UInt8}{k4:IntKind}{n4:Int}{k5:IntKind}{n5:Int}{k6:IntKind}{n6:Int}{s7:List UInt8}{α8:Type}{z8:Nat}{r8:α8→List PV}{x8:List α8}{α9:Type}{z9:Nat}{r9:α9→List PV}{x9:List α9}{s10:List UInt8}{k11:IntKind}{n11:Int}{k12:IntKind}{n12:Int}{k13:IntKind}{n13:Int}{k14:IntKind}{n14:Int}{k15:IntKind}{n15:Int}{k16:IntKind}{n16:Int}{k17:IntKind}{n17:Int}{k18:IntKind}{n18:Int}{α19:Type}{z19:Nat}{r19:α19→List PV}{x19:List α19}:List AV:=[.c (.int k0 n0),.c (.int k1 n1),.c (.str s2),.c (.str s3),.c (.int k4 n4),.c (.int k5 n5),.c (.int k6 n6),.c (.str s7),.c (PV.ls z8 r8 x8),.c (PV.ls z9 r9 x9),.c (.str s10),.c (.int k11 n11),.c (.int k12 n12),.c (.int k13 n13),.c (.int k14 n14),.c (.int k15 n15),.c (.int k16 n16),.c (.int k17 n17),.c (.int k18 n18),.c (PV.ls z19 r19 x19)]
abbrev jD {k0:IntKind}{n0:Int}{k1:IntKind}{n1:Int}{s2:List UInt8}{s3:List UInt8}{k4:IntKind}{n4:Int}{k5:IntKind}{n5:Int}{k6:IntKind}{n6:Int}{s7:List UInt8}{α8:Type}{z8:Nat}{r8:α8→List PV}{x8:List α8}{α9:Type}{z9:Nat}{r9:α9→List PV}{x9:List α9}{s10:List UInt8}{k11:IntKind}{n11:Int}{k12:IntKind}{n12:Int}{k13:IntKind}{n13:Int}{k14:IntKind}{n14:Int}{k15:IntKind}{n15:Int}{k16:IntKind}{n16:Int}{k17:IntKind}{n17:Int}{k18:IntKind}{n18:Int}  : List AV:=[.c (.int k0 n0),.c (.int k1 n1),.c (.str s2),.c (.str s3),.c (.int k4 n4),.c (.int k5 n5),.c (.int k6 n6),.c (.str s7),.c (PV.ls z8 r8 x8),.c (PV.ls z9 r9 x9),.c (.str s10),.c (.int k11 n11),.c (.int k12 n12),.c (.int k13 n13),.c (.int k14 n14),.c (.int k15 n15),.c (.int k16 n16),.c (.int k17 n17),.c (.int k18 n18),AV.nil]
abbrev aD7 {k0:IntKind}{n0:Int}{k1:IntKind}{n1:Int}{s2:List UInt8}{s3:List UInt8}{k4:IntKind}{n4:Int}{k5:IntKind}{n5:Int}{k6:IntKind}{n6:Int}{s7:List UInt8}   {s10:List UInt8}{k11:IntKind}{n11:Int}{k12:IntKind}{n12:Int}{k13:IntKind}{n13:Int}{k14:IntKind}{n14:Int}{k15:IntKind}{n15:Int}{k16:IntKind}{n16:Int}{k17:IntKind}{n17:Int}{k18:IntKind}{n18:Int}{α19:Type}{z19:Nat}{r19:α19→List PV}{x19:List α19}:List AV:=[.c (.int k0 n0),.c (.int k1 n1),.c (.str s2),.c (.str s3),.c (.int k4 n4),.c (.int k5 n5),.c (.int k6 n6),.c (.str s7),AV.nil,AV.nil,.c (.str s10),.c (.int k11 n11),.c (.int k12 n12),.c (.int k13 n13),.c (.int k14 n14),.c (.int k15 n15),.c (.int k16 n16),.c (.int k17 n17),.c (.int k18 n18),.c (PV.ls z19 r19 x19)]
abbrev bD {k0:IntKind}{n0:Int}{k1:IntKind}{n1:Int}{s2:List UInt8}{s3:List UInt8}{k4:IntKind}{n4:Int}{k5:IntKind}{n5:Int}{k6:IntKind}{n6:Int}{s7:List UInt8}   {s10:List UInt8}{k11:IntKind}{n11:Int}{k12:IntKind}{n12:Int}{k13:IntKind}{n13:Int}{k14:IntKind}{n14:Int}{k15:IntKind}{n15:Int}{k16:IntKind}{n16:Int}{k17:IntKind}{n17:Int}{k18:IntKind}{n18:Int}  : List AV:=[.c (.int k0 n0),.c (.int k1 n1),.c (.str s2),.c (.str s3),.c (.int k4 n4),.c (.int k5 n5),.c (.int k6 n6),.c (.str s7),AV.nil,AV.nil,.c (.str s10),.c (.int k11 n11),.c (.int k12 n12),.c (.int k13 n13),.c (.int k14 n14),.c (.int k15 n15),.c (.int k16 n16),.c (.int k17 n17),.c (.int k18 n18),AV.nil]
abbrev bT {k0:IntKind}{n0:Int}{k1:IntKind}{n1:Int}{s2:List UInt8}{s3:List UInt8}{s4:List UInt8}{s5:List UInt8}{k6:IntKind}{n6:Int}{k7:IntKind}{n7:Int}{k8:IntKind}{n8:Int}{k9:IntKind}{n9:Int}{k10:IntKind}{n10:Int}{k11:IntKind}{n11:Int}{s12:List UInt8}{α13:Type}{z13:Nat}{r13:α13→List PV}{x13:List α13}{α14:Type}{z14:Nat}{r14:α14→List PV}{x14:List α14}{s15:List UInt8}{k16:IntKind}{n16:Int}{k17:IntKind}{n17:Int}{k18:IntKind}{n18:Int}{k19:IntKind}{n19:Int}{k20:IntKind}{n20:Int}{k21:IntKind}{n21:Int}{k22:IntKind}{n22:Int}{k23:IntKind}{n23:Int}{α24:Type}{z24:Nat}{r24:α24→List PV}{x24:List α24}{α25:Type}{z25:Nat}{r25:α25→List PV}{x25:List α25}{s26:List UInt8}:List AV:=[.c (.int k0 n0),.c (.int k1 n1),.c (.str s2),.c (.str s3),.c (.str s4),.c (.str s5),.c (.int k6 n6),.c (.int k7 n7),.c (.int k8 n8),.c (.int k9 n9),.c (.int k10 n10),.c (.int k11 n11),.c (.str s12),.c (PV.ls z13 r13 x13),.c (PV.ls z14 r14 x14),.c (.str s15),.c (.int k16 n16),.c (.int k17 n17),.c (.int k18 n18),.c (.int k19 n19),.c (.int k20 n20),.c (.int k21 n21),.c (.int k22 n22),.c (.int k23 n23),.c (PV.ls z24 r24 x24),.c (PV.ls z25 r25 x25),.c (.str s26)]
abbrev qV {k0:IntKind}{n0:Int}{k1:IntKind}{n1:Int}{s2:List UInt8}{s3:List UInt8}{s4:List UInt8}{s5:List UInt8}{k6:IntKind}{n6:Int}{k7:IntKind}{n7:Int}{k8:IntKind}{n8:Int}{k9:IntKind}{n9:Int}{k10:IntKind}{n10:Int}{k11:IntKind}{n11:Int}{s12:List UInt8}{α13:Type}{z13:Nat}{r13:α13→List PV}{x13:List α13}{α14:Type}{z14:Nat}{r14:α14→List PV}{x14:List α14}{s15:List UInt8}{k16:IntKind}{n16:Int}{k17:IntKind}{n17:Int}{k18:IntKind}{n18:Int}{k19:IntKind}{n19:Int}{k20:IntKind}{n20:Int}{k21:IntKind}{n21:Int}{k22:IntKind}{n22:Int}{k23:IntKind}{n23:Int}   {s26:List UInt8}:List AV:=[.c (.int k0 n0),.c (.int k1 n1),.c (.str s2),.c (.str s3),.c (.str s4),.c (.str s5),.c (.int k6 n6),.c (.int k7 n7),.c (.int k8 n8),.c (.int k9 n9),.c (.int k10 n10),.c (.int k11 n11),.c (.str s12),.c (PV.ls z13 r13 x13),.c (PV.ls z14 r14 x14),.c (.str s15),.c (.int k16 n16),.c (.int k17 n17),.c (.int k18 n18),.c (.int k19 n19),.c (.int k20 n20),.c (.int k21 n21),.c (.int k22 n22),.c (.int k23 n23),AV.nil,AV.nil,.c (.str s26)]
abbrev aE {k0:IntKind}{n0:Int}{k1:IntKind}{n1:Int}{s2:List UInt8}{s3:List UInt8}{s4:List UInt8}{s5:List UInt8}{k6:IntKind}{n6:Int}{k7:IntKind}{n7:Int}{k8:IntKind}{n8:Int}{k9:IntKind}{n9:Int}{k10:IntKind}{n10:Int}{k11:IntKind}{n11:Int}{s12:List UInt8}   {s15:List UInt8}{k16:IntKind}{n16:Int}{k17:IntKind}{n17:Int}{k18:IntKind}{n18:Int}{k19:IntKind}{n19:Int}{k20:IntKind}{n20:Int}{k21:IntKind}{n21:Int}{k22:IntKind}{n22:Int}{k23:IntKind}{n23:Int}   {s26:List UInt8}:List AV:=[.c (.int k0 n0),.c (.int k1 n1),.c (.str s2),.c (.str s3),.c (.str s4),.c (.str s5),.c (.int k6 n6),.c (.int k7 n7),.c (.int k8 n8),.c (.int k9 n9),.c (.int k10 n10),.c (.int k11 n11),.c (.str s12),AV.nil,AV.nil,.c (.str s15),.c (.int k16 n16),.c (.int k17 n17),.c (.int k18 n18),.c (.int k19 n19),.c (.int k20 n20),.c (.int k21 n21),.c (.int k22 n22),.c (.int k23 n23),AV.nil,AV.nil,.c (.str s26)]
abbrev fM {k0:IntKind}{n0:Int}{s1:List UInt8}{k2:IntKind}{n2:Int}{k3:IntKind}{n3:Int}{k4:IntKind}{n4:Int}{k5:IntKind}{n5:Int}{s6:List UInt8}{α7:Type}{z7:Nat}{r7:α7→List PV}{x7:List α7}{α8:Type}{z8:Nat}{r8:α8→List PV}{x8:List α8}{α9:Type}{z9:Nat}{r9:α9→List PV}{x9:List α9}:List AV:=[.c (.int k0 n0),.c (.str s1),.c (.int k2 n2),.c (.int k3 n3),.c (.int k4 n4),.c (.int k5 n5),.c (.str s6),.c (PV.ls z7 r7 x7),.c (PV.ls z8 r8 x8),.c (PV.ls z9 r9 x9)]
abbrev aEh {k0:IntKind}{n0:Int}{s1:List UInt8}{k2:IntKind}{n2:Int}{k3:IntKind}{n3:Int}{k4:IntKind}{n4:Int}{k5:IntKind}{n5:Int}{s6:List UInt8}{α7:Type}{z7:Nat}{r7:α7→List PV}{x7:List α7}{α8:Type}{z8:Nat}{r8:α8→List PV}{x8:List α8}  : List AV:=[.c (.int k0 n0),.c (.str s1),.c (.int k2 n2),.c (.int k3 n3),.c (.int k4 n4),.c (.int k5 n5),.c (.str s6),.c (PV.ls z7 r7 x7),.c (PV.ls z8 r8 x8),AV.nil]
abbrev eB {k0:IntKind}{n0:Int}{s1:List UInt8}{k2:IntKind}{n2:Int}{k3:IntKind}{n3:Int}{k4:IntKind}{n4:Int}{k5:IntKind}{n5:Int}{s6:List UInt8}    : List AV:=[.c (.int k0 n0),.c (.str s1),.c (.int k2 n2),.c (.int k3 n3),.c (.int k4 n4),.c (.int k5 n5),.c (.str s6),AV.nil,AV.nil,AV.nil]
abbrev dD {α0:Type}{z0:Nat}{r0:α0→List PV}{x0:List α0}{k1:IntKind}{n1:Int}{k2:IntKind}{n2:Int}{b3:Bool}:List AV:=[.c (PV.ls z0 r0 x0),.c (.int k1 n1),.c (.int k2 n2),.c (.bool b3)]
abbrev dE {s0:List UInt8}{k1:IntKind}{n1:Int}{k2:IntKind}{n2:Int}{k3:IntKind}{n3:Int}{k4:IntKind}{n4:Int}{k5:IntKind}{n5:Int}{k6:IntKind}{n6:Int}{k7:IntKind}{n7:Int}{k8:IntKind}{n8:Int}{α9:Type}{z9:Nat}{r9:α9→List PV}{x9:List α9}:List AV:=[.c (.str s0),.c (.int k1 n1),.c (.int k2 n2),.c (.int k3 n3),.c (.int k4 n4),.c (.int k5 n5),.c (.int k6 n6),.c (.int k7 n7),.c (.int k8 n8),.c (PV.ls z9 r9 x9)]
abbrev cP {s0:List UInt8}{k1:IntKind}{n1:Int}{k2:IntKind}{n2:Int}{k3:IntKind}{n3:Int}{k4:IntKind}{n4:Int}{k5:IntKind}{n5:Int}{k6:IntKind}{n6:Int}{k7:IntKind}{n7:Int}{k8:IntKind}{n8:Int}  : List AV:=[.c (.str s0),.c (.int k1 n1),.c (.int k2 n2),.c (.int k3 n3),.c (.int k4 n4),.c (.int k5 n5),.c (.int k6 n6),.c (.int k7 n7),.c (.int k8 n8),AV.nil]
abbrev u10 {x0 x1 x2 x3 x4 x5 x6 x7 x8 x9:AV}:List AV:=[x0,x1,x2,x3,x4,x5,x6,x7,x8,x9]
abbrev u20 {x0 x1 x2 x3 x4 x5 x6 x7 x8 x9 x10 x11 x12 x13 x14 x15 x16 x17 x18 x19:AV}:List AV:=[x0,x1,x2,x3,x4,x5,x6,x7,x8,x9,x10,x11,x12,x13,x14,x15,x16,x17,x18,x19]
abbrev u27 {x0 x1 x2 x3 x4 x5 x6 x7 x8 x9 x10 x11 x12 x13 x14 x15 x16 x17 x18 x19 x20 x21 x22 x23 x24 x25 x26:AV}:List AV:=[x0,x1,x2,x3,x4,x5,x6,x7,x8,x9,x10,x11,x12,x13,x14,x15,x16,x17,x18,x19,x20,x21,x22,x23,x24,x25,x26]
abbrev u5 {x0 x1 x2 x3 x4:AV}:List AV:=[x0,x1,x2,x3,x4]
abbrev u9 {x0 x1 x2 x3 x4 x5 x6 x7 x8:AV}:List AV:=[x0,x1,x2,x3,x4,x5,x6,x7,x8]
structure aK where
 mk ::
 Kind:Int
 Int:Int
 Text:(List UInt8)
 Items:(List aK)
 Keys:(List (List UInt8))
instance:Inhabited aK:=⟨aK.mk 0 0 [] [] []⟩
mutual
def bO:aK→List PV
 | ⟨x0,x1,x2,x3,x4⟩=>[.int .i64 x0,.int .i64 x1,.str x2,.list 5 (aAH x3),PV.ls 1 fZ x4]
def aAH:List aK→List (List PV)
 | []=>[]
 | x :: l=>bO x :: aAH l
end
theorem aD2:∀ l,aAH l=l.map bO
 | []=>by simp [aAH]
 | x :: l=>by simp [aAH,aD2 l]
def fA (x:aK):List PV:=[.int .i64 x.Kind,.int .i64 x.Int,.str x.Text,PV.ls 5 bO x.Items,PV.ls 1 fZ x.Keys]
theorem eA (x:aK):bO x=fA x:=by cases x;simp [bO,fA,aD2,PV.ls]
theorem aIJ (x:aK):(bO x).length=5:=by rw [eA];rfl
structure dR where
 mk ::
 Queue:(List UInt8)
 ToStart:Int
 ToClose:Int
 Total:Int
 Beat:Int
 First:Int
 Coef:Int
 Most:Int
 Attempts:Int
 Fatal:(List (List UInt8))
instance:Inhabited dR:=⟨dR.mk [] 0 0 0 0 0 0 0 0 []⟩
def lP (x:dR):List PV:=[.str x.Queue,.int .i64 x.ToStart,.int .i64 x.ToClose,.int .i64 x.Total,.int .i64 x.Beat,.int .i64 x.First,.int .i64 x.Coef,.int .i64 x.Most,.int .i64 x.Attempts,PV.ls 1 fZ x.Fatal]
structure dP where
 mk ::
 ID:Int
 Kind:Int
 Time:Int
 Seq:Int
 Ref:Int
 N:Int
 Code:Int
 Name:(List UInt8)
 Key:(List UInt8)
 Data:aK
 Opts:dR
instance:Inhabited dP:=⟨dP.mk 0 0 0 0 0 0 0 [] [] default default⟩
def eU (x:dP):List PV:=[.int .i64 x.ID,.int .i64 x.Kind,.int .i64 x.Time,.int .i64 x.Seq,.int .i64 x.Ref,.int .i64 x.N,.int .i64 x.Code,.str x.Name,.str x.Key,.int .i64 x.Data.Kind,.int .i64 x.Data.Int,.str x.Data.Text,PV.ls 5 bO x.Data.Items,PV.ls 1 fZ x.Data.Keys,.str x.Opts.Queue,.int .i64 x.Opts.ToStart,.int .i64 x.Opts.ToClose,.int .i64 x.Opts.Total,.int .i64 x.Opts.Beat,.int .i64 x.Opts.First,.int .i64 x.Opts.Coef,.int .i64 x.Opts.Most,.int .i64 x.Opts.Attempts,PV.ls 1 fZ x.Opts.Fatal]
structure cK where
 mk ::
 Kind:Int
 Seq:Int
 Name:(List UInt8)
 Key:(List UInt8)
 N:Int
 Data:aK
 Opts:dR
instance:Inhabited cK:=⟨cK.mk 0 0 [] [] 0 default default⟩
def eV (x:cK):List PV:=[.int .i64 x.Kind,.int .i64 x.Seq,.str x.Name,.str x.Key,.int .i64 x.N,.int .i64 x.Data.Kind,.int .i64 x.Data.Int,.str x.Data.Text,PV.ls 5 bO x.Data.Items,PV.ls 1 fZ x.Data.Keys,.str x.Opts.Queue,.int .i64 x.Opts.ToStart,.int .i64 x.Opts.ToClose,.int .i64 x.Opts.Total,.int .i64 x.Opts.Beat,.int .i64 x.Opts.First,.int .i64 x.Opts.Coef,.int .i64 x.Opts.Most,.int .i64 x.Opts.Attempts,PV.ls 1 fZ x.Opts.Fatal]
structure kE where
 mk ::
 seq_:Bool
 name_:Bool
 key_:Bool
 n_:Bool
 data_:Bool
 opts_:Bool
instance:Inhabited kE:=⟨kE.mk false false false false false false⟩
def aEJ (x:kE):List PV:=[.bool x.seq_,.bool x.name_,.bool x.key_,.bool x.n_,.bool x.data_,.bool x.opts_]
structure kK where
 mk ::
 seq_:Bool
 ref_:Bool
 n_:Bool
 code_:Bool
 name_:Bool
 key_:Bool
 data_:Bool
instance:Inhabited kK:=⟨kK.mk false false false false false false false⟩
def aGZ (x:kK):List PV:=[.bool x.seq_,.bool x.ref_,.bool x.n_,.bool x.code_,.bool x.name_,.bool x.key_,.bool x.data_]
structure aRm where
 mk ::
 E0:Int
 E1:Int
 E2:Int
 E3:Int
instance:Inhabited aRm:=⟨aRm.mk 0 0 0 0⟩
structure aX where
 mk ::
 b_:(List UInt8)
 at_:Int
 err_:Int
 made_:Bool
instance:Inhabited aX:=⟨aX.mk [] 0 0 false⟩
def eS (x:aX):List PV:=[PV.ls 1 hF x.b_,.int .i64 x.at_,.int .i64 x.err_,.bool x.made_]
structure gX where
 mk ::
 seq_:Bool
 ref_:Bool
 n_:Bool
 code_:Bool
 name_:Bool
 key_:Bool
 data_:Bool
 opts_:Bool
instance:Inhabited gX:=⟨gX.mk false false false false false false false false⟩
def aKa (x:gX):List PV:=[.bool x.seq_,.bool x.ref_,.bool x.n_,.bool x.code_,.bool x.name_,.bool x.key_,.bool x.data_,.bool x.opts_]
structure jQ where
 mk ::
 Made:Bool
 Rest:(List UInt8)
 Bad:Int
instance:Inhabited jQ:=⟨jQ.mk false [] 0⟩
structure cW where
 mk ::
 Kind:Int
 Time:Int
 Workflow:(List UInt8)
 Run:(List UInt8)
 ID:(List UInt8)
 Name:(List UInt8)
 Token:Int
 Event:Int
 Seq:Int
 N:Int
 Data:aK
 Opts:dR
 Commands:(List cK)
 Parent:(List UInt8)
instance:Inhabited cW:=⟨cW.mk 0 0 [] [] [] [] 0 0 0 0 default default [] []⟩
def nM (x:cW):List PV:=[.int .i64 x.Kind,.int .i64 x.Time,.str x.Workflow,.str x.Run,.str x.ID,.str x.Name,.int .i64 x.Token,.int .i64 x.Event,.int .i64 x.Seq,.int .i64 x.N,.int .i64 x.Data.Kind,.int .i64 x.Data.Int,.str x.Data.Text,PV.ls 5 bO x.Data.Items,PV.ls 1 fZ x.Data.Keys,.str x.Opts.Queue,.int .i64 x.Opts.ToStart,.int .i64 x.Opts.ToClose,.int .i64 x.Opts.Total,.int .i64 x.Opts.Beat,.int .i64 x.Opts.First,.int .i64 x.Opts.Coef,.int .i64 x.Opts.Most,.int .i64 x.Opts.Attempts,PV.ls 1 fZ x.Opts.Fatal,PV.ls 20 eV x.Commands,.str x.Parent]
structure iK where
 mk ::
 id_:Bool
 name_:Bool
 token_:Bool
 event_:Bool
 seq_:Bool
 n_:Bool
 data_:Bool
 commands_:Bool
 parent_:Bool
instance:Inhabited iK:=⟨iK.mk false false false false false false false false false⟩
def aCo (x:iK):List PV:=[.bool x.id_,.bool x.name_,.bool x.token_,.bool x.event_,.bool x.seq_,.bool x.n_,.bool x.data_,.bool x.commands_,.bool x.parent_]
structure iI where
 mk ::
 Err:Int
 Run:(List UInt8)
 Token:Int
 N:Int
 Data:aK
 Events:(List dP)
instance:Inhabited iI:=⟨iI.mk 0 [] 0 0 default []⟩
def lY (x:iI):List PV:=[.int .i64 x.Err,.str x.Run,.int .i64 x.Token,.int .i64 x.N,.int .i64 x.Data.Kind,.int .i64 x.Data.Int,.str x.Data.Text,PV.ls 5 bO x.Data.Items,PV.ls 1 fZ x.Data.Keys,PV.ls 24 eU x.Events]
theorem aFi:jZ Tryz.prog 22=3:=by kernel_rfl
theorem aTW:mM Tryz.prog 30=some [.int .i64 0,.int .i64 0,.int .i64 0,.int .i64 0,.int .i64 0,.int .i64 0,.int .i64 0,.string ByteArray.empty,.string ByteArray.empty,.int .i64 0,.int .i64 0,.string ByteArray.empty,.slice none 0 0,.slice none 0 0,.string ByteArray.empty,.int .i64 0,.int .i64 0,.int .i64 0,.int .i64 0,.int .i64 0,.int .i64 0,.int .i64 0,.int .i64 0,.slice none 0 0]:=by kernel_rfl
theorem aWu:jZ Tryz.prog 30=6:=by kernel_rfl
theorem aWh:aCN Tryz.prog 30=some [(0,some 1),(1,some 1),(2,some 1),(3,some 1),(4,some 1),(5,some 1),(6,some 1),(7,some 1),(8,some 1),(9,some 5),(14,some 10)]:=by kernel_rfl
theorem aWq:jZ Tryz.prog 30=6∧aFk Tryz.prog 30=true∧mM Tryz.prog 30=some [.int .i64 0,.int .i64 0,.int .i64 0,.int .i64 0,.int .i64 0,.int .i64 0,.int .i64 0,.string ByteArray.empty,.string ByteArray.empty,.int .i64 0,.int .i64 0,.string ByteArray.empty,.slice none 0 0,.slice none 0 0,.string ByteArray.empty,.int .i64 0,.int .i64 0,.int .i64 0,.int .i64 0,.int .i64 0,.int .i64 0,.int .i64 0,.int .i64 0,.slice none 0 0]∧∀ i,pT Tryz.prog 30 i=aGP [(0,some 1),(1,some 1),(2,some 1),(3,some 1),(4,some 1),(5,some 1),(6,some 1),(7,some 1),(8,some 1),(9,some 5),(14,some 10)] i:=⟨aWu,by kernel_rfl,aTW,fun i=>oX aWh i⟩
theorem aDp:kX Tryz.prog 30=some (true,24):=by kernel_rfl
theorem aN3:lV Tryz.prog 32=some (30,24,272):=by kernel_rfl
theorem aHS:jZ Tryz.prog 32=3:=by kernel_rfl
theorem tk3:aCx Tryz.prog 3=some .i64:=by kernel_rfl
theorem aEP:aCx Tryz.prog 131=some .u64:=by kernel_rfl
theorem tk5:aCx Tryz.prog 5=some .u8:=by kernel_rfl
theorem aCu:lV Tryz.prog 22=some (5,1,1):=by kernel_rfl
theorem aAJ:eH Tryz.prog 30 1=some (1,false,1):=by kernel_rfl
theorem gA:kX Tryz.prog 3=some (false,1):=by kernel_rfl
theorem aF5:eH Tryz.prog 30 0=some (0,false,1):=by kernel_rfl
theorem aF6:eH Tryz.prog 30 2=some (2,false,1):=by kernel_rfl
theorem aA5:eH Tryz.prog 30 9=some (9,true,5):=by kernel_rfl
theorem jC:kX Tryz.prog 26=some (true,5):=by kernel_rfl
theorem iH:eH Tryz.prog 26 3=some (3,false,1):=by kernel_rfl
theorem nJ:kX Tryz.prog 23=some (false,1):=by kernel_rfl
theorem vC:jZ Tryz.prog 23=3:=by kernel_rfl
theorem uW:lV Tryz.prog 23=some (26,5,80):=by kernel_rfl
theorem aG8:mM Tryz.prog 26=some [.int .i64 0,.int .i64 0,.string ByteArray.empty,.slice none 0 0,.slice none 0 0]:=by kernel_rfl
theorem tZ:eH Tryz.prog 26 2=some (2,false,1):=by kernel_rfl
theorem mG:kX Tryz.prog 9=some (false,1):=by kernel_rfl
theorem uD:jZ Tryz.prog 9=2:=by kernel_rfl
theorem qJ:eH Tryz.prog 26 4=some (4,false,1):=by kernel_rfl
theorem sE:kX Tryz.prog 24=some (false,1):=by kernel_rfl
theorem yZ:jZ Tryz.prog 24=3:=by kernel_rfl
theorem aBI:lV Tryz.prog 24=some (9,1,16):=by kernel_rfl
theorem tY:eH Tryz.prog 26 1=some (1,false,1):=by kernel_rfl
theorem lU:eH Tryz.prog 26 0=some (0,false,1):=by kernel_rfl
theorem tv4:kX Tryz.prog 4=some (false,1):=by kernel_rfl
theorem aCr:eH Tryz.prog 30 3=some (3,false,1):=by kernel_rfl
theorem xZ:eH Tryz.prog 30 7=some (7,false,1):=by kernel_rfl
theorem yA:eH Tryz.prog 30 8=some (8,false,1):=by kernel_rfl
theorem aAd:eH Tryz.prog 30 5=some (5,false,1):=by kernel_rfl
theorem aBW:eH Tryz.prog 30 10=some (14,true,10):=by kernel_rfl
theorem aAm:kX Tryz.prog 28=some (true,10):=by kernel_rfl
theorem aVL:jZ Tryz.prog 103=6:=by kernel_rfl
theorem aKh:mM Tryz.prog 103=some [.int .i64 0,.int .i64 0,.string ByteArray.empty,.string ByteArray.empty,.int .i64 0,.int .i64 0,.int .i64 0,.string ByteArray.empty,.slice none 0 0,.slice none 0 0,.string ByteArray.empty,.int .i64 0,.int .i64 0,.int .i64 0,.int .i64 0,.int .i64 0,.int .i64 0,.int .i64 0,.int .i64 0,.slice none 0 0]:=by kernel_rfl
theorem aVv:aCN Tryz.prog 103=some [(0,some 1),(1,some 1),(2,some 1),(3,some 1),(4,some 1),(5,some 5),(10,some 10)]:=by kernel_rfl
theorem aPZ:jZ Tryz.prog 103=6∧aFk Tryz.prog 103=true∧mM Tryz.prog 103=some [.int .i64 0,.int .i64 0,.string ByteArray.empty,.string ByteArray.empty,.int .i64 0,.int .i64 0,.int .i64 0,.string ByteArray.empty,.slice none 0 0,.slice none 0 0,.string ByteArray.empty,.int .i64 0,.int .i64 0,.int .i64 0,.int .i64 0,.int .i64 0,.int .i64 0,.int .i64 0,.int .i64 0,.slice none 0 0]∧∀ i,pT Tryz.prog 103 i=aGP [(0,some 1),(1,some 1),(2,some 1),(3,some 1),(4,some 1),(5,some 5),(10,some 10)] i:=⟨aVL,by kernel_rfl,aKh,fun i=>oX aVv i⟩
theorem uX:kX Tryz.prog 103=some (true,20):=by kernel_rfl
theorem aBH:eH Tryz.prog 30 6=some (6,false,1):=by kernel_rfl
theorem aCs:eH Tryz.prog 30 4=some (4,false,1):=by kernel_rfl
theorem sN:eH Tryz.prog 103 0=some (0,false,1):=by kernel_rfl
theorem aSN:mM Tryz.prog 160=some [.bool false,.bool false,.bool false,.bool false,.bool false,.bool false]:=by kernel_rfl
theorem aVQ:jZ Tryz.prog 160=6:=by kernel_rfl
theorem aVA:aCN Tryz.prog 160=some [(0,some 1),(1,some 1),(2,some 1),(3,some 1),(4,some 1),(5,some 1)]:=by kernel_rfl
theorem aFE:jZ Tryz.prog 160=6∧aFk Tryz.prog 160=true∧mM Tryz.prog 160=some [.bool false,.bool false,.bool false,.bool false,.bool false,.bool false]∧∀ i,pT Tryz.prog 160 i=aGP [(0,some 1),(1,some 1),(2,some 1),(3,some 1),(4,some 1),(5,some 1)] i:=⟨aVQ,by kernel_rfl,aSN,fun i=>oX aVA i⟩
theorem yU:kX Tryz.prog 160=some (true,6):=by kernel_rfl
theorem aP9:eH Tryz.prog 160 0=some (0,false,1):=by kernel_rfl
theorem aCS:eH Tryz.prog 103 1=some (1,false,1):=by kernel_rfl
theorem aQa:eH Tryz.prog 160 1=some (1,false,1):=by kernel_rfl
theorem aBd:eH Tryz.prog 103 2=some (2,false,1):=by kernel_rfl
theorem aQb:eH Tryz.prog 160 2=some (2,false,1):=by kernel_rfl
theorem aCT:eH Tryz.prog 103 3=some (3,false,1):=by kernel_rfl
theorem aTR:eH Tryz.prog 160 3=some (3,false,1):=by kernel_rfl
theorem uI:eH Tryz.prog 103 4=some (4,false,1):=by kernel_rfl
theorem aTS:eH Tryz.prog 160 4=some (4,false,1):=by kernel_rfl
theorem xC:eH Tryz.prog 103 5=some (5,true,5):=by kernel_rfl
theorem aWs:jZ Tryz.prog 26=6:=by kernel_rfl
theorem aWf:aCN Tryz.prog 26=some [(0,some 1),(1,some 1),(2,some 1),(3,some 1),(4,some 1)]:=by kernel_rfl
theorem aIK:jZ Tryz.prog 26=6∧aFk Tryz.prog 26=true∧mM Tryz.prog 26=some [.int .i64 0,.int .i64 0,.string ByteArray.empty,.slice none 0 0,.slice none 0 0]∧∀ i,pT Tryz.prog 26 i=aGP [(0,some 1),(1,some 1),(2,some 1),(3,some 1),(4,some 1)] i:=⟨aWs,by kernel_rfl,aG8,fun i=>oX aWf i⟩
theorem aTT:eH Tryz.prog 160 5=some (5,false,1):=by kernel_rfl
theorem aBV:eH Tryz.prog 103 6=some (10,true,10):=by kernel_rfl
theorem aWt:jZ Tryz.prog 28=6:=by kernel_rfl
theorem aVa:mM Tryz.prog 28=some [.string ByteArray.empty,.int .i64 0,.int .i64 0,.int .i64 0,.int .i64 0,.int .i64 0,.int .i64 0,.int .i64 0,.int .i64 0,.slice none 0 0]:=by kernel_rfl
theorem aWg:aCN Tryz.prog 28=some [(0,some 1),(1,some 1),(2,some 1),(3,some 1),(4,some 1),(5,some 1),(6,some 1),(7,some 1),(8,some 1),(9,some 1)]:=by kernel_rfl
theorem aRa:jZ Tryz.prog 28=6∧aFk Tryz.prog 28=true∧mM Tryz.prog 28=some [.string ByteArray.empty,.int .i64 0,.int .i64 0,.int .i64 0,.int .i64 0,.int .i64 0,.int .i64 0,.int .i64 0,.int .i64 0,.slice none 0 0]∧∀ i,pT Tryz.prog 28 i=aGP [(0,some 1),(1,some 1),(2,some 1),(3,some 1),(4,some 1),(5,some 1),(6,some 1),(7,some 1),(8,some 1),(9,some 1)] i:=⟨aWt,by kernel_rfl,aVa,fun i=>oX aWg i⟩
theorem aFX:eH Tryz.prog 28 1=some (1,false,1):=by kernel_rfl
theorem aFY:eH Tryz.prog 28 2=some (2,false,1):=by kernel_rfl
theorem aFZ:eH Tryz.prog 28 3=some (3,false,1):=by kernel_rfl
theorem aF0:eH Tryz.prog 28 4=some (4,false,1):=by kernel_rfl
theorem aF1:eH Tryz.prog 28 5=some (5,false,1):=by kernel_rfl
theorem aF2:eH Tryz.prog 28 6=some (6,false,1):=by kernel_rfl
theorem aF3:eH Tryz.prog 28 7=some (7,false,1):=by kernel_rfl
theorem aF4:eH Tryz.prog 28 8=some (8,false,1):=by kernel_rfl
theorem uE:lV Tryz.prog 93=some (92,1,8):=by kernel_rfl
theorem aTU:jZ Tryz.prog 93=3:=by kernel_rfl
theorem vQ:kX Tryz.prog 92=some (false,1):=by kernel_rfl
theorem aCq:eH Tryz.prog 28 0=some (0,false,1):=by kernel_rfl
theorem uA:eH Tryz.prog 28 9=some (9,false,1):=by kernel_rfl
theorem aG6:lV Tryz.prog 76=some (3,1,8):=by kernel_rfl
theorem aPo:jZ Tryz.prog 76=3:=by kernel_rfl
theorem aSL:mM Tryz.prog 139=some [.bool false,.bool false,.bool false,.bool false,.bool false,.bool false,.bool false]:=by kernel_rfl
theorem aVN:jZ Tryz.prog 139=6:=by kernel_rfl
theorem aVx:aCN Tryz.prog 139=some [(0,some 1),(1,some 1),(2,some 1),(3,some 1),(4,some 1),(5,some 1),(6,some 1)]:=by kernel_rfl
theorem aCp:jZ Tryz.prog 139=6∧aFk Tryz.prog 139=true∧mM Tryz.prog 139=some [.bool false,.bool false,.bool false,.bool false,.bool false,.bool false,.bool false]∧∀ i,pT Tryz.prog 139 i=aGP [(0,some 1),(1,some 1),(2,some 1),(3,some 1),(4,some 1),(5,some 1),(6,some 1)] i:=⟨aVN,by kernel_rfl,aSL,fun i=>oX aVx i⟩
theorem rR:kX Tryz.prog 139=some (true,7):=by kernel_rfl
theorem aP5:eH Tryz.prog 139 0=some (0,false,1):=by kernel_rfl
theorem aP6:eH Tryz.prog 139 1=some (1,false,1):=by kernel_rfl
theorem aTG:eH Tryz.prog 139 2=some (2,false,1):=by kernel_rfl
theorem aTH:eH Tryz.prog 139 3=some (3,false,1):=by kernel_rfl
theorem aTI:eH Tryz.prog 139 4=some (4,false,1):=by kernel_rfl
theorem aTJ:eH Tryz.prog 139 5=some (5,false,1):=by kernel_rfl
theorem aTK:eH Tryz.prog 139 6=some (6,false,1):=by kernel_rfl
theorem tv5:kX Tryz.prog 5=some (false,1):=by kernel_rfl
theorem aVR:jZ Tryz.prog 22≠7:=by rw [aFi];decide
theorem aWx:jZ Tryz.prog 89=6:=by kernel_rfl
theorem aWz:mM Tryz.prog 89=some [.slice none 0 0,.int .i64 0,.int .i64 0,.bool false]:=by kernel_rfl
theorem aWk:aCN Tryz.prog 89=some [(0,some 1),(1,some 1),(2,some 1),(3,some 1)]:=by kernel_rfl
theorem aWr:jZ Tryz.prog 89=6∧aFk Tryz.prog 89=true∧mM Tryz.prog 89=some [.slice none 0 0,.int .i64 0,.int .i64 0,.bool false]∧∀ i,pT Tryz.prog 89 i=aGP [(0,some 1),(1,some 1),(2,some 1),(3,some 1)] i:=⟨aWx,by kernel_rfl,aWz,fun i=>oX aWk i⟩
theorem aU8:jZ Tryz.prog 45=5:=by kernel_rfl
theorem aSH:eH Tryz.prog 89 3=some (3,false,1):=by kernel_rfl
theorem aEO:eH Tryz.prog 89 2=some (2,false,1):=by kernel_rfl
theorem aG7:kX Tryz.prog 37=some (false,1):=by kernel_rfl
theorem aMq:eH Tryz.prog 89 0=some (0,false,1):=by kernel_rfl
theorem aTV:kX Tryz.prog 22=some (false,1):=by kernel_rfl
theorem aDQ:eH Tryz.prog 89 1=some (1,false,1):=by kernel_rfl
theorem aN2:eG.tyBytes Tryz.prog 22:=by show (match Tryz.prog.underlying 22 with | some (.slice e)=>aCx Tryz.prog e=some .u8 | _=>False);rw [show Tryz.prog.underlying 22=some (.slice 5) by kernel_rfl];exact (by kernel_rfl:aCx Tryz.prog 5=some .u8)
theorem aVO:jZ Tryz.prog 146=6:=by kernel_rfl
theorem aVS:mM Tryz.prog 146=some [.pointer none,.int .i64 0]:=by kernel_rfl
theorem aVy:aCN Tryz.prog 146=some [(0,some 1),(1,some 1)]:=by kernel_rfl
theorem aVK:jZ Tryz.prog 146=6∧aFk Tryz.prog 146=true∧mM Tryz.prog 146=some [.pointer none,.int .i64 0]∧∀ i,pT Tryz.prog 146 i=aGP [(0,some 1),(1,some 1)] i:=⟨aVO,by kernel_rfl,aVS,fun i=>oX aVy i⟩
theorem aMo:eH Tryz.prog 146 1=some (1,false,1):=by kernel_rfl
theorem aBe:eH Tryz.prog 146 0=some (0,false,1):=by kernel_rfl
theorem aKU:kX Tryz.prog 45=some (false,1):=by kernel_rfl
theorem aSM:mM Tryz.prog 154=some [.bool false,.bool false,.bool false,.bool false,.bool false,.bool false,.bool false,.bool false]:=by kernel_rfl
theorem aVP:jZ Tryz.prog 154=6:=by kernel_rfl
theorem aVz:aCN Tryz.prog 154=some [(0,some 1),(1,some 1),(2,some 1),(3,some 1),(4,some 1),(5,some 1),(6,some 1),(7,some 1)]:=by kernel_rfl
theorem xB:jZ Tryz.prog 154=6∧aFk Tryz.prog 154=true∧mM Tryz.prog 154=some [.bool false,.bool false,.bool false,.bool false,.bool false,.bool false,.bool false,.bool false]∧∀ i,pT Tryz.prog 154 i=aGP [(0,some 1),(1,some 1),(2,some 1),(3,some 1),(4,some 1),(5,some 1),(6,some 1),(7,some 1)] i:=⟨aVP,by kernel_rfl,aSM,fun i=>oX aVz i⟩
theorem mD:kX Tryz.prog 154=some (true,8):=by kernel_rfl
theorem aP7:eH Tryz.prog 154 0=some (0,false,1):=by kernel_rfl
theorem aP8:eH Tryz.prog 154 1=some (1,false,1):=by kernel_rfl
theorem aTL:eH Tryz.prog 154 2=some (2,false,1):=by kernel_rfl
theorem aTM:eH Tryz.prog 154 3=some (3,false,1):=by kernel_rfl
theorem aTN:eH Tryz.prog 154 4=some (4,false,1):=by kernel_rfl
theorem aTO:eH Tryz.prog 154 5=some (5,false,1):=by kernel_rfl
theorem aTP:eH Tryz.prog 154 6=some (6,false,1):=by kernel_rfl
theorem aTQ:eH Tryz.prog 154 7=some (7,false,1):=by kernel_rfl
theorem aCU:eH Tryz.prog 57 12=some (25,false,1):=by kernel_rfl
theorem aN4:kX Tryz.prog 55=some (false,1):=by kernel_rfl
theorem aMr:jZ Tryz.prog 55=3:=by kernel_rfl
theorem aWv:jZ Tryz.prog 57=6:=by kernel_rfl
theorem aSO:mM Tryz.prog 57=some [.int .i64 0,.int .i64 0,.string ByteArray.empty,.string ByteArray.empty,.string ByteArray.empty,.string ByteArray.empty,.int .i64 0,.int .i64 0,.int .i64 0,.int .i64 0,.int .i64 0,.int .i64 0,.string ByteArray.empty,.slice none 0 0,.slice none 0 0,.string ByteArray.empty,.int .i64 0,.int .i64 0,.int .i64 0,.int .i64 0,.int .i64 0,.int .i64 0,.int .i64 0,.int .i64 0,.slice none 0 0,.slice none 0 0,.string ByteArray.empty]:=by kernel_rfl
theorem aWi:aCN Tryz.prog 57=some [(0,some 1),(1,some 1),(2,some 1),(3,some 1),(4,some 1),(5,some 1),(6,some 1),(7,some 1),(8,some 1),(9,some 1),(10,some 5),(15,some 10),(25,some 1),(26,some 1)]:=by kernel_rfl
theorem aTA:jZ Tryz.prog 57=6∧aFk Tryz.prog 57=true∧mM Tryz.prog 57=some [.int .i64 0,.int .i64 0,.string ByteArray.empty,.string ByteArray.empty,.string ByteArray.empty,.string ByteArray.empty,.int .i64 0,.int .i64 0,.int .i64 0,.int .i64 0,.int .i64 0,.int .i64 0,.string ByteArray.empty,.slice none 0 0,.slice none 0 0,.string ByteArray.empty,.int .i64 0,.int .i64 0,.int .i64 0,.int .i64 0,.int .i64 0,.int .i64 0,.int .i64 0,.int .i64 0,.slice none 0 0,.slice none 0 0,.string ByteArray.empty]∧∀ i,pT Tryz.prog 57 i=aGP [(0,some 1),(1,some 1),(2,some 1),(3,some 1),(4,some 1),(5,some 1),(6,some 1),(7,some 1),(8,some 1),(9,some 1),(10,some 5),(15,some 10),(25,some 1),(26,some 1)] i:=⟨aWv,by kernel_rfl,aSO,fun i=>oX aWi i⟩
theorem aER:kX Tryz.prog 57=some (true,27):=by kernel_rfl
theorem aCt:eH Tryz.prog 57 0=some (0,false,1):=by kernel_rfl
theorem aSK:mM Tryz.prog 116=some [.bool false,.bool false,.bool false,.bool false,.bool false,.bool false,.bool false,.bool false,.bool false]:=by kernel_rfl
theorem aVM:jZ Tryz.prog 116=6:=by kernel_rfl
theorem aVw:aCN Tryz.prog 116=some [(0,some 1),(1,some 1),(2,some 1),(3,some 1),(4,some 1),(5,some 1),(6,some 1),(7,some 1),(8,some 1)]:=by kernel_rfl
theorem aCR:jZ Tryz.prog 116=6∧aFk Tryz.prog 116=true∧mM Tryz.prog 116=some [.bool false,.bool false,.bool false,.bool false,.bool false,.bool false,.bool false,.bool false,.bool false]∧∀ i,pT Tryz.prog 116 i=aGP [(0,some 1),(1,some 1),(2,some 1),(3,some 1),(4,some 1),(5,some 1),(6,some 1),(7,some 1),(8,some 1)] i:=⟨aVM,by kernel_rfl,aSK,fun i=>oX aVw i⟩
theorem sD:kX Tryz.prog 116=some (true,9):=by kernel_rfl
theorem aKc:eH Tryz.prog 57 1=some (1,false,1):=by kernel_rfl
theorem aP0:eH Tryz.prog 116 0=some (0,false,1):=by kernel_rfl
theorem aF7:eH Tryz.prog 57 4=some (4,false,1):=by kernel_rfl
theorem aP1:eH Tryz.prog 116 1=some (1,false,1):=by kernel_rfl
theorem aC6:eH Tryz.prog 57 5=some (5,false,1):=by kernel_rfl
theorem aP2:eH Tryz.prog 116 2=some (2,false,1):=by kernel_rfl
theorem aHO:eH Tryz.prog 57 6=some (6,false,1):=by kernel_rfl
theorem aP3:eH Tryz.prog 116 3=some (3,false,1):=by kernel_rfl
theorem aHP:eH Tryz.prog 57 7=some (7,false,1):=by kernel_rfl
theorem aP4:eH Tryz.prog 116 4=some (4,false,1):=by kernel_rfl
theorem aHQ:eH Tryz.prog 57 8=some (8,false,1):=by kernel_rfl
theorem aTC:eH Tryz.prog 116 5=some (5,false,1):=by kernel_rfl
theorem aAK:eH Tryz.prog 57 9=some (9,false,1):=by kernel_rfl
theorem aTD:eH Tryz.prog 116 6=some (6,false,1):=by kernel_rfl
theorem aFc:eH Tryz.prog 57 10=some (10,true,5):=by kernel_rfl
theorem aTE:eH Tryz.prog 116 7=some (7,false,1):=by kernel_rfl
theorem aTF:eH Tryz.prog 116 8=some (8,false,1):=by kernel_rfl
theorem aFd:eH Tryz.prog 57 13=some (26,false,1):=by kernel_rfl
theorem aMp:eH Tryz.prog 57 11=some (15,true,10):=by kernel_rfl
theorem aHM:eH Tryz.prog 57 2=some (2,false,1):=by kernel_rfl
theorem aHN:eH Tryz.prog 57 3=some (3,false,1):=by kernel_rfl
theorem aRb:lV Tryz.prog 55=some (103,20,240):=by kernel_rfl
theorem aTX:mM Tryz.prog 66=some [.int .i64 0,.string ByteArray.empty,.int .i64 0,.int .i64 0,.int .i64 0,.int .i64 0,.string ByteArray.empty,.slice none 0 0,.slice none 0 0,.slice none 0 0]:=by kernel_rfl
theorem aWw:jZ Tryz.prog 66=6:=by kernel_rfl
theorem aWj:aCN Tryz.prog 66=some [(0,some 1),(1,some 1),(2,some 1),(3,some 1),(4,some 5),(9,some 1)]:=by kernel_rfl
theorem aU7:jZ Tryz.prog 66=6∧aFk Tryz.prog 66=true∧mM Tryz.prog 66=some [.int .i64 0,.string ByteArray.empty,.int .i64 0,.int .i64 0,.int .i64 0,.int .i64 0,.string ByteArray.empty,.slice none 0 0,.slice none 0 0,.slice none 0 0]∧∀ i,pT Tryz.prog 66 i=aGP [(0,some 1),(1,some 1),(2,some 1),(3,some 1),(4,some 5),(9,some 1)] i:=⟨aWw,by kernel_rfl,aTX,fun i=>oX aWj i⟩
theorem aFj:kX Tryz.prog 66=some (true,10):=by kernel_rfl
theorem aF8:eH Tryz.prog 66 1=some (1,false,1):=by kernel_rfl
theorem aF9:eH Tryz.prog 66 2=some (2,false,1):=by kernel_rfl
theorem aKd:eH Tryz.prog 66 3=some (3,false,1):=by kernel_rfl
theorem aGa:eH Tryz.prog 66 4=some (4,true,5):=by kernel_rfl
theorem yB:eH Tryz.prog 66 5=some (9,false,1):=by kernel_rfl
theorem aEQ:kX Tryz.prog 32=some (false,1):=by kernel_rfl
theorem aHR:eH Tryz.prog 66 0=some (0,false,1):=by kernel_rfl
theorem aV9:aRc Tryz.prog 30=some [3,3,3,3,3,3,3,9,9,26,28]:=by kernel_rfl
theorem aV7:aRc Tryz.prog 26=some [3,3,9,23,24]:=by kernel_rfl
theorem aV3:Tryz.prog.bytesOf 26=80:=by kernel_rfl
theorem aWo:aSJ Tryz.prog 23=some (26,5):=by kernel_rfl
theorem by9:Tryz.prog.bytesOf 9=16:=by kernel_rfl
theorem aVI:aSJ Tryz.prog 24=some (9,1):=by kernel_rfl
theorem aV8:aRc Tryz.prog 28=some [9,3,3,3,3,3,3,3,3,24]:=by kernel_rfl
theorem aV4:Tryz.prog.bytesOf 30=272:=by kernel_rfl
theorem aWp:aSJ Tryz.prog 32=some (30,24):=by kernel_rfl
theorem aWa:aRc Tryz.prog 66=some [37,9,3,3,26,32]:=by kernel_rfl
theorem aWy:aCx Tryz.prog 37=some .i64:=by kernel_rfl

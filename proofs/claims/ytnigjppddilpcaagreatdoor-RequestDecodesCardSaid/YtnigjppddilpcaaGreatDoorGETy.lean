import Derived.Test.YtnigjppddilpcaaGreatDoorProg
import Derived.Test.YtnigjppddilpcaaGreatDoorAbs29
import Derived.Test.YtnigjppddilpcaaGreatDoorLib
namespace Go.Proofs.YtnigjppddilpcaaGreatDoor
open Go Abs
set_option maxRecDepth 100000
set_option linter.unusedVariables false
set_option linter.unusedSimpArgs false
theorem bx {α β:Type}{o:Option α}{f:α→Option β}{r:β}{Q:Prop}(h:o.bind f=some r)(k:∀ x,o=some x→f x=some r→Q):Q:=by
 obtain ⟨x,a,b⟩:=iW h
 exact k x a b
abbrev aE:AV:=.box 0 0
abbrev aMb:AV:=.box 0 1
abbrev aTa:AV:=.box 0 10
abbrev aMc:AV:=.box 0 2
abbrev aMd:AV:=.box 0 3
abbrev aMe:AV:=.box 0 4
abbrev aMf:AV:=.box 0 5
abbrev aMg:AV:=.box 0 6
abbrev aMh:AV:=.box 0 7
abbrev aMi:AV:=.box 0 8
abbrev aU:AV:=.box 1 0
abbrev cK:AV:=.box 2 0
abbrev aFq:AV:=.box 2 1
abbrev aFr:AV:=.box 2 2
abbrev aQr:AV:=.box 2 25
abbrev aEd:AV:=.box 2 3
abbrev aEe:AV:=.box 2 4
abbrev aFs:AV:=.box 2 5
abbrev aFt:AV:=.box 2 6
abbrev aMj:AV:=.box 2 7
abbrev aMk:AV:=.box 2 8
abbrev aKw:AV:=.box 2 9
abbrev jO:AV:=.box 3 0
abbrev aOC:AV:=.box 4 0
theorem aUR {a0 a1 a2 a3 a4 a5 a6 a7 a8 a9:AV}:a0.le a0∧a1.le a1∧a2.le a2∧a3.le a3∧a4.le a4∧a5.le a5∧a6.le a6∧a7.le a7∧a8.le a8∧a9.le a9∧True:=⟨lr,lr,lr,lr,lr,lr,lr,lr,lr,lr,trivial⟩
theorem jN {a0 a1:AV}:a0.le a0∧a1.le a1∧True:=⟨lr,lr,trivial⟩
theorem kA {a0 a1 a2:AV}:a0.le a0∧a1.le a1∧a2.le a2∧True:=⟨lr,lr,lr,trivial⟩
theorem kL4 {a0 a1 a2 a3:AV}:a0.le a0∧a1.le a1∧a2.le a2∧a3.le a3∧True:=⟨lr,lr,lr,lr,trivial⟩
theorem kL5 {a0 a1 a2 a3 a4:AV}:a0.le a0∧a1.le a1∧a2.le a2∧a3.le a3∧a4.le a4∧True:=⟨lr,lr,lr,lr,lr,trivial⟩
theorem kL6 {a0 a1 a2 a3 a4 a5:AV}:a0.le a0∧a1.le a1∧a2.le a2∧a3.le a3∧a4.le a4∧a5.le a5∧True:=⟨lr,lr,lr,lr,lr,lr,trivial⟩
theorem aBA {α:Type}{a0 a1 a2 a3 a4 a5 a6 a7 a8 a9:α}:a0=a0∧a1=a1∧a2=a2∧a3=a3∧a4=a4∧a5=a5∧a6=a6∧a7=a7∧a8=a8∧a9=a9∧True:=⟨r,r,r,r,r,r,r,r,r,r,trivial⟩
theorem aDF {α:Type}{a0 a1 a2 a3 a4 a5 a6 a7 a8 a9 a10 a11 a12 a13 a14 a15 a16 a17 a18 a19:α}:a0=a0∧a1=a1∧a2=a2∧a3=a3∧a4=a4∧a5=a5∧a6=a6∧a7=a7∧a8=a8∧a9=a9∧a10=a10∧a11=a11∧a12=a12∧a13=a13∧a14=a14∧a15=a15∧a16=a16∧a17=a17∧a18=a18∧a19=a19∧True:=⟨r,r,r,r,r,r,r,r,r,r,r,r,r,r,r,r,r,r,r,r,trivial⟩
theorem aGn {α:Type}{a0 a1 a2 a3 a4 a5 a6 a7 a8 a9 a10 a11 a12 a13 a14 a15 a16 a17 a18 a19 a20 a21 a22 a23:α}:a0=a0∧a1=a1∧a2=a2∧a3=a3∧a4=a4∧a5=a5∧a6=a6∧a7=a7∧a8=a8∧a9=a9∧a10=a10∧a11=a11∧a12=a12∧a13=a13∧a14=a14∧a15=a15∧a16=a16∧a17=a17∧a18=a18∧a19=a19∧a20=a20∧a21=a21∧a22=a22∧a23=a23∧True:=⟨r,r,r,r,r,r,r,r,r,r,r,r,r,r,r,r,r,r,r,r,r,r,r,r,trivial⟩
theorem aI2 {α:Type}{a0 a1 a2 a3 a4 a5 a6 a7 a8 a9 a10 a11 a12 a13 a14 a15 a16 a17 a18 a19 a20 a21 a22 a23 a24 a25 a26:α}:a0=a0∧a1=a1∧a2=a2∧a3=a3∧a4=a4∧a5=a5∧a6=a6∧a7=a7∧a8=a8∧a9=a9∧a10=a10∧a11=a11∧a12=a12∧a13=a13∧a14=a14∧a15=a15∧a16=a16∧a17=a17∧a18=a18∧a19=a19∧a20=a20∧a21=a21∧a22=a22∧a23=a23∧a24=a24∧a25=a25∧a26=a26∧True:=⟨r,r,r,r,r,r,r,r,r,r,r,r,r,r,r,r,r,r,r,r,r,r,r,r,r,r,r,trivial⟩
theorem oX {α:Type}{a0 a1 a2:α}:a0=a0∧a1=a1∧a2=a2∧True:=⟨r,r,r,trivial⟩
theorem nO {α:Type}{a0 a1 a2 a3:α}:a0=a0∧a1=a1∧a2=a2∧a3=a3∧True:=⟨r,r,r,r,trivial⟩
theorem kR5 {α:Type}{a0 a1 a2 a3 a4:α}:a0=a0∧a1=a1∧a2=a2∧a3=a3∧a4=a4∧True:=⟨r,r,r,r,r,trivial⟩
theorem kR6 {α:Type}{a0 a1 a2 a3 a4 a5:α}:a0=a0∧a1=a1∧a2=a2∧a3=a3∧a4=a4∧a5=a5∧True:=⟨r,r,r,r,r,r,trivial⟩
theorem kR7 {α:Type}{a0 a1 a2 a3 a4 a5 a6:α}:a0=a0∧a1=a1∧a2=a2∧a3=a3∧a4=a4∧a5=a5∧a6=a6∧True:=⟨r,r,r,r,r,r,r,trivial⟩
theorem kR8 {α:Type}{a0 a1 a2 a3 a4 a5 a6 a7:α}:a0=a0∧a1=a1∧a2=a2∧a3=a3∧a4=a4∧a5=a5∧a6=a6∧a7=a7∧True:=⟨r,r,r,r,r,r,r,r,trivial⟩
theorem kR9 {α:Type}{a0 a1 a2 a3 a4 a5 a6 a7 a8:α}:a0=a0∧a1=a1∧a2=a2∧a3=a3∧a4=a4∧a5=a5∧a6=a6∧a7=a7∧a8=a8∧True:=⟨r,r,r,r,r,r,r,r,r,trivial⟩
abbrev ci (n:Int):AV:=.c (.int .i64 n)
abbrev eZ {b0:Bool}{b1:Bool}{b2:Bool}{b3:Bool}{b4:Bool}{b5:Bool}:List AV:=[.c (.bool b0),.c (.bool b1),.c (.bool b2),.c (.bool b3),.c (.bool b4),.c (.bool b5)]
abbrev cX {b0:Bool}{b1:Bool}{b2:Bool}{b3:Bool}{b4:Bool}{b5:Bool}{b6:Bool}:List AV:=[.c (.bool b0),.c (.bool b1),.c (.bool b2),.c (.bool b3),.c (.bool b4),.c (.bool b5),.c (.bool b6)]
abbrev bP {b0:Bool}{b1:Bool}{b2:Bool}{b3:Bool}{b4:Bool}{b5:Bool}{b6:Bool}{b7:Bool}:List AV:=[.c (.bool b0),.c (.bool b1),.c (.bool b2),.c (.bool b3),.c (.bool b4),.c (.bool b5),.c (.bool b6),.c (.bool b7)]
abbrev bX {b0:Bool}{b1:Bool}{b2:Bool}{b3:Bool}{b4:Bool}{b5:Bool}{b6:Bool}{b7:Bool}{b8:Bool}:List AV:=[.c (.bool b0),.c (.bool b1),.c (.bool b2),.c (.bool b3),.c (.bool b4),.c (.bool b5),.c (.bool b6),.c (.bool b7),.c (.bool b8)]
abbrev fG {b0:Bool}{α1:Type}{z1:Nat}{r1:α1→List PV}{x1:List α1}{k2:IntKind}{n2:Int}:List AV:=[.c (.bool b0),.c (PV.ls z1 r1 x1),.c (.int k2 n2)]
abbrev aUI {b0:Bool}  {k2:IntKind}{n2:Int}:List AV:=[.c (.bool b0),AV.nil,.c (.int k2 n2)]
abbrev bA {k0:IntKind}{n0:Int}{k1:IntKind}{n1:Int}{k2:IntKind}{n2:Int}{k3:IntKind}{n3:Int}{k4:IntKind}{n4:Int}{k5:IntKind}{n5:Int}{k6:IntKind}{n6:Int}{s7:List UInt8}{s8:List UInt8}{k9:IntKind}{n9:Int}{k10:IntKind}{n10:Int}{s11:List UInt8}{α12:Type}{z12:Nat}{r12:α12→List PV}{x12:List α12}{α13:Type}{z13:Nat}{r13:α13→List PV}{x13:List α13}{s14:List UInt8}{k15:IntKind}{n15:Int}{k16:IntKind}{n16:Int}{k17:IntKind}{n17:Int}{k18:IntKind}{n18:Int}{k19:IntKind}{n19:Int}{k20:IntKind}{n20:Int}{k21:IntKind}{n21:Int}{k22:IntKind}{n22:Int}{α23:Type}{z23:Nat}{r23:α23→List PV}{x23:List α23}:List AV:=[.c (.int k0 n0),.c (.int k1 n1),.c (.int k2 n2),.c (.int k3 n3),.c (.int k4 n4),.c (.int k5 n5),.c (.int k6 n6),.c (.str s7),.c (.str s8),.c (.int k9 n9),.c (.int k10 n10),.c (.str s11),.c (PV.ls z12 r12 x12),.c (PV.ls z13 r13 x13),.c (.str s14),.c (.int k15 n15),.c (.int k16 n16),.c (.int k17 n17),.c (.int k18 n18),.c (.int k19 n19),.c (.int k20 n20),.c (.int k21 n21),.c (.int k22 n22),.c (PV.ls z23 r23 x23)]
abbrev lW {k0:IntKind}{n0:Int}{k1:IntKind}{n1:Int}{k2:IntKind}{n2:Int}{k3:IntKind}{n3:Int}{k4:IntKind}{n4:Int}{k5:IntKind}{n5:Int}{k6:IntKind}{n6:Int}{s7:List UInt8}{s8:List UInt8}{k9:IntKind}{n9:Int}{k10:IntKind}{n10:Int}{s11:List UInt8}{α12:Type}{z12:Nat}{r12:α12→List PV}{x12:List α12}{α13:Type}{z13:Nat}{r13:α13→List PV}{x13:List α13}{s14:List UInt8}{k15:IntKind}{n15:Int}{k16:IntKind}{n16:Int}{k17:IntKind}{n17:Int}{k18:IntKind}{n18:Int}{k19:IntKind}{n19:Int}{k20:IntKind}{n20:Int}{k21:IntKind}{n21:Int}{k22:IntKind}{n22:Int}  : List AV:=[.c (.int k0 n0),.c (.int k1 n1),.c (.int k2 n2),.c (.int k3 n3),.c (.int k4 n4),.c (.int k5 n5),.c (.int k6 n6),.c (.str s7),.c (.str s8),.c (.int k9 n9),.c (.int k10 n10),.c (.str s11),.c (PV.ls z12 r12 x12),.c (PV.ls z13 r13 x13),.c (.str s14),.c (.int k15 n15),.c (.int k16 n16),.c (.int k17 n17),.c (.int k18 n18),.c (.int k19 n19),.c (.int k20 n20),.c (.int k21 n21),.c (.int k22 n22),AV.nil]
abbrev aJ {k0:IntKind}{n0:Int}{k1:IntKind}{n1:Int}{k2:IntKind}{n2:Int}{k3:IntKind}{n3:Int}{k4:IntKind}{n4:Int}{k5:IntKind}{n5:Int}{k6:IntKind}{n6:Int}{s7:List UInt8}{s8:List UInt8}{k9:IntKind}{n9:Int}{k10:IntKind}{n10:Int}{s11:List UInt8}   {s14:List UInt8}{k15:IntKind}{n15:Int}{k16:IntKind}{n16:Int}{k17:IntKind}{n17:Int}{k18:IntKind}{n18:Int}{k19:IntKind}{n19:Int}{k20:IntKind}{n20:Int}{k21:IntKind}{n21:Int}{k22:IntKind}{n22:Int}  : List AV:=[.c (.int k0 n0),.c (.int k1 n1),.c (.int k2 n2),.c (.int k3 n3),.c (.int k4 n4),.c (.int k5 n5),.c (.int k6 n6),.c (.str s7),.c (.str s8),.c (.int k9 n9),.c (.int k10 n10),.c (.str s11),AV.nil,AV.nil,.c (.str s14),.c (.int k15 n15),.c (.int k16 n16),.c (.int k17 n17),.c (.int k18 n18),.c (.int k19 n19),.c (.int k20 n20),.c (.int k21 n21),.c (.int k22 n22),AV.nil]
abbrev cE {k0:IntKind}{n0:Int}{k1:IntKind}{n1:Int}{s2:List UInt8}{α3:Type}{z3:Nat}{r3:α3→List PV}{x3:List α3}{α4:Type}{z4:Nat}{r4:α4→List PV}{x4:List α4}:List AV:=[.c (.int k0 n0),.c (.int k1 n1),.c (.str s2),.c (PV.ls z3 r3 x3),.c (PV.ls z4 r4 x4)]
abbrev cB {k0:IntKind}{n0:Int}{k1:IntKind}{n1:Int}{s2:List UInt8}   : List AV:=[.c (.int k0 n0),.c (.int k1 n1),.c (.str s2),AV.nil,AV.nil]
abbrev aW {k0:IntKind}{n0:Int}{k1:IntKind}{n1:Int}{s2:List UInt8}{s3:List UInt8}{k4:IntKind}{n4:Int}{k5:IntKind}{n5:Int}{k6:IntKind}{n6:Int}{s7:List UInt8}{α8:Type}{z8:Nat}{r8:α8→List PV}{x8:List α8}{α9:Type}{z9:Nat}{r9:α9→List PV}{x9:List α9}{s10:List UInt8}{k11:IntKind}{n11:Int}{k12:IntKind}{n12:Int}{k13:IntKind}{n13:Int}{k14:IntKind}{n14:Int}{k15:IntKind}{n15:Int}{k16:IntKind}{n16:Int}{k17:IntKind}{n17:Int}{k18:IntKind}{n18:Int}{α19:Type}{z19:Nat}{r19:α19→List PV}{x19:List α19}:List AV:=[.c (.int k0 n0),.c (.int k1 n1),.c (.str s2),.c (.str s3),.c (.int k4 n4),.c (.int k5 n5),.c (.int k6 n6),.c (.str s7),.c (PV.ls z8 r8 x8),.c (PV.ls z9 r9 x9),.c (.str s10),.c (.int k11 n11),.c (.int k12 n12),.c (.int k13 n13),.c (.int k14 n14),.c (.int k15 n15),.c (.int k16 n16),.c (.int k17 n17),.c (.int k18 n18),.c (PV.ls z19 r19 x19)]
abbrev iA {k0:IntKind}{n0:Int}{k1:IntKind}{n1:Int}{s2:List UInt8}{s3:List UInt8}{k4:IntKind}{n4:Int}{k5:IntKind}{n5:Int}{k6:IntKind}{n6:Int}{s7:List UInt8}{α8:Type}{z8:Nat}{r8:α8→List PV}{x8:List α8}{α9:Type}{z9:Nat}{r9:α9→List PV}{x9:List α9}{s10:List UInt8}{k11:IntKind}{n11:Int}{k12:IntKind}{n12:Int}{k13:IntKind}{n13:Int}{k14:IntKind}{n14:Int}{k15:IntKind}{n15:Int}{k16:IntKind}{n16:Int}{k17:IntKind}{n17:Int}{k18:IntKind}{n18:Int}  : List AV:=[.c (.int k0 n0),.c (.int k1 n1),.c (.str s2),.c (.str s3),.c (.int k4 n4),.c (.int k5 n5),.c (.int k6 n6),.c (.str s7),.c (PV.ls z8 r8 x8),.c (PV.ls z9 r9 x9),.c (.str s10),.c (.int k11 n11),.c (.int k12 n12),.c (.int k13 n13),.c (.int k14 n14),.c (.int k15 n15),.c (.int k16 n16),.c (.int k17 n17),.c (.int k18 n18),AV.nil]
abbrev aEn {k0:IntKind}{n0:Int}{k1:IntKind}{n1:Int}{s2:List UInt8}{s3:List UInt8}{k4:IntKind}{n4:Int}{k5:IntKind}{n5:Int}{k6:IntKind}{n6:Int}{s7:List UInt8}   {s10:List UInt8}{k11:IntKind}{n11:Int}{k12:IntKind}{n12:Int}{k13:IntKind}{n13:Int}{k14:IntKind}{n14:Int}{k15:IntKind}{n15:Int}{k16:IntKind}{n16:Int}{k17:IntKind}{n17:Int}{k18:IntKind}{n18:Int}{α19:Type}{z19:Nat}{r19:α19→List PV}{x19:List α19}:List AV:=[.c (.int k0 n0),.c (.int k1 n1),.c (.str s2),.c (.str s3),.c (.int k4 n4),.c (.int k5 n5),.c (.int k6 n6),.c (.str s7),AV.nil,AV.nil,.c (.str s10),.c (.int k11 n11),.c (.int k12 n12),.c (.int k13 n13),.c (.int k14 n14),.c (.int k15 n15),.c (.int k16 n16),.c (.int k17 n17),.c (.int k18 n18),.c (PV.ls z19 r19 x19)]
abbrev aM {k0:IntKind}{n0:Int}{k1:IntKind}{n1:Int}{s2:List UInt8}{s3:List UInt8}{k4:IntKind}{n4:Int}{k5:IntKind}{n5:Int}{k6:IntKind}{n6:Int}{s7:List UInt8}   {s10:List UInt8}{k11:IntKind}{n11:Int}{k12:IntKind}{n12:Int}{k13:IntKind}{n13:Int}{k14:IntKind}{n14:Int}{k15:IntKind}{n15:Int}{k16:IntKind}{n16:Int}{k17:IntKind}{n17:Int}{k18:IntKind}{n18:Int}  : List AV:=[.c (.int k0 n0),.c (.int k1 n1),.c (.str s2),.c (.str s3),.c (.int k4 n4),.c (.int k5 n5),.c (.int k6 n6),.c (.str s7),AV.nil,AV.nil,.c (.str s10),.c (.int k11 n11),.c (.int k12 n12),.c (.int k13 n13),.c (.int k14 n14),.c (.int k15 n15),.c (.int k16 n16),.c (.int k17 n17),.c (.int k18 n18),AV.nil]
abbrev aF {k0:IntKind}{n0:Int}{k1:IntKind}{n1:Int}{s2:List UInt8}{s3:List UInt8}{s4:List UInt8}{s5:List UInt8}{k6:IntKind}{n6:Int}{k7:IntKind}{n7:Int}{k8:IntKind}{n8:Int}{k9:IntKind}{n9:Int}{k10:IntKind}{n10:Int}{k11:IntKind}{n11:Int}{s12:List UInt8}{α13:Type}{z13:Nat}{r13:α13→List PV}{x13:List α13}{α14:Type}{z14:Nat}{r14:α14→List PV}{x14:List α14}{s15:List UInt8}{k16:IntKind}{n16:Int}{k17:IntKind}{n17:Int}{k18:IntKind}{n18:Int}{k19:IntKind}{n19:Int}{k20:IntKind}{n20:Int}{k21:IntKind}{n21:Int}{k22:IntKind}{n22:Int}{k23:IntKind}{n23:Int}{α24:Type}{z24:Nat}{r24:α24→List PV}{x24:List α24}{α25:Type}{z25:Nat}{r25:α25→List PV}{x25:List α25}{s26:List UInt8}:List AV:=[.c (.int k0 n0),.c (.int k1 n1),.c (.str s2),.c (.str s3),.c (.str s4),.c (.str s5),.c (.int k6 n6),.c (.int k7 n7),.c (.int k8 n8),.c (.int k9 n9),.c (.int k10 n10),.c (.int k11 n11),.c (.str s12),.c (PV.ls z13 r13 x13),.c (PV.ls z14 r14 x14),.c (.str s15),.c (.int k16 n16),.c (.int k17 n17),.c (.int k18 n18),.c (.int k19 n19),.c (.int k20 n20),.c (.int k21 n21),.c (.int k22 n22),.c (.int k23 n23),.c (PV.ls z24 r24 x24),.c (PV.ls z25 r25 x25),.c (.str s26)]
abbrev jI {k0:IntKind}{n0:Int}{k1:IntKind}{n1:Int}{s2:List UInt8}{s3:List UInt8}{s4:List UInt8}{s5:List UInt8}{k6:IntKind}{n6:Int}{k7:IntKind}{n7:Int}{k8:IntKind}{n8:Int}{k9:IntKind}{n9:Int}{k10:IntKind}{n10:Int}{k11:IntKind}{n11:Int}{s12:List UInt8}{α13:Type}{z13:Nat}{r13:α13→List PV}{x13:List α13}{α14:Type}{z14:Nat}{r14:α14→List PV}{x14:List α14}{s15:List UInt8}{k16:IntKind}{n16:Int}{k17:IntKind}{n17:Int}{k18:IntKind}{n18:Int}{k19:IntKind}{n19:Int}{k20:IntKind}{n20:Int}{k21:IntKind}{n21:Int}{k22:IntKind}{n22:Int}{k23:IntKind}{n23:Int}{α24:Type}{z24:Nat}{r24:α24→List PV}{x24:List α24}  {s26:List UInt8}:List AV:=[.c (.int k0 n0),.c (.int k1 n1),.c (.str s2),.c (.str s3),.c (.str s4),.c (.str s5),.c (.int k6 n6),.c (.int k7 n7),.c (.int k8 n8),.c (.int k9 n9),.c (.int k10 n10),.c (.int k11 n11),.c (.str s12),.c (PV.ls z13 r13 x13),.c (PV.ls z14 r14 x14),.c (.str s15),.c (.int k16 n16),.c (.int k17 n17),.c (.int k18 n18),.c (.int k19 n19),.c (.int k20 n20),.c (.int k21 n21),.c (.int k22 n22),.c (.int k23 n23),.c (PV.ls z24 r24 x24),AV.nil,.c (.str s26)]
abbrev aBM {k0:IntKind}{n0:Int}{k1:IntKind}{n1:Int}{s2:List UInt8}{s3:List UInt8}{s4:List UInt8}{s5:List UInt8}{k6:IntKind}{n6:Int}{k7:IntKind}{n7:Int}{k8:IntKind}{n8:Int}{k9:IntKind}{n9:Int}{k10:IntKind}{n10:Int}{k11:IntKind}{n11:Int}{s12:List UInt8}{α13:Type}{z13:Nat}{r13:α13→List PV}{x13:List α13}{α14:Type}{z14:Nat}{r14:α14→List PV}{x14:List α14}{s15:List UInt8}{k16:IntKind}{n16:Int}{k17:IntKind}{n17:Int}{k18:IntKind}{n18:Int}{k19:IntKind}{n19:Int}{k20:IntKind}{n20:Int}{k21:IntKind}{n21:Int}{k22:IntKind}{n22:Int}{k23:IntKind}{n23:Int}  {α25:Type}{z25:Nat}{r25:α25→List PV}{x25:List α25}{s26:List UInt8}:List AV:=[.c (.int k0 n0),.c (.int k1 n1),.c (.str s2),.c (.str s3),.c (.str s4),.c (.str s5),.c (.int k6 n6),.c (.int k7 n7),.c (.int k8 n8),.c (.int k9 n9),.c (.int k10 n10),.c (.int k11 n11),.c (.str s12),.c (PV.ls z13 r13 x13),.c (PV.ls z14 r14 x14),.c (.str s15),.c (.int k16 n16),.c (.int k17 n17),.c (.int k18 n18),.c (.int k19 n19),.c (.int k20 n20),.c (.int k21 n21),.c (.int k22 n22),.c (.int k23 n23),AV.nil,.c (PV.ls z25 r25 x25),.c (.str s26)]
abbrev mJ {k0:IntKind}{n0:Int}{k1:IntKind}{n1:Int}{s2:List UInt8}{s3:List UInt8}{s4:List UInt8}{s5:List UInt8}{k6:IntKind}{n6:Int}{k7:IntKind}{n7:Int}{k8:IntKind}{n8:Int}{k9:IntKind}{n9:Int}{k10:IntKind}{n10:Int}{k11:IntKind}{n11:Int}{s12:List UInt8}{α13:Type}{z13:Nat}{r13:α13→List PV}{x13:List α13}{α14:Type}{z14:Nat}{r14:α14→List PV}{x14:List α14}{s15:List UInt8}{k16:IntKind}{n16:Int}{k17:IntKind}{n17:Int}{k18:IntKind}{n18:Int}{k19:IntKind}{n19:Int}{k20:IntKind}{n20:Int}{k21:IntKind}{n21:Int}{k22:IntKind}{n22:Int}{k23:IntKind}{n23:Int}   {s26:List UInt8}:List AV:=[.c (.int k0 n0),.c (.int k1 n1),.c (.str s2),.c (.str s3),.c (.str s4),.c (.str s5),.c (.int k6 n6),.c (.int k7 n7),.c (.int k8 n8),.c (.int k9 n9),.c (.int k10 n10),.c (.int k11 n11),.c (.str s12),.c (PV.ls z13 r13 x13),.c (PV.ls z14 r14 x14),.c (.str s15),.c (.int k16 n16),.c (.int k17 n17),.c (.int k18 n18),.c (.int k19 n19),.c (.int k20 n20),.c (.int k21 n21),.c (.int k22 n22),.c (.int k23 n23),AV.nil,AV.nil,.c (.str s26)]
abbrev aBN {k0:IntKind}{n0:Int}{k1:IntKind}{n1:Int}{s2:List UInt8}{s3:List UInt8}{s4:List UInt8}{s5:List UInt8}{k6:IntKind}{n6:Int}{k7:IntKind}{n7:Int}{k8:IntKind}{n8:Int}{k9:IntKind}{n9:Int}{k10:IntKind}{n10:Int}{k11:IntKind}{n11:Int}{s12:List UInt8}   {s15:List UInt8}{k16:IntKind}{n16:Int}{k17:IntKind}{n17:Int}{k18:IntKind}{n18:Int}{k19:IntKind}{n19:Int}{k20:IntKind}{n20:Int}{k21:IntKind}{n21:Int}{k22:IntKind}{n22:Int}{k23:IntKind}{n23:Int}{α24:Type}{z24:Nat}{r24:α24→List PV}{x24:List α24}{α25:Type}{z25:Nat}{r25:α25→List PV}{x25:List α25}{s26:List UInt8}:List AV:=[.c (.int k0 n0),.c (.int k1 n1),.c (.str s2),.c (.str s3),.c (.str s4),.c (.str s5),.c (.int k6 n6),.c (.int k7 n7),.c (.int k8 n8),.c (.int k9 n9),.c (.int k10 n10),.c (.int k11 n11),.c (.str s12),AV.nil,AV.nil,.c (.str s15),.c (.int k16 n16),.c (.int k17 n17),.c (.int k18 n18),.c (.int k19 n19),.c (.int k20 n20),.c (.int k21 n21),.c (.int k22 n22),.c (.int k23 n23),.c (PV.ls z24 r24 x24),.c (PV.ls z25 r25 x25),.c (.str s26)]
abbrev aC {k0:IntKind}{n0:Int}{k1:IntKind}{n1:Int}{s2:List UInt8}{s3:List UInt8}{s4:List UInt8}{s5:List UInt8}{k6:IntKind}{n6:Int}{k7:IntKind}{n7:Int}{k8:IntKind}{n8:Int}{k9:IntKind}{n9:Int}{k10:IntKind}{n10:Int}{k11:IntKind}{n11:Int}{s12:List UInt8}   {s15:List UInt8}{k16:IntKind}{n16:Int}{k17:IntKind}{n17:Int}{k18:IntKind}{n18:Int}{k19:IntKind}{n19:Int}{k20:IntKind}{n20:Int}{k21:IntKind}{n21:Int}{k22:IntKind}{n22:Int}{k23:IntKind}{n23:Int}   {s26:List UInt8}:List AV:=[.c (.int k0 n0),.c (.int k1 n1),.c (.str s2),.c (.str s3),.c (.str s4),.c (.str s5),.c (.int k6 n6),.c (.int k7 n7),.c (.int k8 n8),.c (.int k9 n9),.c (.int k10 n10),.c (.int k11 n11),.c (.str s12),AV.nil,AV.nil,.c (.str s15),.c (.int k16 n16),.c (.int k17 n17),.c (.int k18 n18),.c (.int k19 n19),.c (.int k20 n20),.c (.int k21 n21),.c (.int k22 n22),.c (.int k23 n23),AV.nil,AV.nil,.c (.str s26)]
abbrev iG {k0:IntKind}{n0:Int}{s1:List UInt8}{k2:IntKind}{n2:Int}{k3:IntKind}{n3:Int}{k4:IntKind}{n4:Int}{k5:IntKind}{n5:Int}{s6:List UInt8}{α7:Type}{z7:Nat}{r7:α7→List PV}{x7:List α7}{α8:Type}{z8:Nat}{r8:α8→List PV}{x8:List α8}{α9:Type}{z9:Nat}{r9:α9→List PV}{x9:List α9}:List AV:=[.c (.int k0 n0),.c (.str s1),.c (.int k2 n2),.c (.int k3 n3),.c (.int k4 n4),.c (.int k5 n5),.c (.str s6),.c (PV.ls z7 r7 x7),.c (PV.ls z8 r8 x8),.c (PV.ls z9 r9 x9)]
abbrev aBw {k0:IntKind}{n0:Int}{s1:List UInt8}{k2:IntKind}{n2:Int}{k3:IntKind}{n3:Int}{k4:IntKind}{n4:Int}{k5:IntKind}{n5:Int}{s6:List UInt8}{α7:Type}{z7:Nat}{r7:α7→List PV}{x7:List α7}{α8:Type}{z8:Nat}{r8:α8→List PV}{x8:List α8}  : List AV:=[.c (.int k0 n0),.c (.str s1),.c (.int k2 n2),.c (.int k3 n3),.c (.int k4 n4),.c (.int k5 n5),.c (.str s6),.c (PV.ls z7 r7 x7),.c (PV.ls z8 r8 x8),AV.nil]
abbrev bW {k0:IntKind}{n0:Int}{s1:List UInt8}{k2:IntKind}{n2:Int}{k3:IntKind}{n3:Int}{k4:IntKind}{n4:Int}{k5:IntKind}{n5:Int}{s6:List UInt8}    : List AV:=[.c (.int k0 n0),.c (.str s1),.c (.int k2 n2),.c (.int k3 n3),.c (.int k4 n4),.c (.int k5 n5),.c (.str s6),AV.nil,AV.nil,AV.nil]
abbrev dG {α0:Type}{z0:Nat}{r0:α0→List PV}{x0:List α0}{k1:IntKind}{n1:Int}{k2:IntKind}{n2:Int}{b3:Bool}:List AV:=[.c (PV.ls z0 r0 x0),.c (.int k1 n1),.c (.int k2 n2),.c (.bool b3)]
abbrev dO {s0:List UInt8}{k1:IntKind}{n1:Int}{k2:IntKind}{n2:Int}{k3:IntKind}{n3:Int}{k4:IntKind}{n4:Int}{k5:IntKind}{n5:Int}{k6:IntKind}{n6:Int}{k7:IntKind}{n7:Int}{k8:IntKind}{n8:Int}{α9:Type}{z9:Nat}{r9:α9→List PV}{x9:List α9}:List AV:=[.c (.str s0),.c (.int k1 n1),.c (.int k2 n2),.c (.int k3 n3),.c (.int k4 n4),.c (.int k5 n5),.c (.int k6 n6),.c (.int k7 n7),.c (.int k8 n8),.c (PV.ls z9 r9 x9)]
abbrev bG {s0:List UInt8}{k1:IntKind}{n1:Int}{k2:IntKind}{n2:Int}{k3:IntKind}{n3:Int}{k4:IntKind}{n4:Int}{k5:IntKind}{n5:Int}{k6:IntKind}{n6:Int}{k7:IntKind}{n7:Int}{k8:IntKind}{n8:Int}  : List AV:=[.c (.str s0),.c (.int k1 n1),.c (.int k2 n2),.c (.int k3 n3),.c (.int k4 n4),.c (.int k5 n5),.c (.int k6 n6),.c (.int k7 n7),.c (.int k8 n8),AV.nil]
abbrev u10 {x0 x1 x2 x3 x4 x5 x6 x7 x8 x9:AV}:List AV:=[x0,x1,x2,x3,x4,x5,x6,x7,x8,x9]
abbrev u20 {x0 x1 x2 x3 x4 x5 x6 x7 x8 x9 x10 x11 x12 x13 x14 x15 x16 x17 x18 x19:AV}:List AV:=[x0,x1,x2,x3,x4,x5,x6,x7,x8,x9,x10,x11,x12,x13,x14,x15,x16,x17,x18,x19]
abbrev u24 {x0 x1 x2 x3 x4 x5 x6 x7 x8 x9 x10 x11 x12 x13 x14 x15 x16 x17 x18 x19 x20 x21 x22 x23:AV}:List AV:=[x0,x1,x2,x3,x4,x5,x6,x7,x8,x9,x10,x11,x12,x13,x14,x15,x16,x17,x18,x19,x20,x21,x22,x23]
abbrev u27 {x0 x1 x2 x3 x4 x5 x6 x7 x8 x9 x10 x11 x12 x13 x14 x15 x16 x17 x18 x19 x20 x21 x22 x23 x24 x25 x26:AV}:List AV:=[x0,x1,x2,x3,x4,x5,x6,x7,x8,x9,x10,x11,x12,x13,x14,x15,x16,x17,x18,x19,x20,x21,x22,x23,x24,x25,x26]
abbrev u5 {x0 x1 x2 x3 x4:AV}:List AV:=[x0,x1,x2,x3,x4]
abbrev u9 {x0 x1 x2 x3 x4 x5 x6 x7 x8:AV}:List AV:=[x0,x1,x2,x3,x4,x5,x6,x7,x8]
structure aQ where
 mk ::
 Kind:Int
 Int:Int
 Text:(List UInt8)
 Items:(List aQ)
 Keys:(List (List UInt8))
instance:Inhabited aQ:=⟨aQ.mk 0 0 [] [] []⟩
mutual
def bT:aQ→List PV
 | ⟨x0,x1,x2,x3,x4⟩=>[.int .i64 x0,.int .i64 x1,.str x2,.list 5 (aAN x3),PV.ls 1 fI x4]
def aAN:List aQ→List (List PV)
 | []=>[]
 | x :: l=>bT x :: aAN l
end
theorem aEh:∀ l,aAN l=l.map bT
 | []=>by simp [aAN]
 | x :: l=>by simp [aAN,aEh l]
def fA (x:aQ):List PV:=[.int .i64 x.Kind,.int .i64 x.Int,.str x.Text,PV.ls 5 bT x.Items,PV.ls 1 fI x.Keys]
theorem eJ (x:aQ):bT x=fA x:=by cases x;simp [bT,fA,aEh,PV.ls]
theorem aEg (x:aQ):(bT x).length=5:=by rw [eJ];rfl
structure dS where
 mk ::
 Queue:(List UInt8)
 ToStart:Int
 ToClose:Int
 Total:Int
 Beat:Int
 First:Int
 Coef:Int
 Most:Int
 Attempts:Int
 Fatal:(List (List UInt8))
instance:Inhabited dS:=⟨dS.mk [] 0 0 0 0 0 0 0 0 []⟩
def pH (x:dS):List PV:=[.str x.Queue,.int .i64 x.ToStart,.int .i64 x.ToClose,.int .i64 x.Total,.int .i64 x.Beat,.int .i64 x.First,.int .i64 x.Coef,.int .i64 x.Most,.int .i64 x.Attempts,PV.ls 1 fI x.Fatal]
structure dH where
 mk ::
 ID:Int
 Kind:Int
 Time:Int
 Seq:Int
 Ref:Int
 N:Int
 Code:Int
 Name:(List UInt8)
 Key:(List UInt8)
 Data:aQ
 Opts:dS
instance:Inhabited dH:=⟨dH.mk 0 0 0 0 0 0 0 [] [] default default⟩
def gT (x:dH):List PV:=[.int .i64 x.ID,.int .i64 x.Kind,.int .i64 x.Time,.int .i64 x.Seq,.int .i64 x.Ref,.int .i64 x.N,.int .i64 x.Code,.str x.Name,.str x.Key,.int .i64 x.Data.Kind,.int .i64 x.Data.Int,.str x.Data.Text,PV.ls 5 bT x.Data.Items,PV.ls 1 fI x.Data.Keys,.str x.Opts.Queue,.int .i64 x.Opts.ToStart,.int .i64 x.Opts.ToClose,.int .i64 x.Opts.Total,.int .i64 x.Opts.Beat,.int .i64 x.Opts.First,.int .i64 x.Opts.Coef,.int .i64 x.Opts.Most,.int .i64 x.Opts.Attempts,PV.ls 1 fI x.Opts.Fatal]
structure bY where
 mk ::
 Kind:Int
 Seq:Int
 Name:(List UInt8)
 Key:(List UInt8)
 N:Int
 Data:aQ
 Opts:dS
instance:Inhabited bY:=⟨bY.mk 0 0 [] [] 0 default default⟩
def dK (x:bY):List PV:=[.int .i64 x.Kind,.int .i64 x.Seq,.str x.Name,.str x.Key,.int .i64 x.N,.int .i64 x.Data.Kind,.int .i64 x.Data.Int,.str x.Data.Text,PV.ls 5 bT x.Data.Items,PV.ls 1 fI x.Data.Keys,.str x.Opts.Queue,.int .i64 x.Opts.ToStart,.int .i64 x.Opts.ToClose,.int .i64 x.Opts.Total,.int .i64 x.Opts.Beat,.int .i64 x.Opts.First,.int .i64 x.Opts.Coef,.int .i64 x.Opts.Most,.int .i64 x.Opts.Attempts,PV.ls 1 fI x.Opts.Fatal]
structure kR where
 mk ::
 seq_:Bool
 name_:Bool
 key_:Bool
 n_:Bool
 data_:Bool
 opts_:Bool
instance:Inhabited kR:=⟨kR.mk false false false false false false⟩
def aER (x:kR):List PV:=[.bool x.seq_,.bool x.name_,.bool x.key_,.bool x.n_,.bool x.data_,.bool x.opts_]
structure kX where
 mk ::
 seq_:Bool
 ref_:Bool
 n_:Bool
 code_:Bool
 name_:Bool
 key_:Bool
 data_:Bool
instance:Inhabited kX:=⟨kX.mk false false false false false false false⟩
def aGH (x:kX):List PV:=[.bool x.seq_,.bool x.ref_,.bool x.n_,.bool x.code_,.bool x.name_,.bool x.key_,.bool x.data_]
structure aP9 where
 mk ::
 E0:Int
 E1:Int
 E2:Int
 E3:Int
instance:Inhabited aP9:=⟨aP9.mk 0 0 0 0⟩
structure aX where
 mk ::
 b_:(List UInt8)
 at_:Int
 err_:Int
 made_:Bool
instance:Inhabited aX:=⟨aX.mk [] 0 0 false⟩
def eV (x:aX):List PV:=[PV.ls 1 iT x.b_,.int .i64 x.at_,.int .i64 x.err_,.bool x.made_]
structure hD where
 mk ::
 seq_:Bool
 ref_:Bool
 n_:Bool
 code_:Bool
 name_:Bool
 key_:Bool
 data_:Bool
 opts_:Bool
instance:Inhabited hD:=⟨hD.mk false false false false false false false false⟩
def aJq (x:hD):List PV:=[.bool x.seq_,.bool x.ref_,.bool x.n_,.bool x.code_,.bool x.name_,.bool x.key_,.bool x.data_,.bool x.opts_]
structure aV where
 mk ::
 Made:Bool
 Rest:(List UInt8)
 Bad:Int
instance:Inhabited aV:=⟨aV.mk false [] 0⟩
def dX (x:aV):List PV:=[.bool x.Made,PV.ls 1 iT x.Rest,.int .i64 x.Bad]
structure dE where
 mk ::
 Kind:Int
 Time:Int
 Workflow:(List UInt8)
 Run:(List UInt8)
 ID:(List UInt8)
 Name:(List UInt8)
 Token:Int
 Event:Int
 Seq:Int
 N:Int
 Data:aQ
 Opts:dS
 Commands:(List bY)
 Parent:(List UInt8)
instance:Inhabited dE:=⟨dE.mk 0 0 [] [] [] [] 0 0 0 0 default default [] []⟩
def nF (x:dE):List PV:=[.int .i64 x.Kind,.int .i64 x.Time,.str x.Workflow,.str x.Run,.str x.ID,.str x.Name,.int .i64 x.Token,.int .i64 x.Event,.int .i64 x.Seq,.int .i64 x.N,.int .i64 x.Data.Kind,.int .i64 x.Data.Int,.str x.Data.Text,PV.ls 5 bT x.Data.Items,PV.ls 1 fI x.Data.Keys,.str x.Opts.Queue,.int .i64 x.Opts.ToStart,.int .i64 x.Opts.ToClose,.int .i64 x.Opts.Total,.int .i64 x.Opts.Beat,.int .i64 x.Opts.First,.int .i64 x.Opts.Coef,.int .i64 x.Opts.Most,.int .i64 x.Opts.Attempts,PV.ls 1 fI x.Opts.Fatal,PV.ls 20 dK x.Commands,.str x.Parent]
structure iP where
 mk ::
 id_:Bool
 name_:Bool
 token_:Bool
 event_:Bool
 seq_:Bool
 n_:Bool
 data_:Bool
 commands_:Bool
 parent_:Bool
instance:Inhabited iP:=⟨iP.mk false false false false false false false false false⟩
def aCF (x:iP):List PV:=[.bool x.id_,.bool x.name_,.bool x.token_,.bool x.event_,.bool x.seq_,.bool x.n_,.bool x.data_,.bool x.commands_,.bool x.parent_]
structure jW where
 mk ::
 Err:Int
 Run:(List UInt8)
 Token:Int
 N:Int
 Data:aQ
 Events:(List dH)
instance:Inhabited jW:=⟨jW.mk 0 [] 0 0 default []⟩
def aAo (x:jW):List PV:=[.int .i64 x.Err,.str x.Run,.int .i64 x.Token,.int .i64 x.N,.int .i64 x.Data.Kind,.int .i64 x.Data.Int,.str x.Data.Text,PV.ls 5 bT x.Data.Items,PV.ls 1 fI x.Data.Keys,PV.ls 24 gT x.Events]
theorem aGM:kF Tryz.prog 22=3:=by kernel_rfl
theorem aRD:nC Tryz.prog 30=some [.int .i64 0,.int .i64 0,.int .i64 0,.int .i64 0,.int .i64 0,.int .i64 0,.int .i64 0,.string ByteArray.empty,.string ByteArray.empty,.int .i64 0,.int .i64 0,.string ByteArray.empty,.slice none 0 0,.slice none 0 0,.string ByteArray.empty,.int .i64 0,.int .i64 0,.int .i64 0,.int .i64 0,.int .i64 0,.int .i64 0,.int .i64 0,.int .i64 0,.slice none 0 0]:=by kernel_rfl
theorem aU8:kF Tryz.prog 30=6:=by kernel_rfl
theorem aUV:aBZ Tryz.prog 30=some [(0,some 1),(1,some 1),(2,some 1),(3,some 1),(4,some 1),(5,some 1),(6,some 1),(7,some 1),(8,some 1),(9,some 5),(14,some 10)]:=by kernel_rfl
theorem aSm:kF Tryz.prog 30=6∧aEr Tryz.prog 30=true∧nC Tryz.prog 30=some [.int .i64 0,.int .i64 0,.int .i64 0,.int .i64 0,.int .i64 0,.int .i64 0,.int .i64 0,.string ByteArray.empty,.string ByteArray.empty,.int .i64 0,.int .i64 0,.string ByteArray.empty,.slice none 0 0,.slice none 0 0,.string ByteArray.empty,.int .i64 0,.int .i64 0,.int .i64 0,.int .i64 0,.int .i64 0,.int .i64 0,.int .i64 0,.int .i64 0,.slice none 0 0]∧∀ i,pI Tryz.prog 30 i=aFj [(0,some 1),(1,some 1),(2,some 1),(3,some 1),(4,some 1),(5,some 1),(6,some 1),(7,some 1),(8,some 1),(9,some 5),(14,some 10)] i:=⟨aU8,by kernel_rfl,aRD,fun i=>nZ aUV i⟩
theorem aCK:oV Tryz.prog 30=some (true,24):=by kernel_rfl
theorem aM9:nJ Tryz.prog 32=some (30,24,272):=by kernel_rfl
theorem aLE:kF Tryz.prog 32=3:=by kernel_rfl
theorem tk3:aC2 Tryz.prog 3=some .i64:=by kernel_rfl
theorem aGN:aC2 Tryz.prog 131=some .u64:=by kernel_rfl
theorem tk5:aC2 Tryz.prog 5=some .u8:=by kernel_rfl
theorem aEq:nJ Tryz.prog 22=some (5,1,1):=by kernel_rfl
theorem aBU:eI Tryz.prog 30 1=some (1,false,1):=by kernel_rfl
theorem fM:oV Tryz.prog 3=some (false,1):=by kernel_rfl
theorem aJu:eI Tryz.prog 30 0=some (0,false,1):=by kernel_rfl
theorem aJv:eI Tryz.prog 30 2=some (2,false,1):=by kernel_rfl
theorem aBV:eI Tryz.prog 30 9=some (9,true,5):=by kernel_rfl
theorem iO:oV Tryz.prog 26=some (true,5):=by kernel_rfl
theorem iJ:eI Tryz.prog 26 3=some (3,false,1):=by kernel_rfl
theorem nS:oV Tryz.prog 23=some (false,1):=by kernel_rfl
theorem vX:kF Tryz.prog 23=3:=by kernel_rfl
theorem uV:nJ Tryz.prog 23=some (26,5,80):=by kernel_rfl
theorem aD2:nC Tryz.prog 26=some [.int .i64 0,.int .i64 0,.string ByteArray.empty,.slice none 0 0,.slice none 0 0]:=by kernel_rfl
theorem uP:eI Tryz.prog 26 2=some (2,false,1):=by kernel_rfl
theorem lP:oV Tryz.prog 9=some (false,1):=by kernel_rfl
theorem uU:kF Tryz.prog 9=2:=by kernel_rfl
theorem oN:eI Tryz.prog 26 4=some (4,false,1):=by kernel_rfl
theorem rC:oV Tryz.prog 24=some (false,1):=by kernel_rfl
theorem zD:kF Tryz.prog 24=3:=by kernel_rfl
theorem aAR:nJ Tryz.prog 24=some (9,1,16):=by kernel_rfl
theorem sF:eI Tryz.prog 26 1=some (1,false,1):=by kernel_rfl
theorem mE:eI Tryz.prog 26 0=some (0,false,1):=by kernel_rfl
theorem tv4:oV Tryz.prog 4=some (false,1):=by kernel_rfl
theorem aDV:eI Tryz.prog 30 3=some (3,false,1):=by kernel_rfl
theorem yZ:eI Tryz.prog 30 7=some (7,false,1):=by kernel_rfl
theorem zB:eI Tryz.prog 30 8=some (8,false,1):=by kernel_rfl
theorem aBh:eI Tryz.prog 30 5=some (5,false,1):=by kernel_rfl
theorem aC1:eI Tryz.prog 30 10=some (14,true,10):=by kernel_rfl
theorem yT:oV Tryz.prog 28=some (true,10):=by kernel_rfl
theorem aUr:kF Tryz.prog 103=6:=by kernel_rfl
theorem aGQ:nC Tryz.prog 103=some [.int .i64 0,.int .i64 0,.string ByteArray.empty,.string ByteArray.empty,.int .i64 0,.int .i64 0,.int .i64 0,.string ByteArray.empty,.slice none 0 0,.slice none 0 0,.string ByteArray.empty,.int .i64 0,.int .i64 0,.int .i64 0,.int .i64 0,.int .i64 0,.int .i64 0,.int .i64 0,.int .i64 0,.slice none 0 0]:=by kernel_rfl
theorem aT9:aBZ Tryz.prog 103=some [(0,some 1),(1,some 1),(2,some 1),(3,some 1),(4,some 1),(5,some 5),(10,some 10)]:=by kernel_rfl
theorem aKP:kF Tryz.prog 103=6∧aEr Tryz.prog 103=true∧nC Tryz.prog 103=some [.int .i64 0,.int .i64 0,.string ByteArray.empty,.string ByteArray.empty,.int .i64 0,.int .i64 0,.int .i64 0,.string ByteArray.empty,.slice none 0 0,.slice none 0 0,.string ByteArray.empty,.int .i64 0,.int .i64 0,.int .i64 0,.int .i64 0,.int .i64 0,.int .i64 0,.int .i64 0,.int .i64 0,.slice none 0 0]∧∀ i,pI Tryz.prog 103 i=aFj [(0,some 1),(1,some 1),(2,some 1),(3,some 1),(4,some 1),(5,some 5),(10,some 10)] i:=⟨aUr,by kernel_rfl,aGQ,fun i=>nZ aT9 i⟩
theorem rB:oV Tryz.prog 103=some (true,20):=by kernel_rfl
theorem aDc:eI Tryz.prog 30 6=some (6,false,1):=by kernel_rfl
theorem aDW:eI Tryz.prog 30 4=some (4,false,1):=by kernel_rfl
theorem tJ:eI Tryz.prog 103 0=some (0,false,1):=by kernel_rfl
theorem aRB:nC Tryz.prog 160=some [.bool false,.bool false,.bool false,.bool false,.bool false,.bool false]:=by kernel_rfl
theorem aUx:kF Tryz.prog 160=6:=by kernel_rfl
theorem aUf:aBZ Tryz.prog 160=some [(0,some 1),(1,some 1),(2,some 1),(3,some 1),(4,some 1),(5,some 1)]:=by kernel_rfl
theorem aFD:kF Tryz.prog 160=6∧aEr Tryz.prog 160=true∧nC Tryz.prog 160=some [.bool false,.bool false,.bool false,.bool false,.bool false,.bool false]∧∀ i,pI Tryz.prog 160 i=aFj [(0,some 1),(1,some 1),(2,some 1),(3,some 1),(4,some 1),(5,some 1)] i:=⟨aUx,by kernel_rfl,aRB,fun i=>nZ aUf i⟩
theorem yW:oV Tryz.prog 160=some (true,6):=by kernel_rfl
theorem aO0:eI Tryz.prog 160 0=some (0,false,1):=by kernel_rfl
theorem aB5:eI Tryz.prog 103 1=some (1,false,1):=by kernel_rfl
theorem aO1:eI Tryz.prog 160 1=some (1,false,1):=by kernel_rfl
theorem aAP:eI Tryz.prog 103 2=some (2,false,1):=by kernel_rfl
theorem aO2:eI Tryz.prog 160 2=some (2,false,1):=by kernel_rfl
theorem aB6:eI Tryz.prog 103 3=some (3,false,1):=by kernel_rfl
theorem aSC:eI Tryz.prog 160 3=some (3,false,1):=by kernel_rfl
theorem uF:eI Tryz.prog 103 4=some (4,false,1):=by kernel_rfl
theorem aSD:eI Tryz.prog 160 4=some (4,false,1):=by kernel_rfl
theorem vW:eI Tryz.prog 103 5=some (5,true,5):=by kernel_rfl
theorem aU6:kF Tryz.prog 26=6:=by kernel_rfl
theorem aUT:aBZ Tryz.prog 26=some [(0,some 1),(1,some 1),(2,some 1),(3,some 1),(4,some 1)]:=by kernel_rfl
theorem aFl:kF Tryz.prog 26=6∧aEr Tryz.prog 26=true∧nC Tryz.prog 26=some [.int .i64 0,.int .i64 0,.string ByteArray.empty,.slice none 0 0,.slice none 0 0]∧∀ i,pI Tryz.prog 26 i=aFj [(0,some 1),(1,some 1),(2,some 1),(3,some 1),(4,some 1)] i:=⟨aU6,by kernel_rfl,aD2,fun i=>nZ aUT i⟩
theorem aSE:eI Tryz.prog 160 5=some (5,false,1):=by kernel_rfl
theorem aBp:eI Tryz.prog 103 6=some (10,true,10):=by kernel_rfl
theorem aU7:kF Tryz.prog 28=6:=by kernel_rfl
theorem aRC:nC Tryz.prog 28=some [.string ByteArray.empty,.int .i64 0,.int .i64 0,.int .i64 0,.int .i64 0,.int .i64 0,.int .i64 0,.int .i64 0,.int .i64 0,.slice none 0 0]:=by kernel_rfl
theorem aUU:aBZ Tryz.prog 28=some [(0,some 1),(1,some 1),(2,some 1),(3,some 1),(4,some 1),(5,some 1),(6,some 1),(7,some 1),(8,some 1),(9,some 1)]:=by kernel_rfl
theorem aM6:kF Tryz.prog 28=6∧aEr Tryz.prog 28=true∧nC Tryz.prog 28=some [.string ByteArray.empty,.int .i64 0,.int .i64 0,.int .i64 0,.int .i64 0,.int .i64 0,.int .i64 0,.int .i64 0,.int .i64 0,.slice none 0 0]∧∀ i,pI Tryz.prog 28 i=aFj [(0,some 1),(1,some 1),(2,some 1),(3,some 1),(4,some 1),(5,some 1),(6,some 1),(7,some 1),(8,some 1),(9,some 1)] i:=⟨aU7,by kernel_rfl,aRC,fun i=>nZ aUU i⟩
theorem aFR:eI Tryz.prog 28 1=some (1,false,1):=by kernel_rfl
theorem aFS:eI Tryz.prog 28 2=some (2,false,1):=by kernel_rfl
theorem aFT:eI Tryz.prog 28 3=some (3,false,1):=by kernel_rfl
theorem aFU:eI Tryz.prog 28 4=some (4,false,1):=by kernel_rfl
theorem aFV:eI Tryz.prog 28 5=some (5,false,1):=by kernel_rfl
theorem aFW:eI Tryz.prog 28 6=some (6,false,1):=by kernel_rfl
theorem aFX:eI Tryz.prog 28 7=some (7,false,1):=by kernel_rfl
theorem aFY:eI Tryz.prog 28 8=some (8,false,1):=by kernel_rfl
theorem uW:nJ Tryz.prog 93=some (92,1,8):=by kernel_rfl
theorem aSF:kF Tryz.prog 93=3:=by kernel_rfl
theorem vY:oV Tryz.prog 92=some (false,1):=by kernel_rfl
theorem aDb:eI Tryz.prog 28 0=some (0,false,1):=by kernel_rfl
theorem tN:eI Tryz.prog 28 9=some (9,false,1):=by kernel_rfl
theorem aB8:nJ Tryz.prog 76=some (3,1,8):=by kernel_rfl
theorem aRv:kF Tryz.prog 76=3:=by kernel_rfl
theorem aRz:nC Tryz.prog 139=some [.bool false,.bool false,.bool false,.bool false,.bool false,.bool false,.bool false]:=by kernel_rfl
theorem aUt:kF Tryz.prog 139=6:=by kernel_rfl
theorem aUb:aBZ Tryz.prog 139=some [(0,some 1),(1,some 1),(2,some 1),(3,some 1),(4,some 1),(5,some 1),(6,some 1)]:=by kernel_rfl
theorem aCG:kF Tryz.prog 139=6∧aEr Tryz.prog 139=true∧nC Tryz.prog 139=some [.bool false,.bool false,.bool false,.bool false,.bool false,.bool false,.bool false]∧∀ i,pI Tryz.prog 139 i=aFj [(0,some 1),(1,some 1),(2,some 1),(3,some 1),(4,some 1),(5,some 1),(6,some 1)] i:=⟨aUt,by kernel_rfl,aRz,fun i=>nZ aUb i⟩
theorem sK:oV Tryz.prog 139=some (true,7):=by kernel_rfl
theorem aOW:eI Tryz.prog 139 0=some (0,false,1):=by kernel_rfl
theorem aOX:eI Tryz.prog 139 1=some (1,false,1):=by kernel_rfl
theorem aSr:eI Tryz.prog 139 2=some (2,false,1):=by kernel_rfl
theorem aSs:eI Tryz.prog 139 3=some (3,false,1):=by kernel_rfl
theorem aSt:eI Tryz.prog 139 4=some (4,false,1):=by kernel_rfl
theorem aSu:eI Tryz.prog 139 5=some (5,false,1):=by kernel_rfl
theorem aSv:eI Tryz.prog 139 6=some (6,false,1):=by kernel_rfl
theorem tv5:oV Tryz.prog 5=some (false,1):=by kernel_rfl
theorem aRw:kF Tryz.prog 22≠7:=by rw [aGM];decide
theorem aVb:kF Tryz.prog 89=6:=by kernel_rfl
theorem aVe:nC Tryz.prog 89=some [.slice none 0 0,.int .i64 0,.int .i64 0,.bool false]:=by kernel_rfl
theorem aUY:aBZ Tryz.prog 89=some [(0,some 1),(1,some 1),(2,some 1),(3,some 1)]:=by kernel_rfl
theorem aU4:kF Tryz.prog 89=6∧aEr Tryz.prog 89=true∧nC Tryz.prog 89=some [.slice none 0 0,.int .i64 0,.int .i64 0,.bool false]∧∀ i,pI Tryz.prog 89 i=aFj [(0,some 1),(1,some 1),(2,some 1),(3,some 1)] i:=⟨aVb,by kernel_rfl,aVe,fun i=>nZ aUY i⟩
theorem aTI:kF Tryz.prog 45=5:=by kernel_rfl
theorem aRt:eI Tryz.prog 89 3=some (3,false,1):=by kernel_rfl
theorem aEW:eI Tryz.prog 89 2=some (2,false,1):=by kernel_rfl
theorem aF1:oV Tryz.prog 37=some (false,1):=by kernel_rfl
theorem aLD:eI Tryz.prog 89 0=some (0,false,1):=by kernel_rfl
theorem aFZ:oV Tryz.prog 22=some (false,1):=by kernel_rfl
theorem aD0:eI Tryz.prog 89 1=some (1,false,1):=by kernel_rfl
theorem aOQ:eL.tyBytes Tryz.prog 22:=by show (match Tryz.prog.underlying 22 with | some (.slice e)=>aC2 Tryz.prog e=some .u8 | _=>False);rw [show Tryz.prog.underlying 22=some (.slice 5) by kernel_rfl];exact (by kernel_rfl:aC2 Tryz.prog 5=some .u8)
theorem aUu:kF Tryz.prog 146=6:=by kernel_rfl
theorem aUz:nC Tryz.prog 146=some [.pointer none,.int .i64 0]:=by kernel_rfl
theorem aUc:aBZ Tryz.prog 146=some [(0,some 1),(1,some 1)]:=by kernel_rfl
theorem aUp:kF Tryz.prog 146=6∧aEr Tryz.prog 146=true∧nC Tryz.prog 146=some [.pointer none,.int .i64 0]∧∀ i,pI Tryz.prog 146 i=aFj [(0,some 1),(1,some 1)] i:=⟨aUu,by kernel_rfl,aUz,fun i=>nZ aUc i⟩
theorem aLy:eI Tryz.prog 146 1=some (1,false,1):=by kernel_rfl
theorem aBq:eI Tryz.prog 146 0=some (0,false,1):=by kernel_rfl
theorem aJ8:oV Tryz.prog 45=some (false,1):=by kernel_rfl
theorem aRA:nC Tryz.prog 154=some [.bool false,.bool false,.bool false,.bool false,.bool false,.bool false,.bool false,.bool false]:=by kernel_rfl
theorem aUw:kF Tryz.prog 154=6:=by kernel_rfl
theorem aUe:aBZ Tryz.prog 154=some [(0,some 1),(1,some 1),(2,some 1),(3,some 1),(4,some 1),(5,some 1),(6,some 1),(7,some 1)]:=by kernel_rfl
theorem xH:kF Tryz.prog 154=6∧aEr Tryz.prog 154=true∧nC Tryz.prog 154=some [.bool false,.bool false,.bool false,.bool false,.bool false,.bool false,.bool false,.bool false]∧∀ i,pI Tryz.prog 154 i=aFj [(0,some 1),(1,some 1),(2,some 1),(3,some 1),(4,some 1),(5,some 1),(6,some 1),(7,some 1)] i:=⟨aUw,by kernel_rfl,aRA,fun i=>nZ aUe i⟩
theorem mT:oV Tryz.prog 154=some (true,8):=by kernel_rfl
theorem aOY:eI Tryz.prog 154 0=some (0,false,1):=by kernel_rfl
theorem aOZ:eI Tryz.prog 154 1=some (1,false,1):=by kernel_rfl
theorem aSw:eI Tryz.prog 154 2=some (2,false,1):=by kernel_rfl
theorem aSx:eI Tryz.prog 154 3=some (3,false,1):=by kernel_rfl
theorem aSy:eI Tryz.prog 154 4=some (4,false,1):=by kernel_rfl
theorem aSz:eI Tryz.prog 154 5=some (5,false,1):=by kernel_rfl
theorem aSA:eI Tryz.prog 154 6=some (6,false,1):=by kernel_rfl
theorem aSB:eI Tryz.prog 154 7=some (7,false,1):=by kernel_rfl
theorem aVc:kF Tryz.prog 91=6:=by kernel_rfl
theorem aVf:nC Tryz.prog 91=some [.bool false,.slice none 0 0,.int .i64 0]:=by kernel_rfl
theorem aUZ:aBZ Tryz.prog 91=some [(0,some 1),(1,some 1),(2,some 1)]:=by kernel_rfl
theorem aU5:kF Tryz.prog 91=6∧aEr Tryz.prog 91=true∧nC Tryz.prog 91=some [.bool false,.slice none 0 0,.int .i64 0]∧∀ i,pI Tryz.prog 91 i=aFj [(0,some 1),(1,some 1),(2,some 1)] i:=⟨aVc,by kernel_rfl,aVf,fun i=>nZ aUZ i⟩
theorem aUy:kF Tryz.prog 47=5:=by kernel_rfl
theorem aRu:eI Tryz.prog 91 0=some (0,false,1):=by kernel_rfl
theorem aOn:eI Tryz.prog 91 2=some (2,false,1):=by kernel_rfl
theorem aCJ:eI Tryz.prog 91 1=some (1,false,1):=by kernel_rfl
theorem aUv:kF Tryz.prog 152=6:=by kernel_rfl
theorem aUA:nC Tryz.prog 152=some [.pointer none,.int .i64 0]:=by kernel_rfl
theorem aUd:aBZ Tryz.prog 152=some [(0,some 1),(1,some 1)]:=by kernel_rfl
theorem aUq:kF Tryz.prog 152=6∧aEr Tryz.prog 152=true∧nC Tryz.prog 152=some [.pointer none,.int .i64 0]∧∀ i,pI Tryz.prog 152 i=aFj [(0,some 1),(1,some 1)] i:=⟨aUv,by kernel_rfl,aUA,fun i=>nZ aUd i⟩
theorem aLz:eI Tryz.prog 152 1=some (1,false,1):=by kernel_rfl
theorem aIF:eI Tryz.prog 152 0=some (0,false,1):=by kernel_rfl
theorem aSH:oV Tryz.prog 47=some (false,1):=by kernel_rfl
theorem xI:eI Tryz.prog 57 12=some (25,false,1):=by kernel_rfl
theorem aGO:oV Tryz.prog 55=some (false,1):=by kernel_rfl
theorem aId:kF Tryz.prog 55=3:=by kernel_rfl
theorem aU9:kF Tryz.prog 57=6:=by kernel_rfl
theorem aJ9:nC Tryz.prog 57=some [.int .i64 0,.int .i64 0,.string ByteArray.empty,.string ByteArray.empty,.string ByteArray.empty,.string ByteArray.empty,.int .i64 0,.int .i64 0,.int .i64 0,.int .i64 0,.int .i64 0,.int .i64 0,.string ByteArray.empty,.slice none 0 0,.slice none 0 0,.string ByteArray.empty,.int .i64 0,.int .i64 0,.int .i64 0,.int .i64 0,.int .i64 0,.int .i64 0,.int .i64 0,.int .i64 0,.slice none 0 0,.slice none 0 0,.string ByteArray.empty]:=by kernel_rfl
theorem aUW:aBZ Tryz.prog 57=some [(0,some 1),(1,some 1),(2,some 1),(3,some 1),(4,some 1),(5,some 1),(6,some 1),(7,some 1),(8,some 1),(9,some 1),(10,some 5),(15,some 10),(25,some 1),(26,some 1)]:=by kernel_rfl
theorem aM7:kF Tryz.prog 57=6∧aEr Tryz.prog 57=true∧nC Tryz.prog 57=some [.int .i64 0,.int .i64 0,.string ByteArray.empty,.string ByteArray.empty,.string ByteArray.empty,.string ByteArray.empty,.int .i64 0,.int .i64 0,.int .i64 0,.int .i64 0,.int .i64 0,.int .i64 0,.string ByteArray.empty,.slice none 0 0,.slice none 0 0,.string ByteArray.empty,.int .i64 0,.int .i64 0,.int .i64 0,.int .i64 0,.int .i64 0,.int .i64 0,.int .i64 0,.int .i64 0,.slice none 0 0,.slice none 0 0,.string ByteArray.empty]∧∀ i,pI Tryz.prog 57 i=aFj [(0,some 1),(1,some 1),(2,some 1),(3,some 1),(4,some 1),(5,some 1),(6,some 1),(7,some 1),(8,some 1),(9,some 1),(10,some 5),(15,some 10),(25,some 1),(26,some 1)] i:=⟨aU9,by kernel_rfl,aJ9,fun i=>nZ aUW i⟩
theorem vM:oV Tryz.prog 57=some (true,27):=by kernel_rfl
theorem tA:eI Tryz.prog 57 0=some (0,false,1):=by kernel_rfl
theorem aRy:nC Tryz.prog 116=some [.bool false,.bool false,.bool false,.bool false,.bool false,.bool false,.bool false,.bool false,.bool false]:=by kernel_rfl
theorem aUs:kF Tryz.prog 116=6:=by kernel_rfl
theorem aUa:aBZ Tryz.prog 116=some [(0,some 1),(1,some 1),(2,some 1),(3,some 1),(4,some 1),(5,some 1),(6,some 1),(7,some 1),(8,some 1)]:=by kernel_rfl
theorem aC0:kF Tryz.prog 116=6∧aEr Tryz.prog 116=true∧nC Tryz.prog 116=some [.bool false,.bool false,.bool false,.bool false,.bool false,.bool false,.bool false,.bool false,.bool false]∧∀ i,pI Tryz.prog 116 i=aFj [(0,some 1),(1,some 1),(2,some 1),(3,some 1),(4,some 1),(5,some 1),(6,some 1),(7,some 1),(8,some 1)] i:=⟨aUs,by kernel_rfl,aRy,fun i=>nZ aUa i⟩
theorem tC:oV Tryz.prog 116=some (true,9):=by kernel_rfl
theorem aEV:eI Tryz.prog 57 1=some (1,false,1):=by kernel_rfl
theorem aOR:eI Tryz.prog 116 0=some (0,false,1):=by kernel_rfl
theorem aCH:eI Tryz.prog 57 4=some (4,false,1):=by kernel_rfl
theorem aOS:eI Tryz.prog 116 1=some (1,false,1):=by kernel_rfl
theorem yC:eI Tryz.prog 57 5=some (5,false,1):=by kernel_rfl
theorem aOT:eI Tryz.prog 116 2=some (2,false,1):=by kernel_rfl
theorem aBW:eI Tryz.prog 57 6=some (6,false,1):=by kernel_rfl
theorem aOU:eI Tryz.prog 116 3=some (3,false,1):=by kernel_rfl
theorem aDZ:eI Tryz.prog 57 7=some (7,false,1):=by kernel_rfl
theorem aOV:eI Tryz.prog 116 4=some (4,false,1):=by kernel_rfl
theorem aCI:eI Tryz.prog 57 8=some (8,false,1):=by kernel_rfl
theorem aSn:eI Tryz.prog 116 5=some (5,false,1):=by kernel_rfl
theorem tB:eI Tryz.prog 57 9=some (9,false,1):=by kernel_rfl
theorem aSo:eI Tryz.prog 116 6=some (6,false,1):=by kernel_rfl
theorem aB7:eI Tryz.prog 57 10=some (10,true,5):=by kernel_rfl
theorem aSp:eI Tryz.prog 116 7=some (7,false,1):=by kernel_rfl
theorem aSq:eI Tryz.prog 116 8=some (8,false,1):=by kernel_rfl
theorem aAQ:eI Tryz.prog 57 13=some (26,false,1):=by kernel_rfl
theorem aLA:eI Tryz.prog 57 11=some (15,true,10):=by kernel_rfl
theorem aDX:eI Tryz.prog 57 2=some (2,false,1):=by kernel_rfl
theorem aDY:eI Tryz.prog 57 3=some (3,false,1):=by kernel_rfl
theorem aLF:nJ Tryz.prog 55=some (103,20,240):=by kernel_rfl
theorem aOo:nC Tryz.prog 66=some [.int .i64 0,.string ByteArray.empty,.int .i64 0,.int .i64 0,.int .i64 0,.int .i64 0,.string ByteArray.empty,.slice none 0 0,.slice none 0 0,.slice none 0 0]:=by kernel_rfl
theorem aVa:kF Tryz.prog 66=6:=by kernel_rfl
theorem aUX:aBZ Tryz.prog 66=some [(0,some 1),(1,some 1),(2,some 1),(3,some 1),(4,some 5),(9,some 1)]:=by kernel_rfl
theorem aP1:kF Tryz.prog 66=6∧aEr Tryz.prog 66=true∧nC Tryz.prog 66=some [.int .i64 0,.string ByteArray.empty,.int .i64 0,.int .i64 0,.int .i64 0,.int .i64 0,.string ByteArray.empty,.slice none 0 0,.slice none 0 0,.slice none 0 0]∧∀ i,pI Tryz.prog 66 i=aFj [(0,some 1),(1,some 1),(2,some 1),(3,some 1),(4,some 5),(9,some 1)] i:=⟨aVa,by kernel_rfl,aOo,fun i=>nZ aUX i⟩
theorem aCQ:oV Tryz.prog 66=some (true,10):=by kernel_rfl
theorem aHv:eI Tryz.prog 66 1=some (1,false,1):=by kernel_rfl
theorem aHw:eI Tryz.prog 66 2=some (2,false,1):=by kernel_rfl
theorem aLC:eI Tryz.prog 66 3=some (3,false,1):=by kernel_rfl
theorem aHx:eI Tryz.prog 66 4=some (4,true,5):=by kernel_rfl
theorem aAe:eI Tryz.prog 66 5=some (9,false,1):=by kernel_rfl
theorem aF0:oV Tryz.prog 32=some (false,1):=by kernel_rfl
theorem aLB:eI Tryz.prog 66 0=some (0,false,1):=by kernel_rfl
theorem by5:Tryz.prog.bytesOf 5=1:=by kernel_rfl
theorem aU2:aTL Tryz.prog 22=some (5,1):=by kernel_rfl

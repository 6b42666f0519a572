import Derived.Test.YtnigjppddilpcaaGreatDoorProg
import Derived.Test.YtnigjppddilpcaaGreatDoorAbs29
import Derived.Test.YtnigjppddilpcaaGreatDoorLib
namespace Go.Proofs.YtnigjppddilpcaaGreatDoor
open Go Abs
set_option maxRecDepth 100000
set_option linter.unusedVariables false
set_option linter.unusedSimpArgs false
theorem bx {α β:Type}{o:Option α}{f:α→Option β}{r:β}{Q:Prop}(h:o.bind f=some r)(k:∀ x,o=some x→f x=some r→Q):Q:=by
 obtain ⟨x,a,b⟩:=rB h
 exact k x a b
abbrev aF:AV:=.box 0 0
abbrev aKb:AV:=.box 0 1
abbrev aQ8:AV:=.box 0 10
abbrev aKc:AV:=.box 0 2
abbrev aKd:AV:=.box 0 3
abbrev aKe:AV:=.box 0 4
abbrev aKf:AV:=.box 0 5
abbrev aKg:AV:=.box 0 6
abbrev aKh:AV:=.box 0 7
abbrev aKi:AV:=.box 0 8
abbrev bK:AV:=.box 1 0
abbrev eX:AV:=.box 2 0
abbrev aKj:AV:=.box 2 1
abbrev aKk:AV:=.box 2 2
abbrev aKl:AV:=.box 2 3
abbrev aKm:AV:=.box 2 4
abbrev aKn:AV:=.box 2 5
abbrev aKo:AV:=.box 2 6
abbrev aKp:AV:=.box 2 7
abbrev aKq:AV:=.box 2 8
abbrev aQL:AV:=.box 2 9
abbrev nB:AV:=.box 3 0
abbrev aMJ:AV:=.box 4 0
theorem aSM {a0 a1 a2 a3 a4 a5 a6 a7 a8 a9:AV}:a0.le a0∧a1.le a1∧a2.le a2∧a3.le a3∧a4.le a4∧a5.le a5∧a6.le a6∧a7.le a7∧a8.le a8∧a9.le a9∧True:=⟨lr,lr,lr,lr,lr,lr,lr,lr,lr,lr,trivial⟩
theorem pV {a0 a1:AV}:a0.le a0∧a1.le a1∧True:=⟨lr,lr,trivial⟩
theorem wE {a0 a1 a2:AV}:a0.le a0∧a1.le a1∧a2.le a2∧True:=⟨lr,lr,lr,trivial⟩
theorem kL4 {a0 a1 a2 a3:AV}:a0.le a0∧a1.le a1∧a2.le a2∧a3.le a3∧True:=⟨lr,lr,lr,lr,trivial⟩
theorem kL5 {a0 a1 a2 a3 a4:AV}:a0.le a0∧a1.le a1∧a2.le a2∧a3.le a3∧a4.le a4∧True:=⟨lr,lr,lr,lr,lr,trivial⟩
theorem kL6 {a0 a1 a2 a3 a4 a5:AV}:a0.le a0∧a1.le a1∧a2.le a2∧a3.le a3∧a4.le a4∧a5.le a5∧True:=⟨lr,lr,lr,lr,lr,lr,trivial⟩
theorem yM {α:Type}{a0 a1 a2 a3 a4 a5 a6 a7 a8 a9:α}:a0=a0∧a1=a1∧a2=a2∧a3=a3∧a4=a4∧a5=a5∧a6=a6∧a7=a7∧a8=a8∧a9=a9∧True:=⟨r,r,r,r,r,r,r,r,r,r,trivial⟩
theorem aFQ {α:Type}{a0 a1 a2 a3 a4 a5 a6 a7 a8 a9 a10 a11 a12 a13 a14 a15 a16 a17 a18 a19:α}:a0=a0∧a1=a1∧a2=a2∧a3=a3∧a4=a4∧a5=a5∧a6=a6∧a7=a7∧a8=a8∧a9=a9∧a10=a10∧a11=a11∧a12=a12∧a13=a13∧a14=a14∧a15=a15∧a16=a16∧a17=a17∧a18=a18∧a19=a19∧True:=⟨r,r,r,r,r,r,r,r,r,r,r,r,r,r,r,r,r,r,r,r,trivial⟩
theorem aP5 {α:Type}{a0 a1 a2 a3 a4 a5 a6 a7 a8 a9 a10 a11 a12 a13 a14 a15 a16 a17 a18 a19 a20 a21 a22 a23:α}:a0=a0∧a1=a1∧a2=a2∧a3=a3∧a4=a4∧a5=a5∧a6=a6∧a7=a7∧a8=a8∧a9=a9∧a10=a10∧a11=a11∧a12=a12∧a13=a13∧a14=a14∧a15=a15∧a16=a16∧a17=a17∧a18=a18∧a19=a19∧a20=a20∧a21=a21∧a22=a22∧a23=a23∧True:=⟨r,r,r,r,r,r,r,r,r,r,r,r,r,r,r,r,r,r,r,r,r,r,r,r,trivial⟩
theorem aI4 {α:Type}{a0 a1 a2 a3 a4 a5 a6 a7 a8 a9 a10 a11 a12 a13 a14 a15 a16 a17 a18 a19 a20 a21 a22 a23 a24 a25 a26:α}:a0=a0∧a1=a1∧a2=a2∧a3=a3∧a4=a4∧a5=a5∧a6=a6∧a7=a7∧a8=a8∧a9=a9∧a10=a10∧a11=a11∧a12=a12∧a13=a13∧a14=a14∧a15=a15∧a16=a16∧a17=a17∧a18=a18∧a19=a19∧a20=a20∧a21=a21∧a22=a22∧a23=a23∧a24=a24∧a25=a25∧a26=a26∧True:=⟨r,r,r,r,r,r,r,r,r,r,r,r,r,r,r,r,r,r,r,r,r,r,r,r,r,r,r,trivial⟩
theorem oB {α:Type}{a0 a1 a2 a3:α}:a0=a0∧a1=a1∧a2=a2∧a3=a3∧True:=⟨r,r,r,r,trivial⟩
theorem kR5 {α:Type}{a0 a1 a2 a3 a4:α}:a0=a0∧a1=a1∧a2=a2∧a3=a3∧a4=a4∧True:=⟨r,r,r,r,r,trivial⟩
theorem kR6 {α:Type}{a0 a1 a2 a3 a4 a5:α}:a0=a0∧a1=a1∧a2=a2∧a3=a3∧a4=a4∧a5=a5∧True:=⟨r,r,r,r,r,r,trivial⟩
theorem kR9 {α:Type}{a0 a1 a2 a3 a4 a5 a6 a7 a8:α}:a0=a0∧a1=a1∧a2=a2∧a3=a3∧a4=a4∧a5=a5∧a6=a6∧a7=a7∧a8=a8∧True:=⟨r,r,r,r,r,r,r,r,r,trivial⟩
abbrev ci (n:Int):AV:=.c (.int .i64 n)
abbrev dX {b0:Bool}{b1:Bool}{b2:Bool}{b3:Bool}{b4:Bool}{b5:Bool}:List AV:=[.c (.bool b0),.c (.bool b1),.c (.bool b2),.c (.bool b3),.c (.bool b4),.c (.bool b5)]
abbrev bD {b0:Bool}{b1:Bool}{b2:Bool}{b3:Bool}{b4:Bool}{b5:Bool}{b6:Bool}{b7:Bool}{b8:Bool}:List AV:=[.c (.bool b0),.c (.bool b1),.c (.bool b2),.c (.bool b3),.c (.bool b4),.c (.bool b5),.c (.bool b6),.c (.bool b7),.c (.bool b8)]
abbrev cN {k0:IntKind}{n0:Int}{k1:IntKind}{n1:Int}{k2:IntKind}{n2:Int}{k3:IntKind}{n3:Int}{k4:IntKind}{n4:Int}{k5:IntKind}{n5:Int}{k6:IntKind}{n6:Int}{s7:List UInt8}{s8:List UInt8}{k9:IntKind}{n9:Int}{k10:IntKind}{n10:Int}{s11:List UInt8}{α12:Type}{z12:Nat}{r12:α12→List PV}{x12:List α12}{α13:Type}{z13:Nat}{r13:α13→List PV}{x13:List α13}{s14:List UInt8}{k15:IntKind}{n15:Int}{k16:IntKind}{n16:Int}{k17:IntKind}{n17:Int}{k18:IntKind}{n18:Int}{k19:IntKind}{n19:Int}{k20:IntKind}{n20:Int}{k21:IntKind}{n21:Int}{k22:IntKind}{n22:Int}{α23:Type}{z23:Nat}{r23:α23→List PV}{x23:List α23}:List AV:=[.c (.int k0 n0),.c (.int k1 n1),.c (.int k2 n2),.c (.int k3 n3),.c (.int k4 n4),.c (.int k5 n5),.c (.int k6 n6),.c (.str s7),.c (.str s8),.c (.int k9 n9),.c (.int k10 n10),.c (.str s11),.c (PV.ls z12 r12 x12),.c (PV.ls z13 r13 x13),.c (.str s14),.c (.int k15 n15),.c (.int k16 n16),.c (.int k17 n17),.c (.int k18 n18),.c (.int k19 n19),.c (.int k20 n20),.c (.int k21 n21),.c (.int k22 n22),.c (PV.ls z23 r23 x23)]
abbrev jX {k0:IntKind}{n0:Int}{k1:IntKind}{n1:Int}{k2:IntKind}{n2:Int}{k3:IntKind}{n3:Int}{k4:IntKind}{n4:Int}{k5:IntKind}{n5:Int}{k6:IntKind}{n6:Int}{s7:List UInt8}{s8:List UInt8}{k9:IntKind}{n9:Int}{k10:IntKind}{n10:Int}{s11:List UInt8}   {s14:List UInt8}{k15:IntKind}{n15:Int}{k16:IntKind}{n16:Int}{k17:IntKind}{n17:Int}{k18:IntKind}{n18:Int}{k19:IntKind}{n19:Int}{k20:IntKind}{n20:Int}{k21:IntKind}{n21:Int}{k22:IntKind}{n22:Int}  : List AV:=[.c (.int k0 n0),.c (.int k1 n1),.c (.int k2 n2),.c (.int k3 n3),.c (.int k4 n4),.c (.int k5 n5),.c (.int k6 n6),.c (.str s7),.c (.str s8),.c (.int k9 n9),.c (.int k10 n10),.c (.str s11),AV.nil,AV.nil,.c (.str s14),.c (.int k15 n15),.c (.int k16 n16),.c (.int k17 n17),.c (.int k18 n18),.c (.int k19 n19),.c (.int k20 n20),.c (.int k21 n21),.c (.int k22 n22),AV.nil]
abbrev cK {k0:IntKind}{n0:Int}{k1:IntKind}{n1:Int}{s2:List UInt8}{α3:Type}{z3:Nat}{r3:α3→List PV}{x3:List α3}{α4:Type}{z4:Nat}{r4:α4→List PV}{x4:List α4}:List AV:=[.c (.int k0 n0),.c (.int k1 n1),.c (.str s2),.c (PV.ls z3 r3 x3),.c (PV.ls z4 r4 x4)]
abbrev cJ {k0:IntKind}{n0:Int}{k1:IntKind}{n1:Int}{s2:List UInt8}   : List AV:=[.c (.int k0 n0),.c (.int k1 n1),.c (.str s2),AV.nil,AV.nil]
abbrev aU {k0:IntKind}{n0:Int}{k1:IntKind}{n1:Int}{s2:List UInt8}{s3:List UInt8}{k4:IntKind}{n4:Int}{k5:IntKind}{n5:Int}{k6:IntKind}{n6:Int}{s7:List UInt8}{α8:Type}{z8:Nat}{r8:α8→List PV}{x8:List α8}{α9:Type}{z9:Nat}{r9:α9→List PV}{x9:List α9}{s10:List UInt8}{k11:IntKind}{n11:Int}{k12:IntKind}{n12:Int}{k13:IntKind}{n13:Int}{k14:IntKind}{n14:Int}{k15:IntKind}{n15:Int}{k16:IntKind}{n16:Int}{k17:IntKind}{n17:Int}{k18:IntKind}{n18:Int}{α19:Type}{z19:Nat}{r19:α19→List PV}{x19:List α19}:List AV:=[.c (.int k0 n0),.c (.int k1 n1),.c (.str s2),.c (.str s3),.c (.int k4 n4),.c (.int k5 n5),.c (.int k6 n6),.c (.str s7),.c (PV.ls z8 r8 x8),.c (PV.ls z9 r9 x9),.c (.str s10),.c (.int k11 n11),.c (.int k12 n12),.c (.int k13 n13),.c (.int k14 n14),.c (.int k15 n15),.c (.int k16 n16),.c (.int k17 n17),.c (.int k18 n18),.c (PV.ls z19 r19 x19)]
abbrev sF {k0:IntKind}{n0:Int}{k1:IntKind}{n1:Int}{s2:List UInt8}{s3:List UInt8}{k4:IntKind}{n4:Int}{k5:IntKind}{n5:Int}{k6:IntKind}{n6:Int}{s7:List UInt8}{α8:Type}{z8:Nat}{r8:α8→List PV}{x8:List α8}{α9:Type}{z9:Nat}{r9:α9→List PV}{x9:List α9}{s10:List UInt8}{k11:IntKind}{n11:Int}{k12:IntKind}{n12:Int}{k13:IntKind}{n13:Int}{k14:IntKind}{n14:Int}{k15:IntKind}{n15:Int}{k16:IntKind}{n16:Int}{k17:IntKind}{n17:Int}{k18:IntKind}{n18:Int}  : List AV:=[.c (.int k0 n0),.c (.int k1 n1),.c (.str s2),.c (.str s3),.c (.int k4 n4),.c (.int k5 n5),.c (.int k6 n6),.c (.str s7),.c (PV.ls z8 r8 x8),.c (PV.ls z9 r9 x9),.c (.str s10),.c (.int k11 n11),.c (.int k12 n12),.c (.int k13 n13),.c (.int k14 n14),.c (.int k15 n15),.c (.int k16 n16),.c (.int k17 n17),.c (.int k18 n18),AV.nil]
abbrev bA {k0:IntKind}{n0:Int}{k1:IntKind}{n1:Int}{s2:List UInt8}{s3:List UInt8}{k4:IntKind}{n4:Int}{k5:IntKind}{n5:Int}{k6:IntKind}{n6:Int}{s7:List UInt8}   {s10:List UInt8}{k11:IntKind}{n11:Int}{k12:IntKind}{n12:Int}{k13:IntKind}{n13:Int}{k14:IntKind}{n14:Int}{k15:IntKind}{n15:Int}{k16:IntKind}{n16:Int}{k17:IntKind}{n17:Int}{k18:IntKind}{n18:Int}  : List AV:=[.c (.int k0 n0),.c (.int k1 n1),.c (.str s2),.c (.str s3),.c (.int k4 n4),.c (.int k5 n5),.c (.int k6 n6),.c (.str s7),AV.nil,AV.nil,.c (.str s10),.c (.int k11 n11),.c (.int k12 n12),.c (.int k13 n13),.c (.int k14 n14),.c (.int k15 n15),.c (.int k16 n16),.c (.int k17 n17),.c (.int k18 n18),AV.nil]
abbrev aJ {k0:IntKind}{n0:Int}{k1:IntKind}{n1:Int}{s2:List UInt8}{s3:List UInt8}{s4:List UInt8}{s5:List UInt8}{k6:IntKind}{n6:Int}{k7:IntKind}{n7:Int}{k8:IntKind}{n8:Int}{k9:IntKind}{n9:Int}{k10:IntKind}{n10:Int}{k11:IntKind}{n11:Int}{s12:List UInt8}{α13:Type}{z13:Nat}{r13:α13→List PV}{x13:List α13}{α14:Type}{z14:Nat}{r14:α14→List PV}{x14:List α14}{s15:List UInt8}{k16:IntKind}{n16:Int}{k17:IntKind}{n17:Int}{k18:IntKind}{n18:Int}{k19:IntKind}{n19:Int}{k20:IntKind}{n20:Int}{k21:IntKind}{n21:Int}{k22:IntKind}{n22:Int}{k23:IntKind}{n23:Int}{α24:Type}{z24:Nat}{r24:α24→List PV}{x24:List α24}{α25:Type}{z25:Nat}{r25:α25→List PV}{x25:List α25}{s26:List UInt8}:List AV:=[.c (.int k0 n0),.c (.int k1 n1),.c (.str s2),.c (.str s3),.c (.str s4),.c (.str s5),.c (.int k6 n6),.c (.int k7 n7),.c (.int k8 n8),.c (.int k9 n9),.c (.int k10 n10),.c (.int k11 n11),.c (.str s12),.c (PV.ls z13 r13 x13),.c (PV.ls z14 r14 x14),.c (.str s15),.c (.int k16 n16),.c (.int k17 n17),.c (.int k18 n18),.c (.int k19 n19),.c (.int k20 n20),.c (.int k21 n21),.c (.int k22 n22),.c (.int k23 n23),.c (PV.ls z24 r24 x24),.c (PV.ls z25 r25 x25),.c (.str s26)]
abbrev oN {k0:IntKind}{n0:Int}{k1:IntKind}{n1:Int}{s2:List UInt8}{s3:List UInt8}{s4:List UInt8}{s5:List UInt8}{k6:IntKind}{n6:Int}{k7:IntKind}{n7:Int}{k8:IntKind}{n8:Int}{k9:IntKind}{n9:Int}{k10:IntKind}{n10:Int}{k11:IntKind}{n11:Int}{s12:List UInt8}{α13:Type}{z13:Nat}{r13:α13→List PV}{x13:List α13}{α14:Type}{z14:Nat}{r14:α14→List PV}{x14:List α14}{s15:List UInt8}{k16:IntKind}{n16:Int}{k17:IntKind}{n17:Int}{k18:IntKind}{n18:Int}{k19:IntKind}{n19:Int}{k20:IntKind}{n20:Int}{k21:IntKind}{n21:Int}{k22:IntKind}{n22:Int}{k23:IntKind}{n23:Int}   {s26:List UInt8}:List AV:=[.c (.int k0 n0),.c (.int k1 n1),.c (.str s2),.c (.str s3),.c (.str s4),.c (.str s5),.c (.int k6 n6),.c (.int k7 n7),.c (.int k8 n8),.c (.int k9 n9),.c (.int k10 n10),.c (.int k11 n11),.c (.str s12),.c (PV.ls z13 r13 x13),.c (PV.ls z14 r14 x14),.c (.str s15),.c (.int k16 n16),.c (.int k17 n17),.c (.int k18 n18),.c (.int k19 n19),.c (.int k20 n20),.c (.int k21 n21),.c (.int k22 n22),.c (.int k23 n23),AV.nil,AV.nil,.c (.str s26)]
abbrev aC {k0:IntKind}{n0:Int}{k1:IntKind}{n1:Int}{s2:List UInt8}{s3:List UInt8}{s4:List UInt8}{s5:List UInt8}{k6:IntKind}{n6:Int}{k7:IntKind}{n7:Int}{k8:IntKind}{n8:Int}{k9:IntKind}{n9:Int}{k10:IntKind}{n10:Int}{k11:IntKind}{n11:Int}{s12:List UInt8}   {s15:List UInt8}{k16:IntKind}{n16:Int}{k17:IntKind}{n17:Int}{k18:IntKind}{n18:Int}{k19:IntKind}{n19:Int}{k20:IntKind}{n20:Int}{k21:IntKind}{n21:Int}{k22:IntKind}{n22:Int}{k23:IntKind}{n23:Int}   {s26:List UInt8}:List AV:=[.c (.int k0 n0),.c (.int k1 n1),.c (.str s2),.c (.str s3),.c (.str s4),.c (.str s5),.c (.int k6 n6),.c (.int k7 n7),.c (.int k8 n8),.c (.int k9 n9),.c (.int k10 n10),.c (.int k11 n11),.c (.str s12),AV.nil,AV.nil,.c (.str s15),.c (.int k16 n16),.c (.int k17 n17),.c (.int k18 n18),.c (.int k19 n19),.c (.int k20 n20),.c (.int k21 n21),.c (.int k22 n22),.c (.int k23 n23),AV.nil,AV.nil,.c (.str s26)]
abbrev jH {k0:IntKind}{n0:Int}{s1:List UInt8}{k2:IntKind}{n2:Int}{k3:IntKind}{n3:Int}{k4:IntKind}{n4:Int}{k5:IntKind}{n5:Int}{s6:List UInt8}{α7:Type}{z7:Nat}{r7:α7→List PV}{x7:List α7}{α8:Type}{z8:Nat}{r8:α8→List PV}{x8:List α8}{α9:Type}{z9:Nat}{r9:α9→List PV}{x9:List α9}:List AV:=[.c (.int k0 n0),.c (.str s1),.c (.int k2 n2),.c (.int k3 n3),.c (.int k4 n4),.c (.int k5 n5),.c (.str s6),.c (PV.ls z7 r7 x7),.c (PV.ls z8 r8 x8),.c (PV.ls z9 r9 x9)]
abbrev sG {k0:IntKind}{n0:Int}{s1:List UInt8}{k2:IntKind}{n2:Int}{k3:IntKind}{n3:Int}{k4:IntKind}{n4:Int}{k5:IntKind}{n5:Int}{s6:List UInt8}{α7:Type}{z7:Nat}{r7:α7→List PV}{x7:List α7}{α8:Type}{z8:Nat}{r8:α8→List PV}{x8:List α8}{α9:Type}{z9:Nat}{r9:α9→List PV}{x9:List α9}{k10:IntKind}{n10:Int}{s11:List UInt8}{k12:IntKind}{n12:Int}{k13:IntKind}{n13:Int}{k14:IntKind}{n14:Int}{k15:IntKind}{n15:Int}{s16:List UInt8}{α17:Type}{z17:Nat}{r17:α17→List PV}{x17:List α17}{α18:Type}{z18:Nat}{r18:α18→List PV}{x18:List α18}{α19:Type}{z19:Nat}{r19:α19→List PV}{x19:List α19}:List AV:=[.c (.int k0 n0),.c (.str s1),.c (.int k2 n2),.c (.int k3 n3),.c (.int k4 n4),.c (.int k5 n5),.c (.str s6),.c (PV.ls z7 r7 x7),.c (PV.ls z8 r8 x8),.c (PV.ls z9 r9 x9),.c (.int k10 n10),.c (.str s11),.c (.int k12 n12),.c (.int k13 n13),.c (.int k14 n14),.c (.int k15 n15),.c (.str s16),.c (PV.ls z17 r17 x17),.c (PV.ls z18 r18 x18),.c (PV.ls z19 r19 x19)]
abbrev cZ {α0:Type}{z0:Nat}{r0:α0→List PV}{x0:List α0}{k1:IntKind}{n1:Int}{k2:IntKind}{n2:Int}{b3:Bool}:List AV:=[.c (PV.ls z0 r0 x0),.c (.int k1 n1),.c (.int k2 n2),.c (.bool b3)]
abbrev dK {s0:List UInt8}{k1:IntKind}{n1:Int}{k2:IntKind}{n2:Int}{k3:IntKind}{n3:Int}{k4:IntKind}{n4:Int}{k5:IntKind}{n5:Int}{k6:IntKind}{n6:Int}{k7:IntKind}{n7:Int}{k8:IntKind}{n8:Int}{α9:Type}{z9:Nat}{r9:α9→List PV}{x9:List α9}:List AV:=[.c (.str s0),.c (.int k1 n1),.c (.int k2 n2),.c (.int k3 n3),.c (.int k4 n4),.c (.int k5 n5),.c (.int k6 n6),.c (.int k7 n7),.c (.int k8 n8),.c (PV.ls z9 r9 x9)]
abbrev bU {s0:List UInt8}{k1:IntKind}{n1:Int}{k2:IntKind}{n2:Int}{k3:IntKind}{n3:Int}{k4:IntKind}{n4:Int}{k5:IntKind}{n5:Int}{k6:IntKind}{n6:Int}{k7:IntKind}{n7:Int}{k8:IntKind}{n8:Int}  : List AV:=[.c (.str s0),.c (.int k1 n1),.c (.int k2 n2),.c (.int k3 n3),.c (.int k4 n4),.c (.int k5 n5),.c (.int k6 n6),.c (.int k7 n7),.c (.int k8 n8),AV.nil]
abbrev u27 {x0 x1 x2 x3 x4 x5 x6 x7 x8 x9 x10 x11 x12 x13 x14 x15 x16 x17 x18 x19 x20 x21 x22 x23 x24 x25 x26:AV}:List AV:=[x0,x1,x2,x3,x4,x5,x6,x7,x8,x9,x10,x11,x12,x13,x14,x15,x16,x17,x18,x19,x20,x21,x22,x23,x24,x25,x26]
abbrev u5 {x0 x1 x2 x3 x4:AV}:List AV:=[x0,x1,x2,x3,x4]
abbrev u9 {x0 x1 x2 x3 x4 x5 x6 x7 x8:AV}:List AV:=[x0,x1,x2,x3,x4,x5,x6,x7,x8]
structure aE where
 mk ::
 Kind:Int
 Int:Int
 Text:(List UInt8)
 Items:(List aE)
 Keys:(List (List UInt8))
instance:Inhabited aE:=⟨aE.mk 0 0 [] [] []⟩
mutual
def cH:aE→List PV
 | ⟨x0,x1,x2,x3,x4⟩=>[.int .i64 x0,.int .i64 x1,.str x2,.list 5 (wS x3),PV.ls 1 jE x4]
def wS:List aE→List (List PV)
 | []=>[]
 | x :: l=>cH x :: wS l
end
theorem aB1:∀ l,wS l=l.map cH
 | []=>by simp [wS]
 | x :: l=>by simp [wS,aB1 l]
def fZ (x:aE):List PV:=[.int .i64 x.Kind,.int .i64 x.Int,.str x.Text,PV.ls 5 cH x.Items,PV.ls 1 jE x.Keys]
theorem hF (x:aE):cH x=fZ x:=by cases x;simp [cH,fZ,aB1,PV.ls]
theorem aFZ (x:aE):(cH x).length=5:=by rw [hF];rfl
structure dB where
 mk ::
 Queue:(List UInt8)
 ToStart:Int
 ToClose:Int
 Total:Int
 Beat:Int
 First:Int
 Coef:Int
 Most:Int
 Attempts:Int
 Fatal:(List (List UInt8))
instance:Inhabited dB:=⟨dB.mk [] 0 0 0 0 0 0 0 0 []⟩
def nS (x:dB):List PV:=[.str x.Queue,.int .i64 x.ToStart,.int .i64 x.ToClose,.int .i64 x.Total,.int .i64 x.Beat,.int .i64 x.First,.int .i64 x.Coef,.int .i64 x.Most,.int .i64 x.Attempts,PV.ls 1 jE x.Fatal]
structure kN where
 mk ::
 ID:Int
 Kind:Int
 Time:Int
 Seq:Int
 Ref:Int
 N:Int
 Code:Int
 Name:(List UInt8)
 Key:(List UInt8)
 Data:aE
 Opts:dB
instance:Inhabited kN:=⟨kN.mk 0 0 0 0 0 0 0 [] [] default default⟩
def jW (x:kN):List PV:=[.int .i64 x.ID,.int .i64 x.Kind,.int .i64 x.Time,.int .i64 x.Seq,.int .i64 x.Ref,.int .i64 x.N,.int .i64 x.Code,.str x.Name,.str x.Key,.int .i64 x.Data.Kind,.int .i64 x.Data.Int,.str x.Data.Text,PV.ls 5 cH x.Data.Items,PV.ls 1 jE x.Data.Keys,.str x.Opts.Queue,.int .i64 x.Opts.ToStart,.int .i64 x.Opts.ToClose,.int .i64 x.Opts.Total,.int .i64 x.Opts.Beat,.int .i64 x.Opts.First,.int .i64 x.Opts.Coef,.int .i64 x.Opts.Most,.int .i64 x.Opts.Attempts,PV.ls 1 jE x.Opts.Fatal]
structure bL where
 mk ::
 Kind:Int
 Seq:Int
 Name:(List UInt8)
 Key:(List UInt8)
 N:Int
 Data:aE
 Opts:dB
instance:Inhabited bL:=⟨bL.mk 0 0 [] [] 0 default default⟩
def dM (x:bL):List PV:=[.int .i64 x.Kind,.int .i64 x.Seq,.str x.Name,.str x.Key,.int .i64 x.N,.int .i64 x.Data.Kind,.int .i64 x.Data.Int,.str x.Data.Text,PV.ls 5 cH x.Data.Items,PV.ls 1 jE x.Data.Keys,.str x.Opts.Queue,.int .i64 x.Opts.ToStart,.int .i64 x.Opts.ToClose,.int .i64 x.Opts.Total,.int .i64 x.Opts.Beat,.int .i64 x.Opts.First,.int .i64 x.Opts.Coef,.int .i64 x.Opts.Most,.int .i64 x.Opts.Attempts,PV.ls 1 jE x.Opts.Fatal]
structure iP where
 mk ::
 seq_:Bool
 name_:Bool
 key_:Bool
 n_:Bool
 data_:Bool
 opts_:Bool
instance:Inhabited iP:=⟨iP.mk false false false false false false⟩
def aCA (x:iP):List PV:=[.bool x.seq_,.bool x.name_,.bool x.key_,.bool x.n_,.bool x.data_,.bool x.opts_]
structure aIh where
 mk ::
 seq_:Bool
 ref_:Bool
 n_:Bool
 code_:Bool
 name_:Bool
 key_:Bool
 data_:Bool
instance:Inhabited aIh:=⟨aIh.mk false false false false false false false⟩
structure aOe where
 mk ::
 E0:Int
 E1:Int
 E2:Int
 E3:Int
instance:Inhabited aOe:=⟨aOe.mk 0 0 0 0⟩
structure aP where
 mk ::
 b_:(List UInt8)
 at_:Int
 err_:Int
 made_:Bool
instance:Inhabited aP:=⟨aP.mk [] 0 0 false⟩
def eG (x:aP):List PV:=[PV.ls 1 jK x.b_,.int .i64 x.at_,.int .i64 x.err_,.bool x.made_]
structure aFn where
 mk ::
 seq_:Bool
 ref_:Bool
 n_:Bool
 code_:Bool
 name_:Bool
 key_:Bool
 data_:Bool
 opts_:Bool
instance:Inhabited aFn:=⟨aFn.mk false false false false false false false false⟩
structure iF where
 mk ::
 Made:Bool
 Rest:(List UInt8)
 Bad:Int
instance:Inhabited iF:=⟨iF.mk false [] 0⟩
structure bO where
 mk ::
 Kind:Int
 Time:Int
 Workflow:(List UInt8)
 Run:(List UInt8)
 ID:(List UInt8)
 Name:(List UInt8)
 Token:Int
 Event:Int
 Seq:Int
 N:Int
 Data:aE
 Opts:dB
 Commands:(List bL)
 Parent:(List UInt8)
instance:Inhabited bO:=⟨bO.mk 0 0 [] [] [] [] 0 0 0 0 default default [] []⟩
def iT (x:bO):List PV:=[.int .i64 x.Kind,.int .i64 x.Time,.str x.Workflow,.str x.Run,.str x.ID,.str x.Name,.int .i64 x.Token,.int .i64 x.Event,.int .i64 x.Seq,.int .i64 x.N,.int .i64 x.Data.Kind,.int .i64 x.Data.Int,.str x.Data.Text,PV.ls 5 cH x.Data.Items,PV.ls 1 jE x.Data.Keys,.str x.Opts.Queue,.int .i64 x.Opts.ToStart,.int .i64 x.Opts.ToClose,.int .i64 x.Opts.Total,.int .i64 x.Opts.Beat,.int .i64 x.Opts.First,.int .i64 x.Opts.Coef,.int .i64 x.Opts.Most,.int .i64 x.Opts.Attempts,PV.ls 1 jE x.Opts.Fatal,PV.ls 20 dM x.Commands,.str x.Parent]
structure gE where
 mk ::
 id_:Bool
 name_:Bool
 token_:Bool
 event_:Bool
 seq_:Bool
 n_:Bool
 data_:Bool
 commands_:Bool
 parent_:Bool
instance:Inhabited gE:=⟨gE.mk false false false false false false false false false⟩
def aAw (x:gE):List PV:=[.bool x.id_,.bool x.name_,.bool x.token_,.bool x.event_,.bool x.seq_,.bool x.n_,.bool x.data_,.bool x.commands_,.bool x.parent_]
structure nX where
 mk ::
 Err:Int
 Run:(List UInt8)
 Token:Int
 N:Int
 Data:aE
 Events:(List kN)
instance:Inhabited nX:=⟨nX.mk 0 [] 0 0 default []⟩
def yH (x:nX):List PV:=[.int .i64 x.Err,.str x.Run,.int .i64 x.Token,.int .i64 x.N,.int .i64 x.Data.Kind,.int .i64 x.Data.Int,.str x.Data.Text,PV.ls 5 cH x.Data.Items,PV.ls 1 jE x.Data.Keys,PV.ls 24 jW x.Events]
structure aCc where
 mk ::
 E0:nX
 E1:nX
instance:Inhabited aCc:=⟨aCc.mk default default⟩
def aIG (x:aCc):List PV:=[.int .i64 x.E0.Err,.str x.E0.Run,.int .i64 x.E0.Token,.int .i64 x.E0.N,.int .i64 x.E0.Data.Kind,.int .i64 x.E0.Data.Int,.str x.E0.Data.Text,PV.ls 5 cH x.E0.Data.Items,PV.ls 1 jE x.E0.Data.Keys,PV.ls 24 jW x.E0.Events,.int .i64 x.E1.Err,.str x.E1.Run,.int .i64 x.E1.Token,.int .i64 x.E1.N,.int .i64 x.E1.Data.Kind,.int .i64 x.E1.Data.Int,.str x.E1.Data.Text,PV.ls 5 cH x.E1.Data.Items,PV.ls 1 jE x.E1.Data.Keys,PV.ls 24 jW x.E1.Events]
theorem aJE:iS Tryz.prog 22=3:=by kernel_rfl
theorem aSx:mX Tryz.prog 30=some [.int .i64 0,.int .i64 0,.int .i64 0,.int .i64 0,.int .i64 0,.int .i64 0,.int .i64 0,.string ByteArray.empty,.string ByteArray.empty,.int .i64 0,.int .i64 0,.string ByteArray.empty,.slice none 0 0,.slice none 0 0,.string ByteArray.empty,.int .i64 0,.int .i64 0,.int .i64 0,.int .i64 0,.int .i64 0,.int .i64 0,.int .i64 0,.int .i64 0,.slice none 0 0]:=by kernel_rfl
theorem aLn:jR Tryz.prog 30=some (true,24):=by kernel_rfl
theorem aQy:kP Tryz.prog 32=some (30,24,272):=by kernel_rfl
theorem aLk:iS Tryz.prog 32=3:=by kernel_rfl
theorem tk3:aAA Tryz.prog 3=some .i64:=by kernel_rfl
theorem aHz:aAA Tryz.prog 131=some .u64:=by kernel_rfl
theorem tk5:aAA Tryz.prog 5=some .u8:=by kernel_rfl
theorem aH6:kP Tryz.prog 22=some (5,1,1):=by kernel_rfl
theorem aJp:eB Tryz.prog 30 1=some (1,false,1):=by kernel_rfl
theorem gZ:jR Tryz.prog 3=some (false,1):=by kernel_rfl
theorem aJo:eB Tryz.prog 30 0=some (0,false,1):=by kernel_rfl
theorem aJq:eB Tryz.prog 30 2=some (2,false,1):=by kernel_rfl
theorem aJx:eB Tryz.prog 30 9=some (9,true,5):=by kernel_rfl
theorem jG:jR Tryz.prog 26=some (true,5):=by kernel_rfl
theorem pE:eB Tryz.prog 26 3=some (3,false,1):=by kernel_rfl
theorem zT:jR Tryz.prog 23=some (false,1):=by kernel_rfl
theorem aCa:iS Tryz.prog 23=3:=by kernel_rfl
theorem aDc:kP Tryz.prog 23=some (26,5,80):=by kernel_rfl
theorem aF3:mX Tryz.prog 26=some [.int .i64 0,.int .i64 0,.string ByteArray.empty,.slice none 0 0,.slice none 0 0]:=by kernel_rfl
theorem aA7:eB Tryz.prog 26 2=some (2,false,1):=by kernel_rfl
theorem oG:jR Tryz.prog 9=some (false,1):=by kernel_rfl
theorem zG:iS Tryz.prog 9=2:=by kernel_rfl
theorem vO:eB Tryz.prog 26 4=some (4,false,1):=by kernel_rfl
theorem wD:jR Tryz.prog 24=some (false,1):=by kernel_rfl
theorem aBi:iS Tryz.prog 24=3:=by kernel_rfl
theorem aBQ:kP Tryz.prog 24=some (9,1,16):=by kernel_rfl
theorem xR:eB Tryz.prog 26 1=some (1,false,1):=by kernel_rfl
theorem sP:eB Tryz.prog 26 0=some (0,false,1):=by kernel_rfl
theorem tv4:jR Tryz.prog 4=some (false,1):=by kernel_rfl
theorem aJr:eB Tryz.prog 30 3=some (3,false,1):=by kernel_rfl
theorem aJv:eB Tryz.prog 30 7=some (7,false,1):=by kernel_rfl
theorem aJw:eB Tryz.prog 30 8=some (8,false,1):=by kernel_rfl
theorem aJt:eB Tryz.prog 30 5=some (5,false,1):=by kernel_rfl
theorem aGu:eB Tryz.prog 30 10=some (14,true,10):=by kernel_rfl
theorem zU:jR Tryz.prog 28=some (true,10):=by kernel_rfl
theorem aSq:iS Tryz.prog 103=6:=by kernel_rfl
theorem aIL:mX Tryz.prog 103=some [.int .i64 0,.int .i64 0,.string ByteArray.empty,.string ByteArray.empty,.int .i64 0,.int .i64 0,.int .i64 0,.string ByteArray.empty,.slice none 0 0,.slice none 0 0,.string ByteArray.empty,.int .i64 0,.int .i64 0,.int .i64 0,.int .i64 0,.int .i64 0,.int .i64 0,.int .i64 0,.int .i64 0,.slice none 0 0]:=by kernel_rfl
theorem aSa:aDn Tryz.prog 103=some [(0,some 1),(1,some 1),(2,some 1),(3,some 1),(4,some 1),(5,some 5),(10,some 10)]:=by kernel_rfl
theorem aSo:iS Tryz.prog 103=6∧aF2 Tryz.prog 103=true∧mX Tryz.prog 103=some [.int .i64 0,.int .i64 0,.string ByteArray.empty,.string ByteArray.empty,.int .i64 0,.int .i64 0,.int .i64 0,.string ByteArray.empty,.slice none 0 0,.slice none 0 0,.string ByteArray.empty,.int .i64 0,.int .i64 0,.int .i64 0,.int .i64 0,.int .i64 0,.int .i64 0,.int .i64 0,.int .i64 0,.slice none 0 0]∧∀ i,qO Tryz.prog 103 i=aHY [(0,some 1),(1,some 1),(2,some 1),(3,some 1),(4,some 1),(5,some 5),(10,some 10)] i:=⟨aSq,by kernel_rfl,aIL,fun i=>rK aSa i⟩
theorem uJ:jR Tryz.prog 103=some (true,20):=by kernel_rfl
theorem aJu:eB Tryz.prog 30 6=some (6,false,1):=by kernel_rfl
theorem aJs:eB Tryz.prog 30 4=some (4,false,1):=by kernel_rfl
theorem wV:eB Tryz.prog 103 0=some (0,false,1):=by kernel_rfl
theorem aPz:mX Tryz.prog 160=some [.bool false,.bool false,.bool false,.bool false,.bool false,.bool false]:=by kernel_rfl
theorem aSt:iS Tryz.prog 160=6:=by kernel_rfl
theorem aSd:aDn Tryz.prog 160=some [(0,some 1),(1,some 1),(2,some 1),(3,some 1),(4,some 1),(5,some 1)]:=by kernel_rfl
theorem aDu:iS Tryz.prog 160=6∧aF2 Tryz.prog 160=true∧mX Tryz.prog 160=some [.bool false,.bool false,.bool false,.bool false,.bool false,.bool false]∧∀ i,qO Tryz.prog 160 i=aHY [(0,some 1),(1,some 1),(2,some 1),(3,some 1),(4,some 1),(5,some 1)] i:=⟨aSt,by kernel_rfl,aPz,fun i=>rK aSd i⟩
theorem uK:jR Tryz.prog 160=some (true,6):=by kernel_rfl
theorem aM4:eB Tryz.prog 160 0=some (0,false,1):=by kernel_rfl
theorem aAU:eB Tryz.prog 103 1=some (1,false,1):=by kernel_rfl
theorem aM5:eB Tryz.prog 160 1=some (1,false,1):=by kernel_rfl
theorem zR:eB Tryz.prog 103 2=some (2,false,1):=by kernel_rfl
theorem aM6:eB Tryz.prog 160 2=some (2,false,1):=by kernel_rfl
theorem aAV:eB Tryz.prog 103 3=some (3,false,1):=by kernel_rfl
theorem aQv:eB Tryz.prog 160 3=some (3,false,1):=by kernel_rfl
theorem vF:eB Tryz.prog 103 4=some (4,false,1):=by kernel_rfl
theorem aQw:eB Tryz.prog 160 4=some (4,false,1):=by kernel_rfl
theorem wW:eB Tryz.prog 103 5=some (5,true,5):=by kernel_rfl
theorem aS0:iS Tryz.prog 26=6:=by kernel_rfl
theorem aSP:aDn Tryz.prog 26=some [(0,some 1),(1,some 1),(2,some 1),(3,some 1),(4,some 1)]:=by kernel_rfl
theorem aH5:iS Tryz.prog 26=6∧aF2 Tryz.prog 26=true∧mX Tryz.prog 26=some [.int .i64 0,.int .i64 0,.string ByteArray.empty,.slice none 0 0,.slice none 0 0]∧∀ i,qO Tryz.prog 26 i=aHY [(0,some 1),(1,some 1),(2,some 1),(3,some 1),(4,some 1)] i:=⟨aS0,by kernel_rfl,aF3,fun i=>rK aSP i⟩
theorem aQx:eB Tryz.prog 160 5=some (5,false,1):=by kernel_rfl
theorem zS:eB Tryz.prog 103 6=some (10,true,10):=by kernel_rfl
theorem aS1:iS Tryz.prog 28=6:=by kernel_rfl
theorem aRL:mX Tryz.prog 28=some [.string ByteArray.empty,.int .i64 0,.int .i64 0,.int .i64 0,.int .i64 0,.int .i64 0,.int .i64 0,.int .i64 0,.int .i64 0,.slice none 0 0]:=by kernel_rfl
theorem aSQ:aDn Tryz.prog 28=some [(0,some 1),(1,some 1),(2,some 1),(3,some 1),(4,some 1),(5,some 1),(6,some 1),(7,some 1),(8,some 1),(9,some 1)]:=by kernel_rfl
theorem aRI:iS Tryz.prog 28=6∧aF2 Tryz.prog 28=true∧mX Tryz.prog 28=some [.string ByteArray.empty,.int .i64 0,.int .i64 0,.int .i64 0,.int .i64 0,.int .i64 0,.int .i64 0,.int .i64 0,.int .i64 0,.slice none 0 0]∧∀ i,qO Tryz.prog 28 i=aHY [(0,some 1),(1,some 1),(2,some 1),(3,some 1),(4,some 1),(5,some 1),(6,some 1),(7,some 1),(8,some 1),(9,some 1)] i:=⟨aS1,by kernel_rfl,aRL,fun i=>rK aSQ i⟩
theorem aHq:eB Tryz.prog 28 1=some (1,false,1):=by kernel_rfl
theorem aHr:eB Tryz.prog 28 2=some (2,false,1):=by kernel_rfl
theorem aHs:eB Tryz.prog 28 3=some (3,false,1):=by kernel_rfl
theorem aHt:eB Tryz.prog 28 4=some (4,false,1):=by kernel_rfl
theorem aHu:eB Tryz.prog 28 5=some (5,false,1):=by kernel_rfl
theorem aHv:eB Tryz.prog 28 6=some (6,false,1):=by kernel_rfl
theorem aHw:eB Tryz.prog 28 7=some (7,false,1):=by kernel_rfl
theorem aHx:eB Tryz.prog 28 8=some (8,false,1):=by kernel_rfl
theorem uF:kP Tryz.prog 93=some (92,1,8):=by kernel_rfl
theorem aRK:iS Tryz.prog 93=3:=by kernel_rfl
theorem uZ:jR Tryz.prog 92=some (false,1):=by kernel_rfl
theorem aCF:eB Tryz.prog 28 0=some (0,false,1):=by kernel_rfl
theorem vP:eB Tryz.prog 28 9=some (9,false,1):=by kernel_rfl
theorem aQz:kP Tryz.prog 76=some (3,1,8):=by kernel_rfl
theorem aSu:iS Tryz.prog 76=3:=by kernel_rfl
theorem tv5:jR Tryz.prog 5=some (false,1):=by kernel_rfl
theorem aSv:iS Tryz.prog 22≠7:=by rw [aJE];decide
theorem aS3:iS Tryz.prog 89=6:=by kernel_rfl
theorem aS6:mX Tryz.prog 89=some [.slice none 0 0,.int .i64 0,.int .i64 0,.bool false]:=by kernel_rfl
theorem aSS:aDn Tryz.prog 89=some [(0,some 1),(1,some 1),(2,some 1),(3,some 1)]:=by kernel_rfl
theorem aSZ:iS Tryz.prog 89=6∧aF2 Tryz.prog 89=true∧mX Tryz.prog 89=some [.slice none 0 0,.int .i64 0,.int .i64 0,.bool false]∧∀ i,qO Tryz.prog 89 i=aHY [(0,some 1),(1,some 1),(2,some 1),(3,some 1)] i:=⟨aS3,by kernel_rfl,aS6,fun i=>rK aSS i⟩
theorem aRJ:iS Tryz.prog 45=5:=by kernel_rfl
theorem aPx:eB Tryz.prog 89 3=some (3,false,1):=by kernel_rfl
theorem aCL:eB Tryz.prog 89 2=some (2,false,1):=by kernel_rfl
theorem aF0:jR Tryz.prog 37=some (false,1):=by kernel_rfl
theorem aJD:eB Tryz.prog 89 0=some (0,false,1):=by kernel_rfl
theorem aQA:jR Tryz.prog 22=some (false,1):=by kernel_rfl
theorem aBP:eB Tryz.prog 89 1=some (1,false,1):=by kernel_rfl
theorem aQZ:dH.tyBytes Tryz.prog 22:=by show (match Tryz.prog.underlying 22 with | some (.slice e)=>aAA Tryz.prog e=some .u8 | _=>False);rw [show Tryz.prog.underlying 22=some (.slice 5) by kernel_rfl];exact (by kernel_rfl:aAA Tryz.prog 5=some .u8)
theorem aSs:iS Tryz.prog 146=6:=by kernel_rfl
theorem aSw:mX Tryz.prog 146=some [.pointer none,.int .i64 0]:=by kernel_rfl
theorem aSc:aDn Tryz.prog 146=some [(0,some 1),(1,some 1)]:=by kernel_rfl
theorem aSp:iS Tryz.prog 146=6∧aF2 Tryz.prog 146=true∧mX Tryz.prog 146=some [.pointer none,.int .i64 0]∧∀ i,qO Tryz.prog 146 i=aHY [(0,some 1),(1,some 1)] i:=⟨aSs,by kernel_rfl,aSw,fun i=>rK aSc i⟩
theorem aJn:eB Tryz.prog 146 1=some (1,false,1):=by kernel_rfl
theorem xZ:eB Tryz.prog 146 0=some (0,false,1):=by kernel_rfl
theorem aH7:jR Tryz.prog 45=some (false,1):=by kernel_rfl
theorem vG:eB Tryz.prog 57 12=some (25,false,1):=by kernel_rfl
theorem aF1:jR Tryz.prog 55=some (false,1):=by kernel_rfl
theorem aEA:iS Tryz.prog 55=3:=by kernel_rfl
theorem aS2:iS Tryz.prog 57=6:=by kernel_rfl
theorem aPA:mX Tryz.prog 57=some [.int .i64 0,.int .i64 0,.string ByteArray.empty,.string ByteArray.empty,.string ByteArray.empty,.string ByteArray.empty,.int .i64 0,.int .i64 0,.int .i64 0,.int .i64 0,.int .i64 0,.int .i64 0,.string ByteArray.empty,.slice none 0 0,.slice none 0 0,.string ByteArray.empty,.int .i64 0,.int .i64 0,.int .i64 0,.int .i64 0,.int .i64 0,.int .i64 0,.int .i64 0,.int .i64 0,.slice none 0 0,.slice none 0 0,.string ByteArray.empty]:=by kernel_rfl
theorem aSR:aDn Tryz.prog 57=some [(0,some 1),(1,some 1),(2,some 1),(3,some 1),(4,some 1),(5,some 1),(6,some 1),(7,some 1),(8,some 1),(9,some 1),(10,some 5),(15,some 10),(25,some 1),(26,some 1)]:=by kernel_rfl
theorem aQp:iS Tryz.prog 57=6∧aF2 Tryz.prog 57=true∧mX Tryz.prog 57=some [.int .i64 0,.int .i64 0,.string ByteArray.empty,.string ByteArray.empty,.string ByteArray.empty,.string ByteArray.empty,.int .i64 0,.int .i64 0,.int .i64 0,.int .i64 0,.int .i64 0,.int .i64 0,.string ByteArray.empty,.slice none 0 0,.slice none 0 0,.string ByteArray.empty,.int .i64 0,.int .i64 0,.int .i64 0,.int .i64 0,.int .i64 0,.int .i64 0,.int .i64 0,.int .i64 0,.slice none 0 0,.slice none 0 0,.string ByteArray.empty]∧∀ i,qO Tryz.prog 57 i=aHY [(0,some 1),(1,some 1),(2,some 1),(3,some 1),(4,some 1),(5,some 1),(6,some 1),(7,some 1),(8,some 1),(9,some 1),(10,some 5),(15,some 10),(25,some 1),(26,some 1)] i:=⟨aS2,by kernel_rfl,aPA,fun i=>rK aSR i⟩
theorem aA8:jR Tryz.prog 57=some (true,27):=by kernel_rfl
theorem xS:eB Tryz.prog 57 0=some (0,false,1):=by kernel_rfl
theorem aPy:mX Tryz.prog 116=some [.bool false,.bool false,.bool false,.bool false,.bool false,.bool false,.bool false,.bool false,.bool false]:=by kernel_rfl
theorem aSr:iS Tryz.prog 116=6:=by kernel_rfl
theorem aSb:aDn Tryz.prog 116=some [(0,some 1),(1,some 1),(2,some 1),(3,some 1),(4,some 1),(5,some 1),(6,some 1),(7,some 1),(8,some 1)]:=by kernel_rfl
theorem aAT:iS Tryz.prog 116=6∧aF2 Tryz.prog 116=true∧mX Tryz.prog 116=some [.bool false,.bool false,.bool false,.bool false,.bool false,.bool false,.bool false,.bool false,.bool false]∧∀ i,qO Tryz.prog 116 i=aHY [(0,some 1),(1,some 1),(2,some 1),(3,some 1),(4,some 1),(5,some 1),(6,some 1),(7,some 1),(8,some 1)] i:=⟨aSr,by kernel_rfl,aPy,fun i=>rK aSb i⟩
theorem pP:jR Tryz.prog 116=some (true,9):=by kernel_rfl
theorem aDT:eB Tryz.prog 57 1=some (1,false,1):=by kernel_rfl
theorem aMZ:eB Tryz.prog 116 0=some (0,false,1):=by kernel_rfl
theorem aBN:eB Tryz.prog 57 4=some (4,false,1):=by kernel_rfl
theorem aM0:eB Tryz.prog 116 1=some (1,false,1):=by kernel_rfl
theorem yY:eB Tryz.prog 57 5=some (5,false,1):=by kernel_rfl
theorem aM1:eB Tryz.prog 116 2=some (2,false,1):=by kernel_rfl
theorem aCI:eB Tryz.prog 57 6=some (6,false,1):=by kernel_rfl
theorem aM2:eB Tryz.prog 116 3=some (3,false,1):=by kernel_rfl
theorem aCJ:eB Tryz.prog 57 7=some (7,false,1):=by kernel_rfl
theorem aM3:eB Tryz.prog 116 4=some (4,false,1):=by kernel_rfl
theorem aCK:eB Tryz.prog 57 8=some (8,false,1):=by kernel_rfl
theorem aQr:eB Tryz.prog 116 5=some (5,false,1):=by kernel_rfl
theorem uR:eB Tryz.prog 57 9=some (9,false,1):=by kernel_rfl
theorem aQs:eB Tryz.prog 116 6=some (6,false,1):=by kernel_rfl
theorem aAW:eB Tryz.prog 57 10=some (10,true,5):=by kernel_rfl
theorem aQt:eB Tryz.prog 116 7=some (7,false,1):=by kernel_rfl
theorem aQu:eB Tryz.prog 116 8=some (8,false,1):=by kernel_rfl
theorem aAX:eB Tryz.prog 57 13=some (26,false,1):=by kernel_rfl
theorem aEz:eB Tryz.prog 57 11=some (15,true,10):=by kernel_rfl
theorem aCG:eB Tryz.prog 57 2=some (2,false,1):=by kernel_rfl
theorem aCH:eB Tryz.prog 57 3=some (3,false,1):=by kernel_rfl
theorem aLm:kP Tryz.prog 55=some (103,20,240):=by kernel_rfl
theorem ti4:iS Tryz.prog 4=4:=by kernel_rfl
theorem aN2:aEB Tryz.prog 67=some (66,10,2,true):=by kernel_rfl
theorem aBO:eB Tryz.prog 66 5=some (9,false,1):=by kernel_rfl
theorem aJF:jR Tryz.prog 32=some (false,1):=by kernel_rfl
theorem aQB:jR Tryz.prog 66=some (true,10):=by kernel_rfl
theorem aJy:eB Tryz.prog 66 0=some (0,false,1):=by kernel_rfl
theorem aJz:eB Tryz.prog 66 1=some (1,false,1):=by kernel_rfl
theorem aJA:eB Tryz.prog 66 2=some (2,false,1):=by kernel_rfl
theorem aJB:eB Tryz.prog 66 3=some (3,false,1):=by kernel_rfl
theorem aJC:eB Tryz.prog 66 4=some (4,true,5):=by kernel_rfl
theorem aSH:aJG Tryz.prog 30=some [3,3,3,3,3,3,3,9,9,26,28]:=by kernel_rfl
theorem aSF:aJG Tryz.prog 26=some [3,3,9,23,24]:=by kernel_rfl
theorem aSD:Tryz.prog.bytesOf 26=80:=by kernel_rfl
theorem aSW:aN3 Tryz.prog 23=some (26,5):=by kernel_rfl
theorem by9:Tryz.prog.bytesOf 9=16:=by kernel_rfl
theorem aSm:aN3 Tryz.prog 24=some (9,1):=by kernel_rfl
theorem aSG:aJG Tryz.prog 28=some [9,3,3,3,3,3,3,3,3,24]:=by kernel_rfl
theorem aSE:Tryz.prog.bytesOf 30=272:=by kernel_rfl
theorem aSX:aN3 Tryz.prog 32=some (30,24):=by kernel_rfl
theorem aSI:aJG Tryz.prog 57=some [3,3,9,9,9,9,3,3,3,3,26,28,55,9]:=by kernel_rfl
theorem aRW:Tryz.prog.bytesOf 103=240:=by kernel_rfl
theorem aSY:aN3 Tryz.prog 55=some (103,20):=by kernel_rfl
theorem aR1:aJG Tryz.prog 103=some [3,3,9,9,3,26,28]:=by kernel_rfl
theorem aSK:aJG Tryz.prog 67=some [66,66]:=by kernel_rfl
theorem aSJ:aJG Tryz.prog 66=some [37,9,3,3,26,32]:=by kernel_rfl
theorem aS4:aAA Tryz.prog 37=some .i64:=by kernel_rfl

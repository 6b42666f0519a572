import Derived.Test.YtnigjppddilpcaaGreatDoorProg
import Derived.Test.YtnigjppddilpcaaGreatDoorAbs29
import Derived.Test.YtnigjppddilpcaaGreatDoorLib
namespace Go.Proofs.YtnigjppddilpcaaGreatDoor
open Go Abs
set_option maxRecDepth 100000
set_option linter.unusedVariables false
set_option linter.unusedSimpArgs false
abbrev ci (n:Int):AV:=.c (.int .i64 n)
abbrev cU {b0:Bool}{b1:Bool}{b2:Bool}{b3:Bool}{b4:Bool}{b5:Bool}:List AV:=[.c (.bool b0),.c (.bool b1),.c (.bool b2),.c (.bool b3),.c (.bool b4),.c (.bool b5)]
abbrev bA {b0:Bool}{b1:Bool}{b2:Bool}{b3:Bool}{b4:Bool}{b5:Bool}{b6:Bool}{b7:Bool}{b8:Bool}:List AV:=[.c (.bool b0),.c (.bool b1),.c (.bool b2),.c (.bool b3),.c (.bool b4),.c (.bool b5),.c (.bool b6),.c (.bool b7),.c (.bool b8)]
abbrev bQ {k0:IntKind}{n0:Int}{k1:IntKind}{n1:Int}{s2:List UInt8}{α3:Type}{z3:Nat}{r3:α3→List PV}{x3:List α3}{α4:Type}{z4:Nat}{r4:α4→List PV}{x4:List α4}:List AV:=[.c (.int k0 n0),.c (.int k1 n1),.c (.str s2),.c (PV.ls z3 r3 x3),.c (PV.ls z4 r4 x4)]
abbrev bU {k0:IntKind}{n0:Int}{k1:IntKind}{n1:Int}{s2:List UInt8}   : List AV:=[.c (.int k0 n0),.c (.int k1 n1),.c (.str s2),AV.nil,AV.nil]
abbrev aP {k0:IntKind}{n0:Int}{k1:IntKind}{n1:Int}{s2:List UInt8}{s3:List UInt8}{k4:IntKind}{n4:Int}{k5:IntKind}{n5:Int}{k6:IntKind}{n6:Int}{s7:List UInt8}{α8:Type}{z8:Nat}{r8:α8→List PV}{x8:List α8}{α9:Type}{z9:Nat}{r9:α9→List PV}{x9:List α9}{s10:List UInt8}{k11:IntKind}{n11:Int}{k12:IntKind}{n12:Int}{k13:IntKind}{n13:Int}{k14:IntKind}{n14:Int}{k15:IntKind}{n15:Int}{k16:IntKind}{n16:Int}{k17:IntKind}{n17:Int}{k18:IntKind}{n18:Int}{α19:Type}{z19:Nat}{r19:α19→List PV}{x19:List α19}:List AV:=[.c (.int k0 n0),.c (.int k1 n1),.c (.str s2),.c (.str s3),.c (.int k4 n4),.c (.int k5 n5),.c (.int k6 n6),.c (.str s7),.c (PV.ls z8 r8 x8),.c (PV.ls z9 r9 x9),.c (.str s10),.c (.int k11 n11),.c (.int k12 n12),.c (.int k13 n13),.c (.int k14 n14),.c (.int k15 n15),.c (.int k16 n16),.c (.int k17 n17),.c (.int k18 n18),.c (PV.ls z19 r19 x19)]
abbrev fG {k0:IntKind}{n0:Int}{k1:IntKind}{n1:Int}{s2:List UInt8}{s3:List UInt8}{k4:IntKind}{n4:Int}{k5:IntKind}{n5:Int}{k6:IntKind}{n6:Int}{s7:List UInt8}{α8:Type}{z8:Nat}{r8:α8→List PV}{x8:List α8}{α9:Type}{z9:Nat}{r9:α9→List PV}{x9:List α9}{s10:List UInt8}{k11:IntKind}{n11:Int}{k12:IntKind}{n12:Int}{k13:IntKind}{n13:Int}{k14:IntKind}{n14:Int}{k15:IntKind}{n15:Int}{k16:IntKind}{n16:Int}{k17:IntKind}{n17:Int}{k18:IntKind}{n18:Int}  : List AV:=[.c (.int k0 n0),.c (.int k1 n1),.c (.str s2),.c (.str s3),.c (.int k4 n4),.c (.int k5 n5),.c (.int k6 n6),.c (.str s7),.c (PV.ls z8 r8 x8),.c (PV.ls z9 r9 x9),.c (.str s10),.c (.int k11 n11),.c (.int k12 n12),.c (.int k13 n13),.c (.int k14 n14),.c (.int k15 n15),.c (.int k16 n16),.c (.int k17 n17),.c (.int k18 n18),AV.nil]
abbrev aAh {k0:IntKind}{n0:Int}{k1:IntKind}{n1:Int}{s2:List UInt8}{s3:List UInt8}{k4:IntKind}{n4:Int}{k5:IntKind}{n5:Int}{k6:IntKind}{n6:Int}{s7:List UInt8}   {s10:List UInt8}{k11:IntKind}{n11:Int}{k12:IntKind}{n12:Int}{k13:IntKind}{n13:Int}{k14:IntKind}{n14:Int}{k15:IntKind}{n15:Int}{k16:IntKind}{n16:Int}{k17:IntKind}{n17:Int}{k18:IntKind}{n18:Int}{α19:Type}{z19:Nat}{r19:α19→List PV}{x19:List α19}:List AV:=[.c (.int k0 n0),.c (.int k1 n1),.c (.str s2),.c (.str s3),.c (.int k4 n4),.c (.int k5 n5),.c (.int k6 n6),.c (.str s7),AV.nil,AV.nil,.c (.str s10),.c (.int k11 n11),.c (.int k12 n12),.c (.int k13 n13),.c (.int k14 n14),.c (.int k15 n15),.c (.int k16 n16),.c (.int k17 n17),.c (.int k18 n18),.c (PV.ls z19 r19 x19)]
abbrev aV {k0:IntKind}{n0:Int}{k1:IntKind}{n1:Int}{s2:List UInt8}{s3:List UInt8}{k4:IntKind}{n4:Int}{k5:IntKind}{n5:Int}{k6:IntKind}{n6:Int}{s7:List UInt8}   {s10:List UInt8}{k11:IntKind}{n11:Int}{k12:IntKind}{n12:Int}{k13:IntKind}{n13:Int}{k14:IntKind}{n14:Int}{k15:IntKind}{n15:Int}{k16:IntKind}{n16:Int}{k17:IntKind}{n17:Int}{k18:IntKind}{n18:Int}  : List AV:=[.c (.int k0 n0),.c (.int k1 n1),.c (.str s2),.c (.str s3),.c (.int k4 n4),.c (.int k5 n5),.c (.int k6 n6),.c (.str s7),AV.nil,AV.nil,.c (.str s10),.c (.int k11 n11),.c (.int k12 n12),.c (.int k13 n13),.c (.int k14 n14),.c (.int k15 n15),.c (.int k16 n16),.c (.int k17 n17),.c (.int k18 n18),AV.nil]
abbrev aD {k0:IntKind}{n0:Int}{k1:IntKind}{n1:Int}{s2:List UInt8}{s3:List UInt8}{s4:List UInt8}{s5:List UInt8}{k6:IntKind}{n6:Int}{k7:IntKind}{n7:Int}{k8:IntKind}{n8:Int}{k9:IntKind}{n9:Int}{k10:IntKind}{n10:Int}{k11:IntKind}{n11:Int}{s12:List UInt8}{α13:Type}{z13:Nat}{r13:α13→List PV}{x13:List α13}{α14:Type}{z14:Nat}{r14:α14→List PV}{x14:List α14}{s15:List UInt8}{k16:IntKind}{n16:Int}{k17:IntKind}{n17:Int}{k18:IntKind}{n18:Int}{k19:IntKind}{n19:Int}{k20:IntKind}{n20:Int}{k21:IntKind}{n21:Int}{k22:IntKind}{n22:Int}{k23:IntKind}{n23:Int}{α24:Type}{z24:Nat}{r24:α24→List PV}{x24:List α24}{α25:Type}{z25:Nat}{r25:α25→List PV}{x25:List α25}{s26:List UInt8}:List AV:=[.c (.int k0 n0),.c (.int k1 n1),.c (.str s2),.c (.str s3),.c (.str s4),.c (.str s5),.c (.int k6 n6),.c (.int k7 n7),.c (.int k8 n8),.c (.int k9 n9),.c (.int k10 n10),.c (.int k11 n11),.c (.str s12),.c (PV.ls z13 r13 x13),.c (PV.ls z14 r14 x14),.c (.str s15),.c (.int k16 n16),.c (.int k17 n17),.c (.int k18 n18),.c (.int k19 n19),.c (.int k20 n20),.c (.int k21 n21),.c (.int k22 n22),.c (.int k23 n23),.c (PV.ls z24 r24 x24),.c (PV.ls z25 r25 x25),.c (.str s26)]
abbrev fA {k0:IntKind}{n0:Int}{k1:IntKind}{n1:Int}{s2:List UInt8}{s3:List UInt8}{s4:List UInt8}{s5:List UInt8}{k6:IntKind}{n6:Int}{k7:IntKind}{n7:Int}{k8:IntKind}{n8:Int}{k9:IntKind}{n9:Int}{k10:IntKind}{n10:Int}{k11:IntKind}{n11:Int}{s12:List UInt8}{α13:Type}{z13:Nat}{r13:α13→List PV}{x13:List α13}{α14:Type}{z14:Nat}{r14:α14→List PV}{x14:List α14}{s15:List UInt8}{k16:IntKind}{n16:Int}{k17:IntKind}{n17:Int}{k18:IntKind}{n18:Int}{k19:IntKind}{n19:Int}{k20:IntKind}{n20:Int}{k21:IntKind}{n21:Int}{k22:IntKind}{n22:Int}{k23:IntKind}{n23:Int}{α24:Type}{z24:Nat}{r24:α24→List PV}{x24:List α24}  {s26:List UInt8}:List AV:=[.c (.int k0 n0),.c (.int k1 n1),.c (.str s2),.c (.str s3),.c (.str s4),.c (.str s5),.c (.int k6 n6),.c (.int k7 n7),.c (.int k8 n8),.c (.int k9 n9),.c (.int k10 n10),.c (.int k11 n11),.c (.str s12),.c (PV.ls z13 r13 x13),.c (PV.ls z14 r14 x14),.c (.str s15),.c (.int k16 n16),.c (.int k17 n17),.c (.int k18 n18),.c (.int k19 n19),.c (.int k20 n20),.c (.int k21 n21),.c (.int k22 n22),.c (.int k23 n23),.c (PV.ls z24 r24 x24),AV.nil,.c (.str s26)]
abbrev kI {k0:IntKind}{n0:Int}{k1:IntKind}{n1:Int}{s2:List UInt8}{s3:List UInt8}{s4:List UInt8}{s5:List UInt8}{k6:IntKind}{n6:Int}{k7:IntKind}{n7:Int}{k8:IntKind}{n8:Int}{k9:IntKind}{n9:Int}{k10:IntKind}{n10:Int}{k11:IntKind}{n11:Int}{s12:List UInt8}{α13:Type}{z13:Nat}{r13:α13→List PV}{x13:List α13}{α14:Type}{z14:Nat}{r14:α14→List PV}{x14:List α14}{s15:List UInt8}{k16:IntKind}{n16:Int}{k17:IntKind}{n17:Int}{k18:IntKind}{n18:Int}{k19:IntKind}{n19:Int}{k20:IntKind}{n20:Int}{k21:IntKind}{n21:Int}{k22:IntKind}{n22:Int}{k23:IntKind}{n23:Int}   {s26:List UInt8}:List AV:=[.c (.int k0 n0),.c (.int k1 n1),.c (.str s2),.c (.str s3),.c (.str s4),.c (.str s5),.c (.int k6 n6),.c (.int k7 n7),.c (.int k8 n8),.c (.int k9 n9),.c (.int k10 n10),.c (.int k11 n11),.c (.str s12),.c (PV.ls z13 r13 x13),.c (PV.ls z14 r14 x14),.c (.str s15),.c (.int k16 n16),.c (.int k17 n17),.c (.int k18 n18),.c (.int k19 n19),.c (.int k20 n20),.c (.int k21 n21),.c (.int k22 n22),.c (.int k23 n23),AV.nil,AV.nil,.c (.str s26)]
abbrev vD {k0:IntKind}{n0:Int}{k1:IntKind}{n1:Int}{s2:List UInt8}{s3:List UInt8}{s4:List UInt8}{s5:List UInt8}{k6:IntKind}{n6:Int}{k7:IntKind}{n7:Int}{k8:IntKind}{n8:Int}{k9:IntKind}{n9:Int}{k10:IntKind}{n10:Int}{k11:IntKind}{n11:Int}{s12:List UInt8}   {s15:List UInt8}{k16:IntKind}{n16:Int}{k17:IntKind}{n17:Int}{k18:IntKind}{n18:Int}{k19:IntKind}{n19:Int}{k20:IntKind}{n20:Int}{k21:IntKind}{n21:Int}{k22:IntKind}{n22:Int}{k23:IntKind}{n23:Int}{α24:Type}{z24:Nat}{r24:α24→List PV}{x24:List α24}{α25:Type}{z25:Nat}{r25:α25→List PV}{x25:List α25}{s26:List UInt8}:List AV:=[.c (.int k0 n0),.c (.int k1 n1),.c (.str s2),.c (.str s3),.c (.str s4),.c (.str s5),.c (.int k6 n6),.c (.int k7 n7),.c (.int k8 n8),.c (.int k9 n9),.c (.int k10 n10),.c (.int k11 n11),.c (.str s12),AV.nil,AV.nil,.c (.str s15),.c (.int k16 n16),.c (.int k17 n17),.c (.int k18 n18),.c (.int k19 n19),.c (.int k20 n20),.c (.int k21 n21),.c (.int k22 n22),.c (.int k23 n23),.c (PV.ls z24 r24 x24),.c (PV.ls z25 r25 x25),.c (.str s26)]
abbrev aA {k0:IntKind}{n0:Int}{k1:IntKind}{n1:Int}{s2:List UInt8}{s3:List UInt8}{s4:List UInt8}{s5:List UInt8}{k6:IntKind}{n6:Int}{k7:IntKind}{n7:Int}{k8:IntKind}{n8:Int}{k9:IntKind}{n9:Int}{k10:IntKind}{n10:Int}{k11:IntKind}{n11:Int}{s12:List UInt8}   {s15:List UInt8}{k16:IntKind}{n16:Int}{k17:IntKind}{n17:Int}{k18:IntKind}{n18:Int}{k19:IntKind}{n19:Int}{k20:IntKind}{n20:Int}{k21:IntKind}{n21:Int}{k22:IntKind}{n22:Int}{k23:IntKind}{n23:Int}   {s26:List UInt8}:List AV:=[.c (.int k0 n0),.c (.int k1 n1),.c (.str s2),.c (.str s3),.c (.str s4),.c (.str s5),.c (.int k6 n6),.c (.int k7 n7),.c (.int k8 n8),.c (.int k9 n9),.c (.int k10 n10),.c (.int k11 n11),.c (.str s12),AV.nil,AV.nil,.c (.str s15),.c (.int k16 n16),.c (.int k17 n17),.c (.int k18 n18),.c (.int k19 n19),.c (.int k20 n20),.c (.int k21 n21),.c (.int k22 n22),.c (.int k23 n23),AV.nil,AV.nil,.c (.str s26)]
abbrev cH {α0:Type}{z0:Nat}{r0:α0→List PV}{x0:List α0}{k1:IntKind}{n1:Int}{k2:IntKind}{n2:Int}{b3:Bool}:List AV:=[.c (PV.ls z0 r0 x0),.c (.int k1 n1),.c (.int k2 n2),.c (.bool b3)]
abbrev cI {s0:List UInt8}{k1:IntKind}{n1:Int}{k2:IntKind}{n2:Int}{k3:IntKind}{n3:Int}{k4:IntKind}{n4:Int}{k5:IntKind}{n5:Int}{k6:IntKind}{n6:Int}{k7:IntKind}{n7:Int}{k8:IntKind}{n8:Int}{α9:Type}{z9:Nat}{r9:α9→List PV}{x9:List α9}:List AV:=[.c (.str s0),.c (.int k1 n1),.c (.int k2 n2),.c (.int k3 n3),.c (.int k4 n4),.c (.int k5 n5),.c (.int k6 n6),.c (.int k7 n7),.c (.int k8 n8),.c (PV.ls z9 r9 x9)]
abbrev bN {s0:List UInt8}{k1:IntKind}{n1:Int}{k2:IntKind}{n2:Int}{k3:IntKind}{n3:Int}{k4:IntKind}{n4:Int}{k5:IntKind}{n5:Int}{k6:IntKind}{n6:Int}{k7:IntKind}{n7:Int}{k8:IntKind}{n8:Int}  : List AV:=[.c (.str s0),.c (.int k1 n1),.c (.int k2 n2),.c (.int k3 n3),.c (.int k4 n4),.c (.int k5 n5),.c (.int k6 n6),.c (.int k7 n7),.c (.int k8 n8),AV.nil]
abbrev u20 {x0 x1 x2 x3 x4 x5 x6 x7 x8 x9 x10 x11 x12 x13 x14 x15 x16 x17 x18 x19:AV}:List AV:=[x0,x1,x2,x3,x4,x5,x6,x7,x8,x9,x10,x11,x12,x13,x14,x15,x16,x17,x18,x19]
abbrev u27 {x0 x1 x2 x3 x4 x5 x6 x7 x8 x9 x10 x11 x12 x13 x14 x15 x16 x17 x18 x19 x20 x21 x22 x23 x24 x25 x26:AV}:List AV:=[x0,x1,x2,x3,x4,x5,x6,x7,x8,x9,x10,x11,x12,x13,x14,x15,x16,x17,x18,x19,x20,x21,x22,x23,x24,x25,x26]
abbrev u5 {x0 x1 x2 x3 x4:AV}:List AV:=[x0,x1,x2,x3,x4]
abbrev u9 {x0 x1 x2 x3 x4 x5 x6 x7 x8:AV}:List AV:=[x0,x1,x2,x3,x4,x5,x6,x7,x8]
structure aG where
 mk ::
 Kind:Int
 Int:Int
 Text:(List UInt8)
 Items:(List aG)
 Keys:(List (List UInt8))
instance:Inhabited aG:=⟨aG.mk 0 0 [] [] []⟩
mutual
def bB:aG→List PV
 | ⟨x0,x1,x2,x3,x4⟩=>[.int .i64 x0,.int .i64 x1,.str x2,.list 5 (tE x3),PV.ls 1 dD x4]
def tE:List aG→List (List PV)
 | []=>[]
 | x :: l=>bB x :: tE l
end
theorem aAd:∀ l,tE l=l.map bB
 | []=>by simp [tE]
 | x :: l=>by simp [tE,aAd l]
def cV (x:aG):List PV:=[.int .i64 x.Kind,.int .i64 x.Int,.str x.Text,PV.ls 5 bB x.Items,PV.ls 1 dD x.Keys]
theorem cY (x:aG):bB x=cV x:=by cases x;simp [bB,cV,aAd,PV.ls]
theorem aEj (x:aG):(bB x).length=5:=by rw [cY];rfl
structure cE where
 mk ::
 Queue:(List UInt8)
 ToStart:Int
 ToClose:Int
 Total:Int
 Beat:Int
 First:Int
 Coef:Int
 Most:Int
 Attempts:Int
 Fatal:(List (List UInt8))
instance:Inhabited cE:=⟨cE.mk [] 0 0 0 0 0 0 0 0 []⟩
def iG (x:cE):List PV:=[.str x.Queue,.int .i64 x.ToStart,.int .i64 x.ToClose,.int .i64 x.Total,.int .i64 x.Beat,.int .i64 x.First,.int .i64 x.Coef,.int .i64 x.Most,.int .i64 x.Attempts,PV.ls 1 dD x.Fatal]
structure aEP where
 mk ::
 ID:Int
 Kind:Int
 Time:Int
 Seq:Int
 Ref:Int
 N:Int
 Code:Int
 Name:(List UInt8)
 Key:(List UInt8)
 Data:aG
 Opts:cE
instance:Inhabited aEP:=⟨aEP.mk 0 0 0 0 0 0 0 [] [] default default⟩
structure bI where
 mk ::
 Kind:Int
 Seq:Int
 Name:(List UInt8)
 Key:(List UInt8)
 N:Int
 Data:aG
 Opts:cE
instance:Inhabited bI:=⟨bI.mk 0 0 [] [] 0 default default⟩
def bR (x:bI):List PV:=[.int .i64 x.Kind,.int .i64 x.Seq,.str x.Name,.str x.Key,.int .i64 x.N,.int .i64 x.Data.Kind,.int .i64 x.Data.Int,.str x.Data.Text,PV.ls 5 bB x.Data.Items,PV.ls 1 dD x.Data.Keys,.str x.Opts.Queue,.int .i64 x.Opts.ToStart,.int .i64 x.Opts.ToClose,.int .i64 x.Opts.Total,.int .i64 x.Opts.Beat,.int .i64 x.Opts.First,.int .i64 x.Opts.Coef,.int .i64 x.Opts.Most,.int .i64 x.Opts.Attempts,PV.ls 1 dD x.Opts.Fatal]
structure fX where
 mk ::
 seq_:Bool
 name_:Bool
 key_:Bool
 n_:Bool
 data_:Bool
 opts_:Bool
instance:Inhabited fX:=⟨fX.mk false false false false false false⟩
def aAL (x:fX):List PV:=[.bool x.seq_,.bool x.name_,.bool x.key_,.bool x.n_,.bool x.data_,.bool x.opts_]
structure aGI where
 mk ::
 seq_:Bool
 ref_:Bool
 n_:Bool
 code_:Bool
 name_:Bool
 key_:Bool
 data_:Bool
instance:Inhabited aGI:=⟨aGI.mk false false false false false false false⟩
structure aMc where
 mk ::
 E0:Int
 E1:Int
 E2:Int
 E3:Int
instance:Inhabited aMc:=⟨aMc.mk 0 0 0 0⟩
structure aQ where
 mk ::
 b_:(List UInt8)
 at_:Int
 err_:Int
 made_:Bool
instance:Inhabited aQ:=⟨aQ.mk [] 0 0 false⟩
def cW (x:aQ):List PV:=[PV.ls 1 eL x.b_,.int .i64 x.at_,.int .i64 x.err_,.bool x.made_]
structure aDN where
 mk ::
 seq_:Bool
 ref_:Bool
 n_:Bool
 code_:Bool
 name_:Bool
 key_:Bool
 data_:Bool
 opts_:Bool
instance:Inhabited aDN:=⟨aDN.mk false false false false false false false false⟩
structure fQ where
 mk ::
 Made:Bool
 Rest:(List UInt8)
 Bad:Int
instance:Inhabited fQ:=⟨fQ.mk false [] 0⟩
structure bK where
 mk ::
 Kind:Int
 Time:Int
 Workflow:(List UInt8)
 Run:(List UInt8)
 ID:(List UInt8)
 Name:(List UInt8)
 Token:Int
 Event:Int
 Seq:Int
 N:Int
 Data:aG
 Opts:cE
 Commands:(List bI)
 Parent:(List UInt8)
instance:Inhabited bK:=⟨bK.mk 0 0 [] [] [] [] 0 0 0 0 default default [] []⟩
def fD (x:bK):List PV:=[.int .i64 x.Kind,.int .i64 x.Time,.str x.Workflow,.str x.Run,.str x.ID,.str x.Name,.int .i64 x.Token,.int .i64 x.Event,.int .i64 x.Seq,.int .i64 x.N,.int .i64 x.Data.Kind,.int .i64 x.Data.Int,.str x.Data.Text,PV.ls 5 bB x.Data.Items,PV.ls 1 dD x.Data.Keys,.str x.Opts.Queue,.int .i64 x.Opts.ToStart,.int .i64 x.Opts.ToClose,.int .i64 x.Opts.Total,.int .i64 x.Opts.Beat,.int .i64 x.Opts.First,.int .i64 x.Opts.Coef,.int .i64 x.Opts.Most,.int .i64 x.Opts.Attempts,PV.ls 1 dD x.Opts.Fatal,PV.ls 20 bR x.Commands,.str x.Parent]
structure eN where
 mk ::
 id_:Bool
 name_:Bool
 token_:Bool
 event_:Bool
 seq_:Bool
 n_:Bool
 data_:Bool
 commands_:Bool
 parent_:Bool
instance:Inhabited eN:=⟨eN.mk false false false false false false false false false⟩
def wX (x:eN):List PV:=[.bool x.id_,.bool x.name_,.bool x.token_,.bool x.event_,.bool x.seq_,.bool x.n_,.bool x.data_,.bool x.commands_,.bool x.parent_]
structure aH4 where
 mk ::
 Err:Int
 Run:(List UInt8)
 Token:Int
 N:Int
 Data:aG
 Events:(List aEP)
instance:Inhabited aH4:=⟨aH4.mk 0 [] 0 0 default []⟩
theorem aAR:fY Tryz.prog 22=3:=by kernel_rfl
theorem tk3:xS Tryz.prog 3=some .i64:=by kernel_rfl
theorem aAT:xS Tryz.prog 131=some .u64:=by kernel_rfl
theorem tk5:xS Tryz.prog 5=some .u8:=by kernel_rfl
theorem xJ:gY Tryz.prog 22=some (5,1,1):=by kernel_rfl
theorem eB:gN Tryz.prog 3=some (false,1):=by kernel_rfl
theorem fV:gN Tryz.prog 26=some (true,5):=by kernel_rfl
theorem fM:dJ Tryz.prog 26 3=some (3,false,1):=by kernel_rfl
theorem kD:gN Tryz.prog 23=some (false,1):=by kernel_rfl
theorem qM:fY Tryz.prog 23=3:=by kernel_rfl
theorem tO:gY Tryz.prog 23=some (26,5,80):=by kernel_rfl
theorem aDC:jF Tryz.prog 26=some [.int .i64 0,.int .i64 0,.string ByteArray.empty,.slice none 0 0,.slice none 0 0]:=by kernel_rfl
theorem oA:dJ Tryz.prog 26 2=some (2,false,1):=by kernel_rfl
theorem iE:gN Tryz.prog 9=some (false,1):=by kernel_rfl
theorem nJ:fY Tryz.prog 9=2:=by kernel_rfl
theorem jW:dJ Tryz.prog 26 4=some (4,false,1):=by kernel_rfl
theorem lN:gN Tryz.prog 24=some (false,1):=by kernel_rfl
theorem pU:fY Tryz.prog 24=3:=by kernel_rfl
theorem rV:gY Tryz.prog 24=some (9,1,16):=by kernel_rfl
theorem mY:dJ Tryz.prog 26 1=some (1,false,1):=by kernel_rfl
theorem iR:dJ Tryz.prog 26 0=some (0,false,1):=by kernel_rfl
theorem tv4:gN Tryz.prog 4=some (false,1):=by kernel_rfl
theorem yM:gN Tryz.prog 28=some (true,10):=by kernel_rfl
theorem aP3:fY Tryz.prog 103=6:=by kernel_rfl
theorem aJk:jF Tryz.prog 103=some [.int .i64 0,.int .i64 0,.string ByteArray.empty,.string ByteArray.empty,.int .i64 0,.int .i64 0,.int .i64 0,.string ByteArray.empty,.slice none 0 0,.slice none 0 0,.string ByteArray.empty,.int .i64 0,.int .i64 0,.int .i64 0,.int .i64 0,.int .i64 0,.int .i64 0,.int .i64 0,.int .i64 0,.slice none 0 0]:=by kernel_rfl
theorem aPO:aBA Tryz.prog 103=some [(0,some 1),(1,some 1),(2,some 1),(3,some 1),(4,some 1),(5,some 5),(10,some 10)]:=by kernel_rfl
theorem aOJ:fY Tryz.prog 103=6∧aEl Tryz.prog 103=true∧jF Tryz.prog 103=some [.int .i64 0,.int .i64 0,.string ByteArray.empty,.string ByteArray.empty,.int .i64 0,.int .i64 0,.int .i64 0,.string ByteArray.empty,.slice none 0 0,.slice none 0 0,.string ByteArray.empty,.int .i64 0,.int .i64 0,.int .i64 0,.int .i64 0,.int .i64 0,.int .i64 0,.int .i64 0,.int .i64 0,.slice none 0 0]∧∀ i,mP Tryz.prog 103 i=aGk [(0,some 1),(1,some 1),(2,some 1),(3,some 1),(4,some 1),(5,some 5),(10,some 10)] i:=⟨aP3,by kernel_rfl,aJk,fun i=>nS aPO i⟩
theorem nR:gN Tryz.prog 103=some (true,20):=by kernel_rfl
theorem lB:dJ Tryz.prog 103 0=some (0,false,1):=by kernel_rfl
theorem aNr:jF Tryz.prog 160=some [.bool false,.bool false,.bool false,.bool false,.bool false,.bool false]:=by kernel_rfl
theorem aP6:fY Tryz.prog 160=6:=by kernel_rfl
theorem aPR:aBA Tryz.prog 160=some [(0,some 1),(1,some 1),(2,some 1),(3,some 1),(4,some 1),(5,some 1)]:=by kernel_rfl
theorem aBF:fY Tryz.prog 160=6∧aEl Tryz.prog 160=true∧jF Tryz.prog 160=some [.bool false,.bool false,.bool false,.bool false,.bool false,.bool false]∧∀ i,mP Tryz.prog 160 i=aGk [(0,some 1),(1,some 1),(2,some 1),(3,some 1),(4,some 1),(5,some 1)] i:=⟨aP6,by kernel_rfl,aNr,fun i=>nS aPR i⟩
theorem qQ:gN Tryz.prog 160=some (true,6):=by kernel_rfl
theorem aK3:dJ Tryz.prog 160 0=some (0,false,1):=by kernel_rfl
theorem vX:dJ Tryz.prog 103 1=some (1,false,1):=by kernel_rfl
theorem aK4:dJ Tryz.prog 160 1=some (1,false,1):=by kernel_rfl
theorem tG:dJ Tryz.prog 103 2=some (2,false,1):=by kernel_rfl
theorem aK5:dJ Tryz.prog 160 2=some (2,false,1):=by kernel_rfl
theorem vY:dJ Tryz.prog 103 3=some (3,false,1):=by kernel_rfl
theorem aOh:dJ Tryz.prog 160 3=some (3,false,1):=by kernel_rfl
theorem mO:dJ Tryz.prog 103 4=some (4,false,1):=by kernel_rfl
theorem aOi:dJ Tryz.prog 160 4=some (4,false,1):=by kernel_rfl
theorem nZ:dJ Tryz.prog 103 5=some (5,true,5):=by kernel_rfl
theorem aQx:fY Tryz.prog 26=6:=by kernel_rfl
theorem aQn:aBA Tryz.prog 26=some [(0,some 1),(1,some 1),(2,some 1),(3,some 1),(4,some 1)]:=by kernel_rfl
theorem aEk:fY Tryz.prog 26=6∧aEl Tryz.prog 26=true∧jF Tryz.prog 26=some [.int .i64 0,.int .i64 0,.string ByteArray.empty,.slice none 0 0,.slice none 0 0]∧∀ i,mP Tryz.prog 26 i=aGk [(0,some 1),(1,some 1),(2,some 1),(3,some 1),(4,some 1)] i:=⟨aQx,by kernel_rfl,aDC,fun i=>nS aQn i⟩
theorem aOj:dJ Tryz.prog 160 5=some (5,false,1):=by kernel_rfl
theorem uL:dJ Tryz.prog 103 6=some (10,true,10):=by kernel_rfl
theorem aQy:fY Tryz.prog 28=6:=by kernel_rfl
theorem aPs:jF Tryz.prog 28=some [.string ByteArray.empty,.int .i64 0,.int .i64 0,.int .i64 0,.int .i64 0,.int .i64 0,.int .i64 0,.int .i64 0,.int .i64 0,.slice none 0 0]:=by kernel_rfl
theorem aQo:aBA Tryz.prog 28=some [(0,some 1),(1,some 1),(2,some 1),(3,some 1),(4,some 1),(5,some 1),(6,some 1),(7,some 1),(8,some 1),(9,some 1)]:=by kernel_rfl
theorem aOb:fY Tryz.prog 28=6∧aEl Tryz.prog 28=true∧jF Tryz.prog 28=some [.string ByteArray.empty,.int .i64 0,.int .i64 0,.int .i64 0,.int .i64 0,.int .i64 0,.int .i64 0,.int .i64 0,.int .i64 0,.slice none 0 0]∧∀ i,mP Tryz.prog 28 i=aGk [(0,some 1),(1,some 1),(2,some 1),(3,some 1),(4,some 1),(5,some 1),(6,some 1),(7,some 1),(8,some 1),(9,some 1)] i:=⟨aQy,by kernel_rfl,aPs,fun i=>nS aQo i⟩
theorem aB3:dJ Tryz.prog 28 1=some (1,false,1):=by kernel_rfl
theorem aB4:dJ Tryz.prog 28 2=some (2,false,1):=by kernel_rfl
theorem aB5:dJ Tryz.prog 28 3=some (3,false,1):=by kernel_rfl
theorem aB6:dJ Tryz.prog 28 4=some (4,false,1):=by kernel_rfl
theorem aB7:dJ Tryz.prog 28 5=some (5,false,1):=by kernel_rfl
theorem aB8:dJ Tryz.prog 28 6=some (6,false,1):=by kernel_rfl
theorem aB9:dJ Tryz.prog 28 7=some (7,false,1):=by kernel_rfl
theorem aCa:dJ Tryz.prog 28 8=some (8,false,1):=by kernel_rfl
theorem qN:gY Tryz.prog 93=some (92,1,8):=by kernel_rfl
theorem aPq:fY Tryz.prog 93=3:=by kernel_rfl
theorem rC:gN Tryz.prog 92=some (false,1):=by kernel_rfl
theorem wZ:dJ Tryz.prog 28 0=some (0,false,1):=by kernel_rfl
theorem mZ:dJ Tryz.prog 28 9=some (9,false,1):=by kernel_rfl
theorem aGs:gY Tryz.prog 76=some (3,1,8):=by kernel_rfl
theorem aNn:fY Tryz.prog 76=3:=by kernel_rfl
theorem tv5:gN Tryz.prog 5=some (false,1):=by kernel_rfl
theorem aP7:fY Tryz.prog 22≠7:=by rw [aAR];decide
theorem aQA:fY Tryz.prog 89=6:=by kernel_rfl
theorem aQB:jF Tryz.prog 89=some [.slice none 0 0,.int .i64 0,.int .i64 0,.bool false]:=by kernel_rfl
theorem aQq:aBA Tryz.prog 89=some [(0,some 1),(1,some 1),(2,some 1),(3,some 1)]:=by kernel_rfl
theorem aQw:fY Tryz.prog 89=6∧aEl Tryz.prog 89=true∧jF Tryz.prog 89=some [.slice none 0 0,.int .i64 0,.int .i64 0,.bool false]∧∀ i,mP Tryz.prog 89 i=aGk [(0,some 1),(1,some 1),(2,some 1),(3,some 1)] i:=⟨aQA,by kernel_rfl,aQB,fun i=>nS aQq i⟩
theorem aPp:fY Tryz.prog 45=5:=by kernel_rfl
theorem aNm:dJ Tryz.prog 89 3=some (3,false,1):=by kernel_rfl
theorem aAQ:dJ Tryz.prog 89 2=some (2,false,1):=by kernel_rfl
theorem aJj:gN Tryz.prog 37=some (false,1):=by kernel_rfl
theorem aHO:dJ Tryz.prog 89 0=some (0,false,1):=by kernel_rfl
theorem aOl:gN Tryz.prog 22=some (false,1):=by kernel_rfl
theorem zN:dJ Tryz.prog 89 1=some (1,false,1):=by kernel_rfl
theorem aJg:cK.tyBytes Tryz.prog 22:=by show (match Tryz.prog.underlying 22 with | some (.slice e)=>xS Tryz.prog e=some .u8 | _=>False);rw [show Tryz.prog.underlying 22=some (.slice 5) by kernel_rfl];exact (by kernel_rfl:xS Tryz.prog 5=some .u8)
theorem aP5:fY Tryz.prog 146=6:=by kernel_rfl
theorem aP8:jF Tryz.prog 146=some [.pointer none,.int .i64 0]:=by kernel_rfl
theorem aPQ:aBA Tryz.prog 146=some [(0,some 1),(1,some 1)]:=by kernel_rfl
theorem aP2:fY Tryz.prog 146=6∧aEl Tryz.prog 146=true∧jF Tryz.prog 146=some [.pointer none,.int .i64 0]∧∀ i,mP Tryz.prog 146 i=aGk [(0,some 1),(1,some 1)] i:=⟨aP5,by kernel_rfl,aP8,fun i=>nS aPQ i⟩
theorem aHM:dJ Tryz.prog 146 1=some (1,false,1):=by kernel_rfl
theorem uM:dJ Tryz.prog 146 0=some (0,false,1):=by kernel_rfl
theorem aGt:gN Tryz.prog 45=some (false,1):=by kernel_rfl
theorem oB:dJ Tryz.prog 57 12=some (25,false,1):=by kernel_rfl
theorem aCc:gN Tryz.prog 55=some (false,1):=by kernel_rfl
theorem aCb:fY Tryz.prog 55=3:=by kernel_rfl
theorem aQz:fY Tryz.prog 57=6:=by kernel_rfl
theorem aL2:jF Tryz.prog 57=some [.int .i64 0,.int .i64 0,.string ByteArray.empty,.string ByteArray.empty,.string ByteArray.empty,.string ByteArray.empty,.int .i64 0,.int .i64 0,.int .i64 0,.int .i64 0,.int .i64 0,.int .i64 0,.string ByteArray.empty,.slice none 0 0,.slice none 0 0,.string ByteArray.empty,.int .i64 0,.int .i64 0,.int .i64 0,.int .i64 0,.int .i64 0,.int .i64 0,.int .i64 0,.int .i64 0,.slice none 0 0,.slice none 0 0,.string ByteArray.empty]:=by kernel_rfl
theorem aQp:aBA Tryz.prog 57=some [(0,some 1),(1,some 1),(2,some 1),(3,some 1),(4,some 1),(5,some 1),(6,some 1),(7,some 1),(8,some 1),(9,some 1),(10,some 5),(15,some 10),(25,some 1),(26,some 1)]:=by kernel_rfl
theorem aNl:fY Tryz.prog 57=6∧aEl Tryz.prog 57=true∧jF Tryz.prog 57=some [.int .i64 0,.int .i64 0,.string ByteArray.empty,.string ByteArray.empty,.string ByteArray.empty,.string ByteArray.empty,.int .i64 0,.int .i64 0,.int .i64 0,.int .i64 0,.int .i64 0,.int .i64 0,.string ByteArray.empty,.slice none 0 0,.slice none 0 0,.string ByteArray.empty,.int .i64 0,.int .i64 0,.int .i64 0,.int .i64 0,.int .i64 0,.int .i64 0,.int .i64 0,.int .i64 0,.slice none 0 0,.slice none 0 0,.string ByteArray.empty]∧∀ i,mP Tryz.prog 57 i=aGk [(0,some 1),(1,some 1),(2,some 1),(3,some 1),(4,some 1),(5,some 1),(6,some 1),(7,some 1),(8,some 1),(9,some 1),(10,some 5),(15,some 10),(25,some 1),(26,some 1)] i:=⟨aQz,by kernel_rfl,aL2,fun i=>nS aQp i⟩
theorem rB:gN Tryz.prog 57=some (true,27):=by kernel_rfl
theorem jX:dJ Tryz.prog 57 0=some (0,false,1):=by kernel_rfl
theorem aNq:jF Tryz.prog 116=some [.bool false,.bool false,.bool false,.bool false,.bool false,.bool false,.bool false,.bool false,.bool false]:=by kernel_rfl
theorem aP4:fY Tryz.prog 116=6:=by kernel_rfl
theorem aPP:aBA Tryz.prog 116=some [(0,some 1),(1,some 1),(2,some 1),(3,some 1),(4,some 1),(5,some 1),(6,some 1),(7,some 1),(8,some 1)]:=by kernel_rfl
theorem xR:fY Tryz.prog 116=6∧aEl Tryz.prog 116=true∧jF Tryz.prog 116=some [.bool false,.bool false,.bool false,.bool false,.bool false,.bool false,.bool false,.bool false,.bool false]∧∀ i,mP Tryz.prog 116 i=aGk [(0,some 1),(1,some 1),(2,some 1),(3,some 1),(4,some 1),(5,some 1),(6,some 1),(7,some 1),(8,some 1)] i:=⟨aP4,by kernel_rfl,aNq,fun i=>nS aPP i⟩
theorem lM:gN Tryz.prog 116=some (true,9):=by kernel_rfl
theorem aAP:dJ Tryz.prog 57 1=some (1,false,1):=by kernel_rfl
theorem aKY:dJ Tryz.prog 116 0=some (0,false,1):=by kernel_rfl
theorem xA:dJ Tryz.prog 57 4=some (4,false,1):=by kernel_rfl
theorem aKZ:dJ Tryz.prog 116 1=some (1,false,1):=by kernel_rfl
theorem pT:dJ Tryz.prog 57 5=some (5,false,1):=by kernel_rfl
theorem aK0:dJ Tryz.prog 116 2=some (2,false,1):=by kernel_rfl
theorem vL:dJ Tryz.prog 57 6=some (6,false,1):=by kernel_rfl
theorem aK1:dJ Tryz.prog 116 3=some (3,false,1):=by kernel_rfl
theorem zM:dJ Tryz.prog 57 7=some (7,false,1):=by kernel_rfl
theorem aK2:dJ Tryz.prog 116 4=some (4,false,1):=by kernel_rfl
theorem xB:dJ Tryz.prog 57 8=some (8,false,1):=by kernel_rfl
theorem aOd:dJ Tryz.prog 116 5=some (5,false,1):=by kernel_rfl
theorem lL:dJ Tryz.prog 57 9=some (9,false,1):=by kernel_rfl
theorem aOe:dJ Tryz.prog 116 6=some (6,false,1):=by kernel_rfl
theorem vZ:dJ Tryz.prog 57 10=some (10,true,5):=by kernel_rfl
theorem aOf:dJ Tryz.prog 116 7=some (7,false,1):=by kernel_rfl
theorem aOg:dJ Tryz.prog 116 8=some (8,false,1):=by kernel_rfl
theorem tH:dJ Tryz.prog 57 13=some (26,false,1):=by kernel_rfl
theorem aHN:dJ Tryz.prog 57 11=some (15,true,10):=by kernel_rfl
theorem zK:dJ Tryz.prog 57 2=some (2,false,1):=by kernel_rfl
theorem zL:dJ Tryz.prog 57 3=some (3,false,1):=by kernel_rfl
theorem aJi:gY Tryz.prog 55=some (103,20,240):=by kernel_rfl
theorem ti4:fY Tryz.prog 4=4:=by kernel_rfl
theorem aQh:aL1 Tryz.prog 26=some [3,3,9,23,24]:=by kernel_rfl
theorem aQe:Tryz.prog.bytesOf 26=80:=by kernel_rfl
theorem aQu:aNp Tryz.prog 23=some (26,5):=by kernel_rfl
theorem by9:Tryz.prog.bytesOf 9=16:=by kernel_rfl
theorem aP0:aNp Tryz.prog 24=some (9,1):=by kernel_rfl
theorem aQi:aL1 Tryz.prog 28=some [9,3,3,3,3,3,3,3,3,24]:=by kernel_rfl
theorem aQj:aL1 Tryz.prog 57=some [3,3,9,9,9,9,3,3,3,3,26,28,55,9]:=by kernel_rfl
theorem aPC:Tryz.prog.bytesOf 103=240:=by kernel_rfl
theorem aQv:aNp Tryz.prog 55=some (103,20):=by kernel_rfl
theorem aPG:aL1 Tryz.prog 103=some [3,3,9,9,3,26,28]:=by kernel_rfl
end Go.Proofs.YtnigjppddilpcaaGreatDoor

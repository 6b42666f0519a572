import Derived.Test.YtnigjppddilpcaaGreatDoorProg
import Derived.Test.YtnigjppddilpcaaGreatDoorAbs29
import Derived.Test.YtnigjppddilpcaaGreatDoorLib
namespace Go.Proofs.YtnigjppddilpcaaGreatDoor
open Go Abs
set_option maxRecDepth 100000
set_option linter.unusedVariables false
set_option linter.unusedSimpArgs false
abbrev ci (n:Int):AV:=.c (.int .i64 n)
abbrev cG {b0:Bool}{b1:Bool}{b2:Bool}{b3:Bool}{b4:Bool}{b5:Bool}:List AV:=[.c (.bool b0),.c (.bool b1),.c (.bool b2),.c (.bool b3),.c (.bool b4),.c (.bool b5)]
abbrev aR {b0:Bool}{b1:Bool}{b2:Bool}{b3:Bool}{b4:Bool}{b5:Bool}{b6:Bool}{b7:Bool}{b8:Bool}:List AV:=[.c (.bool b0),.c (.bool b1),.c (.bool b2),.c (.bool b3),.c (.bool b4),.c (.bool b5),.c (.bool b6),.c (.bool b7),.c (.bool b8)]
abbrev bQ {k0:IntKind}{n0:Int}{k1:IntKind}{n1:Int}{s2:List UInt8}{α3:Type}{z3:Nat}{r3:α3→List PV}{x3:List α3}{α4:Type}{z4:Nat}{r4:α4→List PV}{x4:List α4}:List AV:=[.c (.int k0 n0),.c (.int k1 n1),.c (.str s2),.c (PV.ls z3 r3 x3),.c (PV.ls z4 r4 x4)]
abbrev bK {k0:IntKind}{n0:Int}{k1:IntKind}{n1:Int}{s2:List UInt8}   : List AV:=[.c (.int k0 n0),.c (.int k1 n1),.c (.str s2),AV.nil,AV.nil]
abbrev aW {k0:IntKind}{n0:Int}{k1:IntKind}{n1:Int}{s2:List UInt8}{s3:List UInt8}{k4:IntKind}{n4:Int}{k5:IntKind}{n5:Int}{k6:IntKind}{n6:Int}{s7:List UInt8}{α8:Type}{z8:Nat}{r8:α8→List PV}{x8:List α8}{α9:Type}{z9:Nat}{r9:α9→List PV}{x9:List α9}{s10:List UInt8}{k11:IntKind}{n11:Int}{k12:IntKind}{n12:Int}{k13:IntKind}{n13:Int}{k14:IntKind}{n14:Int}{k15:IntKind}{n15:Int}{k16:IntKind}{n16:Int}{k17:IntKind}{n17:Int}{k18:IntKind}{n18:Int}{α19:Type}{z19:Nat}{r19:α19→List PV}{x19:List α19}:List AV:=[.c (.int k0 n0),.c (.int k1 n1),.c (.str s2),.c (.str s3),.c (.int k4 n4),.c (.int k5 n5),.c (.int k6 n6),.c (.str s7),.c (PV.ls z8 r8 x8),.c (PV.ls z9 r9 x9),.c (.str s10),.c (.int k11 n11),.c (.int k12 n12),.c (.int k13 n13),.c (.int k14 n14),.c (.int k15 n15),.c (.int k16 n16),.c (.int k17 n17),.c (.int k18 n18),.c (PV.ls z19 r19 x19)]
abbrev nX {k0:IntKind}{n0:Int}{k1:IntKind}{n1:Int}{s2:List UInt8}{s3:List UInt8}{k4:IntKind}{n4:Int}{k5:IntKind}{n5:Int}{k6:IntKind}{n6:Int}{s7:List UInt8}{α8:Type}{z8:Nat}{r8:α8→List PV}{x8:List α8}{α9:Type}{z9:Nat}{r9:α9→List PV}{x9:List α9}{s10:List UInt8}{k11:IntKind}{n11:Int}{k12:IntKind}{n12:Int}{k13:IntKind}{n13:Int}{k14:IntKind}{n14:Int}{k15:IntKind}{n15:Int}{k16:IntKind}{n16:Int}{k17:IntKind}{n17:Int}{k18:IntKind}{n18:Int}  : List AV:=[.c (.int k0 n0),.c (.int k1 n1),.c (.str s2),.c (.str s3),.c (.int k4 n4),.c (.int k5 n5),.c (.int k6 n6),.c (.str s7),.c (PV.ls z8 r8 x8),.c (PV.ls z9 r9 x9),.c (.str s10),.c (.int k11 n11),.c (.int k12 n12),.c (.int k13 n13),.c (.int k14 n14),.c (.int k15 n15),.c (.int k16 n16),.c (.int k17 n17),.c (.int k18 n18),AV.nil]
abbrev aV {k0:IntKind}{n0:Int}{k1:IntKind}{n1:Int}{s2:List UInt8}{s3:List UInt8}{k4:IntKind}{n4:Int}{k5:IntKind}{n5:Int}{k6:IntKind}{n6:Int}{s7:List UInt8}   {s10:List UInt8}{k11:IntKind}{n11:Int}{k12:IntKind}{n12:Int}{k13:IntKind}{n13:Int}{k14:IntKind}{n14:Int}{k15:IntKind}{n15:Int}{k16:IntKind}{n16:Int}{k17:IntKind}{n17:Int}{k18:IntKind}{n18:Int}  : List AV:=[.c (.int k0 n0),.c (.int k1 n1),.c (.str s2),.c (.str s3),.c (.int k4 n4),.c (.int k5 n5),.c (.int k6 n6),.c (.str s7),AV.nil,AV.nil,.c (.str s10),.c (.int k11 n11),.c (.int k12 n12),.c (.int k13 n13),.c (.int k14 n14),.c (.int k15 n15),.c (.int k16 n16),.c (.int k17 n17),.c (.int k18 n18),AV.nil]
abbrev aE {k0:IntKind}{n0:Int}{k1:IntKind}{n1:Int}{s2:List UInt8}{s3:List UInt8}{s4:List UInt8}{s5:List UInt8}{k6:IntKind}{n6:Int}{k7:IntKind}{n7:Int}{k8:IntKind}{n8:Int}{k9:IntKind}{n9:Int}{k10:IntKind}{n10:Int}{k11:IntKind}{n11:Int}{s12:List UInt8}{α13:Type}{z13:Nat}{r13:α13→List PV}{x13:List α13}{α14:Type}{z14:Nat}{r14:α14→List PV}{x14:List α14}{s15:List UInt8}{k16:IntKind}{n16:Int}{k17:IntKind}{n17:Int}{k18:IntKind}{n18:Int}{k19:IntKind}{n19:Int}{k20:IntKind}{n20:Int}{k21:IntKind}{n21:Int}{k22:IntKind}{n22:Int}{k23:IntKind}{n23:Int}{α24:Type}{z24:Nat}{r24:α24→List PV}{x24:List α24}{α25:Type}{z25:Nat}{r25:α25→List PV}{x25:List α25}{s26:List UInt8}:List AV:=[.c (.int k0 n0),.c (.int k1 n1),.c (.str s2),.c (.str s3),.c (.str s4),.c (.str s5),.c (.int k6 n6),.c (.int k7 n7),.c (.int k8 n8),.c (.int k9 n9),.c (.int k10 n10),.c (.int k11 n11),.c (.str s12),.c (PV.ls z13 r13 x13),.c (PV.ls z14 r14 x14),.c (.str s15),.c (.int k16 n16),.c (.int k17 n17),.c (.int k18 n18),.c (.int k19 n19),.c (.int k20 n20),.c (.int k21 n21),.c (.int k22 n22),.c (.int k23 n23),.c (PV.ls z24 r24 x24),.c (PV.ls z25 r25 x25),.c (.str s26)]
abbrev kO {k0:IntKind}{n0:Int}{k1:IntKind}{n1:Int}{s2:List UInt8}{s3:List UInt8}{s4:List UInt8}{s5:List UInt8}{k6:IntKind}{n6:Int}{k7:IntKind}{n7:Int}{k8:IntKind}{n8:Int}{k9:IntKind}{n9:Int}{k10:IntKind}{n10:Int}{k11:IntKind}{n11:Int}{s12:List UInt8}{α13:Type}{z13:Nat}{r13:α13→List PV}{x13:List α13}{α14:Type}{z14:Nat}{r14:α14→List PV}{x14:List α14}{s15:List UInt8}{k16:IntKind}{n16:Int}{k17:IntKind}{n17:Int}{k18:IntKind}{n18:Int}{k19:IntKind}{n19:Int}{k20:IntKind}{n20:Int}{k21:IntKind}{n21:Int}{k22:IntKind}{n22:Int}{k23:IntKind}{n23:Int}   {s26:List UInt8}:List AV:=[.c (.int k0 n0),.c (.int k1 n1),.c (.str s2),.c (.str s3),.c (.str s4),.c (.str s5),.c (.int k6 n6),.c (.int k7 n7),.c (.int k8 n8),.c (.int k9 n9),.c (.int k10 n10),.c (.int k11 n11),.c (.str s12),.c (PV.ls z13 r13 x13),.c (PV.ls z14 r14 x14),.c (.str s15),.c (.int k16 n16),.c (.int k17 n17),.c (.int k18 n18),.c (.int k19 n19),.c (.int k20 n20),.c (.int k21 n21),.c (.int k22 n22),.c (.int k23 n23),AV.nil,AV.nil,.c (.str s26)]
abbrev aA {k0:IntKind}{n0:Int}{k1:IntKind}{n1:Int}{s2:List UInt8}{s3:List UInt8}{s4:List UInt8}{s5:List UInt8}{k6:IntKind}{n6:Int}{k7:IntKind}{n7:Int}{k8:IntKind}{n8:Int}{k9:IntKind}{n9:Int}{k10:IntKind}{n10:Int}{k11:IntKind}{n11:Int}{s12:List UInt8}   {s15:List UInt8}{k16:IntKind}{n16:Int}{k17:IntKind}{n17:Int}{k18:IntKind}{n18:Int}{k19:IntKind}{n19:Int}{k20:IntKind}{n20:Int}{k21:IntKind}{n21:Int}{k22:IntKind}{n22:Int}{k23:IntKind}{n23:Int}   {s26:List UInt8}:List AV:=[.c (.int k0 n0),.c (.int k1 n1),.c (.str s2),.c (.str s3),.c (.str s4),.c (.str s5),.c (.int k6 n6),.c (.int k7 n7),.c (.int k8 n8),.c (.int k9 n9),.c (.int k10 n10),.c (.int k11 n11),.c (.str s12),AV.nil,AV.nil,.c (.str s15),.c (.int k16 n16),.c (.int k17 n17),.c (.int k18 n18),.c (.int k19 n19),.c (.int k20 n20),.c (.int k21 n21),.c (.int k22 n22),.c (.int k23 n23),AV.nil,AV.nil,.c (.str s26)]
abbrev bW {α0:Type}{z0:Nat}{r0:α0→List PV}{x0:List α0}{k1:IntKind}{n1:Int}{k2:IntKind}{n2:Int}{b3:Bool}:List AV:=[.c (PV.ls z0 r0 x0),.c (.int k1 n1),.c (.int k2 n2),.c (.bool b3)]
abbrev cI {s0:List UInt8}{k1:IntKind}{n1:Int}{k2:IntKind}{n2:Int}{k3:IntKind}{n3:Int}{k4:IntKind}{n4:Int}{k5:IntKind}{n5:Int}{k6:IntKind}{n6:Int}{k7:IntKind}{n7:Int}{k8:IntKind}{n8:Int}{α9:Type}{z9:Nat}{r9:α9→List PV}{x9:List α9}:List AV:=[.c (.str s0),.c (.int k1 n1),.c (.int k2 n2),.c (.int k3 n3),.c (.int k4 n4),.c (.int k5 n5),.c (.int k6 n6),.c (.int k7 n7),.c (.int k8 n8),.c (PV.ls z9 r9 x9)]
abbrev bB {s0:List UInt8}{k1:IntKind}{n1:Int}{k2:IntKind}{n2:Int}{k3:IntKind}{n3:Int}{k4:IntKind}{n4:Int}{k5:IntKind}{n5:Int}{k6:IntKind}{n6:Int}{k7:IntKind}{n7:Int}{k8:IntKind}{n8:Int}  : List AV:=[.c (.str s0),.c (.int k1 n1),.c (.int k2 n2),.c (.int k3 n3),.c (.int k4 n4),.c (.int k5 n5),.c (.int k6 n6),.c (.int k7 n7),.c (.int k8 n8),AV.nil]
abbrev u27 {x0 x1 x2 x3 x4 x5 x6 x7 x8 x9 x10 x11 x12 x13 x14 x15 x16 x17 x18 x19 x20 x21 x22 x23 x24 x25 x26:AV}:List AV:=[x0,x1,x2,x3,x4,x5,x6,x7,x8,x9,x10,x11,x12,x13,x14,x15,x16,x17,x18,x19,x20,x21,x22,x23,x24,x25,x26]
abbrev u5 {x0 x1 x2 x3 x4:AV}:List AV:=[x0,x1,x2,x3,x4]
abbrev u9 {x0 x1 x2 x3 x4 x5 x6 x7 x8:AV}:List AV:=[x0,x1,x2,x3,x4,x5,x6,x7,x8]
structure aC where
 mk ::
 Kind:Int
 Int:Int
 Text:(List UInt8)
 Items:(List aC)
 Keys:(List (List UInt8))
instance:Inhabited aC:=⟨aC.mk 0 0 [] [] []⟩
mutual
def bM:aC→List PV
 | ⟨x0,x1,x2,x3,x4⟩=>[.int .i64 x0,.int .i64 x1,.str x2,.list 5 (rZ x3),PV.ls 1 gL x4]
def rZ:List aC→List (List PV)
 | []=>[]
 | x :: l=>bM x :: rZ l
end
theorem aAt:∀ l,rZ l=l.map bM
 | []=>by simp [rZ]
 | x :: l=>by simp [rZ,aAt l]
def eF (x:aC):List PV:=[.int .i64 x.Kind,.int .i64 x.Int,.str x.Text,PV.ls 5 bM x.Items,PV.ls 1 gL x.Keys]
theorem eT (x:aC):bM x=eF x:=by cases x;simp [bM,eF,aAt,PV.ls]
theorem aEB (x:aC):(bM x).length=5:=by rw [eT];rfl
structure bL where
 mk ::
 Queue:(List UInt8)
 ToStart:Int
 ToClose:Int
 Total:Int
 Beat:Int
 First:Int
 Coef:Int
 Most:Int
 Attempts:Int
 Fatal:(List (List UInt8))
instance:Inhabited bL:=⟨bL.mk [] 0 0 0 0 0 0 0 0 []⟩
def jX (x:bL):List PV:=[.str x.Queue,.int .i64 x.ToStart,.int .i64 x.ToClose,.int .i64 x.Total,.int .i64 x.Beat,.int .i64 x.First,.int .i64 x.Coef,.int .i64 x.Most,.int .i64 x.Attempts,PV.ls 1 gL x.Fatal]
structure aE4 where
 mk ::
 ID:Int
 Kind:Int
 Time:Int
 Seq:Int
 Ref:Int
 N:Int
 Code:Int
 Name:(List UInt8)
 Key:(List UInt8)
 Data:aC
 Opts:bL
instance:Inhabited aE4:=⟨aE4.mk 0 0 0 0 0 0 0 [] [] default default⟩
structure aP where
 mk ::
 Kind:Int
 Seq:Int
 Name:(List UInt8)
 Key:(List UInt8)
 N:Int
 Data:aC
 Opts:bL
instance:Inhabited aP:=⟨aP.mk 0 0 [] [] 0 default default⟩
def cH (x:aP):List PV:=[.int .i64 x.Kind,.int .i64 x.Seq,.str x.Name,.str x.Key,.int .i64 x.N,.int .i64 x.Data.Kind,.int .i64 x.Data.Int,.str x.Data.Text,PV.ls 5 bM x.Data.Items,PV.ls 1 gL x.Data.Keys,.str x.Opts.Queue,.int .i64 x.Opts.ToStart,.int .i64 x.Opts.ToClose,.int .i64 x.Opts.Total,.int .i64 x.Opts.Beat,.int .i64 x.Opts.First,.int .i64 x.Opts.Coef,.int .i64 x.Opts.Most,.int .i64 x.Opts.Attempts,PV.ls 1 gL x.Opts.Fatal]
structure fQ where
 mk ::
 seq_:Bool
 name_:Bool
 key_:Bool
 n_:Bool
 data_:Bool
 opts_:Bool
instance:Inhabited fQ:=⟨fQ.mk false false false false false false⟩
def aA5 (x:fQ):List PV:=[.bool x.seq_,.bool x.name_,.bool x.key_,.bool x.n_,.bool x.data_,.bool x.opts_]
structure aGU where
 mk ::
 seq_:Bool
 ref_:Bool
 n_:Bool
 code_:Bool
 name_:Bool
 key_:Bool
 data_:Bool
instance:Inhabited aGU:=⟨aGU.mk false false false false false false false⟩
structure aMD where
 mk ::
 E0:Int
 E1:Int
 E2:Int
 E3:Int
instance:Inhabited aMD:=⟨aMD.mk 0 0 0 0⟩
structure aD where
 mk ::
 b_:(List UInt8)
 at_:Int
 err_:Int
 made_:Bool
instance:Inhabited aD:=⟨aD.mk [] 0 0 false⟩
def cL (x:aD):List PV:=[PV.ls 1 gA x.b_,.int .i64 x.at_,.int .i64 x.err_,.bool x.made_]
structure aDW where
 mk ::
 seq_:Bool
 ref_:Bool
 n_:Bool
 code_:Bool
 name_:Bool
 key_:Bool
 data_:Bool
 opts_:Bool
instance:Inhabited aDW:=⟨aDW.mk false false false false false false false false⟩
structure aM where
 mk ::
 Made:Bool
 Rest:(List UInt8)
 Bad:Int
instance:Inhabited aM:=⟨aM.mk false [] 0⟩
structure aY where
 mk ::
 Kind:Int
 Time:Int
 Workflow:(List UInt8)
 Run:(List UInt8)
 ID:(List UInt8)
 Name:(List UInt8)
 Token:Int
 Event:Int
 Seq:Int
 N:Int
 Data:aC
 Opts:bL
 Commands:(List aP)
 Parent:(List UInt8)
instance:Inhabited aY:=⟨aY.mk 0 0 [] [] [] [] 0 0 0 0 default default [] []⟩
def fX (x:aY):List PV:=[.int .i64 x.Kind,.int .i64 x.Time,.str x.Workflow,.str x.Run,.str x.ID,.str x.Name,.int .i64 x.Token,.int .i64 x.Event,.int .i64 x.Seq,.int .i64 x.N,.int .i64 x.Data.Kind,.int .i64 x.Data.Int,.str x.Data.Text,PV.ls 5 bM x.Data.Items,PV.ls 1 gL x.Data.Keys,.str x.Opts.Queue,.int .i64 x.Opts.ToStart,.int .i64 x.Opts.ToClose,.int .i64 x.Opts.Total,.int .i64 x.Opts.Beat,.int .i64 x.Opts.First,.int .i64 x.Opts.Coef,.int .i64 x.Opts.Most,.int .i64 x.Opts.Attempts,PV.ls 1 gL x.Opts.Fatal,PV.ls 20 cH x.Commands,.str x.Parent]
structure eL where
 mk ::
 id_:Bool
 name_:Bool
 token_:Bool
 event_:Bool
 seq_:Bool
 n_:Bool
 data_:Bool
 commands_:Bool
 parent_:Bool
instance:Inhabited eL:=⟨eL.mk false false false false false false false false false⟩
def wP (x:eL):List PV:=[.bool x.id_,.bool x.name_,.bool x.token_,.bool x.event_,.bool x.seq_,.bool x.n_,.bool x.data_,.bool x.commands_,.bool x.parent_]
structure aIe where
 mk ::
 Err:Int
 Run:(List UInt8)
 Token:Int
 N:Int
 Data:aC
 Events:(List aE4)
instance:Inhabited aIe:=⟨aIe.mk 0 [] 0 0 default []⟩
theorem aGH:fP Tryz.prog 22=3:=by kernel_rfl
theorem tk3:xQ Tryz.prog 3=some .i64:=by kernel_rfl
theorem aGa:xQ Tryz.prog 131=some .u64:=by kernel_rfl
theorem tk5:xQ Tryz.prog 5=some .u8:=by kernel_rfl
theorem aGc:gS Tryz.prog 22=some (5,1,1):=by kernel_rfl
theorem fY:gK Tryz.prog 3=some (false,1):=by kernel_rfl
theorem gV:gK Tryz.prog 26=some (true,5):=by kernel_rfl
theorem kY:dK Tryz.prog 26 3=some (3,false,1):=by kernel_rfl
theorem vM:gK Tryz.prog 23=some (false,1):=by kernel_rfl
theorem aAE:fP Tryz.prog 23=3:=by kernel_rfl
theorem aBE:gS Tryz.prog 23=some (26,5,80):=by kernel_rfl
theorem aED:jQ Tryz.prog 26=some [.int .i64 0,.int .i64 0,.string ByteArray.empty,.slice none 0 0,.slice none 0 0]:=by kernel_rfl
theorem yB:dK Tryz.prog 26 2=some (2,false,1):=by kernel_rfl
theorem nE:gK Tryz.prog 9=some (false,1):=by kernel_rfl
theorem wT:fP Tryz.prog 9=2:=by kernel_rfl
theorem qU:dK Tryz.prog 26 4=some (4,false,1):=by kernel_rfl
theorem rG:gK Tryz.prog 24=some (false,1):=by kernel_rfl
theorem yQ:fP Tryz.prog 24=3:=by kernel_rfl
theorem aAe:gS Tryz.prog 24=some (9,1,16):=by kernel_rfl
theorem tD:dK Tryz.prog 26 1=some (1,false,1):=by kernel_rfl
theorem oC:dK Tryz.prog 26 0=some (0,false,1):=by kernel_rfl
theorem tv4:gK Tryz.prog 4=some (false,1):=by kernel_rfl
theorem aBF:gK Tryz.prog 28=some (true,10):=by kernel_rfl
theorem aQI:fP Tryz.prog 103=6:=by kernel_rfl
theorem aLp:jQ Tryz.prog 103=some [.int .i64 0,.int .i64 0,.string ByteArray.empty,.string ByteArray.empty,.int .i64 0,.int .i64 0,.int .i64 0,.string ByteArray.empty,.slice none 0 0,.slice none 0 0,.string ByteArray.empty,.int .i64 0,.int .i64 0,.int .i64 0,.int .i64 0,.int .i64 0,.int .i64 0,.int .i64 0,.int .i64 0,.slice none 0 0]:=by kernel_rfl
theorem aQs:aBP Tryz.prog 103=some [(0,some 1),(1,some 1),(2,some 1),(3,some 1),(4,some 1),(5,some 5),(10,some 10)]:=by kernel_rfl
theorem aQG:fP Tryz.prog 103=6∧aEC Tryz.prog 103=true∧jQ Tryz.prog 103=some [.int .i64 0,.int .i64 0,.string ByteArray.empty,.string ByteArray.empty,.int .i64 0,.int .i64 0,.int .i64 0,.string ByteArray.empty,.slice none 0 0,.slice none 0 0,.string ByteArray.empty,.int .i64 0,.int .i64 0,.int .i64 0,.int .i64 0,.int .i64 0,.int .i64 0,.int .i64 0,.int .i64 0,.slice none 0 0]∧∀ i,mA Tryz.prog 103 i=aGy [(0,some 1),(1,some 1),(2,some 1),(3,some 1),(4,some 1),(5,some 5),(10,some 10)] i:=⟨aQI,by kernel_rfl,aLp,fun i=>nF aQs i⟩
theorem vA:gK Tryz.prog 103=some (true,20):=by kernel_rfl
theorem vJ:dK Tryz.prog 103 0=some (0,false,1):=by kernel_rfl
theorem aNV:jQ Tryz.prog 160=some [.bool false,.bool false,.bool false,.bool false,.bool false,.bool false]:=by kernel_rfl
theorem aQL:fP Tryz.prog 160=6:=by kernel_rfl
theorem aQv:aBP Tryz.prog 160=some [(0,some 1),(1,some 1),(2,some 1),(3,some 1),(4,some 1),(5,some 1)]:=by kernel_rfl
theorem aBT:fP Tryz.prog 160=6∧aEC Tryz.prog 160=true∧jQ Tryz.prog 160=some [.bool false,.bool false,.bool false,.bool false,.bool false,.bool false]∧∀ i,mA Tryz.prog 160 i=aGy [(0,some 1),(1,some 1),(2,some 1),(3,some 1),(4,some 1),(5,some 1)] i:=⟨aQL,by kernel_rfl,aNV,fun i=>nF aQv i⟩
theorem pQ:gK Tryz.prog 160=some (true,6):=by kernel_rfl
theorem aLl:dK Tryz.prog 160 0=some (0,false,1):=by kernel_rfl
theorem aBy:dK Tryz.prog 103 1=some (1,false,1):=by kernel_rfl
theorem aLm:dK Tryz.prog 160 1=some (1,false,1):=by kernel_rfl
theorem aAb:dK Tryz.prog 103 2=some (2,false,1):=by kernel_rfl
theorem aLn:dK Tryz.prog 160 2=some (2,false,1):=by kernel_rfl
theorem aBz:dK Tryz.prog 103 3=some (3,false,1):=by kernel_rfl
theorem aOM:dK Tryz.prog 160 3=some (3,false,1):=by kernel_rfl
theorem tN:dK Tryz.prog 103 4=some (4,false,1):=by kernel_rfl
theorem aON:dK Tryz.prog 160 4=some (4,false,1):=by kernel_rfl
theorem vK:dK Tryz.prog 103 5=some (5,true,5):=by kernel_rfl
theorem aRe:fP Tryz.prog 26=6:=by kernel_rfl
theorem aQ4:aBP Tryz.prog 26=some [(0,some 1),(1,some 1),(2,some 1),(3,some 1),(4,some 1)]:=by kernel_rfl
theorem aGG:fP Tryz.prog 26=6∧aEC Tryz.prog 26=true∧jQ Tryz.prog 26=some [.int .i64 0,.int .i64 0,.string ByteArray.empty,.slice none 0 0,.slice none 0 0]∧∀ i,mA Tryz.prog 26 i=aGy [(0,some 1),(1,some 1),(2,some 1),(3,some 1),(4,some 1)] i:=⟨aRe,by kernel_rfl,aED,fun i=>nF aQ4 i⟩
theorem aOO:dK Tryz.prog 160 5=some (5,false,1):=by kernel_rfl
theorem aAc:dK Tryz.prog 103 6=some (10,true,10):=by kernel_rfl
theorem aRf:fP Tryz.prog 28=6:=by kernel_rfl
theorem aP4:jQ Tryz.prog 28=some [.string ByteArray.empty,.int .i64 0,.int .i64 0,.int .i64 0,.int .i64 0,.int .i64 0,.int .i64 0,.int .i64 0,.int .i64 0,.slice none 0 0]:=by kernel_rfl
theorem aQ5:aBP Tryz.prog 28=some [(0,some 1),(1,some 1),(2,some 1),(3,some 1),(4,some 1),(5,some 1),(6,some 1),(7,some 1),(8,some 1),(9,some 1)]:=by kernel_rfl
theorem aP0:fP Tryz.prog 28=6∧aEC Tryz.prog 28=true∧jQ Tryz.prog 28=some [.string ByteArray.empty,.int .i64 0,.int .i64 0,.int .i64 0,.int .i64 0,.int .i64 0,.int .i64 0,.int .i64 0,.int .i64 0,.slice none 0 0]∧∀ i,mA Tryz.prog 28 i=aGy [(0,some 1),(1,some 1),(2,some 1),(3,some 1),(4,some 1),(5,some 1),(6,some 1),(7,some 1),(8,some 1),(9,some 1)] i:=⟨aRf,by kernel_rfl,aP4,fun i=>nF aQ5 i⟩
theorem aF0:dK Tryz.prog 28 1=some (1,false,1):=by kernel_rfl
theorem aF1:dK Tryz.prog 28 2=some (2,false,1):=by kernel_rfl
theorem aF2:dK Tryz.prog 28 3=some (3,false,1):=by kernel_rfl
theorem aF3:dK Tryz.prog 28 4=some (4,false,1):=by kernel_rfl
theorem aF4:dK Tryz.prog 28 5=some (5,false,1):=by kernel_rfl
theorem aF5:dK Tryz.prog 28 6=some (6,false,1):=by kernel_rfl
theorem aF6:dK Tryz.prog 28 7=some (7,false,1):=by kernel_rfl
theorem aF7:dK Tryz.prog 28 8=some (8,false,1):=by kernel_rfl
theorem pO:gS Tryz.prog 93=some (92,1,8):=by kernel_rfl
theorem aP2:fP Tryz.prog 93=3:=by kernel_rfl
theorem qG:gK Tryz.prog 92=some (false,1):=by kernel_rfl
theorem aBa:dK Tryz.prog 28 0=some (0,false,1):=by kernel_rfl
theorem qV:dK Tryz.prog 28 9=some (9,false,1):=by kernel_rfl
theorem aOP:gS Tryz.prog 76=some (3,1,8):=by kernel_rfl
theorem aQM:fP Tryz.prog 76=3:=by kernel_rfl
theorem tv5:gK Tryz.prog 5=some (false,1):=by kernel_rfl
theorem aP3:fP Tryz.prog 22≠7:=by rw [aGH];decide
theorem aRh:fP Tryz.prog 89=6:=by kernel_rfl
theorem aRj:jQ Tryz.prog 89=some [.slice none 0 0,.int .i64 0,.int .i64 0,.bool false]:=by kernel_rfl
theorem aQ7:aBP Tryz.prog 89=some [(0,some 1),(1,some 1),(2,some 1),(3,some 1)]:=by kernel_rfl
theorem aRd:fP Tryz.prog 89=6∧aEC Tryz.prog 89=true∧jQ Tryz.prog 89=some [.slice none 0 0,.int .i64 0,.int .i64 0,.bool false]∧∀ i,mA Tryz.prog 89 i=aGy [(0,some 1),(1,some 1),(2,some 1),(3,some 1)] i:=⟨aRh,by kernel_rfl,aRj,fun i=>nF aQ7 i⟩
theorem aP1:fP Tryz.prog 45=5:=by kernel_rfl
theorem aNS:dK Tryz.prog 89 3=some (3,false,1):=by kernel_rfl
theorem aBb:dK Tryz.prog 89 2=some (2,false,1):=by kernel_rfl
theorem aJx:gK Tryz.prog 37=some (false,1):=by kernel_rfl
theorem aH3:dK Tryz.prog 89 0=some (0,false,1):=by kernel_rfl
theorem aOQ:gK Tryz.prog 22=some (false,1):=by kernel_rfl
theorem aAd:dK Tryz.prog 89 1=some (1,false,1):=by kernel_rfl
theorem aPf:bY.tyBytes Tryz.prog 22:=by show (match Tryz.prog.underlying 22 with | some (.slice e)=>xQ Tryz.prog e=some .u8 | _=>False);rw [show Tryz.prog.underlying 22=some (.slice 5) by kernel_rfl];exact (by kernel_rfl:xQ Tryz.prog 5=some .u8)
theorem aQK:fP Tryz.prog 146=6:=by kernel_rfl
theorem aQN:jQ Tryz.prog 146=some [.pointer none,.int .i64 0]:=by kernel_rfl
theorem aQu:aBP Tryz.prog 146=some [(0,some 1),(1,some 1)]:=by kernel_rfl
theorem aQH:fP Tryz.prog 146=6∧aEC Tryz.prog 146=true∧jQ Tryz.prog 146=some [.pointer none,.int .i64 0]∧∀ i,mA Tryz.prog 146 i=aGy [(0,some 1),(1,some 1)] i:=⟨aQK,by kernel_rfl,aQN,fun i=>nF aQu i⟩
theorem aH1:dK Tryz.prog 146 1=some (1,false,1):=by kernel_rfl
theorem tO:dK Tryz.prog 146 0=some (0,false,1):=by kernel_rfl
theorem aGJ:gK Tryz.prog 45=some (false,1):=by kernel_rfl
theorem vL:dK Tryz.prog 57 12=some (25,false,1):=by kernel_rfl
theorem aH4:gK Tryz.prog 55=some (false,1):=by kernel_rfl
theorem aGI:fP Tryz.prog 55=3:=by kernel_rfl
theorem aRg:fP Tryz.prog 57=6:=by kernel_rfl
theorem aKJ:jQ Tryz.prog 57=some [.int .i64 0,.int .i64 0,.string ByteArray.empty,.string ByteArray.empty,.string ByteArray.empty,.string ByteArray.empty,.int .i64 0,.int .i64 0,.int .i64 0,.int .i64 0,.int .i64 0,.int .i64 0,.string ByteArray.empty,.slice none 0 0,.slice none 0 0,.string ByteArray.empty,.int .i64 0,.int .i64 0,.int .i64 0,.int .i64 0,.int .i64 0,.int .i64 0,.int .i64 0,.int .i64 0,.slice none 0 0,.slice none 0 0,.string ByteArray.empty]:=by kernel_rfl
theorem aQ6:aBP Tryz.prog 57=some [(0,some 1),(1,some 1),(2,some 1),(3,some 1),(4,some 1),(5,some 1),(6,some 1),(7,some 1),(8,some 1),(9,some 1),(10,some 5),(15,some 10),(25,some 1),(26,some 1)]:=by kernel_rfl
theorem aOH:fP Tryz.prog 57=6∧aEC Tryz.prog 57=true∧jQ Tryz.prog 57=some [.int .i64 0,.int .i64 0,.string ByteArray.empty,.string ByteArray.empty,.string ByteArray.empty,.string ByteArray.empty,.int .i64 0,.int .i64 0,.int .i64 0,.int .i64 0,.int .i64 0,.int .i64 0,.string ByteArray.empty,.slice none 0 0,.slice none 0 0,.string ByteArray.empty,.int .i64 0,.int .i64 0,.int .i64 0,.int .i64 0,.int .i64 0,.int .i64 0,.int .i64 0,.int .i64 0,.slice none 0 0,.slice none 0 0,.string ByteArray.empty]∧∀ i,mA Tryz.prog 57 i=aGy [(0,some 1),(1,some 1),(2,some 1),(3,some 1),(4,some 1),(5,some 1),(6,some 1),(7,some 1),(8,some 1),(9,some 1),(10,some 5),(15,some 10),(25,some 1),(26,some 1)] i:=⟨aRg,by kernel_rfl,aKJ,fun i=>nF aQ6 i⟩
theorem xB:gK Tryz.prog 57=some (true,27):=by kernel_rfl
theorem wS:dK Tryz.prog 57 0=some (0,false,1):=by kernel_rfl
theorem aNU:jQ Tryz.prog 116=some [.bool false,.bool false,.bool false,.bool false,.bool false,.bool false,.bool false,.bool false,.bool false]:=by kernel_rfl
theorem aQJ:fP Tryz.prog 116=6:=by kernel_rfl
theorem aQt:aBP Tryz.prog 116=some [(0,some 1),(1,some 1),(2,some 1),(3,some 1),(4,some 1),(5,some 1),(6,some 1),(7,some 1),(8,some 1)]:=by kernel_rfl
theorem xP:fP Tryz.prog 116=6∧aEC Tryz.prog 116=true∧jQ Tryz.prog 116=some [.bool false,.bool false,.bool false,.bool false,.bool false,.bool false,.bool false,.bool false,.bool false]∧∀ i,mA Tryz.prog 116 i=aGy [(0,some 1),(1,some 1),(2,some 1),(3,some 1),(4,some 1),(5,some 1),(6,some 1),(7,some 1),(8,some 1)] i:=⟨aQJ,by kernel_rfl,aNU,fun i=>nF aQt i⟩
theorem lH:gK Tryz.prog 116=some (true,9):=by kernel_rfl
theorem aF8:dK Tryz.prog 57 1=some (1,false,1):=by kernel_rfl
theorem aLg:dK Tryz.prog 116 0=some (0,false,1):=by kernel_rfl
theorem aCj:dK Tryz.prog 57 4=some (4,false,1):=by kernel_rfl
theorem aLh:dK Tryz.prog 116 1=some (1,false,1):=by kernel_rfl
theorem yC:dK Tryz.prog 57 5=some (5,false,1):=by kernel_rfl
theorem aLi:dK Tryz.prog 116 2=some (2,false,1):=by kernel_rfl
theorem aDJ:dK Tryz.prog 57 6=some (6,false,1):=by kernel_rfl
theorem aLj:dK Tryz.prog 116 3=some (3,false,1):=by kernel_rfl
theorem aDK:dK Tryz.prog 57 7=some (7,false,1):=by kernel_rfl
theorem aLk:dK Tryz.prog 116 4=some (4,false,1):=by kernel_rfl
theorem aDL:dK Tryz.prog 57 8=some (8,false,1):=by kernel_rfl
theorem aOI:dK Tryz.prog 116 5=some (5,false,1):=by kernel_rfl
theorem sC:dK Tryz.prog 57 9=some (9,false,1):=by kernel_rfl
theorem aOJ:dK Tryz.prog 116 6=some (6,false,1):=by kernel_rfl
theorem aBA:dK Tryz.prog 57 10=some (10,true,5):=by kernel_rfl
theorem aOK:dK Tryz.prog 116 7=some (7,false,1):=by kernel_rfl
theorem aOL:dK Tryz.prog 116 8=some (8,false,1):=by kernel_rfl
theorem aBB:dK Tryz.prog 57 13=some (26,false,1):=by kernel_rfl
theorem aH2:dK Tryz.prog 57 11=some (15,true,10):=by kernel_rfl
theorem aDH:dK Tryz.prog 57 2=some (2,false,1):=by kernel_rfl
theorem aDI:dK Tryz.prog 57 3=some (3,false,1):=by kernel_rfl
theorem aMr:gS Tryz.prog 55=some (103,20,240):=by kernel_rfl
theorem aQX:aMs Tryz.prog 26=some [3,3,9,23,24]:=by kernel_rfl
theorem aQV:Tryz.prog.bytesOf 26=80:=by kernel_rfl
theorem aRb:aNT Tryz.prog 23=some (26,5):=by kernel_rfl
theorem by9:Tryz.prog.bytesOf 9=16:=by kernel_rfl
theorem aQE:aNT Tryz.prog 24=some (9,1):=by kernel_rfl
theorem aQY:aMs Tryz.prog 28=some [9,3,3,3,3,3,3,3,3,24]:=by kernel_rfl
theorem aQZ:aMs Tryz.prog 57=some [3,3,9,9,9,9,3,3,3,3,26,28,55,9]:=by kernel_rfl
theorem aQd:Tryz.prog.bytesOf 103=240:=by kernel_rfl
theorem aRc:aNT Tryz.prog 55=some (103,20):=by kernel_rfl
theorem aQi:aMs Tryz.prog 103=some [3,3,9,9,3,26,28]:=by kernel_rfl
end Go.Proofs.YtnigjppddilpcaaGreatDoor

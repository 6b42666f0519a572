import Derived.Test.YtopijeegnhighaaDoorProg
import Derived.Test.YtopijeegnhighaaDoorAbs29
import Derived.Test.YtopijeegnhighaaDoorLib
namespace Go.Proofs.YtopijeegnhighaaDoor
open Go Abs
set_option maxRecDepth 100000
set_option linter.unusedVariables false
set_option linter.unusedSimpArgs false
abbrev aIIIIIIISSIISLLSIIIIIIIIL {k0 : IntKind} {n0 : Int} {k1 : IntKind} {n1 : Int} {k2 : IntKind} {n2 : Int} {k3 : IntKind} {n3 : Int} {k4 : IntKind} {n4 : Int} {k5 : IntKind} {n5 : Int} {k6 : IntKind} {n6 : Int} {s7 : List UInt8} {s8 : List UInt8} {k9 : IntKind} {n9 : Int} {k10 : IntKind} {n10 : Int} {s11 : List UInt8} {α12 : Type} {z12 : Nat} {r12 : α12 → List PV} {x12 : List α12} {α13 : Type} {z13 : Nat} {r13 : α13 → List PV} {x13 : List α13} {s14 : List UInt8} {k15 : IntKind} {n15 : Int} {k16 : IntKind} {n16 : Int} {k17 : IntKind} {n17 : Int} {k18 : IntKind} {n18 : Int} {k19 : IntKind} {n19 : Int} {k20 : IntKind} {n20 : Int} {k21 : IntKind} {n21 : Int} {k22 : IntKind} {n22 : Int} {α23 : Type} {z23 : Nat} {r23 : α23 → List PV} {x23 : List α23} : List AV := [.c (.int k0 n0), .c (.int k1 n1), .c (.int k2 n2), .c (.int k3 n3), .c (.int k4 n4), .c (.int k5 n5), .c (.int k6 n6), .c (.str s7), .c (.str s8), .c (.int k9 n9), .c (.int k10 n10), .c (.str s11), .c (PV.ls z12 r12 x12), .c (PV.ls z13 r13 x13), .c (.str s14), .c (.int k15 n15), .c (.int k16 n16), .c (.int k17 n17), .c (.int k18 n18), .c (.int k19 n19), .c (.int k20 n20), .c (.int k21 n21), .c (.int k22 n22), .c (PV.ls z23 r23 x23)]
abbrev aIIIIIISIISLLIISLLBLLLLLL {k0 : IntKind} {n0 : Int} {k1 : IntKind} {n1 : Int} {k2 : IntKind} {n2 : Int} {k3 : IntKind} {n3 : Int} {k4 : IntKind} {n4 : Int} {k5 : IntKind} {n5 : Int} {s6 : List UInt8} {k7 : IntKind} {n7 : Int} {k8 : IntKind} {n8 : Int} {s9 : List UInt8} {α10 : Type} {z10 : Nat} {r10 : α10 → List PV} {x10 : List α10} {α11 : Type} {z11 : Nat} {r11 : α11 → List PV} {x11 : List α11} {k12 : IntKind} {n12 : Int} {k13 : IntKind} {n13 : Int} {s14 : List UInt8} {α15 : Type} {z15 : Nat} {r15 : α15 → List PV} {x15 : List α15} {α16 : Type} {z16 : Nat} {r16 : α16 → List PV} {x16 : List α16} {b17 : Bool} {α18 : Type} {z18 : Nat} {r18 : α18 → List PV} {x18 : List α18} {α19 : Type} {z19 : Nat} {r19 : α19 → List PV} {x19 : List α19} {α20 : Type} {z20 : Nat} {r20 : α20 → List PV} {x20 : List α20} {α21 : Type} {z21 : Nat} {r21 : α21 → List PV} {x21 : List α21} {α22 : Type} {z22 : Nat} {r22 : α22 → List PV} {x22 : List α22} {α23 : Type} {z23 : Nat} {r23 : α23 → List PV} {x23 : List α23} : List AV := [.c (.int k0 n0), .c (.int k1 n1), .c (.int k2 n2), .c (.int k3 n3), .c (.int k4 n4), .c (.int k5 n5), .c (.str s6), .c (.int k7 n7), .c (.int k8 n8), .c (.str s9), .c (PV.ls z10 r10 x10), .c (PV.ls z11 r11 x11), .c (.int k12 n12), .c (.int k13 n13), .c (.str s14), .c (PV.ls z15 r15 x15), .c (PV.ls z16 r16 x16), .c (.bool b17), .c (PV.ls z18 r18 x18), .c (PV.ls z19 r19 x19), .c (PV.ls z20 r20 x20), .c (PV.ls z21 r21 x21), .c (PV.ls z22 r22 x22), .c (PV.ls z23 r23 x23)]
abbrev aIIIIIISSS {k0 : IntKind} {n0 : Int} {k1 : IntKind} {n1 : Int} {k2 : IntKind} {n2 : Int} {k3 : IntKind} {n3 : Int} {k4 : IntKind} {n4 : Int} {k5 : IntKind} {n5 : Int} {s6 : List UInt8} {s7 : List UInt8} {s8 : List UInt8} : List AV := [.c (.int k0 n0), .c (.int k1 n1), .c (.int k2 n2), .c (.int k3 n3), .c (.int k4 n4), .c (.int k5 n5), .c (.str s6), .c (.str s7), .c (.str s8)]
abbrev aIISLL {k0 : IntKind} {n0 : Int} {k1 : IntKind} {n1 : Int} {s2 : List UInt8} {α3 : Type} {z3 : Nat} {r3 : α3 → List PV} {x3 : List α3} {α4 : Type} {z4 : Nat} {r4 : α4 → List PV} {x4 : List α4} : List AV := [.c (.int k0 n0), .c (.int k1 n1), .c (.str s2), .c (PV.ls z3 r3 x3), .c (PV.ls z4 r4 x4)]
abbrev aIISS {k0 : IntKind} {n0 : Int} {k1 : IntKind} {n1 : Int} {s2 : List UInt8} {s3 : List UInt8} : List AV := [.c (.int k0 n0), .c (.int k1 n1), .c (.str s2), .c (.str s3)]
abbrev aIISSIS {k0 : IntKind} {n0 : Int} {k1 : IntKind} {n1 : Int} {s2 : List UInt8} {s3 : List UInt8} {k4 : IntKind} {n4 : Int} {s5 : List UInt8} : List AV := [.c (.int k0 n0), .c (.int k1 n1), .c (.str s2), .c (.str s3), .c (.int k4 n4), .c (.str s5)]
abbrev aIISSSSIIIIIISLLSIIIIIIIILLS {k0 : IntKind} {n0 : Int} {k1 : IntKind} {n1 : Int} {s2 : List UInt8} {s3 : List UInt8} {s4 : List UInt8} {s5 : List UInt8} {k6 : IntKind} {n6 : Int} {k7 : IntKind} {n7 : Int} {k8 : IntKind} {n8 : Int} {k9 : IntKind} {n9 : Int} {k10 : IntKind} {n10 : Int} {k11 : IntKind} {n11 : Int} {s12 : List UInt8} {α13 : Type} {z13 : Nat} {r13 : α13 → List PV} {x13 : List α13} {α14 : Type} {z14 : Nat} {r14 : α14 → List PV} {x14 : List α14} {s15 : List UInt8} {k16 : IntKind} {n16 : Int} {k17 : IntKind} {n17 : Int} {k18 : IntKind} {n18 : Int} {k19 : IntKind} {n19 : Int} {k20 : IntKind} {n20 : Int} {k21 : IntKind} {n21 : Int} {k22 : IntKind} {n22 : Int} {k23 : IntKind} {n23 : Int} {α24 : Type} {z24 : Nat} {r24 : α24 → List PV} {x24 : List α24} {α25 : Type} {z25 : Nat} {r25 : α25 → List PV} {x25 : List α25} {s26 : List UInt8} : List AV := [.c (.int k0 n0), .c (.int k1 n1), .c (.str s2), .c (.str s3), .c (.str s4), .c (.str s5), .c (.int k6 n6), .c (.int k7 n7), .c (.int k8 n8), .c (.int k9 n9), .c (.int k10 n10), .c (.int k11 n11), .c (.str s12), .c (PV.ls z13 r13 x13), .c (PV.ls z14 r14 x14), .c (.str s15), .c (.int k16 n16), .c (.int k17 n17), .c (.int k18 n18), .c (.int k19 n19), .c (.int k20 n20), .c (.int k21 n21), .c (.int k22 n22), .c (.int k23 n23), .c (PV.ls z24 r24 x24), .c (PV.ls z25 r25 x25), .c (.str s26)]
abbrev aISIIIISLLL {k0 : IntKind} {n0 : Int} {s1 : List UInt8} {k2 : IntKind} {n2 : Int} {k3 : IntKind} {n3 : Int} {k4 : IntKind} {n4 : Int} {k5 : IntKind} {n5 : Int} {s6 : List UInt8} {α7 : Type} {z7 : Nat} {r7 : α7 → List PV} {x7 : List α7} {α8 : Type} {z8 : Nat} {r8 : α8 → List PV} {x8 : List α8} {α9 : Type} {z9 : Nat} {r9 : α9 → List PV} {x9 : List α9} : List AV := [.c (.int k0 n0), .c (.str s1), .c (.int k2 n2), .c (.int k3 n3), .c (.int k4 n4), .c (.int k5 n5), .c (.str s6), .c (PV.ls z7 r7 x7), .c (PV.ls z8 r8 x8), .c (PV.ls z9 r9 x9)]
abbrev aSIIIIIIIIL {s0 : List UInt8} {k1 : IntKind} {n1 : Int} {k2 : IntKind} {n2 : Int} {k3 : IntKind} {n3 : Int} {k4 : IntKind} {n4 : Int} {k5 : IntKind} {n5 : Int} {k6 : IntKind} {n6 : Int} {k7 : IntKind} {n7 : Int} {k8 : IntKind} {n8 : Int} {α9 : Type} {z9 : Nat} {r9 : α9 → List PV} {x9 : List α9} : List AV := [.c (.str s0), .c (.int k1 n1), .c (.int k2 n2), .c (.int k3 n3), .c (.int k4 n4), .c (.int k5 n5), .c (.int k6 n6), .c (.int k7 n7), .c (.int k8 n8), .c (PV.ls z9 r9 x9)]
abbrev aSSSILIIIIIISIISLLIISLLBLLLLLLLLLII {s0 : List UInt8} {s1 : List UInt8} {s2 : List UInt8} {k3 : IntKind} {n3 : Int} {α4 : Type} {z4 : Nat} {r4 : α4 → List PV} {x4 : List α4} {k5 : IntKind} {n5 : Int} {k6 : IntKind} {n6 : Int} {k7 : IntKind} {n7 : Int} {k8 : IntKind} {n8 : Int} {k9 : IntKind} {n9 : Int} {k10 : IntKind} {n10 : Int} {s11 : List UInt8} {k12 : IntKind} {n12 : Int} {k13 : IntKind} {n13 : Int} {s14 : List UInt8} {α15 : Type} {z15 : Nat} {r15 : α15 → List PV} {x15 : List α15} {α16 : Type} {z16 : Nat} {r16 : α16 → List PV} {x16 : List α16} {k17 : IntKind} {n17 : Int} {k18 : IntKind} {n18 : Int} {s19 : List UInt8} {α20 : Type} {z20 : Nat} {r20 : α20 → List PV} {x20 : List α20} {α21 : Type} {z21 : Nat} {r21 : α21 → List PV} {x21 : List α21} {b22 : Bool} {α23 : Type} {z23 : Nat} {r23 : α23 → List PV} {x23 : List α23} {α24 : Type} {z24 : Nat} {r24 : α24 → List PV} {x24 : List α24} {α25 : Type} {z25 : Nat} {r25 : α25 → List PV} {x25 : List α25} {α26 : Type} {z26 : Nat} {r26 : α26 → List PV} {x26 : List α26} {α27 : Type} {z27 : Nat} {r27 : α27 → List PV} {x27 : List α27} {α28 : Type} {z28 : Nat} {r28 : α28 → List PV} {x28 : List α28} {α29 : Type} {z29 : Nat} {r29 : α29 → List PV} {x29 : List α29} {α30 : Type} {z30 : Nat} {r30 : α30 → List PV} {x30 : List α30} {α31 : Type} {z31 : Nat} {r31 : α31 → List PV} {x31 : List α31} {k32 : IntKind} {n32 : Int} {k33 : IntKind} {n33 : Int} : List AV := [.c (.str s0), .c (.str s1), .c (.str s2), .c (.int k3 n3), .c (PV.ls z4 r4 x4), .c (.int k5 n5), .c (.int k6 n6), .c (.int k7 n7), .c (.int k8 n8), .c (.int k9 n9), .c (.int k10 n10), .c (.str s11), .c (.int k12 n12), .c (.int k13 n13), .c (.str s14), .c (PV.ls z15 r15 x15), .c (PV.ls z16 r16 x16), .c (.int k17 n17), .c (.int k18 n18), .c (.str s19), .c (PV.ls z20 r20 x20), .c (PV.ls z21 r21 x21), .c (.bool b22), .c (PV.ls z23 r23 x23), .c (PV.ls z24 r24 x24), .c (PV.ls z25 r25 x25), .c (PV.ls z26 r26 x26), .c (PV.ls z27 r27 x27), .c (PV.ls z28 r28 x28), .c (PV.ls z29 r29 x29), .c (PV.ls z30 r30 x30), .c (PV.ls z31 r31 x31), .c (.int k32 n32), .c (.int k33 n33)]
abbrev u24 {x0 x1 x2 x3 x4 x5 x6 x7 x8 x9 x10 x11 x12 x13 x14 x15 x16 x17 x18 x19 x20 x21 x22 x23 : AV} : List AV := [x0, x1, x2, x3, x4, x5, x6, x7, x8, x9, x10, x11, x12, x13, x14, x15, x16, x17, x18, x19, x20, x21, x22, x23]
abbrev u27 {x0 x1 x2 x3 x4 x5 x6 x7 x8 x9 x10 x11 x12 x13 x14 x15 x16 x17 x18 x19 x20 x21 x22 x23 x24 x25 x26 : AV} : List AV := [x0, x1, x2, x3, x4, x5, x6, x7, x8, x9, x10, x11, x12, x13, x14, x15, x16, x17, x18, x19, x20, x21, x22, x23, x24, x25, x26]
abbrev u34 {x0 x1 x2 x3 x4 x5 x6 x7 x8 x9 x10 x11 x12 x13 x14 x15 x16 x17 x18 x19 x20 x21 x22 x23 x24 x25 x26 x27 x28 x29 x30 x31 x32 x33 : AV} : List AV := [x0, x1, x2, x3, x4, x5, x6, x7, x8, x9, x10, x11, x12, x13, x14, x15, x16, x17, x18, x19, x20, x21, x22, x23, x24, x25, x26, x27, x28, x29, x30, x31, x32, x33]
abbrev u5 {x0 x1 x2 x3 x4 : AV} : List AV := [x0, x1, x2, x3, x4]
structure ApiValue where
  mk ::
  Kind : Int
  Int : Int
  Text : (List UInt8)
  Items : (List ApiValue)
  Keys : (List (List UInt8))
instance : Inhabited ApiValue := ⟨ApiValue.mk 0 0 [] [] []⟩
mutual
def rowApiValue : ApiValue → List PV
  | ⟨x0, x1, x2, x3, x4⟩ => [.int .i64 x0, .int .i64 x1, .str x2, .list 5 (rowsApiValue x3), PV.ls 1 rowS x4]
def rowsApiValue : List ApiValue → List (List PV)
  | [] => []
  | x :: l => rowApiValue x :: rowsApiValue l
end
theorem rowsApiValue_eq : ∀ l, rowsApiValue l = l.map rowApiValue
  | [] => by simp [rowsApiValue]
  | x :: l => by simp [rowsApiValue, rowsApiValue_eq l]
def exApiValue (x : ApiValue) : List PV := [.int .i64 x.Kind, .int .i64 x.Int, .str x.Text, PV.ls 5 rowApiValue x.Items, PV.ls 1 rowS x.Keys]
theorem rowApiValue_eq (x : ApiValue) : rowApiValue x = exApiValue x := by cases x; simp [rowApiValue, exApiValue, rowsApiValue_eq, PV.ls]
theorem rowApiValue_len (x : ApiValue) : (rowApiValue x).length = 5 := by rw [rowApiValue_eq]; rfl
structure ApiPolicy where
  mk ::
  Queue : (List UInt8)
  ToStart : Int
  ToClose : Int
  Total : Int
  Beat : Int
  First : Int
  Coef : Int
  Most : Int
  Attempts : Int
  Fatal : (List (List UInt8))
instance : Inhabited ApiPolicy := ⟨ApiPolicy.mk [] 0 0 0 0 0 0 0 0 []⟩
def rowApiPolicy (x : ApiPolicy) : List PV := [.str x.Queue, .int .i64 x.ToStart, .int .i64 x.ToClose, .int .i64 x.Total, .int .i64 x.Beat, .int .i64 x.First, .int .i64 x.Coef, .int .i64 x.Most, .int .i64 x.Attempts, PV.ls 1 rowS x.Fatal]
structure ApiEvent where
  mk ::
  ID : Int
  Kind : Int
  Time : Int
  Seq : Int
  Ref : Int
  N : Int
  Code : Int
  Name : (List UInt8)
  Key : (List UInt8)
  Data : ApiValue
  Opts : ApiPolicy
instance : Inhabited ApiEvent := ⟨ApiEvent.mk 0 0 0 0 0 0 0 [] [] default default⟩
def rowApiEvent (x : ApiEvent) : List PV := [.int .i64 x.ID, .int .i64 x.Kind, .int .i64 x.Time, .int .i64 x.Seq, .int .i64 x.Ref, .int .i64 x.N, .int .i64 x.Code, .str x.Name, .str x.Key, .int .i64 x.Data.Kind, .int .i64 x.Data.Int, .str x.Data.Text, PV.ls 5 rowApiValue x.Data.Items, PV.ls 1 rowS x.Data.Keys, .str x.Opts.Queue, .int .i64 x.Opts.ToStart, .int .i64 x.Opts.ToClose, .int .i64 x.Opts.Total, .int .i64 x.Opts.Beat, .int .i64 x.Opts.First, .int .i64 x.Opts.Coef, .int .i64 x.Opts.Most, .int .i64 x.Opts.Attempts, PV.ls 1 rowS x.Opts.Fatal]
structure ApiAct where
  mk ::
  Seq : Int
  Event : Int
  Name : (List UInt8)
  Data : ApiValue
  Opts : ApiPolicy
  State : Int
  Attempt : Int
  Scheduled : Int
  Due : Int
  Started : Int
  LastBeat : Int
  Token : Int
  Cancel : Bool
  Details : ApiValue
  Failure : (List UInt8)
instance : Inhabited ApiAct := ⟨ApiAct.mk 0 0 [] default default 0 0 0 0 0 0 0 false default []⟩
def rowApiAct (x : ApiAct) : List PV := [.int .i64 x.Seq, .int .i64 x.Event, .str x.Name, .int .i64 x.Data.Kind, .int .i64 x.Data.Int, .str x.Data.Text, PV.ls 5 rowApiValue x.Data.Items, PV.ls 1 rowS x.Data.Keys, .str x.Opts.Queue, .int .i64 x.Opts.ToStart, .int .i64 x.Opts.ToClose, .int .i64 x.Opts.Total, .int .i64 x.Opts.Beat, .int .i64 x.Opts.First, .int .i64 x.Opts.Coef, .int .i64 x.Opts.Most, .int .i64 x.Opts.Attempts, PV.ls 1 rowS x.Opts.Fatal, .int .i64 x.State, .int .i64 x.Attempt, .int .i64 x.Scheduled, .int .i64 x.Due, .int .i64 x.Started, .int .i64 x.LastBeat, .int .i64 x.Token, .bool x.Cancel, .int .i64 x.Details.Kind, .int .i64 x.Details.Int, .str x.Details.Text, PV.ls 5 rowApiValue x.Details.Items, PV.ls 1 rowS x.Details.Keys, .str x.Failure]
structure ApiTimer where
  mk ::
  Seq : Int
  Event : Int
  Due : Int
instance : Inhabited ApiTimer := ⟨ApiTimer.mk 0 0 0⟩
def rowApiTimer (x : ApiTimer) : List PV := [.int .i64 x.Seq, .int .i64 x.Event, .int .i64 x.Due]
structure ApiKid where
  mk ::
  Seq : Int
  Event : Int
  Key : (List UInt8)
  Name : (List UInt8)
  Policy : Int
  Run : (List UInt8)
instance : Inhabited ApiKid := ⟨ApiKid.mk 0 0 [] [] 0 []⟩
def rowApiKid (x : ApiKid) : List PV := [.int .i64 x.Seq, .int .i64 x.Event, .str x.Key, .str x.Name, .int .i64 x.Policy, .str x.Run]
structure ApiSend where
  mk ::
  Seq : Int
  Event : Int
  Key : (List UInt8)
  Name : (List UInt8)
instance : Inhabited ApiSend := ⟨ApiSend.mk 0 0 [] []⟩
def rowApiSend (x : ApiSend) : List PV := [.int .i64 x.Seq, .int .i64 x.Event, .str x.Key, .str x.Name]
structure ApiUpd where
  mk ::
  Key : (List UInt8)
  Done : Bool
instance : Inhabited ApiUpd := ⟨ApiUpd.mk [] false⟩
def rowApiUpd (x : ApiUpd) : List PV := [.str x.Key, .bool x.Done]
structure ApiPending where
  mk ::
  Next : Int
  Status : Int
  Task : Int
  TaskID : Int
  Attempt : Int
  Seq : Int
  Name : (List UInt8)
  Input : ApiValue
  Attrs : ApiValue
  Cancel : Bool
  Acts : (List ApiAct)
  Timers : (List ApiTimer)
  Kids : (List ApiKid)
  Sends : (List ApiSend)
  Updates : (List ApiUpd)
  Requests : (List (List UInt8))
instance : Inhabited ApiPending := ⟨ApiPending.mk 0 0 0 0 0 0 [] default default false [] [] [] [] [] []⟩
def rowApiPending (x : ApiPending) : List PV := [.int .i64 x.Next, .int .i64 x.Status, .int .i64 x.Task, .int .i64 x.TaskID, .int .i64 x.Attempt, .int .i64 x.Seq, .str x.Name, .int .i64 x.Input.Kind, .int .i64 x.Input.Int, .str x.Input.Text, PV.ls 5 rowApiValue x.Input.Items, PV.ls 1 rowS x.Input.Keys, .int .i64 x.Attrs.Kind, .int .i64 x.Attrs.Int, .str x.Attrs.Text, PV.ls 5 rowApiValue x.Attrs.Items, PV.ls 1 rowS x.Attrs.Keys, .bool x.Cancel, PV.ls 32 rowApiAct x.Acts, PV.ls 3 rowApiTimer x.Timers, PV.ls 6 rowApiKid x.Kids, PV.ls 4 rowApiSend x.Sends, PV.ls 2 rowApiUpd x.Updates, PV.ls 1 rowS x.Requests]
structure ApiAdmit where
  mk ::
  Key : (List UInt8)
  Name : (List UInt8)
  Data : ApiValue
instance : Inhabited ApiAdmit := ⟨ApiAdmit.mk [] [] default⟩
def rowApiAdmit (x : ApiAdmit) : List PV := [.str x.Key, .str x.Name, .int .i64 x.Data.Kind, .int .i64 x.Data.Int, .str x.Data.Text, PV.ls 5 rowApiValue x.Data.Items, PV.ls 1 rowS x.Data.Keys]
structure ApiTask where
  mk ::
  ID : Int
  Kind : Int
  Event : Int
  Seq : Int
  Due : Int
  Attempt : Int
  Workflow : (List UInt8)
  Run : (List UInt8)
  Queue : (List UInt8)
instance : Inhabited ApiTask := ⟨ApiTask.mk 0 0 0 0 0 0 [] [] []⟩
def rowApiTask (x : ApiTask) : List PV := [.int .i64 x.ID, .int .i64 x.Kind, .int .i64 x.Event, .int .i64 x.Seq, .int .i64 x.Due, .int .i64 x.Attempt, .str x.Workflow, .str x.Run, .str x.Queue]
structure ApiRun where
  mk ::
  Workflow : (List UInt8)
  ID : (List UInt8)
  Parent : (List UInt8)
  ParentSeq : Int
  History : (List ApiEvent)
  Pending : ApiPending
  Buffer : (List ApiEvent)
  Admits : (List ApiAdmit)
  Tasks : (List ApiTask)
  NextTask : Int
  Version : Int
instance : Inhabited ApiRun := ⟨ApiRun.mk [] [] [] 0 [] default [] [] [] 0 0⟩
def rowApiRun (x : ApiRun) : List PV := [.str x.Workflow, .str x.ID, .str x.Parent, .int .i64 x.ParentSeq, PV.ls 24 rowApiEvent x.History, .int .i64 x.Pending.Next, .int .i64 x.Pending.Status, .int .i64 x.Pending.Task, .int .i64 x.Pending.TaskID, .int .i64 x.Pending.Attempt, .int .i64 x.Pending.Seq, .str x.Pending.Name, .int .i64 x.Pending.Input.Kind, .int .i64 x.Pending.Input.Int, .str x.Pending.Input.Text, PV.ls 5 rowApiValue x.Pending.Input.Items, PV.ls 1 rowS x.Pending.Input.Keys, .int .i64 x.Pending.Attrs.Kind, .int .i64 x.Pending.Attrs.Int, .str x.Pending.Attrs.Text, PV.ls 5 rowApiValue x.Pending.Attrs.Items, PV.ls 1 rowS x.Pending.Attrs.Keys, .bool x.Pending.Cancel, PV.ls 32 rowApiAct x.Pending.Acts, PV.ls 3 rowApiTimer x.Pending.Timers, PV.ls 6 rowApiKid x.Pending.Kids, PV.ls 4 rowApiSend x.Pending.Sends, PV.ls 2 rowApiUpd x.Pending.Updates, PV.ls 1 rowS x.Pending.Requests, PV.ls 24 rowApiEvent x.Buffer, PV.ls 7 rowApiAdmit x.Admits, PV.ls 9 rowApiTask x.Tasks, .int .i64 x.NextTask, .int .i64 x.Version]
structure ApiReply where
  mk ::
  Err : Int
  Run : (List UInt8)
  Token : Int
  N : Int
  Data : ApiValue
  Events : (List ApiEvent)
instance : Inhabited ApiReply := ⟨ApiReply.mk 0 [] 0 0 default []⟩
def rowApiReply (x : ApiReply) : List PV := [.int .i64 x.Err, .str x.Run, .int .i64 x.Token, .int .i64 x.N, .int .i64 x.Data.Kind, .int .i64 x.Data.Int, .str x.Data.Text, PV.ls 5 rowApiValue x.Data.Items, PV.ls 1 rowS x.Data.Keys, PV.ls 24 rowApiEvent x.Events]
structure ApiCommand where
  mk ::
  Kind : Int
  Seq : Int
  Name : (List UInt8)
  Key : (List UInt8)
  N : Int
  Data : ApiValue
  Opts : ApiPolicy
instance : Inhabited ApiCommand := ⟨ApiCommand.mk 0 0 [] [] 0 default default⟩
def rowApiCommand (x : ApiCommand) : List PV := [.int .i64 x.Kind, .int .i64 x.Seq, .str x.Name, .str x.Key, .int .i64 x.N, .int .i64 x.Data.Kind, .int .i64 x.Data.Int, .str x.Data.Text, PV.ls 5 rowApiValue x.Data.Items, PV.ls 1 rowS x.Data.Keys, .str x.Opts.Queue, .int .i64 x.Opts.ToStart, .int .i64 x.Opts.ToClose, .int .i64 x.Opts.Total, .int .i64 x.Opts.Beat, .int .i64 x.Opts.First, .int .i64 x.Opts.Coef, .int .i64 x.Opts.Most, .int .i64 x.Opts.Attempts, PV.ls 1 rowS x.Opts.Fatal]
structure ApiRequest where
  mk ::
  Kind : Int
  Time : Int
  Workflow : (List UInt8)
  Run : (List UInt8)
  ID : (List UInt8)
  Name : (List UInt8)
  Token : Int
  Event : Int
  Seq : Int
  N : Int
  Data : ApiValue
  Opts : ApiPolicy
  Commands : (List ApiCommand)
  Parent : (List UInt8)
instance : Inhabited ApiRequest := ⟨ApiRequest.mk 0 0 [] [] [] [] 0 0 0 0 default default [] []⟩
def rowApiRequest (x : ApiRequest) : List PV := [.int .i64 x.Kind, .int .i64 x.Time, .str x.Workflow, .str x.Run, .str x.ID, .str x.Name, .int .i64 x.Token, .int .i64 x.Event, .int .i64 x.Seq, .int .i64 x.N, .int .i64 x.Data.Kind, .int .i64 x.Data.Int, .str x.Data.Text, PV.ls 5 rowApiValue x.Data.Items, PV.ls 1 rowS x.Data.Keys, .str x.Opts.Queue, .int .i64 x.Opts.ToStart, .int .i64 x.Opts.ToClose, .int .i64 x.Opts.Total, .int .i64 x.Opts.Beat, .int .i64 x.Opts.First, .int .i64 x.Opts.Coef, .int .i64 x.Opts.Most, .int .i64 x.Opts.Attempts, PV.ls 1 rowS x.Opts.Fatal, PV.ls 20 rowApiCommand x.Commands, .str x.Parent]
theorem tv37 : tyVar Tryd.prog 37 = some (true, 34) := by kernel_rfl
theorem tf37x4 : tyField Tryd.prog 37 4 = some (4, false, 1) := by kernel_rfl
theorem tv22 : tyVar Tryd.prog 22 = some (false, 1) := by kernel_rfl
theorem ti22 : tyIs Tryd.prog 22 = 3 := by kernel_rfl
theorem tf37x5 : tyField Tryd.prog 37 5 = some (5, true, 24) := by kernel_rfl
theorem tf33x12 : tyField Tryd.prog 33 12 = some (20, false, 1) := by kernel_rfl
theorem tv29 : tyVar Tryd.prog 29 = some (false, 1) := by kernel_rfl
theorem ti29 : tyIs Tryd.prog 29 = 3 := by kernel_rfl
theorem tf33x13 : tyField Tryd.prog 33 13 = some (21, false, 1) := by kernel_rfl
theorem tv30 : tyVar Tryd.prog 30 = some (false, 1) := by kernel_rfl
theorem ti30 : tyIs Tryd.prog 30 = 3 := by kernel_rfl
theorem ti80 : tyIs Tryd.prog 80 = 6 := by kernel_rfl
theorem tz80 : tyZero Tryd.prog 80 = some [.int .i64 0, .int .i64 0, .int .i64 0, .int .i64 0, .int .i64 0, .int .i64 0, .int .i64 0, .string ByteArray.empty, .string ByteArray.empty, .int .i64 0, .int .i64 0, .string ByteArray.empty, .slice none 0 0, .slice none 0 0, .string ByteArray.empty, .int .i64 0, .int .i64 0, .int .i64 0, .int .i64 0, .int .i64 0, .int .i64 0, .int .i64 0, .int .i64 0, .slice none 0 0] := by kernel_rfl
theorem pl80 : plAll Tryd.prog 80 = some [(0, some 1), (1, some 1), (2, some 1), (3, some 1), (4, some 1), (5, some 1), (6, some 1), (7, some 1), (8, some 1), (9, some 5), (14, some 10)] := by kernel_rfl
theorem tb80 : tyIs Tryd.prog 80 = 6 ∧ tyOk Tryd.prog 80 = true ∧ tyZero Tryd.prog 80 = some [.int .i64 0, .int .i64 0, .int .i64 0, .int .i64 0, .int .i64 0, .int .i64 0, .int .i64 0, .string ByteArray.empty, .string ByteArray.empty, .int .i64 0, .int .i64 0, .string ByteArray.empty, .slice none 0 0, .slice none 0 0, .string ByteArray.empty, .int .i64 0, .int .i64 0, .int .i64 0, .int .i64 0, .int .i64 0, .int .i64 0, .int .i64 0, .int .i64 0, .slice none 0 0] ∧ ∀ i, tyPlace Tryd.prog 80 i = plOf [(0, some 1), (1, some 1), (2, some 1), (3, some 1), (4, some 1), (5, some 1), (6, some 1), (7, some 1), (8, some 1), (9, some 5), (14, some 10)] i := ⟨ti80, by kernel_rfl, tz80, fun i => tyPlace_all pl80 i⟩
theorem ti26 : tyIs Tryd.prog 26 = 6 := by kernel_rfl
theorem tz26 : tyZero Tryd.prog 26 = some [.int .i64 0, .int .i64 0, .string ByteArray.empty, .slice none 0 0, .slice none 0 0] := by kernel_rfl
theorem pl26 : plAll Tryd.prog 26 = some [(0, some 1), (1, some 1), (2, some 1), (3, some 1), (4, some 1)] := by kernel_rfl
theorem tb26 : tyIs Tryd.prog 26 = 6 ∧ tyOk Tryd.prog 26 = true ∧ tyZero Tryd.prog 26 = some [.int .i64 0, .int .i64 0, .string ByteArray.empty, .slice none 0 0, .slice none 0 0] ∧ ∀ i, tyPlace Tryd.prog 26 i = plOf [(0, some 1), (1, some 1), (2, some 1), (3, some 1), (4, some 1)] i := ⟨ti26, by kernel_rfl, tz26, fun i => tyPlace_all pl26 i⟩
theorem ts22 : tySlice Tryd.prog 22 = some (80, 24, 272) := by kernel_rfl
theorem ti37 : tyIs Tryd.prog 37 = 6 := by kernel_rfl
theorem tz37 : tyZero Tryd.prog 37 = some [.string ByteArray.empty, .string ByteArray.empty, .string ByteArray.empty, .int .i64 0, .slice none 0 0, .int .i64 0, .int .i64 0, .int .i64 0, .int .i64 0, .int .i64 0, .int .i64 0, .string ByteArray.empty, .int .i64 0, .int .i64 0, .string ByteArray.empty, .slice none 0 0, .slice none 0 0, .int .i64 0, .int .i64 0, .string ByteArray.empty, .slice none 0 0, .slice none 0 0, .bool false, .slice none 0 0, .slice none 0 0, .slice none 0 0, .slice none 0 0, .slice none 0 0, .slice none 0 0, .slice none 0 0, .slice none 0 0, .slice none 0 0, .int .i64 0, .int .i64 0] := by kernel_rfl
theorem pl37 : plAll Tryd.prog 37 = some [(0, some 1), (1, some 1), (2, some 1), (3, some 1), (4, some 1), (5, some 24), (29, some 1), (30, some 1), (31, some 1), (32, some 1), (33, some 1)] := by kernel_rfl
theorem tb37 : tyIs Tryd.prog 37 = 6 ∧ tyOk Tryd.prog 37 = true ∧ tyZero Tryd.prog 37 = some [.string ByteArray.empty, .string ByteArray.empty, .string ByteArray.empty, .int .i64 0, .slice none 0 0, .int .i64 0, .int .i64 0, .int .i64 0, .int .i64 0, .int .i64 0, .int .i64 0, .string ByteArray.empty, .int .i64 0, .int .i64 0, .string ByteArray.empty, .slice none 0 0, .slice none 0 0, .int .i64 0, .int .i64 0, .string ByteArray.empty, .slice none 0 0, .slice none 0 0, .bool false, .slice none 0 0, .slice none 0 0, .slice none 0 0, .slice none 0 0, .slice none 0 0, .slice none 0 0, .slice none 0 0, .slice none 0 0, .slice none 0 0, .int .i64 0, .int .i64 0] ∧ ∀ i, tyPlace Tryd.prog 37 i = plOf [(0, some 1), (1, some 1), (2, some 1), (3, some 1), (4, some 1), (5, some 24), (29, some 1), (30, some 1), (31, some 1), (32, some 1), (33, some 1)] i := ⟨ti37, by kernel_rfl, tz37, fun i => tyPlace_all pl37 i⟩
theorem tz44 : tyZero Tryd.prog 44 = some [.int .i64 0, .int .i64 0, .string ByteArray.empty, .string ByteArray.empty, .string ByteArray.empty, .string ByteArray.empty, .int .i64 0, .int .i64 0, .int .i64 0, .int .i64 0, .int .i64 0, .int .i64 0, .string ByteArray.empty, .slice none 0 0, .slice none 0 0, .string ByteArray.empty, .int .i64 0, .int .i64 0, .int .i64 0, .int .i64 0, .int .i64 0, .int .i64 0, .int .i64 0, .int .i64 0, .slice none 0 0, .slice none 0 0, .string ByteArray.empty] := by kernel_rfl
theorem tv80 : tyVar Tryd.prog 80 = some (true, 24) := by kernel_rfl
theorem tf80x1 : tyField Tryd.prog 80 1 = some (1, false, 1) := by kernel_rfl
theorem tv3 : tyVar Tryd.prog 3 = some (false, 1) := by kernel_rfl
theorem tf37x2 : tyField Tryd.prog 37 2 = some (2, false, 1) := by kernel_rfl
theorem tv9 : tyVar Tryd.prog 9 = some (false, 1) := by kernel_rfl
theorem ti9 : tyIs Tryd.prog 9 = 2 := by kernel_rfl
theorem ti44 : tyIs Tryd.prog 44 = 6 := by kernel_rfl
theorem pl44 : plAll Tryd.prog 44 = some [(0, some 1), (1, some 1), (2, some 1), (3, some 1), (4, some 1), (5, some 1), (6, some 1), (7, some 1), (8, some 1), (9, some 1), (10, some 5), (15, some 10), (25, some 1), (26, some 1)] := by kernel_rfl
theorem tb44 : tyIs Tryd.prog 44 = 6 ∧ tyOk Tryd.prog 44 = true ∧ tyZero Tryd.prog 44 = some [.int .i64 0, .int .i64 0, .string ByteArray.empty, .string ByteArray.empty, .string ByteArray.empty, .string ByteArray.empty, .int .i64 0, .int .i64 0, .int .i64 0, .int .i64 0, .int .i64 0, .int .i64 0, .string ByteArray.empty, .slice none 0 0, .slice none 0 0, .string ByteArray.empty, .int .i64 0, .int .i64 0, .int .i64 0, .int .i64 0, .int .i64 0, .int .i64 0, .int .i64 0, .int .i64 0, .slice none 0 0, .slice none 0 0, .string ByteArray.empty] ∧ ∀ i, tyPlace Tryd.prog 44 i = plOf [(0, some 1), (1, some 1), (2, some 1), (3, some 1), (4, some 1), (5, some 1), (6, some 1), (7, some 1), (8, some 1), (9, some 1), (10, some 5), (15, some 10), (25, some 1), (26, some 1)] i := ⟨ti44, by kernel_rfl, tz44, fun i => tyPlace_all pl44 i⟩
theorem tv44 : tyVar Tryd.prog 44 = some (true, 27) := by kernel_rfl
theorem tf37x3 : tyField Tryd.prog 37 3 = some (3, false, 1) := by kernel_rfl
theorem tf44x9 : tyField Tryd.prog 44 9 = some (9, false, 1) := by kernel_rfl
theorem tf80x9 : tyField Tryd.prog 80 9 = some (9, true, 5) := by kernel_rfl
theorem tv26 : tyVar Tryd.prog 26 = some (true, 5) := by kernel_rfl
theorem tf26x3 : tyField Tryd.prog 26 3 = some (3, false, 1) := by kernel_rfl
theorem tv23 : tyVar Tryd.prog 23 = some (false, 1) := by kernel_rfl
theorem ti23 : tyIs Tryd.prog 23 = 3 := by kernel_rfl
theorem ts23 : tySlice Tryd.prog 23 = some (26, 5, 80) := by kernel_rfl
theorem tf26x4 : tyField Tryd.prog 26 4 = some (4, false, 1) := by kernel_rfl
theorem tv24 : tyVar Tryd.prog 24 = some (false, 1) := by kernel_rfl
theorem tf44x10 : tyField Tryd.prog 44 10 = some (10, true, 5) := by kernel_rfl
theorem tf80x7 : tyField Tryd.prog 80 7 = some (7, false, 1) := by kernel_rfl
theorem tf44x5 : tyField Tryd.prog 44 5 = some (5, false, 1) := by kernel_rfl
theorem tf44x0 : tyField Tryd.prog 44 0 = some (0, false, 1) := by kernel_rfl
theorem tf44x1 : tyField Tryd.prog 44 1 = some (1, false, 1) := by kernel_rfl
theorem tf44x2 : tyField Tryd.prog 44 2 = some (2, false, 1) := by kernel_rfl
theorem tf44x3 : tyField Tryd.prog 44 3 = some (3, false, 1) := by kernel_rfl
theorem tf44x4 : tyField Tryd.prog 44 4 = some (4, false, 1) := by kernel_rfl
theorem tf44x13 : tyField Tryd.prog 44 13 = some (26, false, 1) := by kernel_rfl
theorem tf44x6 : tyField Tryd.prog 44 6 = some (6, false, 1) := by kernel_rfl
theorem tf44x7 : tyField Tryd.prog 44 7 = some (7, false, 1) := by kernel_rfl
theorem tf44x8 : tyField Tryd.prog 44 8 = some (8, false, 1) := by kernel_rfl
theorem tf26x0 : tyField Tryd.prog 26 0 = some (0, false, 1) := by kernel_rfl
theorem tf26x1 : tyField Tryd.prog 26 1 = some (1, false, 1) := by kernel_rfl
theorem tf26x2 : tyField Tryd.prog 26 2 = some (2, false, 1) := by kernel_rfl
theorem ti24 : tyIs Tryd.prog 24 = 3 := by kernel_rfl
theorem ts24 : tySlice Tryd.prog 24 = some (9, 1, 16) := by kernel_rfl
theorem tf44x12 : tyField Tryd.prog 44 12 = some (25, false, 1) := by kernel_rfl
theorem tv42 : tyVar Tryd.prog 42 = some (false, 1) := by kernel_rfl
theorem ti42 : tyIs Tryd.prog 42 = 3 := by kernel_rfl
theorem tf44x11 : tyField Tryd.prog 44 11 = some (15, true, 10) := by kernel_rfl
theorem tv41 : tyVar Tryd.prog 41 = some (true, 10) := by kernel_rfl
theorem tf41x0 : tyField Tryd.prog 41 0 = some (0, false, 1) := by kernel_rfl
theorem tf41x1 : tyField Tryd.prog 41 1 = some (1, false, 1) := by kernel_rfl
theorem tf41x2 : tyField Tryd.prog 41 2 = some (2, false, 1) := by kernel_rfl
theorem tf41x3 : tyField Tryd.prog 41 3 = some (3, false, 1) := by kernel_rfl
theorem tf41x4 : tyField Tryd.prog 41 4 = some (4, false, 1) := by kernel_rfl
theorem tf41x5 : tyField Tryd.prog 41 5 = some (5, false, 1) := by kernel_rfl
theorem tf41x6 : tyField Tryd.prog 41 6 = some (6, false, 1) := by kernel_rfl
theorem tf41x7 : tyField Tryd.prog 41 7 = some (7, false, 1) := by kernel_rfl
theorem tf41x8 : tyField Tryd.prog 41 8 = some (8, false, 1) := by kernel_rfl
theorem tf41x9 : tyField Tryd.prog 41 9 = some (9, false, 1) := by kernel_rfl
theorem ts29 : tySlice Tryd.prog 29 = some (87, 6, 72) := by kernel_rfl
theorem tv87 : tyVar Tryd.prog 87 = some (true, 6) := by kernel_rfl
theorem tz87 : tyZero Tryd.prog 87 = some [.int .i64 0, .int .i64 0, .string ByteArray.empty, .string ByteArray.empty, .int .i64 0, .string ByteArray.empty] := by kernel_rfl
theorem tf87x2 : tyField Tryd.prog 87 2 = some (2, false, 1) := by kernel_rfl
theorem tf87x5 : tyField Tryd.prog 87 5 = some (5, false, 1) := by kernel_rfl
theorem tf87x4 : tyField Tryd.prog 87 4 = some (4, false, 1) := by kernel_rfl
theorem tf87x0 : tyField Tryd.prog 87 0 = some (0, false, 1) := by kernel_rfl
theorem tf37x1 : tyField Tryd.prog 37 1 = some (1, false, 1) := by kernel_rfl
theorem tf37x0 : tyField Tryd.prog 37 0 = some (0, false, 1) := by kernel_rfl
theorem ts47 : tySlice Tryd.prog 47 = some (44, 27, 336) := by kernel_rfl
theorem ti47 : tyIs Tryd.prog 47 = 3 := by kernel_rfl
theorem tv52 : tyVar Tryd.prog 52 = some (true, 9) := by kernel_rfl
theorem tf52x4 : tyField Tryd.prog 52 4 = some (4, false, 1) := by kernel_rfl
theorem tv33 : tyVar Tryd.prog 33 = some (true, 24) := by kernel_rfl
theorem tf52x3 : tyField Tryd.prog 52 3 = some (3, false, 1) := by kernel_rfl
theorem tf52x1 : tyField Tryd.prog 52 1 = some (1, false, 1) := by kernel_rfl
theorem ti87 : tyIs Tryd.prog 87 = 6 := by kernel_rfl
theorem pl87 : plAll Tryd.prog 87 = some [(0, some 1), (1, some 1), (2, some 1), (3, some 1), (4, some 1), (5, some 1)] := by kernel_rfl
theorem tb87 : tyIs Tryd.prog 87 = 6 ∧ tyOk Tryd.prog 87 = true ∧ tyZero Tryd.prog 87 = some [.int .i64 0, .int .i64 0, .string ByteArray.empty, .string ByteArray.empty, .int .i64 0, .string ByteArray.empty] ∧ ∀ i, tyPlace Tryd.prog 87 i = plOf [(0, some 1), (1, some 1), (2, some 1), (3, some 1), (4, some 1), (5, some 1)] i := ⟨ti87, by kernel_rfl, tz87, fun i => tyPlace_all pl87 i⟩
theorem tf87x1 : tyField Tryd.prog 87 1 = some (1, false, 1) := by kernel_rfl
theorem tf87x3 : tyField Tryd.prog 87 3 = some (3, false, 1) := by kernel_rfl
theorem tk3 : tyInt Tryd.prog 3 = some .i64 := by kernel_rfl
theorem tk5 : tyInt Tryd.prog 5 = some .u8 := by kernel_rfl
theorem ts122 : tySlice Tryd.prog 122 = some (5, 1, 1) := by kernel_rfl
theorem tby122 : aval0.tyBytes Tryd.prog 122 := by show (match Tryd.prog.underlying 122 with | some (.slice e) => tyInt Tryd.prog e = some .u8 | _ => False); rw [show Tryd.prog.underlying 122 = some (.slice 5) by kernel_rfl]; exact (by kernel_rfl : tyInt Tryd.prog 5 = some .u8)
theorem tv55 : tyVar Tryd.prog 55 = some (true, 10) := by kernel_rfl
theorem tf55x0 : tyField Tryd.prog 55 0 = some (0, false, 1) := by kernel_rfl
theorem tv53 : tyVar Tryd.prog 53 = some (false, 1) := by kernel_rfl
theorem tf55x1 : tyField Tryd.prog 55 1 = some (1, false, 1) := by kernel_rfl
theorem ti4 : tyIs Tryd.prog 4 = 4 := by kernel_rfl
theorem fs37 : tyFs Tryd.prog 37 = some [9, 9, 9, 3, 22, 33, 22, 34, 35, 3, 3] := by kernel_rfl
theorem by80 : Tryd.prog.bytesOf 80 = 272 := by kernel_rfl
theorem sl22 : tySl Tryd.prog 22 = some (80, 24) := by kernel_rfl
theorem fs80 : tyFs Tryd.prog 80 = some [3, 3, 3, 3, 3, 3, 3, 9, 9, 26, 41] := by kernel_rfl
theorem fs26 : tyFs Tryd.prog 26 = some [3, 3, 9, 23, 24] := by kernel_rfl
theorem by26 : Tryd.prog.bytesOf 26 = 80 := by kernel_rfl
theorem sl23 : tySl Tryd.prog 23 = some (26, 5) := by kernel_rfl
theorem by9 : Tryd.prog.bytesOf 9 = 16 := by kernel_rfl
theorem sl24 : tySl Tryd.prog 24 = some (9, 1) := by kernel_rfl
theorem fs41 : tyFs Tryd.prog 41 = some [9, 3, 3, 3, 3, 3, 3, 3, 3, 24] := by kernel_rfl
theorem fs33 : tyFs Tryd.prog 33 = some [3, 3, 3, 3, 3, 3, 9, 26, 26, 4, 27, 28, 29, 30, 31, 24] := by kernel_rfl
theorem by183 : Tryd.prog.bytesOf 183 = 376 := by kernel_rfl
theorem sl27 : tySl Tryd.prog 27 = some (183, 32) := by kernel_rfl
theorem fs183 : tyFs Tryd.prog 183 = some [3, 3, 9, 26, 41, 3, 3, 3, 3, 3, 3, 3, 4, 26, 9] := by kernel_rfl
theorem by185 : Tryd.prog.bytesOf 185 = 24 := by kernel_rfl
theorem sl28 : tySl Tryd.prog 28 = some (185, 3) := by kernel_rfl
theorem fs185 : tyFs Tryd.prog 185 = some [3, 3, 3] := by kernel_rfl
theorem by87 : Tryd.prog.bytesOf 87 = 72 := by kernel_rfl
theorem sl29 : tySl Tryd.prog 29 = some (87, 6) := by kernel_rfl
theorem fs87 : tyFs Tryd.prog 87 = some [3, 3, 9, 9, 3, 9] := by kernel_rfl
theorem by91 : Tryd.prog.bytesOf 91 = 48 := by kernel_rfl
theorem sl30 : tySl Tryd.prog 30 = some (91, 4) := by kernel_rfl
theorem fs91 : tyFs Tryd.prog 91 = some [3, 3, 9, 9] := by kernel_rfl
theorem by187 : Tryd.prog.bytesOf 187 = 24 := by kernel_rfl
theorem sl31 : tySl Tryd.prog 31 = some (187, 2) := by kernel_rfl
theorem fs187 : tyFs Tryd.prog 187 = some [9, 4] := by kernel_rfl
theorem by189 : Tryd.prog.bytesOf 189 = 112 := by kernel_rfl
theorem sl34 : tySl Tryd.prog 34 = some (189, 7) := by kernel_rfl
theorem fs189 : tyFs Tryd.prog 189 = some [9, 9, 26] := by kernel_rfl
theorem by52 : Tryd.prog.bytesOf 52 = 96 := by kernel_rfl
theorem sl35 : tySl Tryd.prog 35 = some (52, 9) := by kernel_rfl
theorem fs52 : tyFs Tryd.prog 52 = some [3, 3, 3, 3, 3, 3, 9, 9, 9] := by kernel_rfl
theorem tz91 : tyZero Tryd.prog 91 = some [.int .i64 0, .int .i64 0, .string ByteArray.empty, .string ByteArray.empty] := by kernel_rfl
theorem ts30 : tySlice Tryd.prog 30 = some (91, 4, 48) := by kernel_rfl
theorem tv91 : tyVar Tryd.prog 91 = some (true, 4) := by kernel_rfl
theorem tf91x0 : tyField Tryd.prog 91 0 = some (0, false, 1) := by kernel_rfl
theorem ti91 : tyIs Tryd.prog 91 = 6 := by kernel_rfl
theorem pl91 : plAll Tryd.prog 91 = some [(0, some 1), (1, some 1), (2, some 1), (3, some 1)] := by kernel_rfl
theorem tb91 : tyIs Tryd.prog 91 = 6 ∧ tyOk Tryd.prog 91 = true ∧ tyZero Tryd.prog 91 = some [.int .i64 0, .int .i64 0, .string ByteArray.empty, .string ByteArray.empty] ∧ ∀ i, tyPlace Tryd.prog 91 i = plOf [(0, some 1), (1, some 1), (2, some 1), (3, some 1)] i := ⟨ti91, by kernel_rfl, tz91, fun i => tyPlace_all pl91 i⟩
theorem tf91x1 : tyField Tryd.prog 91 1 = some (1, false, 1) := by kernel_rfl
theorem tf91x2 : tyField Tryd.prog 91 2 = some (2, false, 1) := by kernel_rfl
theorem tf91x3 : tyField Tryd.prog 91 3 = some (3, false, 1) := by kernel_rfl
theorem fs55 : tyFs Tryd.prog 55 = some [53, 9, 3, 3, 26, 22] := by kernel_rfl
theorem tk53 : tyInt Tryd.prog 53 = some .i64 := by kernel_rfl
theorem ti62 : tyIs Tryd.prog 62 = 3 := by kernel_rfl
theorem ts62 : tySlice Tryd.prog 62 = some (37, 34, 544) := by kernel_rfl
theorem tf80x2 : tyField Tryd.prog 80 2 = some (2, false, 1) := by kernel_rfl
theorem tf80x8 : tyField Tryd.prog 80 8 = some (8, false, 1) := by kernel_rfl
theorem by37 : Tryd.prog.bytesOf 37 = 544 := by kernel_rfl
theorem sl62 : tySl Tryd.prog 62 = some (37, 34) := by kernel_rfl
theorem fs44 : tyFs Tryd.prog 44 = some [3, 3, 9, 9, 9, 9, 3, 3, 3, 3, 26, 41, 42, 9] := by kernel_rfl
theorem by191 : Tryd.prog.bytesOf 191 = 240 := by kernel_rfl
theorem sl42 : tySl Tryd.prog 42 = some (191, 20) := by kernel_rfl
theorem fs191 : tyFs Tryd.prog 191 = some [3, 3, 9, 9, 3, 26, 41] := by kernel_rfl
theorem tn62 : tyIs Tryd.prog 62 ≠ 7 := by rw [ti62]; decide
end Go.Proofs.YtopijeegnhighaaDoor

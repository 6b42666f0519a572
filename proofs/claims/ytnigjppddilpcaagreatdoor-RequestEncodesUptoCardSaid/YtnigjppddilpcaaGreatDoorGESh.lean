import Derived.Test.YtnigjppddilpcaaGreatDoorGETy
import Derived.Test.YtnigjppddilpcaaGreatDoorAbs29
namespace Go.Proofs.YtnigjppddilpcaaGreatDoor
open Go Abs
set_option maxRecDepth 100000
set_option linter.unusedVariables false
set_option linter.unusedSimpArgs false
mutual
def cP:aG→Prop
 | ⟨x0,x1,x2,x3,x4⟩=>qW x0∧qW x1∧okS x2∧(x3.length≤9223372036854775807∧x3.length*80≤140737488351232∧uW x3)∧aCD 16 okS x4
def uW:List aG→Prop
 | []=>True
 | x :: l=>cP x∧uW l
end
theorem aAc:∀ l,uW l↔∀ x∈l,cP x
 | []=>by simp [uW]
 | x :: l=>by simp [uW,aAc l]
theorem eM (x:aG):cP x↔qW x.Kind∧qW x.Int∧okS x.Text∧aCD 80 cP x.Items∧aCD 16 okS x.Keys:=by
 cases x;simp only [cP,aCD,aAc]
theorem aD5:∀ (n:Nat) (ps:List PV),gD Tryz.prog n 26 ps→∃ x,ps=cV x∧cP x:=by
 intro n
 induction n using Nat.strongRecOn with
 | _ n ih =>
  intro ps h
  obtain ⟨m,hm,g0⟩:=aKV aQh h
  clear h
  obtain ⟨p0,q0,e0,a0,g1⟩:=g0
  obtain ⟨x0,f0,k0⟩:=(nY tk3 a0)
  obtain ⟨p1,q1,e1,a1,g2⟩:=g1
  obtain ⟨x1,f1,k1⟩:=(nY tk3 a1)
  obtain ⟨p2,q2,e2,a2,g3⟩:=g2
  obtain ⟨x2,f2,k2⟩:=(wY nJ a2)
  obtain ⟨p3,q3,e3,a3,g4⟩:=g3
  obtain ⟨x3,f3,k3⟩:=(aKU (row:=bB) (ok:=cP) aQu aQe a3 (fun m23 hm23 qs h23=>(by obtain ⟨y,hy,ky⟩:=(ih m23 (by omega) qs h23);exact ⟨y,by rw [hy,cY],ky⟩)))
  obtain ⟨p4,q4,e4,a4,g5⟩:=g4
  obtain ⟨x4,f4,k4⟩:=(aKU (row:=dD) (ok:=okS) aP0 by9 a4 (fun m24 hm24 qs h24=>(wY nJ h24)))
  subst f0 f1 f2 f3 f4
  have g5:q4=[]:=g5
  subst g5
  subst e4
  subst e3
  subst e2
  subst e1
  subst e0
  exact ⟨⟨x0,x1,x2,x3,x4⟩,rfl,(eM _).2 ⟨k0,k1,k2,k3,k4⟩⟩
def fR (x:cE):Prop:=okS x.Queue∧qW x.ToStart∧qW x.ToClose∧qW x.Total∧qW x.Beat∧qW x.First∧qW x.Coef∧qW x.Most∧qW x.Attempts∧aCD 16 okS x.Fatal
theorem aCT:∀ (n:Nat) (ps:List PV),gD Tryz.prog n 28 ps→∃ x,ps=iG x∧fR x:=by
 intro n
 intro ps h
 obtain ⟨m,hm,g0⟩:=aKV aQi h
 clear h
 obtain ⟨p0,q0,e0,a0,g1⟩:=g0
 obtain ⟨x0,f0,k0⟩:=(wY nJ a0)
 obtain ⟨p1,q1,e1,a1,g2⟩:=g1
 obtain ⟨x1,f1,k1⟩:=(nY tk3 a1)
 obtain ⟨p2,q2,e2,a2,g3⟩:=g2
 obtain ⟨x2,f2,k2⟩:=(nY tk3 a2)
 obtain ⟨p3,q3,e3,a3,g4⟩:=g3
 obtain ⟨x3,f3,k3⟩:=(nY tk3 a3)
 obtain ⟨p4,q4,e4,a4,g5⟩:=g4
 obtain ⟨x4,f4,k4⟩:=(nY tk3 a4)
 obtain ⟨p5,q5,e5,a5,g6⟩:=g5
 obtain ⟨x5,f5,k5⟩:=(nY tk3 a5)
 obtain ⟨p6,q6,e6,a6,g7⟩:=g6
 obtain ⟨x6,f6,k6⟩:=(nY tk3 a6)
 obtain ⟨p7,q7,e7,a7,g8⟩:=g7
 obtain ⟨x7,f7,k7⟩:=(nY tk3 a7)
 obtain ⟨p8,q8,e8,a8,g9⟩:=g8
 obtain ⟨x8,f8,k8⟩:=(nY tk3 a8)
 obtain ⟨p9,q9,e9,a9,g10⟩:=g9
 obtain ⟨x9,f9,k9⟩:=(aKU (row:=dD) (ok:=okS) aP0 by9 a9 (fun m24 hm24 qs h24=>(wY nJ h24)))
 subst f0 f1 f2 f3 f4 f5 f6 f7 f8 f9
 have g10:q9=[]:=g10
 subst g10
 subst e9
 subst e8
 subst e7
 subst e6
 subst e5
 subst e4
 subst e3
 subst e2
 subst e1
 subst e0
 exact ⟨⟨x0,x1,x2,x3,x4,x5,x6,x7,x8,x9⟩,rfl,k0,k1,k2,k3,k4,k5,k6,k7,k8,k9⟩
def gL (x:bI):Prop:=qW x.Kind∧qW x.Seq∧okS x.Name∧okS x.Key∧qW x.N∧cP x.Data∧fR x.Opts
theorem aGr:∀ (n:Nat) (ps:List PV),gD Tryz.prog n 103 ps→∃ x,ps=bR x∧gL x:=by
 intro n
 intro ps h
 obtain ⟨m,hm,g0⟩:=aKV aPG h
 clear h
 obtain ⟨p0,q0,e0,a0,g1⟩:=g0
 obtain ⟨x0,f0,k0⟩:=(nY tk3 a0)
 obtain ⟨p1,q1,e1,a1,g2⟩:=g1
 obtain ⟨x1,f1,k1⟩:=(nY tk3 a1)
 obtain ⟨p2,q2,e2,a2,g3⟩:=g2
 obtain ⟨x2,f2,k2⟩:=(wY nJ a2)
 obtain ⟨p3,q3,e3,a3,g4⟩:=g3
 obtain ⟨x3,f3,k3⟩:=(wY nJ a3)
 obtain ⟨p4,q4,e4,a4,g5⟩:=g4
 obtain ⟨x4,f4,k4⟩:=(nY tk3 a4)
 obtain ⟨p5,q5,e5,a5,g6⟩:=g5
 obtain ⟨x5,f5,k5⟩:=(aD5 _ _ a5)
 obtain ⟨p6,q6,e6,a6,g7⟩:=g6
 obtain ⟨x6,f6,k6⟩:=(aCT _ _ a6)
 subst f0 f1 f2 f3 f4 f5 f6
 have g7:q6=[]:=g7
 subst g7
 subst e6
 subst e5
 subst e4
 subst e3
 subst e2
 subst e1
 subst e0
 exact ⟨⟨x0,x1,x2,x3,x4,x5,x6⟩,rfl,k0,k1,k2,k3,k4,k5,k6⟩
def gA (x:bK):Prop:=qW x.Kind∧qW x.Time∧okS x.Workflow∧okS x.Run∧okS x.ID∧okS x.Name∧qW x.Token∧qW x.Event∧qW x.Seq∧qW x.N∧cP x.Data∧fR x.Opts∧aCD 240 gL x.Commands∧okS x.Parent
theorem aBD:∀ (n:Nat) (ps:List PV),gD Tryz.prog n 57 ps→∃ x,ps=fD x∧gA x:=by
 intro n
 intro ps h
 obtain ⟨m,hm,g0⟩:=aKV aQj h
 clear h
 obtain ⟨p0,q0,e0,a0,g1⟩:=g0
 obtain ⟨x0,f0,k0⟩:=(nY tk3 a0)
 obtain ⟨p1,q1,e1,a1,g2⟩:=g1
 obtain ⟨x1,f1,k1⟩:=(nY tk3 a1)
 obtain ⟨p2,q2,e2,a2,g3⟩:=g2
 obtain ⟨x2,f2,k2⟩:=(wY nJ a2)
 obtain ⟨p3,q3,e3,a3,g4⟩:=g3
 obtain ⟨x3,f3,k3⟩:=(wY nJ a3)
 obtain ⟨p4,q4,e4,a4,g5⟩:=g4
 obtain ⟨x4,f4,k4⟩:=(wY nJ a4)
 obtain ⟨p5,q5,e5,a5,g6⟩:=g5
 obtain ⟨x5,f5,k5⟩:=(wY nJ a5)
 obtain ⟨p6,q6,e6,a6,g7⟩:=g6
 obtain ⟨x6,f6,k6⟩:=(nY tk3 a6)
 obtain ⟨p7,q7,e7,a7,g8⟩:=g7
 obtain ⟨x7,f7,k7⟩:=(nY tk3 a7)
 obtain ⟨p8,q8,e8,a8,g9⟩:=g8
 obtain ⟨x8,f8,k8⟩:=(nY tk3 a8)
 obtain ⟨p9,q9,e9,a9,g10⟩:=g9
 obtain ⟨x9,f9,k9⟩:=(nY tk3 a9)
 obtain ⟨p10,q10,e10,a10,g11⟩:=g10
 obtain ⟨x10,f10,k10⟩:=(aD5 _ _ a10)
 obtain ⟨p11,q11,e11,a11,g12⟩:=g11
 obtain ⟨x11,f11,k11⟩:=(aCT _ _ a11)
 obtain ⟨p12,q12,e12,a12,g13⟩:=g12
 obtain ⟨x12,f12,k12⟩:=(aKU (row:=bR) (ok:=gL) aQv aPC a12 (fun m55 hm55 qs h55=>(aGr _ _ h55)))
 obtain ⟨p13,q13,e13,a13,g14⟩:=g13
 obtain ⟨x13,f13,k13⟩:=(wY nJ a13)
 subst f0 f1 f2 f3 f4 f5 f6 f7 f8 f9 f10 f11 f12 f13
 have g14:q13=[]:=g14
 subst g14
 subst e13
 subst e12
 subst e11
 subst e10
 subst e9
 subst e8
 subst e7
 subst e6
 subst e5
 subst e4
 subst e3
 subst e2
 subst e1
 subst e0
 exact ⟨⟨x0,x1,x2,x3,x4,x5,x6,x7,x8,x9,x10,x11,x12,x13⟩,rfl,k0,k1,k2,k3,k4,k5,k6,k7,k8,k9,k10,k11,k12,k13⟩
end Go.Proofs.YtnigjppddilpcaaGreatDoor

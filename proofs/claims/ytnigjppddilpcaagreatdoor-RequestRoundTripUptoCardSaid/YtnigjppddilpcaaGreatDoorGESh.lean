import Derived.Test.YtnigjppddilpcaaGreatDoorGETy
import Derived.Test.YtnigjppddilpcaaGreatDoorAbs29
namespace Go.Proofs.YtnigjppddilpcaaGreatDoor
open Go Abs
set_option maxRecDepth 100000
set_option linter.unusedVariables false
set_option linter.unusedSimpArgs false
mutual
def bR:aC→Prop
 | ⟨x0,x1,x2,x3,x4⟩=>lV x0∧lV x1∧vC x2∧(x3.length≤9223372036854775807∧x3.length*80≤140737488351232∧tZ x3)∧wF 16 vC x4
def tZ:List aC→Prop
 | []=>True
 | x :: l=>bR x∧tZ l
end
theorem aAr:∀ l,tZ l↔∀ x∈l,bR x
 | []=>by simp [tZ]
 | x :: l=>by simp [tZ,aAr l]
theorem eD (x:aC):bR x↔lV x.Kind∧lV x.Int∧vC x.Text∧wF 80 bR x.Items∧wF 16 vC x.Keys:=by
 cases x;simp only [bR,wF,aAr]
theorem aEk:∀ (n:Nat) (ps:List PV),iB Tryz.prog n 26 ps→∃ x,ps=eF x∧bR x:=by
 intro n
 induction n using Nat.strongRecOn with
 | _ n ih =>
  intro ps h
  obtain ⟨m,hm,g0⟩:=aLe aQX h
  clear h
  obtain ⟨p0,q0,e0,a0,g1⟩:=g0
  obtain ⟨x0,f0,k0⟩:=(mY tk3 a0)
  obtain ⟨p1,q1,e1,a1,g2⟩:=g1
  obtain ⟨x1,f1,k1⟩:=(mY tk3 a1)
  obtain ⟨p2,q2,e2,a2,g3⟩:=g2
  obtain ⟨x2,f2,k2⟩:=(wQ wT a2)
  obtain ⟨p3,q3,e3,a3,g4⟩:=g3
  obtain ⟨x3,f3,k3⟩:=(aLd (row:=bM) (ok:=bR) aRb aQV a3 (fun m23 hm23 qs h23=>(by obtain ⟨y,hy,ky⟩:=(ih m23 (by omega) qs h23);exact ⟨y,by rw [hy,eT],ky⟩)))
  obtain ⟨p4,q4,e4,a4,g5⟩:=g4
  obtain ⟨x4,f4,k4⟩:=(aLd (row:=gL) (ok:=vC) aQE by9 a4 (fun m24 hm24 qs h24=>(wQ wT h24)))
  subst f0 f1 f2 f3 f4
  have g5:q4=[]:=g5
  subst g5
  subst e4
  subst e3
  subst e2
  subst e1
  subst e0
  exact ⟨⟨x0,x1,x2,x3,x4⟩,rfl,(eD _).2 ⟨k0,k1,k2,k3,k4⟩⟩
def eU (x:bL):Prop:=vC x.Queue∧lV x.ToStart∧lV x.ToClose∧lV x.Total∧lV x.Beat∧lV x.First∧lV x.Coef∧lV x.Most∧lV x.Attempts∧wF 16 vC x.Fatal
theorem aCZ:∀ (n:Nat) (ps:List PV),iB Tryz.prog n 28 ps→∃ x,ps=jX x∧eU x:=by
 intro n
 intro ps h
 obtain ⟨m,hm,g0⟩:=aLe aQY h
 clear h
 obtain ⟨p0,q0,e0,a0,g1⟩:=g0
 obtain ⟨x0,f0,k0⟩:=(wQ wT a0)
 obtain ⟨p1,q1,e1,a1,g2⟩:=g1
 obtain ⟨x1,f1,k1⟩:=(mY tk3 a1)
 obtain ⟨p2,q2,e2,a2,g3⟩:=g2
 obtain ⟨x2,f2,k2⟩:=(mY tk3 a2)
 obtain ⟨p3,q3,e3,a3,g4⟩:=g3
 obtain ⟨x3,f3,k3⟩:=(mY tk3 a3)
 obtain ⟨p4,q4,e4,a4,g5⟩:=g4
 obtain ⟨x4,f4,k4⟩:=(mY tk3 a4)
 obtain ⟨p5,q5,e5,a5,g6⟩:=g5
 obtain ⟨x5,f5,k5⟩:=(mY tk3 a5)
 obtain ⟨p6,q6,e6,a6,g7⟩:=g6
 obtain ⟨x6,f6,k6⟩:=(mY tk3 a6)
 obtain ⟨p7,q7,e7,a7,g8⟩:=g7
 obtain ⟨x7,f7,k7⟩:=(mY tk3 a7)
 obtain ⟨p8,q8,e8,a8,g9⟩:=g8
 obtain ⟨x8,f8,k8⟩:=(mY tk3 a8)
 obtain ⟨p9,q9,e9,a9,g10⟩:=g9
 obtain ⟨x9,f9,k9⟩:=(aLd (row:=gL) (ok:=vC) aQE by9 a9 (fun m24 hm24 qs h24=>(wQ wT h24)))
 subst f0 f1 f2 f3 f4 f5 f6 f7 f8 f9
 have g10:q9=[]:=g10
 subst g10
 subst e9
 subst e8
 subst e7
 subst e6
 subst e5
 subst e4
 subst e3
 subst e2
 subst e1
 subst e0
 exact ⟨⟨x0,x1,x2,x3,x4,x5,x6,x7,x8,x9⟩,rfl,k0,k1,k2,k3,k4,k5,k6,k7,k8,k9⟩
def eP (x:aP):Prop:=lV x.Kind∧lV x.Seq∧vC x.Name∧vC x.Key∧lV x.N∧bR x.Data∧eU x.Opts
theorem aGE:∀ (n:Nat) (ps:List PV),iB Tryz.prog n 103 ps→∃ x,ps=cH x∧eP x:=by
 intro n
 intro ps h
 obtain ⟨m,hm,g0⟩:=aLe aQi h
 clear h
 obtain ⟨p0,q0,e0,a0,g1⟩:=g0
 obtain ⟨x0,f0,k0⟩:=(mY tk3 a0)
 obtain ⟨p1,q1,e1,a1,g2⟩:=g1
 obtain ⟨x1,f1,k1⟩:=(mY tk3 a1)
 obtain ⟨p2,q2,e2,a2,g3⟩:=g2
 obtain ⟨x2,f2,k2⟩:=(wQ wT a2)
 obtain ⟨p3,q3,e3,a3,g4⟩:=g3
 obtain ⟨x3,f3,k3⟩:=(wQ wT a3)
 obtain ⟨p4,q4,e4,a4,g5⟩:=g4
 obtain ⟨x4,f4,k4⟩:=(mY tk3 a4)
 obtain ⟨p5,q5,e5,a5,g6⟩:=g5
 obtain ⟨x5,f5,k5⟩:=(aEk _ _ a5)
 obtain ⟨p6,q6,e6,a6,g7⟩:=g6
 obtain ⟨x6,f6,k6⟩:=(aCZ _ _ a6)
 subst f0 f1 f2 f3 f4 f5 f6
 have g7:q6=[]:=g7
 subst g7
 subst e6
 subst e5
 subst e4
 subst e3
 subst e2
 subst e1
 subst e0
 exact ⟨⟨x0,x1,x2,x3,x4,x5,x6⟩,rfl,k0,k1,k2,k3,k4,k5,k6⟩
def fO (x:aY):Prop:=lV x.Kind∧lV x.Time∧vC x.Workflow∧vC x.Run∧vC x.ID∧vC x.Name∧lV x.Token∧lV x.Event∧lV x.Seq∧lV x.N∧bR x.Data∧eU x.Opts∧wF 240 eP x.Commands∧vC x.Parent
theorem aGF:∀ (n:Nat) (ps:List PV),iB Tryz.prog n 57 ps→∃ x,ps=fX x∧fO x:=by
 intro n
 intro ps h
 obtain ⟨m,hm,g0⟩:=aLe aQZ h
 clear h
 obtain ⟨p0,q0,e0,a0,g1⟩:=g0
 obtain ⟨x0,f0,k0⟩:=(mY tk3 a0)
 obtain ⟨p1,q1,e1,a1,g2⟩:=g1
 obtain ⟨x1,f1,k1⟩:=(mY tk3 a1)
 obtain ⟨p2,q2,e2,a2,g3⟩:=g2
 obtain ⟨x2,f2,k2⟩:=(wQ wT a2)
 obtain ⟨p3,q3,e3,a3,g4⟩:=g3
 obtain ⟨x3,f3,k3⟩:=(wQ wT a3)
 obtain ⟨p4,q4,e4,a4,g5⟩:=g4
 obtain ⟨x4,f4,k4⟩:=(wQ wT a4)
 obtain ⟨p5,q5,e5,a5,g6⟩:=g5
 obtain ⟨x5,f5,k5⟩:=(wQ wT a5)
 obtain ⟨p6,q6,e6,a6,g7⟩:=g6
 obtain ⟨x6,f6,k6⟩:=(mY tk3 a6)
 obtain ⟨p7,q7,e7,a7,g8⟩:=g7
 obtain ⟨x7,f7,k7⟩:=(mY tk3 a7)
 obtain ⟨p8,q8,e8,a8,g9⟩:=g8
 obtain ⟨x8,f8,k8⟩:=(mY tk3 a8)
 obtain ⟨p9,q9,e9,a9,g10⟩:=g9
 obtain ⟨x9,f9,k9⟩:=(mY tk3 a9)
 obtain ⟨p10,q10,e10,a10,g11⟩:=g10
 obtain ⟨x10,f10,k10⟩:=(aEk _ _ a10)
 obtain ⟨p11,q11,e11,a11,g12⟩:=g11
 obtain ⟨x11,f11,k11⟩:=(aCZ _ _ a11)
 obtain ⟨p12,q12,e12,a12,g13⟩:=g12
 obtain ⟨x12,f12,k12⟩:=(aLd (row:=cH) (ok:=eP) aRc aQd a12 (fun m55 hm55 qs h55=>(aGE _ _ h55)))
 obtain ⟨p13,q13,e13,a13,g14⟩:=g13
 obtain ⟨x13,f13,k13⟩:=(wQ wT a13)
 subst f0 f1 f2 f3 f4 f5 f6 f7 f8 f9 f10 f11 f12 f13
 have g14:q13=[]:=g14
 subst g14
 subst e13
 subst e12
 subst e11
 subst e10
 subst e9
 subst e8
 subst e7
 subst e6
 subst e5
 subst e4
 subst e3
 subst e2
 subst e1
 subst e0
 exact ⟨⟨x0,x1,x2,x3,x4,x5,x6,x7,x8,x9,x10,x11,x12,x13⟩,rfl,k0,k1,k2,k3,k4,k5,k6,k7,k8,k9,k10,k11,k12,k13⟩
end Go.Proofs.YtnigjppddilpcaaGreatDoor

import Derived.Test.YtnigjppddilpcaaGreatDoorGETy
import Derived.Test.YtnigjppddilpcaaGreatDoorAbs29
namespace Go.Proofs.YtnigjppddilpcaaGreatDoor
open Go Abs
set_option maxRecDepth 100000
set_option linter.unusedVariables false
set_option linter.unusedSimpArgs false
mutual
def cL:aC→Prop
 | ⟨x0,x1,x2,x3,x4⟩=>rB x0∧rB x1∧okS x2∧(x3.length≤9223372036854775807∧x3.length*80≤140737488351232∧vG x3)∧vF 16 okS x4
def vG:List aC→Prop
 | []=>True
 | x :: l=>cL x∧vG l
end
theorem aAk:∀ l,vG l↔∀ x∈l,cL x
 | []=>by simp [vG]
 | x :: l=>by simp [vG,aAk l]
theorem dH (x:aC):cL x↔rB x.Kind∧rB x.Int∧okS x.Text∧vF 80 cL x.Items∧vF 16 okS x.Keys:=by
 cases x;simp only [cL,vF,aAk]
theorem aJt:∀ (n:Nat) (ps:List PV),gN Tryz.prog n 26 ps→∃ x,ps=cQ x∧cL x:=by
 intro n
 induction n using Nat.strongRecOn with
 | _ n ih =>
  intro ps h
  obtain ⟨m,hm,g0⟩:=aNA aSa h
  clear h
  obtain ⟨p0,q0,e0,a0,g1⟩:=g0
  obtain ⟨x0,f0,k0⟩:=(qE tk3 a0)
  obtain ⟨p1,q1,e1,a1,g2⟩:=g1
  obtain ⟨x1,f1,k1⟩:=(qE tk3 a1)
  obtain ⟨p2,q2,e2,a2,g3⟩:=g2
  obtain ⟨x2,f2,k2⟩:=(aDy pJ a2)
  obtain ⟨p3,q3,e3,a3,g4⟩:=g3
  obtain ⟨x3,f3,k3⟩:=(aHg (row:=bF) (ok:=cL) aSk aRY a3 (fun m23 hm23 qs h23=>(by obtain ⟨y,hy,ky⟩:=(ih m23 (by omega) qs h23);exact ⟨y,by rw [hy,cE],ky⟩)))
  obtain ⟨p4,q4,e4,a4,g5⟩:=g4
  obtain ⟨x4,f4,k4⟩:=(aHg (row:=eA) (ok:=okS) aRD by9 a4 (fun m24 hm24 qs h24=>(aDy pJ h24)))
  subst f0 f1 f2 f3 f4
  have g5:q4=[]:=g5
  subst g5
  subst e4
  subst e3
  subst e2
  subst e1
  subst e0
  exact ⟨⟨x0,x1,x2,x3,x4⟩,rfl,(dH _).2 ⟨k0,k1,k2,k3,k4⟩⟩
def fH (x:bG):Prop:=okS x.Queue∧rB x.ToStart∧rB x.ToClose∧rB x.Total∧rB x.Beat∧rB x.First∧rB x.Coef∧rB x.Most∧rB x.Attempts∧vF 16 okS x.Fatal
theorem aH4:∀ (n:Nat) (ps:List PV),gN Tryz.prog n 28 ps→∃ x,ps=gS x∧fH x:=by
 intro n
 intro ps h
 obtain ⟨m,hm,g0⟩:=aNA aSb h
 clear h
 obtain ⟨p0,q0,e0,a0,g1⟩:=g0
 obtain ⟨x0,f0,k0⟩:=(aDy pJ a0)
 obtain ⟨p1,q1,e1,a1,g2⟩:=g1
 obtain ⟨x1,f1,k1⟩:=(qE tk3 a1)
 obtain ⟨p2,q2,e2,a2,g3⟩:=g2
 obtain ⟨x2,f2,k2⟩:=(qE tk3 a2)
 obtain ⟨p3,q3,e3,a3,g4⟩:=g3
 obtain ⟨x3,f3,k3⟩:=(qE tk3 a3)
 obtain ⟨p4,q4,e4,a4,g5⟩:=g4
 obtain ⟨x4,f4,k4⟩:=(qE tk3 a4)
 obtain ⟨p5,q5,e5,a5,g6⟩:=g5
 obtain ⟨x5,f5,k5⟩:=(qE tk3 a5)
 obtain ⟨p6,q6,e6,a6,g7⟩:=g6
 obtain ⟨x6,f6,k6⟩:=(qE tk3 a6)
 obtain ⟨p7,q7,e7,a7,g8⟩:=g7
 obtain ⟨x7,f7,k7⟩:=(qE tk3 a7)
 obtain ⟨p8,q8,e8,a8,g9⟩:=g8
 obtain ⟨x8,f8,k8⟩:=(qE tk3 a8)
 obtain ⟨p9,q9,e9,a9,g10⟩:=g9
 obtain ⟨x9,f9,k9⟩:=(aHg (row:=eA) (ok:=okS) aRD by9 a9 (fun m24 hm24 qs h24=>(aDy pJ h24)))
 subst f0 f1 f2 f3 f4 f5 f6 f7 f8 f9
 have g10:q9=[]:=g10
 subst g10
 subst e9
 subst e8
 subst e7
 subst e6
 subst e5
 subst e4
 subst e3
 subst e2
 subst e1
 subst e0
 exact ⟨⟨x0,x1,x2,x3,x4,x5,x6,x7,x8,x9⟩,rfl,k0,k1,k2,k3,k4,k5,k6,k7,k8,k9⟩
def dW (x:bI):Prop:=rB x.ID∧rB x.Kind∧rB x.Time∧rB x.Seq∧rB x.Ref∧rB x.N∧rB x.Code∧okS x.Name∧okS x.Key∧cL x.Data∧fH x.Opts
theorem aAU:∀ (n:Nat) (ps:List PV),gN Tryz.prog n 30 ps→∃ x,ps=cD x∧dW x:=by
 intro n
 intro ps h
 obtain ⟨m,hm,g0⟩:=aNA aSc h
 clear h
 obtain ⟨p0,q0,e0,a0,g1⟩:=g0
 obtain ⟨x0,f0,k0⟩:=(qE tk3 a0)
 obtain ⟨p1,q1,e1,a1,g2⟩:=g1
 obtain ⟨x1,f1,k1⟩:=(qE tk3 a1)
 obtain ⟨p2,q2,e2,a2,g3⟩:=g2
 obtain ⟨x2,f2,k2⟩:=(qE tk3 a2)
 obtain ⟨p3,q3,e3,a3,g4⟩:=g3
 obtain ⟨x3,f3,k3⟩:=(qE tk3 a3)
 obtain ⟨p4,q4,e4,a4,g5⟩:=g4
 obtain ⟨x4,f4,k4⟩:=(qE tk3 a4)
 obtain ⟨p5,q5,e5,a5,g6⟩:=g5
 obtain ⟨x5,f5,k5⟩:=(qE tk3 a5)
 obtain ⟨p6,q6,e6,a6,g7⟩:=g6
 obtain ⟨x6,f6,k6⟩:=(qE tk3 a6)
 obtain ⟨p7,q7,e7,a7,g8⟩:=g7
 obtain ⟨x7,f7,k7⟩:=(aDy pJ a7)
 obtain ⟨p8,q8,e8,a8,g9⟩:=g8
 obtain ⟨x8,f8,k8⟩:=(aDy pJ a8)
 obtain ⟨p9,q9,e9,a9,g10⟩:=g9
 obtain ⟨x9,f9,k9⟩:=(aJt _ _ a9)
 obtain ⟨p10,q10,e10,a10,g11⟩:=g10
 obtain ⟨x10,f10,k10⟩:=(aH4 _ _ a10)
 subst f0 f1 f2 f3 f4 f5 f6 f7 f8 f9 f10
 have g11:q10=[]:=g11
 subst g11
 subst e10
 subst e9
 subst e8
 subst e7
 subst e6
 subst e5
 subst e4
 subst e3
 subst e2
 subst e1
 subst e0
 exact ⟨⟨x0,x1,x2,x3,x4,x5,x6,x7,x8,x9,x10⟩,rfl,k0,k1,k2,k3,k4,k5,k6,k7,k8,k9,k10⟩
def tB (x:cW):Prop:=rB x.Kind∧rB x.Seq∧okS x.Name∧okS x.Key∧rB x.N∧cL x.Data∧fH x.Opts
end Go.Proofs.YtnigjppddilpcaaGreatDoor

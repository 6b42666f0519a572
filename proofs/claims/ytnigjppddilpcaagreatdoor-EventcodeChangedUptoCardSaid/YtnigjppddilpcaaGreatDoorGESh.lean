import Derived.Test.YtnigjppddilpcaaGreatDoorGETy
import Derived.Test.YtnigjppddilpcaaGreatDoorAbs29
namespace Go.Proofs.YtnigjppddilpcaaGreatDoor
open Go Abs
set_option maxRecDepth 100000
set_option linter.unusedVariables false
set_option linter.unusedSimpArgs false
mutual
def cL:aD→Prop
 | ⟨x0,x1,x2,x3,x4⟩=>oG x0∧oG x1∧okS x2∧(x3.length≤9223372036854775807∧x3.length*80≤140737488351232∧qI x3)∧uG 16 okS x4
def qI:List aD→Prop
 | []=>True
 | x :: l=>cL x∧qI l
end
theorem vH:∀ l,qI l↔∀ x∈l,cL x
 | []=>by simp [qI]
 | x :: l=>by simp [qI,vH l]
theorem dW (x:aD):cL x↔oG x.Kind∧oG x.Int∧okS x.Text∧uG 80 cL x.Items∧uG 16 okS x.Keys:=by
 cases x;simp only [cL,uG,vH]
theorem aF2:∀ (n:Nat) (ps:List PV),gB Tryz.prog n 26 ps→∃ x,ps=dD x∧cL x:=by
 intro n
 induction n using Nat.strongRecOn with
 | _ n ih =>
  intro ps h
  obtain ⟨m,hm,g0⟩:=aKa aNR h
  clear h
  obtain ⟨p0,q0,e0,a0,g1⟩:=g0
  obtain ⟨x0,f0,k0⟩:=(lU tk3 a0)
  obtain ⟨p1,q1,e1,a1,g2⟩:=g1
  obtain ⟨x1,f1,k1⟩:=(lU tk3 a1)
  obtain ⟨p2,q2,e2,a2,g3⟩:=g2
  obtain ⟨x2,f2,k2⟩:=(aAT tT a2)
  obtain ⟨p3,q3,e3,a3,g4⟩:=g3
  obtain ⟨x3,f3,k3⟩:=(aHH (row:=aZ) (ok:=cL) aN4 aNM a3 (fun m23 hm23 qs h23=>(by obtain ⟨y,hy,ky⟩:=(ih m23 (by omega) qs h23);exact ⟨y,by rw [hy,dA],ky⟩)))
  obtain ⟨p4,q4,e4,a4,g5⟩:=g4
  obtain ⟨x4,f4,k4⟩:=(aHH (row:=fD) (ok:=okS) aNr by9 a4 (fun m24 hm24 qs h24=>(aAT tT h24)))
  subst f0 f1 f2 f3 f4
  have g5:q4=[]:=g5
  subst g5
  subst e4
  subst e3
  subst e2
  subst e1
  subst e0
  exact ⟨⟨x0,x1,x2,x3,x4⟩,rfl,(dW _).2 ⟨k0,k1,k2,k3,k4⟩⟩
def eO (x:bP):Prop:=okS x.Queue∧oG x.ToStart∧oG x.ToClose∧oG x.Total∧oG x.Beat∧oG x.First∧oG x.Coef∧oG x.Most∧oG x.Attempts∧uG 16 okS x.Fatal
theorem aEJ:∀ (n:Nat) (ps:List PV),gB Tryz.prog n 28 ps→∃ x,ps=gA x∧eO x:=by
 intro n
 intro ps h
 obtain ⟨m,hm,g0⟩:=aKa aNS h
 clear h
 obtain ⟨p0,q0,e0,a0,g1⟩:=g0
 obtain ⟨x0,f0,k0⟩:=(aAT tT a0)
 obtain ⟨p1,q1,e1,a1,g2⟩:=g1
 obtain ⟨x1,f1,k1⟩:=(lU tk3 a1)
 obtain ⟨p2,q2,e2,a2,g3⟩:=g2
 obtain ⟨x2,f2,k2⟩:=(lU tk3 a2)
 obtain ⟨p3,q3,e3,a3,g4⟩:=g3
 obtain ⟨x3,f3,k3⟩:=(lU tk3 a3)
 obtain ⟨p4,q4,e4,a4,g5⟩:=g4
 obtain ⟨x4,f4,k4⟩:=(lU tk3 a4)
 obtain ⟨p5,q5,e5,a5,g6⟩:=g5
 obtain ⟨x5,f5,k5⟩:=(lU tk3 a5)
 obtain ⟨p6,q6,e6,a6,g7⟩:=g6
 obtain ⟨x6,f6,k6⟩:=(lU tk3 a6)
 obtain ⟨p7,q7,e7,a7,g8⟩:=g7
 obtain ⟨x7,f7,k7⟩:=(lU tk3 a7)
 obtain ⟨p8,q8,e8,a8,g9⟩:=g8
 obtain ⟨x8,f8,k8⟩:=(lU tk3 a8)
 obtain ⟨p9,q9,e9,a9,g10⟩:=g9
 obtain ⟨x9,f9,k9⟩:=(aHH (row:=fD) (ok:=okS) aNr by9 a9 (fun m24 hm24 qs h24=>(aAT tT h24)))
 subst f0 f1 f2 f3 f4 f5 f6 f7 f8 f9
 have g10:q9=[]:=g10
 subst g10
 subst e9
 subst e8
 subst e7
 subst e6
 subst e5
 subst e4
 subst e3
 subst e2
 subst e1
 subst e0
 exact ⟨⟨x0,x1,x2,x3,x4,x5,x6,x7,x8,x9⟩,rfl,k0,k1,k2,k3,k4,k5,k6,k7,k8,k9⟩
def dP (x:aV):Prop:=oG x.ID∧oG x.Kind∧oG x.Time∧oG x.Seq∧oG x.Ref∧oG x.N∧oG x.Code∧okS x.Name∧okS x.Key∧cL x.Data∧eO x.Opts
theorem aF1:∀ (n:Nat) (ps:List PV),gB Tryz.prog n 30 ps→∃ x,ps=bZ x∧dP x:=by
 intro n
 intro ps h
 obtain ⟨m,hm,g0⟩:=aKa aNT h
 clear h
 obtain ⟨p0,q0,e0,a0,g1⟩:=g0
 obtain ⟨x0,f0,k0⟩:=(lU tk3 a0)
 obtain ⟨p1,q1,e1,a1,g2⟩:=g1
 obtain ⟨x1,f1,k1⟩:=(lU tk3 a1)
 obtain ⟨p2,q2,e2,a2,g3⟩:=g2
 obtain ⟨x2,f2,k2⟩:=(lU tk3 a2)
 obtain ⟨p3,q3,e3,a3,g4⟩:=g3
 obtain ⟨x3,f3,k3⟩:=(lU tk3 a3)
 obtain ⟨p4,q4,e4,a4,g5⟩:=g4
 obtain ⟨x4,f4,k4⟩:=(lU tk3 a4)
 obtain ⟨p5,q5,e5,a5,g6⟩:=g5
 obtain ⟨x5,f5,k5⟩:=(lU tk3 a5)
 obtain ⟨p6,q6,e6,a6,g7⟩:=g6
 obtain ⟨x6,f6,k6⟩:=(lU tk3 a6)
 obtain ⟨p7,q7,e7,a7,g8⟩:=g7
 obtain ⟨x7,f7,k7⟩:=(aAT tT a7)
 obtain ⟨p8,q8,e8,a8,g9⟩:=g8
 obtain ⟨x8,f8,k8⟩:=(aAT tT a8)
 obtain ⟨p9,q9,e9,a9,g10⟩:=g9
 obtain ⟨x9,f9,k9⟩:=(aF2 _ _ a9)
 obtain ⟨p10,q10,e10,a10,g11⟩:=g10
 obtain ⟨x10,f10,k10⟩:=(aEJ _ _ a10)
 subst f0 f1 f2 f3 f4 f5 f6 f7 f8 f9 f10
 have g11:q10=[]:=g11
 subst g11
 subst e10
 subst e9
 subst e8
 subst e7
 subst e6
 subst e5
 subst e4
 subst e3
 subst e2
 subst e1
 subst e0
 exact ⟨⟨x0,x1,x2,x3,x4,x5,x6,x7,x8,x9,x10⟩,rfl,k0,k1,k2,k3,k4,k5,k6,k7,k8,k9,k10⟩
def qY (x:fL):Prop:=oG x.Kind∧oG x.Seq∧okS x.Name∧okS x.Key∧oG x.N∧cL x.Data∧eO x.Opts
end Go.Proofs.YtnigjppddilpcaaGreatDoor

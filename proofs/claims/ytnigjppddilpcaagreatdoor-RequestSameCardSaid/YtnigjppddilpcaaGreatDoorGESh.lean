import Derived.Test.YtnigjppddilpcaaGreatDoorGETy
import Derived.Test.YtnigjppddilpcaaGreatDoorAbs29
namespace Go.Proofs.YtnigjppddilpcaaGreatDoor
open Go Abs
set_option maxRecDepth 100000
set_option linter.unusedVariables false
set_option linter.unusedSimpArgs false
mutual
def dF:aE→Prop
 | ⟨x0,x1,x2,x3,x4⟩=>sC x0∧sC x1∧okS x2∧(x3.length≤9223372036854775807∧x3.length*80≤140737488351232∧yG x3)∧aDa 16 okS x4
def yG:List aE→Prop
 | []=>True
 | x :: l=>dF x∧yG l
end
theorem aBZ:∀ l,yG l↔∀ x∈l,dF x
 | []=>by simp [yG]
 | x :: l=>by simp [yG,aBZ l]
theorem gD (x:aE):dF x↔sC x.Kind∧sC x.Int∧okS x.Text∧aDa 80 dF x.Items∧aDa 16 okS x.Keys:=by
 cases x;simp only [dF,aDa,aBZ]
theorem aAS:∀ (n:Nat) (ps:List PV),jF Tryz.prog n 26 ps→∃ x,ps=fZ x∧dF x:=by
 intro n
 induction n using Nat.strongRecOn with
 | _ n ih =>
  intro ps h
  obtain ⟨m,hm,g0⟩:=aHo aSF h
  clear h
  obtain ⟨p0,q0,e0,a0,g1⟩:=g0
  obtain ⟨x0,f0,k0⟩:=(mH tk3 a0)
  obtain ⟨p1,q1,e1,a1,g2⟩:=g1
  obtain ⟨x1,f1,k1⟩:=(mH tk3 a1)
  obtain ⟨p2,q2,e2,a2,g3⟩:=g2
  obtain ⟨x2,f2,k2⟩:=(wT zG a2)
  obtain ⟨p3,q3,e3,a3,g4⟩:=g3
  obtain ⟨x3,f3,k3⟩:=(aLf (row:=cH) (ok:=dF) aSW aSD a3 (fun m23 hm23 qs h23=>(by obtain ⟨y,hy,ky⟩:=(ih m23 (by omega) qs h23);exact ⟨y,by rw [hy,hF],ky⟩)))
  obtain ⟨p4,q4,e4,a4,g5⟩:=g4
  obtain ⟨x4,f4,k4⟩:=(aLf (row:=jE) (ok:=okS) aSm by9 a4 (fun m24 hm24 qs h24=>(wT zG h24)))
  subst f0 f1 f2 f3 f4
  have g5:q4=[]:=g5
  subst g5
  subst e4
  subst e3
  subst e2
  subst e1
  subst e0
  exact ⟨⟨x0,x1,x2,x3,x4⟩,rfl,(gD _).2 ⟨k0,k1,k2,k3,k4⟩⟩
def gO (x:dB):Prop:=okS x.Queue∧sC x.ToStart∧sC x.ToClose∧sC x.Total∧sC x.Beat∧sC x.First∧sC x.Coef∧sC x.Most∧sC x.Attempts∧aDa 16 okS x.Fatal
theorem aBL:∀ (n:Nat) (ps:List PV),jF Tryz.prog n 28 ps→∃ x,ps=nS x∧gO x:=by
 intro n
 intro ps h
 obtain ⟨m,hm,g0⟩:=aHo aSG h
 clear h
 obtain ⟨p0,q0,e0,a0,g1⟩:=g0
 obtain ⟨x0,f0,k0⟩:=(wT zG a0)
 obtain ⟨p1,q1,e1,a1,g2⟩:=g1
 obtain ⟨x1,f1,k1⟩:=(mH tk3 a1)
 obtain ⟨p2,q2,e2,a2,g3⟩:=g2
 obtain ⟨x2,f2,k2⟩:=(mH tk3 a2)
 obtain ⟨p3,q3,e3,a3,g4⟩:=g3
 obtain ⟨x3,f3,k3⟩:=(mH tk3 a3)
 obtain ⟨p4,q4,e4,a4,g5⟩:=g4
 obtain ⟨x4,f4,k4⟩:=(mH tk3 a4)
 obtain ⟨p5,q5,e5,a5,g6⟩:=g5
 obtain ⟨x5,f5,k5⟩:=(mH tk3 a5)
 obtain ⟨p6,q6,e6,a6,g7⟩:=g6
 obtain ⟨x6,f6,k6⟩:=(mH tk3 a6)
 obtain ⟨p7,q7,e7,a7,g8⟩:=g7
 obtain ⟨x7,f7,k7⟩:=(mH tk3 a7)
 obtain ⟨p8,q8,e8,a8,g9⟩:=g8
 obtain ⟨x8,f8,k8⟩:=(mH tk3 a8)
 obtain ⟨p9,q9,e9,a9,g10⟩:=g9
 obtain ⟨x9,f9,k9⟩:=(aLf (row:=jE) (ok:=okS) aSm by9 a9 (fun m24 hm24 qs h24=>(wT zG h24)))
 subst f0 f1 f2 f3 f4 f5 f6 f7 f8 f9
 have g10:q9=[]:=g10
 subst g10
 subst e9
 subst e8
 subst e7
 subst e6
 subst e5
 subst e4
 subst e3
 subst e2
 subst e1
 subst e0
 exact ⟨⟨x0,x1,x2,x3,x4,x5,x6,x7,x8,x9⟩,rfl,k0,k1,k2,k3,k4,k5,k6,k7,k8,k9⟩
def aAl (x:kN):Prop:=sC x.ID∧sC x.Kind∧sC x.Time∧sC x.Seq∧sC x.Ref∧sC x.N∧sC x.Code∧okS x.Name∧okS x.Key∧dF x.Data∧gO x.Opts
theorem aLe:∀ (n:Nat) (ps:List PV),jF Tryz.prog n 30 ps→∃ x,ps=jW x∧aAl x:=by
 intro n
 intro ps h
 obtain ⟨m,hm,g0⟩:=aHo aSH h
 clear h
 obtain ⟨p0,q0,e0,a0,g1⟩:=g0
 obtain ⟨x0,f0,k0⟩:=(mH tk3 a0)
 obtain ⟨p1,q1,e1,a1,g2⟩:=g1
 obtain ⟨x1,f1,k1⟩:=(mH tk3 a1)
 obtain ⟨p2,q2,e2,a2,g3⟩:=g2
 obtain ⟨x2,f2,k2⟩:=(mH tk3 a2)
 obtain ⟨p3,q3,e3,a3,g4⟩:=g3
 obtain ⟨x3,f3,k3⟩:=(mH tk3 a3)
 obtain ⟨p4,q4,e4,a4,g5⟩:=g4
 obtain ⟨x4,f4,k4⟩:=(mH tk3 a4)
 obtain ⟨p5,q5,e5,a5,g6⟩:=g5
 obtain ⟨x5,f5,k5⟩:=(mH tk3 a5)
 obtain ⟨p6,q6,e6,a6,g7⟩:=g6
 obtain ⟨x6,f6,k6⟩:=(mH tk3 a6)
 obtain ⟨p7,q7,e7,a7,g8⟩:=g7
 obtain ⟨x7,f7,k7⟩:=(wT zG a7)
 obtain ⟨p8,q8,e8,a8,g9⟩:=g8
 obtain ⟨x8,f8,k8⟩:=(wT zG a8)
 obtain ⟨p9,q9,e9,a9,g10⟩:=g9
 obtain ⟨x9,f9,k9⟩:=(aAS _ _ a9)
 obtain ⟨p10,q10,e10,a10,g11⟩:=g10
 obtain ⟨x10,f10,k10⟩:=(aBL _ _ a10)
 subst f0 f1 f2 f3 f4 f5 f6 f7 f8 f9 f10
 have g11:q10=[]:=g11
 subst g11
 subst e10
 subst e9
 subst e8
 subst e7
 subst e6
 subst e5
 subst e4
 subst e3
 subst e2
 subst e1
 subst e0
 exact ⟨⟨x0,x1,x2,x3,x4,x5,x6,x7,x8,x9,x10⟩,rfl,k0,k1,k2,k3,k4,k5,k6,k7,k8,k9,k10⟩
def iZ (x:bL):Prop:=sC x.Kind∧sC x.Seq∧okS x.Name∧okS x.Key∧sC x.N∧dF x.Data∧gO x.Opts
theorem aH4:∀ (n:Nat) (ps:List PV),jF Tryz.prog n 103 ps→∃ x,ps=dM x∧iZ x:=by
 intro n
 intro ps h
 obtain ⟨m,hm,g0⟩:=aHo aR1 h
 clear h
 obtain ⟨p0,q0,e0,a0,g1⟩:=g0
 obtain ⟨x0,f0,k0⟩:=(mH tk3 a0)
 obtain ⟨p1,q1,e1,a1,g2⟩:=g1
 obtain ⟨x1,f1,k1⟩:=(mH tk3 a1)
 obtain ⟨p2,q2,e2,a2,g3⟩:=g2
 obtain ⟨x2,f2,k2⟩:=(wT zG a2)
 obtain ⟨p3,q3,e3,a3,g4⟩:=g3
 obtain ⟨x3,f3,k3⟩:=(wT zG a3)
 obtain ⟨p4,q4,e4,a4,g5⟩:=g4
 obtain ⟨x4,f4,k4⟩:=(mH tk3 a4)
 obtain ⟨p5,q5,e5,a5,g6⟩:=g5
 obtain ⟨x5,f5,k5⟩:=(aAS _ _ a5)
 obtain ⟨p6,q6,e6,a6,g7⟩:=g6
 obtain ⟨x6,f6,k6⟩:=(aBL _ _ a6)
 subst f0 f1 f2 f3 f4 f5 f6
 have g7:q6=[]:=g7
 subst g7
 subst e6
 subst e5
 subst e4
 subst e3
 subst e2
 subst e1
 subst e0
 exact ⟨⟨x0,x1,x2,x3,x4,x5,x6⟩,rfl,k0,k1,k2,k3,k4,k5,k6⟩
def iO (x:bO):Prop:=sC x.Kind∧sC x.Time∧okS x.Workflow∧okS x.Run∧okS x.ID∧okS x.Name∧sC x.Token∧sC x.Event∧sC x.Seq∧sC x.N∧dF x.Data∧gO x.Opts∧aDa 240 iZ x.Commands∧okS x.Parent
theorem aDs:∀ (n:Nat) (ps:List PV),jF Tryz.prog n 57 ps→∃ x,ps=iT x∧iO x:=by
 intro n
 intro ps h
 obtain ⟨m,hm,g0⟩:=aHo aSI h
 clear h
 obtain ⟨p0,q0,e0,a0,g1⟩:=g0
 obtain ⟨x0,f0,k0⟩:=(mH tk3 a0)
 obtain ⟨p1,q1,e1,a1,g2⟩:=g1
 obtain ⟨x1,f1,k1⟩:=(mH tk3 a1)
 obtain ⟨p2,q2,e2,a2,g3⟩:=g2
 obtain ⟨x2,f2,k2⟩:=(wT zG a2)
 obtain ⟨p3,q3,e3,a3,g4⟩:=g3
 obtain ⟨x3,f3,k3⟩:=(wT zG a3)
 obtain ⟨p4,q4,e4,a4,g5⟩:=g4
 obtain ⟨x4,f4,k4⟩:=(wT zG a4)
 obtain ⟨p5,q5,e5,a5,g6⟩:=g5
 obtain ⟨x5,f5,k5⟩:=(wT zG a5)
 obtain ⟨p6,q6,e6,a6,g7⟩:=g6
 obtain ⟨x6,f6,k6⟩:=(mH tk3 a6)
 obtain ⟨p7,q7,e7,a7,g8⟩:=g7
 obtain ⟨x7,f7,k7⟩:=(mH tk3 a7)
 obtain ⟨p8,q8,e8,a8,g9⟩:=g8
 obtain ⟨x8,f8,k8⟩:=(mH tk3 a8)
 obtain ⟨p9,q9,e9,a9,g10⟩:=g9
 obtain ⟨x9,f9,k9⟩:=(mH tk3 a9)
 obtain ⟨p10,q10,e10,a10,g11⟩:=g10
 obtain ⟨x10,f10,k10⟩:=(aAS _ _ a10)
 obtain ⟨p11,q11,e11,a11,g12⟩:=g11
 obtain ⟨x11,f11,k11⟩:=(aBL _ _ a11)
 obtain ⟨p12,q12,e12,a12,g13⟩:=g12
 obtain ⟨x12,f12,k12⟩:=(aLf (row:=dM) (ok:=iZ) aSY aRW a12 (fun m55 hm55 qs h55=>(aH4 _ _ h55)))
 obtain ⟨p13,q13,e13,a13,g14⟩:=g13
 obtain ⟨x13,f13,k13⟩:=(wT zG a13)
 subst f0 f1 f2 f3 f4 f5 f6 f7 f8 f9 f10 f11 f12 f13
 have g14:q13=[]:=g14
 subst g14
 subst e13
 subst e12
 subst e11
 subst e10
 subst e9
 subst e8
 subst e7
 subst e6
 subst e5
 subst e4
 subst e3
 subst e2
 subst e1
 subst e0
 exact ⟨⟨x0,x1,x2,x3,x4,x5,x6,x7,x8,x9,x10,x11,x12,x13⟩,rfl,k0,k1,k2,k3,k4,k5,k6,k7,k8,k9,k10,k11,k12,k13⟩
def aBw (x:nX):Prop:=sC x.Err∧okS x.Run∧sC x.Token∧sC x.N∧dF x.Data∧aDa 272 aAl x.Events
theorem aFI:∀ (n:Nat) (ps:List PV),jF Tryz.prog n 66 ps→∃ x,ps=yH x∧aBw x:=by
 intro n
 intro ps h
 obtain ⟨m,hm,g0⟩:=aHo aSJ h
 clear h
 obtain ⟨p0,q0,e0,a0,g1⟩:=g0
 obtain ⟨x0,f0,k0⟩:=(mH aS4 a0)
 obtain ⟨p1,q1,e1,a1,g2⟩:=g1
 obtain ⟨x1,f1,k1⟩:=(wT zG a1)
 obtain ⟨p2,q2,e2,a2,g3⟩:=g2
 obtain ⟨x2,f2,k2⟩:=(mH tk3 a2)
 obtain ⟨p3,q3,e3,a3,g4⟩:=g3
 obtain ⟨x3,f3,k3⟩:=(mH tk3 a3)
 obtain ⟨p4,q4,e4,a4,g5⟩:=g4
 obtain ⟨x4,f4,k4⟩:=(aAS _ _ a4)
 obtain ⟨p5,q5,e5,a5,g6⟩:=g5
 obtain ⟨x5,f5,k5⟩:=(aLf (row:=jW) (ok:=aAl) aSX aSE a5 (fun m32 hm32 qs h32=>(aLe _ _ h32)))
 subst f0 f1 f2 f3 f4 f5
 have g6:q5=[]:=g6
 subst g6
 subst e5
 subst e4
 subst e3
 subst e2
 subst e1
 subst e0
 exact ⟨⟨x0,x1,x2,x3,x4,x5⟩,rfl,k0,k1,k2,k3,k4,k5⟩
def aG1 (x:aCc):Prop:=aBw x.E0∧aBw x.E1
theorem aNV:∀ (n:Nat) (ps:List PV),jF Tryz.prog n 67 ps→∃ x,ps=aIG x∧aG1 x:=by
 intro n
 intro ps h
 obtain ⟨m,hm,g0⟩:=aHo aSK h
 clear h
 obtain ⟨p0,q0,e0,a0,g1⟩:=g0
 obtain ⟨x0,f0,k0⟩:=(aFI _ _ a0)
 obtain ⟨p1,q1,e1,a1,g2⟩:=g1
 obtain ⟨x1,f1,k1⟩:=(aFI _ _ a1)
 subst f0 f1
 have g2:q1=[]:=g2
 subst g2
 subst e1
 subst e0
 exact ⟨⟨x0,x1⟩,rfl,k0,k1⟩

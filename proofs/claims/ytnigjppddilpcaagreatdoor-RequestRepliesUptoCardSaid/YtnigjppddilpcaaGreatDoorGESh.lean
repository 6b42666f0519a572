import Derived.Test.YtnigjppddilpcaaGreatDoorGETy
import Derived.Test.YtnigjppddilpcaaGreatDoorAbs29
namespace Go.Proofs.YtnigjppddilpcaaGreatDoor
open Go Abs
set_option maxRecDepth 100000
set_option linter.unusedVariables false
set_option linter.unusedSimpArgs false
mutual
def dX:aK→Prop
 | ⟨x0,x1,x2,x3,x4⟩=>uQ x0∧uQ x1∧okS x2∧(x3.length≤9223372036854775807∧x3.length*80≤140737488351232∧aBp x3)∧aEy 16 okS x4
def aBp:List aK→Prop
 | []=>True
 | x :: l=>dX x∧aBp l
end
theorem aD1:∀ l,aBp l↔∀ x∈l,dX x
 | []=>by simp [aBp]
 | x :: l=>by simp [aBp,aD1 l]
theorem gF (x:aK):dX x↔uQ x.Kind∧uQ x.Int∧okS x.Text∧aEy 80 dX x.Items∧aEy 16 okS x.Keys:=by
 cases x;simp only [dX,aEy,aD1]
theorem aIo:∀ (n:Nat) (ps:List PV),oB Tryz.prog n 26 ps→∃ x,ps=fA x∧dX x:=by
 intro n
 induction n using Nat.strongRecOn with
 | _ n ih =>
  intro ps h
  obtain ⟨m,hm,g0⟩:=aPW aV7 h
  clear h
  obtain ⟨p0,q0,e0,a0,g1⟩:=g0
  obtain ⟨x0,f0,k0⟩:=(uV tk3 a0)
  obtain ⟨p1,q1,e1,a1,g2⟩:=g1
  obtain ⟨x1,f1,k1⟩:=(uV tk3 a1)
  obtain ⟨p2,q2,e2,a2,g3⟩:=g2
  obtain ⟨x2,f2,k2⟩:=(aFV uD a2)
  obtain ⟨p3,q3,e3,a3,g4⟩:=g3
  obtain ⟨x3,f3,k3⟩:=(aPV (row:=bO) (ok:=dX) aWo aV3 a3 (fun m23 hm23 qs h23=>(by obtain ⟨y,hy,ky⟩:=(ih m23 (by omega) qs h23);exact ⟨y,by rw [hy,eA],ky⟩)))
  obtain ⟨p4,q4,e4,a4,g5⟩:=g4
  obtain ⟨x4,f4,k4⟩:=(aPV (row:=fZ) (ok:=okS) aVI by9 a4 (fun m24 hm24 qs h24=>(aFV uD h24)))
  subst f0 f1 f2 f3 f4
  have g5:q4=[]:=g5
  subst g5
  subst e4
  subst e3
  subst e2
  subst e1
  subst e0
  exact ⟨⟨x0,x1,x2,x3,x4⟩,rfl,(gF _).2 ⟨k0,k1,k2,k3,k4⟩⟩
def iL (x:dR):Prop:=okS x.Queue∧uQ x.ToStart∧uQ x.ToClose∧uQ x.Total∧uQ x.Beat∧uQ x.First∧uQ x.Coef∧uQ x.Most∧uQ x.Attempts∧aEy 16 okS x.Fatal
theorem aMm:∀ (n:Nat) (ps:List PV),oB Tryz.prog n 28 ps→∃ x,ps=lP x∧iL x:=by
 intro n
 intro ps h
 obtain ⟨m,hm,g0⟩:=aPW aV8 h
 clear h
 obtain ⟨p0,q0,e0,a0,g1⟩:=g0
 obtain ⟨x0,f0,k0⟩:=(aFV uD a0)
 obtain ⟨p1,q1,e1,a1,g2⟩:=g1
 obtain ⟨x1,f1,k1⟩:=(uV tk3 a1)
 obtain ⟨p2,q2,e2,a2,g3⟩:=g2
 obtain ⟨x2,f2,k2⟩:=(uV tk3 a2)
 obtain ⟨p3,q3,e3,a3,g4⟩:=g3
 obtain ⟨x3,f3,k3⟩:=(uV tk3 a3)
 obtain ⟨p4,q4,e4,a4,g5⟩:=g4
 obtain ⟨x4,f4,k4⟩:=(uV tk3 a4)
 obtain ⟨p5,q5,e5,a5,g6⟩:=g5
 obtain ⟨x5,f5,k5⟩:=(uV tk3 a5)
 obtain ⟨p6,q6,e6,a6,g7⟩:=g6
 obtain ⟨x6,f6,k6⟩:=(uV tk3 a6)
 obtain ⟨p7,q7,e7,a7,g8⟩:=g7
 obtain ⟨x7,f7,k7⟩:=(uV tk3 a7)
 obtain ⟨p8,q8,e8,a8,g9⟩:=g8
 obtain ⟨x8,f8,k8⟩:=(uV tk3 a8)
 obtain ⟨p9,q9,e9,a9,g10⟩:=g9
 obtain ⟨x9,f9,k9⟩:=(aPV (row:=fZ) (ok:=okS) aVI by9 a9 (fun m24 hm24 qs h24=>(aFV uD h24)))
 subst f0 f1 f2 f3 f4 f5 f6 f7 f8 f9
 have g10:q9=[]:=g10
 subst g10
 subst e9
 subst e8
 subst e7
 subst e6
 subst e5
 subst e4
 subst e3
 subst e2
 subst e1
 subst e0
 exact ⟨⟨x0,x1,x2,x3,x4,x5,x6,x7,x8,x9⟩,rfl,k0,k1,k2,k3,k4,k5,k6,k7,k8,k9⟩
def jU (x:dP):Prop:=uQ x.ID∧uQ x.Kind∧uQ x.Time∧uQ x.Seq∧uQ x.Ref∧uQ x.N∧uQ x.Code∧okS x.Name∧okS x.Key∧dX x.Data∧iL x.Opts
theorem aNV:∀ (n:Nat) (ps:List PV),oB Tryz.prog n 30 ps→∃ x,ps=eU x∧jU x:=by
 intro n
 intro ps h
 obtain ⟨m,hm,g0⟩:=aPW aV9 h
 clear h
 obtain ⟨p0,q0,e0,a0,g1⟩:=g0
 obtain ⟨x0,f0,k0⟩:=(uV tk3 a0)
 obtain ⟨p1,q1,e1,a1,g2⟩:=g1
 obtain ⟨x1,f1,k1⟩:=(uV tk3 a1)
 obtain ⟨p2,q2,e2,a2,g3⟩:=g2
 obtain ⟨x2,f2,k2⟩:=(uV tk3 a2)
 obtain ⟨p3,q3,e3,a3,g4⟩:=g3
 obtain ⟨x3,f3,k3⟩:=(uV tk3 a3)
 obtain ⟨p4,q4,e4,a4,g5⟩:=g4
 obtain ⟨x4,f4,k4⟩:=(uV tk3 a4)
 obtain ⟨p5,q5,e5,a5,g6⟩:=g5
 obtain ⟨x5,f5,k5⟩:=(uV tk3 a5)
 obtain ⟨p6,q6,e6,a6,g7⟩:=g6
 obtain ⟨x6,f6,k6⟩:=(uV tk3 a6)
 obtain ⟨p7,q7,e7,a7,g8⟩:=g7
 obtain ⟨x7,f7,k7⟩:=(aFV uD a7)
 obtain ⟨p8,q8,e8,a8,g9⟩:=g8
 obtain ⟨x8,f8,k8⟩:=(aFV uD a8)
 obtain ⟨p9,q9,e9,a9,g10⟩:=g9
 obtain ⟨x9,f9,k9⟩:=(aIo _ _ a9)
 obtain ⟨p10,q10,e10,a10,g11⟩:=g10
 obtain ⟨x10,f10,k10⟩:=(aMm _ _ a10)
 subst f0 f1 f2 f3 f4 f5 f6 f7 f8 f9 f10
 have g11:q10=[]:=g11
 subst g11
 subst e10
 subst e9
 subst e8
 subst e7
 subst e6
 subst e5
 subst e4
 subst e3
 subst e2
 subst e1
 subst e0
 exact ⟨⟨x0,x1,x2,x3,x4,x5,x6,x7,x8,x9,x10⟩,rfl,k0,k1,k2,k3,k4,k5,k6,k7,k8,k9,k10⟩
def mC (x:cK):Prop:=uQ x.Kind∧uQ x.Seq∧okS x.Name∧okS x.Key∧uQ x.N∧dX x.Data∧iL x.Opts
def nQ (x:cW):Prop:=uQ x.Kind∧uQ x.Time∧okS x.Workflow∧okS x.Run∧okS x.ID∧okS x.Name∧uQ x.Token∧uQ x.Event∧uQ x.Seq∧uQ x.N∧dX x.Data∧iL x.Opts∧aEy 240 mC x.Commands∧okS x.Parent
def vJ (x:iI):Prop:=uQ x.Err∧okS x.Run∧uQ x.Token∧uQ x.N∧dX x.Data∧aEy 272 jU x.Events
theorem aNW:∀ (n:Nat) (ps:List PV),oB Tryz.prog n 66 ps→∃ x,ps=lY x∧vJ x:=by
 intro n
 intro ps h
 obtain ⟨m,hm,g0⟩:=aPW aWa h
 clear h
 obtain ⟨p0,q0,e0,a0,g1⟩:=g0
 obtain ⟨x0,f0,k0⟩:=(uV aWy a0)
 obtain ⟨p1,q1,e1,a1,g2⟩:=g1
 obtain ⟨x1,f1,k1⟩:=(aFV uD a1)
 obtain ⟨p2,q2,e2,a2,g3⟩:=g2
 obtain ⟨x2,f2,k2⟩:=(uV tk3 a2)
 obtain ⟨p3,q3,e3,a3,g4⟩:=g3
 obtain ⟨x3,f3,k3⟩:=(uV tk3 a3)
 obtain ⟨p4,q4,e4,a4,g5⟩:=g4
 obtain ⟨x4,f4,k4⟩:=(aIo _ _ a4)
 obtain ⟨p5,q5,e5,a5,g6⟩:=g5
 obtain ⟨x5,f5,k5⟩:=(aPV (row:=eU) (ok:=jU) aWp aV4 a5 (fun m32 hm32 qs h32=>(aNV _ _ h32)))
 subst f0 f1 f2 f3 f4 f5
 have g6:q5=[]:=g6
 subst g6
 subst e5
 subst e4
 subst e3
 subst e2
 subst e1
 subst e0
 exact ⟨⟨x0,x1,x2,x3,x4,x5⟩,rfl,k0,k1,k2,k3,k4,k5⟩

import Derived.Test.YtmbdbdhdcbdcpaaGreatDoorGATy
import Derived.Test.YtmbdbdhdcbdcpaaGreatDoorAbs29
namespace Go.Proofs.YtmbdbdhdcbdcpaaGreatDoor
open Go Abs
set_option maxRecDepth 100000
set_option linter.unusedVariables false
set_option linter.unusedSimpArgs false
mutual
def okApiValue:ApiValue→Prop
 | ⟨x0,x1,x2,x3,x4⟩=>okI x0∧okI x1∧okS x2∧(x3.length≤9223372036854775807∧x3.length*80≤140737488351232∧oksApiValue x3)∧okLs 16 okS x4
def oksApiValue:List ApiValue→Prop
 | []=>True
 | x :: l=>okApiValue x∧oksApiValue l
end
theorem oksApiValue_iff:∀ l,oksApiValue l↔∀ x∈l,okApiValue x
 | []=>by simp [oksApiValue]
 | x :: l=>by simp [oksApiValue,oksApiValue_iff l]
theorem okApiValue_iff (x:ApiValue):okApiValue x↔okI x.Kind∧okI x.Int∧okS x.Text∧okLs 80 okApiValue x.Items∧okLs 16 okS x.Keys:=by
 cases x;simp only [okApiValue,okLs,oksApiValue_iff]
theorem sh_ApiValue:∀ (n:Nat) (ps:List PV),Shaped Tryz.prog n 41 ps→∃ x,ps=exApiValue x∧okApiValue x:=by
 intro n
 induction n using Nat.strongRecOn with
 | _ n ih =>
  intro ps h
  obtain ⟨m,hm,g0⟩:=sh_st fs41 h
  clear h
  obtain ⟨p0,q0,e0,a0,g1⟩:=g0
  obtain ⟨x0,f0,k0⟩:=(sh_i64 tk3 a0)
  obtain ⟨p1,q1,e1,a1,g2⟩:=g1
  obtain ⟨x1,f1,k1⟩:=(sh_i64 tk3 a1)
  obtain ⟨p2,q2,e2,a2,g3⟩:=g2
  obtain ⟨x2,f2,k2⟩:=(sh_str ti9 a2)
  obtain ⟨p3,q3,e3,a3,g4⟩:=g3
  obtain ⟨x3,f3,k3⟩:=(sh_sl (row:=rowApiValue) (ok:=okApiValue) sl38 by41 a3 (fun m38 hm38 qs h38=>(by obtain ⟨y,hy,ky⟩:=(ih m38 (by omega) qs h38);exact ⟨y,by rw [hy,rowApiValue_eq],ky⟩)))
  obtain ⟨p4,q4,e4,a4,g5⟩:=g4
  obtain ⟨x4,f4,k4⟩:=(sh_sl (row:=rowS) (ok:=okS) sl39 by9 a4 (fun m39 hm39 qs h39=>(sh_str ti9 h39)))
  subst f0 f1 f2 f3 f4
  have g5:q4=[]:=g5
  subst g5
  subst e4
  subst e3
  subst e2
  subst e1
  subst e0
  exact ⟨⟨x0,x1,x2,x3,x4⟩,rfl,(okApiValue_iff _).2 ⟨k0,k1,k2,k3,k4⟩⟩
def okApiPolicy (x:ApiPolicy):Prop:=okS x.Queue∧okI x.ToStart∧okI x.ToClose∧okI x.Total∧okI x.Beat∧okI x.First∧okI x.Coef∧okI x.Most∧okI x.Attempts∧okLs 16 okS x.Fatal
theorem sh_ApiPolicy:∀ (n:Nat) (ps:List PV),Shaped Tryz.prog n 43 ps→∃ x,ps=rowApiPolicy x∧okApiPolicy x:=by
 intro n
 intro ps h
 obtain ⟨m,hm,g0⟩:=sh_st fs43 h
 clear h
 obtain ⟨p0,q0,e0,a0,g1⟩:=g0
 obtain ⟨x0,f0,k0⟩:=(sh_str ti9 a0)
 obtain ⟨p1,q1,e1,a1,g2⟩:=g1
 obtain ⟨x1,f1,k1⟩:=(sh_i64 tk3 a1)
 obtain ⟨p2,q2,e2,a2,g3⟩:=g2
 obtain ⟨x2,f2,k2⟩:=(sh_i64 tk3 a2)
 obtain ⟨p3,q3,e3,a3,g4⟩:=g3
 obtain ⟨x3,f3,k3⟩:=(sh_i64 tk3 a3)
 obtain ⟨p4,q4,e4,a4,g5⟩:=g4
 obtain ⟨x4,f4,k4⟩:=(sh_i64 tk3 a4)
 obtain ⟨p5,q5,e5,a5,g6⟩:=g5
 obtain ⟨x5,f5,k5⟩:=(sh_i64 tk3 a5)
 obtain ⟨p6,q6,e6,a6,g7⟩:=g6
 obtain ⟨x6,f6,k6⟩:=(sh_i64 tk3 a6)
 obtain ⟨p7,q7,e7,a7,g8⟩:=g7
 obtain ⟨x7,f7,k7⟩:=(sh_i64 tk3 a7)
 obtain ⟨p8,q8,e8,a8,g9⟩:=g8
 obtain ⟨x8,f8,k8⟩:=(sh_i64 tk3 a8)
 obtain ⟨p9,q9,e9,a9,g10⟩:=g9
 obtain ⟨x9,f9,k9⟩:=(sh_sl (row:=rowS) (ok:=okS) sl39 by9 a9 (fun m39 hm39 qs h39=>(sh_str ti9 h39)))
 subst f0 f1 f2 f3 f4 f5 f6 f7 f8 f9
 have g10:q9=[]:=g10
 subst g10
 subst e9
 subst e8
 subst e7
 subst e6
 subst e5
 subst e4
 subst e3
 subst e2
 subst e1
 subst e0
 exact ⟨⟨x0,x1,x2,x3,x4,x5,x6,x7,x8,x9⟩,rfl,k0,k1,k2,k3,k4,k5,k6,k7,k8,k9⟩
def okApiEvent (x:ApiEvent):Prop:=okI x.ID∧okI x.Kind∧okI x.Time∧okI x.Seq∧okI x.Ref∧okI x.N∧okI x.Code∧okS x.Name∧okS x.Key∧okApiValue x.Data∧okApiPolicy x.Opts
theorem sh_ApiEvent:∀ (n:Nat) (ps:List PV),Shaped Tryz.prog n 45 ps→∃ x,ps=rowApiEvent x∧okApiEvent x:=by
 intro n
 intro ps h
 obtain ⟨m,hm,g0⟩:=sh_st fs45 h
 clear h
 obtain ⟨p0,q0,e0,a0,g1⟩:=g0
 obtain ⟨x0,f0,k0⟩:=(sh_i64 tk3 a0)
 obtain ⟨p1,q1,e1,a1,g2⟩:=g1
 obtain ⟨x1,f1,k1⟩:=(sh_i64 tk3 a1)
 obtain ⟨p2,q2,e2,a2,g3⟩:=g2
 obtain ⟨x2,f2,k2⟩:=(sh_i64 tk3 a2)
 obtain ⟨p3,q3,e3,a3,g4⟩:=g3
 obtain ⟨x3,f3,k3⟩:=(sh_i64 tk3 a3)
 obtain ⟨p4,q4,e4,a4,g5⟩:=g4
 obtain ⟨x4,f4,k4⟩:=(sh_i64 tk3 a4)
 obtain ⟨p5,q5,e5,a5,g6⟩:=g5
 obtain ⟨x5,f5,k5⟩:=(sh_i64 tk3 a5)
 obtain ⟨p6,q6,e6,a6,g7⟩:=g6
 obtain ⟨x6,f6,k6⟩:=(sh_i64 tk3 a6)
 obtain ⟨p7,q7,e7,a7,g8⟩:=g7
 obtain ⟨x7,f7,k7⟩:=(sh_str ti9 a7)
 obtain ⟨p8,q8,e8,a8,g9⟩:=g8
 obtain ⟨x8,f8,k8⟩:=(sh_str ti9 a8)
 obtain ⟨p9,q9,e9,a9,g10⟩:=g9
 obtain ⟨x9,f9,k9⟩:=(sh_ApiValue _ _ a9)
 obtain ⟨p10,q10,e10,a10,g11⟩:=g10
 obtain ⟨x10,f10,k10⟩:=(sh_ApiPolicy _ _ a10)
 subst f0 f1 f2 f3 f4 f5 f6 f7 f8 f9 f10
 have g11:q10=[]:=g11
 subst g11
 subst e10
 subst e9
 subst e8
 subst e7
 subst e6
 subst e5
 subst e4
 subst e3
 subst e2
 subst e1
 subst e0
 exact ⟨⟨x0,x1,x2,x3,x4,x5,x6,x7,x8,x9,x10⟩,rfl,k0,k1,k2,k3,k4,k5,k6,k7,k8,k9,k10⟩
def okApiCommand (x:ApiCommand):Prop:=okI x.Kind∧okI x.Seq∧okS x.Name∧okS x.Key∧okI x.N∧okApiValue x.Data∧okApiPolicy x.Opts
end Go.Proofs.YtmbdbdhdcbdcpaaGreatDoor

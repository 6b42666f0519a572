import Derived.Test.YtopijeegnhighaaDoorGATy
import Derived.Test.YtopijeegnhighaaDoorAbs29
namespace Go.Proofs.YtopijeegnhighaaDoor
open Go Abs
set_option maxRecDepth 100000
set_option linter.unusedVariables false
set_option linter.unusedSimpArgs false
mutual
def okApiValue : ApiValue → Prop
  | ⟨x0, x1, x2, x3, x4⟩ => okI x0 ∧ okI x1 ∧ okS x2 ∧ (x3.length ≤ 9223372036854775807 ∧ x3.length * 80 ≤ 140737488351232 ∧ oksApiValue x3) ∧ okLs 16 okS x4
def oksApiValue : List ApiValue → Prop
  | [] => True
  | x :: l => okApiValue x ∧ oksApiValue l
end
theorem oksApiValue_iff : ∀ l, oksApiValue l ↔ ∀ x ∈ l, okApiValue x
  | [] => by simp [oksApiValue]
  | x :: l => by simp [oksApiValue, oksApiValue_iff l]
theorem okApiValue_iff (x : ApiValue) : okApiValue x ↔ okI x.Kind ∧ okI x.Int ∧ okS x.Text ∧ okLs 80 okApiValue x.Items ∧ okLs 16 okS x.Keys := by
  cases x; simp only [okApiValue, okLs, oksApiValue_iff]
theorem sh_ApiValue : ∀ (n : Nat) (ps : List PV), Shaped Tryd.prog n 26 ps → ∃ x, ps = exApiValue x ∧ okApiValue x := by
  intro n
  induction n using Nat.strongRecOn with
  | _ n ih =>
    intro ps h
    obtain ⟨m, hm, g0⟩ := sh_st fs26 h
    clear h
    obtain ⟨p0, q0, e0, a0, g1⟩ := g0
    obtain ⟨x0, f0, k0⟩ := (sh_i64 tk3 a0)
    obtain ⟨p1, q1, e1, a1, g2⟩ := g1
    obtain ⟨x1, f1, k1⟩ := (sh_i64 tk3 a1)
    obtain ⟨p2, q2, e2, a2, g3⟩ := g2
    obtain ⟨x2, f2, k2⟩ := (sh_str ti9 a2)
    obtain ⟨p3, q3, e3, a3, g4⟩ := g3
    obtain ⟨x3, f3, k3⟩ := (sh_sl (row := rowApiValue) (ok := okApiValue) sl23 by26 a3 (fun m23 hm23 qs h23 => (by obtain ⟨y, hy, ky⟩ := (ih m23 (by omega) qs h23); exact ⟨y, by rw [hy, rowApiValue_eq], ky⟩)))
    obtain ⟨p4, q4, e4, a4, g5⟩ := g4
    obtain ⟨x4, f4, k4⟩ := (sh_sl (row := rowS) (ok := okS) sl24 by9 a4 (fun m24 hm24 qs h24 => (sh_str ti9 h24)))
    subst f0 f1 f2 f3 f4
    have g5 : q4 = [] := g5
    subst g5
    subst e4
    subst e3
    subst e2
    subst e1
    subst e0
    exact ⟨⟨x0, x1, x2, x3, x4⟩, rfl, (okApiValue_iff _).2 ⟨k0, k1, k2, k3, k4⟩⟩
def okApiPolicy (x : ApiPolicy) : Prop := okS x.Queue ∧ okI x.ToStart ∧ okI x.ToClose ∧ okI x.Total ∧ okI x.Beat ∧ okI x.First ∧ okI x.Coef ∧ okI x.Most ∧ okI x.Attempts ∧ okLs 16 okS x.Fatal
theorem sh_ApiPolicy : ∀ (n : Nat) (ps : List PV), Shaped Tryd.prog n 41 ps → ∃ x, ps = rowApiPolicy x ∧ okApiPolicy x := by
  intro n
  intro ps h
  obtain ⟨m, hm, g0⟩ := sh_st fs41 h
  clear h
  obtain ⟨p0, q0, e0, a0, g1⟩ := g0
  obtain ⟨x0, f0, k0⟩ := (sh_str ti9 a0)
  obtain ⟨p1, q1, e1, a1, g2⟩ := g1
  obtain ⟨x1, f1, k1⟩ := (sh_i64 tk3 a1)
  obtain ⟨p2, q2, e2, a2, g3⟩ := g2
  obtain ⟨x2, f2, k2⟩ := (sh_i64 tk3 a2)
  obtain ⟨p3, q3, e3, a3, g4⟩ := g3
  obtain ⟨x3, f3, k3⟩ := (sh_i64 tk3 a3)
  obtain ⟨p4, q4, e4, a4, g5⟩ := g4
  obtain ⟨x4, f4, k4⟩ := (sh_i64 tk3 a4)
  obtain ⟨p5, q5, e5, a5, g6⟩ := g5
  obtain ⟨x5, f5, k5⟩ := (sh_i64 tk3 a5)
  obtain ⟨p6, q6, e6, a6, g7⟩ := g6
  obtain ⟨x6, f6, k6⟩ := (sh_i64 tk3 a6)
  obtain ⟨p7, q7, e7, a7, g8⟩ := g7
  obtain ⟨x7, f7, k7⟩ := (sh_i64 tk3 a7)
  obtain ⟨p8, q8, e8, a8, g9⟩ := g8
  obtain ⟨x8, f8, k8⟩ := (sh_i64 tk3 a8)
  obtain ⟨p9, q9, e9, a9, g10⟩ := g9
  obtain ⟨x9, f9, k9⟩ := (sh_sl (row := rowS) (ok := okS) sl24 by9 a9 (fun m24 hm24 qs h24 => (sh_str ti9 h24)))
  subst f0 f1 f2 f3 f4 f5 f6 f7 f8 f9
  have g10 : q9 = [] := g10
  subst g10
  subst e9
  subst e8
  subst e7
  subst e6
  subst e5
  subst e4
  subst e3
  subst e2
  subst e1
  subst e0
  exact ⟨⟨x0, x1, x2, x3, x4, x5, x6, x7, x8, x9⟩, rfl, k0, k1, k2, k3, k4, k5, k6, k7, k8, k9⟩
def okApiEvent (x : ApiEvent) : Prop := okI x.ID ∧ okI x.Kind ∧ okI x.Time ∧ okI x.Seq ∧ okI x.Ref ∧ okI x.N ∧ okI x.Code ∧ okS x.Name ∧ okS x.Key ∧ okApiValue x.Data ∧ okApiPolicy x.Opts
theorem sh_ApiEvent : ∀ (n : Nat) (ps : List PV), Shaped Tryd.prog n 80 ps → ∃ x, ps = rowApiEvent x ∧ okApiEvent x := by
  intro n
  intro ps h
  obtain ⟨m, hm, g0⟩ := sh_st fs80 h
  clear h
  obtain ⟨p0, q0, e0, a0, g1⟩ := g0
  obtain ⟨x0, f0, k0⟩ := (sh_i64 tk3 a0)
  obtain ⟨p1, q1, e1, a1, g2⟩ := g1
  obtain ⟨x1, f1, k1⟩ := (sh_i64 tk3 a1)
  obtain ⟨p2, q2, e2, a2, g3⟩ := g2
  obtain ⟨x2, f2, k2⟩ := (sh_i64 tk3 a2)
  obtain ⟨p3, q3, e3, a3, g4⟩ := g3
  obtain ⟨x3, f3, k3⟩ := (sh_i64 tk3 a3)
  obtain ⟨p4, q4, e4, a4, g5⟩ := g4
  obtain ⟨x4, f4, k4⟩ := (sh_i64 tk3 a4)
  obtain ⟨p5, q5, e5, a5, g6⟩ := g5
  obtain ⟨x5, f5, k5⟩ := (sh_i64 tk3 a5)
  obtain ⟨p6, q6, e6, a6, g7⟩ := g6
  obtain ⟨x6, f6, k6⟩ := (sh_i64 tk3 a6)
  obtain ⟨p7, q7, e7, a7, g8⟩ := g7
  obtain ⟨x7, f7, k7⟩ := (sh_str ti9 a7)
  obtain ⟨p8, q8, e8, a8, g9⟩ := g8
  obtain ⟨x8, f8, k8⟩ := (sh_str ti9 a8)
  obtain ⟨p9, q9, e9, a9, g10⟩ := g9
  obtain ⟨x9, f9, k9⟩ := (sh_ApiValue _ _ a9)
  obtain ⟨p10, q10, e10, a10, g11⟩ := g10
  obtain ⟨x10, f10, k10⟩ := (sh_ApiPolicy _ _ a10)
  subst f0 f1 f2 f3 f4 f5 f6 f7 f8 f9 f10
  have g11 : q10 = [] := g11
  subst g11
  subst e10
  subst e9
  subst e8
  subst e7
  subst e6
  subst e5
  subst e4
  subst e3
  subst e2
  subst e1
  subst e0
  exact ⟨⟨x0, x1, x2, x3, x4, x5, x6, x7, x8, x9, x10⟩, rfl, k0, k1, k2, k3, k4, k5, k6, k7, k8, k9, k10⟩
def okApiAct (x : ApiAct) : Prop := okI x.Seq ∧ okI x.Event ∧ okS x.Name ∧ okApiValue x.Data ∧ okApiPolicy x.Opts ∧ okI x.State ∧ okI x.Attempt ∧ okI x.Scheduled ∧ okI x.Due ∧ okI x.Started ∧ okI x.LastBeat ∧ okI x.Token ∧ True ∧ okApiValue x.Details ∧ okS x.Failure
theorem sh_ApiAct : ∀ (n : Nat) (ps : List PV), Shaped Tryd.prog n 183 ps → ∃ x, ps = rowApiAct x ∧ okApiAct x := by
  intro n
  intro ps h
  obtain ⟨m, hm, g0⟩ := sh_st fs183 h
  clear h
  obtain ⟨p0, q0, e0, a0, g1⟩ := g0
  obtain ⟨x0, f0, k0⟩ := (sh_i64 tk3 a0)
  obtain ⟨p1, q1, e1, a1, g2⟩ := g1
  obtain ⟨x1, f1, k1⟩ := (sh_i64 tk3 a1)
  obtain ⟨p2, q2, e2, a2, g3⟩ := g2
  obtain ⟨x2, f2, k2⟩ := (sh_str ti9 a2)
  obtain ⟨p3, q3, e3, a3, g4⟩ := g3
  obtain ⟨x3, f3, k3⟩ := (sh_ApiValue _ _ a3)
  obtain ⟨p4, q4, e4, a4, g5⟩ := g4
  obtain ⟨x4, f4, k4⟩ := (sh_ApiPolicy _ _ a4)
  obtain ⟨p5, q5, e5, a5, g6⟩ := g5
  obtain ⟨x5, f5, k5⟩ := (sh_i64 tk3 a5)
  obtain ⟨p6, q6, e6, a6, g7⟩ := g6
  obtain ⟨x6, f6, k6⟩ := (sh_i64 tk3 a6)
  obtain ⟨p7, q7, e7, a7, g8⟩ := g7
  obtain ⟨x7, f7, k7⟩ := (sh_i64 tk3 a7)
  obtain ⟨p8, q8, e8, a8, g9⟩ := g8
  obtain ⟨x8, f8, k8⟩ := (sh_i64 tk3 a8)
  obtain ⟨p9, q9, e9, a9, g10⟩ := g9
  obtain ⟨x9, f9, k9⟩ := (sh_i64 tk3 a9)
  obtain ⟨p10, q10, e10, a10, g11⟩ := g10
  obtain ⟨x10, f10, k10⟩ := (sh_i64 tk3 a10)
  obtain ⟨p11, q11, e11, a11, g12⟩ := g11
  obtain ⟨x11, f11, k11⟩ := (sh_i64 tk3 a11)
  obtain ⟨p12, q12, e12, a12, g13⟩ := g12
  obtain ⟨x12, f12, k12⟩ := (sh_bool ti4 a12)
  obtain ⟨p13, q13, e13, a13, g14⟩ := g13
  obtain ⟨x13, f13, k13⟩ := (sh_ApiValue _ _ a13)
  obtain ⟨p14, q14, e14, a14, g15⟩ := g14
  obtain ⟨x14, f14, k14⟩ := (sh_str ti9 a14)
  subst f0 f1 f2 f3 f4 f5 f6 f7 f8 f9 f10 f11 f12 f13 f14
  have g15 : q14 = [] := g15
  subst g15
  subst e14
  subst e13
  subst e12
  subst e11
  subst e10
  subst e9
  subst e8
  subst e7
  subst e6
  subst e5
  subst e4
  subst e3
  subst e2
  subst e1
  subst e0
  exact ⟨⟨x0, x1, x2, x3, x4, x5, x6, x7, x8, x9, x10, x11, x12, x13, x14⟩, rfl, k0, k1, k2, k3, k4, k5, k6, k7, k8, k9, k10, k11, k12, k13, k14⟩
def okApiTimer (x : ApiTimer) : Prop := okI x.Seq ∧ okI x.Event ∧ okI x.Due
theorem sh_ApiTimer : ∀ (n : Nat) (ps : List PV), Shaped Tryd.prog n 185 ps → ∃ x, ps = rowApiTimer x ∧ okApiTimer x := by
  intro n
  intro ps h
  obtain ⟨m, hm, g0⟩ := sh_st fs185 h
  clear h
  obtain ⟨p0, q0, e0, a0, g1⟩ := g0
  obtain ⟨x0, f0, k0⟩ := (sh_i64 tk3 a0)
  obtain ⟨p1, q1, e1, a1, g2⟩ := g1
  obtain ⟨x1, f1, k1⟩ := (sh_i64 tk3 a1)
  obtain ⟨p2, q2, e2, a2, g3⟩ := g2
  obtain ⟨x2, f2, k2⟩ := (sh_i64 tk3 a2)
  subst f0 f1 f2
  have g3 : q2 = [] := g3
  subst g3
  subst e2
  subst e1
  subst e0
  exact ⟨⟨x0, x1, x2⟩, rfl, k0, k1, k2⟩
def okApiKid (x : ApiKid) : Prop := okI x.Seq ∧ okI x.Event ∧ okS x.Key ∧ okS x.Name ∧ okI x.Policy ∧ okS x.Run
theorem sh_ApiKid : ∀ (n : Nat) (ps : List PV), Shaped Tryd.prog n 87 ps → ∃ x, ps = rowApiKid x ∧ okApiKid x := by
  intro n
  intro ps h
  obtain ⟨m, hm, g0⟩ := sh_st fs87 h
  clear h
  obtain ⟨p0, q0, e0, a0, g1⟩ := g0
  obtain ⟨x0, f0, k0⟩ := (sh_i64 tk3 a0)
  obtain ⟨p1, q1, e1, a1, g2⟩ := g1
  obtain ⟨x1, f1, k1⟩ := (sh_i64 tk3 a1)
  obtain ⟨p2, q2, e2, a2, g3⟩ := g2
  obtain ⟨x2, f2, k2⟩ := (sh_str ti9 a2)
  obtain ⟨p3, q3, e3, a3, g4⟩ := g3
  obtain ⟨x3, f3, k3⟩ := (sh_str ti9 a3)
  obtain ⟨p4, q4, e4, a4, g5⟩ := g4
  obtain ⟨x4, f4, k4⟩ := (sh_i64 tk3 a4)
  obtain ⟨p5, q5, e5, a5, g6⟩ := g5
  obtain ⟨x5, f5, k5⟩ := (sh_str ti9 a5)
  subst f0 f1 f2 f3 f4 f5
  have g6 : q5 = [] := g6
  subst g6
  subst e5
  subst e4
  subst e3
  subst e2
  subst e1
  subst e0
  exact ⟨⟨x0, x1, x2, x3, x4, x5⟩, rfl, k0, k1, k2, k3, k4, k5⟩
def okApiSend (x : ApiSend) : Prop := okI x.Seq ∧ okI x.Event ∧ okS x.Key ∧ okS x.Name
theorem sh_ApiSend : ∀ (n : Nat) (ps : List PV), Shaped Tryd.prog n 91 ps → ∃ x, ps = rowApiSend x ∧ okApiSend x := by
  intro n
  intro ps h
  obtain ⟨m, hm, g0⟩ := sh_st fs91 h
  clear h
  obtain ⟨p0, q0, e0, a0, g1⟩ := g0
  obtain ⟨x0, f0, k0⟩ := (sh_i64 tk3 a0)
  obtain ⟨p1, q1, e1, a1, g2⟩ := g1
  obtain ⟨x1, f1, k1⟩ := (sh_i64 tk3 a1)
  obtain ⟨p2, q2, e2, a2, g3⟩ := g2
  obtain ⟨x2, f2, k2⟩ := (sh_str ti9 a2)
  obtain ⟨p3, q3, e3, a3, g4⟩ := g3
  obtain ⟨x3, f3, k3⟩ := (sh_str ti9 a3)
  subst f0 f1 f2 f3
  have g4 : q3 = [] := g4
  subst g4
  subst e3
  subst e2
  subst e1
  subst e0
  exact ⟨⟨x0, x1, x2, x3⟩, rfl, k0, k1, k2, k3⟩
def okApiUpd (x : ApiUpd) : Prop := okS x.Key ∧ True
theorem sh_ApiUpd : ∀ (n : Nat) (ps : List PV), Shaped Tryd.prog n 187 ps → ∃ x, ps = rowApiUpd x ∧ okApiUpd x := by
  intro n
  intro ps h
  obtain ⟨m, hm, g0⟩ := sh_st fs187 h
  clear h
  obtain ⟨p0, q0, e0, a0, g1⟩ := g0
  obtain ⟨x0, f0, k0⟩ := (sh_str ti9 a0)
  obtain ⟨p1, q1, e1, a1, g2⟩ := g1
  obtain ⟨x1, f1, k1⟩ := (sh_bool ti4 a1)
  subst f0 f1
  have g2 : q1 = [] := g2
  subst g2
  subst e1
  subst e0
  exact ⟨⟨x0, x1⟩, rfl, k0, k1⟩
def okApiPending (x : ApiPending) : Prop := okI x.Next ∧ okI x.Status ∧ okI x.Task ∧ okI x.TaskID ∧ okI x.Attempt ∧ okI x.Seq ∧ okS x.Name ∧ okApiValue x.Input ∧ okApiValue x.Attrs ∧ True ∧ okLs 376 okApiAct x.Acts ∧ okLs 24 okApiTimer x.Timers ∧ okLs 72 okApiKid x.Kids ∧ okLs 48 okApiSend x.Sends ∧ okLs 24 okApiUpd x.Updates ∧ okLs 16 okS x.Requests
theorem sh_ApiPending : ∀ (n : Nat) (ps : List PV), Shaped Tryd.prog n 33 ps → ∃ x, ps = rowApiPending x ∧ okApiPending x := by
  intro n
  intro ps h
  obtain ⟨m, hm, g0⟩ := sh_st fs33 h
  clear h
  obtain ⟨p0, q0, e0, a0, g1⟩ := g0
  obtain ⟨x0, f0, k0⟩ := (sh_i64 tk3 a0)
  obtain ⟨p1, q1, e1, a1, g2⟩ := g1
  obtain ⟨x1, f1, k1⟩ := (sh_i64 tk3 a1)
  obtain ⟨p2, q2, e2, a2, g3⟩ := g2
  obtain ⟨x2, f2, k2⟩ := (sh_i64 tk3 a2)
  obtain ⟨p3, q3, e3, a3, g4⟩ := g3
  obtain ⟨x3, f3, k3⟩ := (sh_i64 tk3 a3)
  obtain ⟨p4, q4, e4, a4, g5⟩ := g4
  obtain ⟨x4, f4, k4⟩ := (sh_i64 tk3 a4)
  obtain ⟨p5, q5, e5, a5, g6⟩ := g5
  obtain ⟨x5, f5, k5⟩ := (sh_i64 tk3 a5)
  obtain ⟨p6, q6, e6, a6, g7⟩ := g6
  obtain ⟨x6, f6, k6⟩ := (sh_str ti9 a6)
  obtain ⟨p7, q7, e7, a7, g8⟩ := g7
  obtain ⟨x7, f7, k7⟩ := (sh_ApiValue _ _ a7)
  obtain ⟨p8, q8, e8, a8, g9⟩ := g8
  obtain ⟨x8, f8, k8⟩ := (sh_ApiValue _ _ a8)
  obtain ⟨p9, q9, e9, a9, g10⟩ := g9
  obtain ⟨x9, f9, k9⟩ := (sh_bool ti4 a9)
  obtain ⟨p10, q10, e10, a10, g11⟩ := g10
  obtain ⟨x10, f10, k10⟩ := (sh_sl (row := rowApiAct) (ok := okApiAct) sl27 by183 a10 (fun m27 hm27 qs h27 => (sh_ApiAct _ _ h27)))
  obtain ⟨p11, q11, e11, a11, g12⟩ := g11
  obtain ⟨x11, f11, k11⟩ := (sh_sl (row := rowApiTimer) (ok := okApiTimer) sl28 by185 a11 (fun m28 hm28 qs h28 => (sh_ApiTimer _ _ h28)))
  obtain ⟨p12, q12, e12, a12, g13⟩ := g12
  obtain ⟨x12, f12, k12⟩ := (sh_sl (row := rowApiKid) (ok := okApiKid) sl29 by87 a12 (fun m29 hm29 qs h29 => (sh_ApiKid _ _ h29)))
  obtain ⟨p13, q13, e13, a13, g14⟩ := g13
  obtain ⟨x13, f13, k13⟩ := (sh_sl (row := rowApiSend) (ok := okApiSend) sl30 by91 a13 (fun m30 hm30 qs h30 => (sh_ApiSend _ _ h30)))
  obtain ⟨p14, q14, e14, a14, g15⟩ := g14
  obtain ⟨x14, f14, k14⟩ := (sh_sl (row := rowApiUpd) (ok := okApiUpd) sl31 by187 a14 (fun m31 hm31 qs h31 => (sh_ApiUpd _ _ h31)))
  obtain ⟨p15, q15, e15, a15, g16⟩ := g15
  obtain ⟨x15, f15, k15⟩ := (sh_sl (row := rowS) (ok := okS) sl24 by9 a15 (fun m24 hm24 qs h24 => (sh_str ti9 h24)))
  subst f0 f1 f2 f3 f4 f5 f6 f7 f8 f9 f10 f11 f12 f13 f14 f15
  have g16 : q15 = [] := g16
  subst g16
  subst e15
  subst e14
  subst e13
  subst e12
  subst e11
  subst e10
  subst e9
  subst e8
  subst e7
  subst e6
  subst e5
  subst e4
  subst e3
  subst e2
  subst e1
  subst e0
  exact ⟨⟨x0, x1, x2, x3, x4, x5, x6, x7, x8, x9, x10, x11, x12, x13, x14, x15⟩, rfl, k0, k1, k2, k3, k4, k5, k6, k7, k8, k9, k10, k11, k12, k13, k14, k15⟩
def okApiAdmit (x : ApiAdmit) : Prop := okS x.Key ∧ okS x.Name ∧ okApiValue x.Data
theorem sh_ApiAdmit : ∀ (n : Nat) (ps : List PV), Shaped Tryd.prog n 189 ps → ∃ x, ps = rowApiAdmit x ∧ okApiAdmit x := by
  intro n
  intro ps h
  obtain ⟨m, hm, g0⟩ := sh_st fs189 h
  clear h
  obtain ⟨p0, q0, e0, a0, g1⟩ := g0
  obtain ⟨x0, f0, k0⟩ := (sh_str ti9 a0)
  obtain ⟨p1, q1, e1, a1, g2⟩ := g1
  obtain ⟨x1, f1, k1⟩ := (sh_str ti9 a1)
  obtain ⟨p2, q2, e2, a2, g3⟩ := g2
  obtain ⟨x2, f2, k2⟩ := (sh_ApiValue _ _ a2)
  subst f0 f1 f2
  have g3 : q2 = [] := g3
  subst g3
  subst e2
  subst e1
  subst e0
  exact ⟨⟨x0, x1, x2⟩, rfl, k0, k1, k2⟩
def okApiTask (x : ApiTask) : Prop := okI x.ID ∧ okI x.Kind ∧ okI x.Event ∧ okI x.Seq ∧ okI x.Due ∧ okI x.Attempt ∧ okS x.Workflow ∧ okS x.Run ∧ okS x.Queue
theorem sh_ApiTask : ∀ (n : Nat) (ps : List PV), Shaped Tryd.prog n 52 ps → ∃ x, ps = rowApiTask x ∧ okApiTask x := by
  intro n
  intro ps h
  obtain ⟨m, hm, g0⟩ := sh_st fs52 h
  clear h
  obtain ⟨p0, q0, e0, a0, g1⟩ := g0
  obtain ⟨x0, f0, k0⟩ := (sh_i64 tk3 a0)
  obtain ⟨p1, q1, e1, a1, g2⟩ := g1
  obtain ⟨x1, f1, k1⟩ := (sh_i64 tk3 a1)
  obtain ⟨p2, q2, e2, a2, g3⟩ := g2
  obtain ⟨x2, f2, k2⟩ := (sh_i64 tk3 a2)
  obtain ⟨p3, q3, e3, a3, g4⟩ := g3
  obtain ⟨x3, f3, k3⟩ := (sh_i64 tk3 a3)
  obtain ⟨p4, q4, e4, a4, g5⟩ := g4
  obtain ⟨x4, f4, k4⟩ := (sh_i64 tk3 a4)
  obtain ⟨p5, q5, e5, a5, g6⟩ := g5
  obtain ⟨x5, f5, k5⟩ := (sh_i64 tk3 a5)
  obtain ⟨p6, q6, e6, a6, g7⟩ := g6
  obtain ⟨x6, f6, k6⟩ := (sh_str ti9 a6)
  obtain ⟨p7, q7, e7, a7, g8⟩ := g7
  obtain ⟨x7, f7, k7⟩ := (sh_str ti9 a7)
  obtain ⟨p8, q8, e8, a8, g9⟩ := g8
  obtain ⟨x8, f8, k8⟩ := (sh_str ti9 a8)
  subst f0 f1 f2 f3 f4 f5 f6 f7 f8
  have g9 : q8 = [] := g9
  subst g9
  subst e8
  subst e7
  subst e6
  subst e5
  subst e4
  subst e3
  subst e2
  subst e1
  subst e0
  exact ⟨⟨x0, x1, x2, x3, x4, x5, x6, x7, x8⟩, rfl, k0, k1, k2, k3, k4, k5, k6, k7, k8⟩
def okApiRun (x : ApiRun) : Prop := okS x.Workflow ∧ okS x.ID ∧ okS x.Parent ∧ okI x.ParentSeq ∧ okLs 272 okApiEvent x.History ∧ okApiPending x.Pending ∧ okLs 272 okApiEvent x.Buffer ∧ okLs 112 okApiAdmit x.Admits ∧ okLs 96 okApiTask x.Tasks ∧ okI x.NextTask ∧ okI x.Version
theorem sh_ApiRun : ∀ (n : Nat) (ps : List PV), Shaped Tryd.prog n 37 ps → ∃ x, ps = rowApiRun x ∧ okApiRun x := by
  intro n
  intro ps h
  obtain ⟨m, hm, g0⟩ := sh_st fs37 h
  clear h
  obtain ⟨p0, q0, e0, a0, g1⟩ := g0
  obtain ⟨x0, f0, k0⟩ := (sh_str ti9 a0)
  obtain ⟨p1, q1, e1, a1, g2⟩ := g1
  obtain ⟨x1, f1, k1⟩ := (sh_str ti9 a1)
  obtain ⟨p2, q2, e2, a2, g3⟩ := g2
  obtain ⟨x2, f2, k2⟩ := (sh_str ti9 a2)
  obtain ⟨p3, q3, e3, a3, g4⟩ := g3
  obtain ⟨x3, f3, k3⟩ := (sh_i64 tk3 a3)
  obtain ⟨p4, q4, e4, a4, g5⟩ := g4
  obtain ⟨x4, f4, k4⟩ := (sh_sl (row := rowApiEvent) (ok := okApiEvent) sl22 by80 a4 (fun m22 hm22 qs h22 => (sh_ApiEvent _ _ h22)))
  obtain ⟨p5, q5, e5, a5, g6⟩ := g5
  obtain ⟨x5, f5, k5⟩ := (sh_ApiPending _ _ a5)
  obtain ⟨p6, q6, e6, a6, g7⟩ := g6
  obtain ⟨x6, f6, k6⟩ := (sh_sl (row := rowApiEvent) (ok := okApiEvent) sl22 by80 a6 (fun m22 hm22 qs h22 => (sh_ApiEvent _ _ h22)))
  obtain ⟨p7, q7, e7, a7, g8⟩ := g7
  obtain ⟨x7, f7, k7⟩ := (sh_sl (row := rowApiAdmit) (ok := okApiAdmit) sl34 by189 a7 (fun m34 hm34 qs h34 => (sh_ApiAdmit _ _ h34)))
  obtain ⟨p8, q8, e8, a8, g9⟩ := g8
  obtain ⟨x8, f8, k8⟩ := (sh_sl (row := rowApiTask) (ok := okApiTask) sl35 by52 a8 (fun m35 hm35 qs h35 => (sh_ApiTask _ _ h35)))
  obtain ⟨p9, q9, e9, a9, g10⟩ := g9
  obtain ⟨x9, f9, k9⟩ := (sh_i64 tk3 a9)
  obtain ⟨p10, q10, e10, a10, g11⟩ := g10
  obtain ⟨x10, f10, k10⟩ := (sh_i64 tk3 a10)
  subst f0 f1 f2 f3 f4 f5 f6 f7 f8 f9 f10
  have g11 : q10 = [] := g11
  subst g11
  subst e10
  subst e9
  subst e8
  subst e7
  subst e6
  subst e5
  subst e4
  subst e3
  subst e2
  subst e1
  subst e0
  exact ⟨⟨x0, x1, x2, x3, x4, x5, x6, x7, x8, x9, x10⟩, rfl, k0, k1, k2, k3, k4, k5, k6, k7, k8, k9, k10⟩
def okApiReply (x : ApiReply) : Prop := okI x.Err ∧ okS x.Run ∧ okI x.Token ∧ okI x.N ∧ okApiValue x.Data ∧ okLs 272 okApiEvent x.Events
theorem sh_ApiReply : ∀ (n : Nat) (ps : List PV), Shaped Tryd.prog n 55 ps → ∃ x, ps = rowApiReply x ∧ okApiReply x := by
  intro n
  intro ps h
  obtain ⟨m, hm, g0⟩ := sh_st fs55 h
  clear h
  obtain ⟨p0, q0, e0, a0, g1⟩ := g0
  obtain ⟨x0, f0, k0⟩ := (sh_i64 tk53 a0)
  obtain ⟨p1, q1, e1, a1, g2⟩ := g1
  obtain ⟨x1, f1, k1⟩ := (sh_str ti9 a1)
  obtain ⟨p2, q2, e2, a2, g3⟩ := g2
  obtain ⟨x2, f2, k2⟩ := (sh_i64 tk3 a2)
  obtain ⟨p3, q3, e3, a3, g4⟩ := g3
  obtain ⟨x3, f3, k3⟩ := (sh_i64 tk3 a3)
  obtain ⟨p4, q4, e4, a4, g5⟩ := g4
  obtain ⟨x4, f4, k4⟩ := (sh_ApiValue _ _ a4)
  obtain ⟨p5, q5, e5, a5, g6⟩ := g5
  obtain ⟨x5, f5, k5⟩ := (sh_sl (row := rowApiEvent) (ok := okApiEvent) sl22 by80 a5 (fun m22 hm22 qs h22 => (sh_ApiEvent _ _ h22)))
  subst f0 f1 f2 f3 f4 f5
  have g6 : q5 = [] := g6
  subst g6
  subst e5
  subst e4
  subst e3
  subst e2
  subst e1
  subst e0
  exact ⟨⟨x0, x1, x2, x3, x4, x5⟩, rfl, k0, k1, k2, k3, k4, k5⟩
def okApiCommand (x : ApiCommand) : Prop := okI x.Kind ∧ okI x.Seq ∧ okS x.Name ∧ okS x.Key ∧ okI x.N ∧ okApiValue x.Data ∧ okApiPolicy x.Opts
theorem sh_ApiCommand : ∀ (n : Nat) (ps : List PV), Shaped Tryd.prog n 191 ps → ∃ x, ps = rowApiCommand x ∧ okApiCommand x := by
  intro n
  intro ps h
  obtain ⟨m, hm, g0⟩ := sh_st fs191 h
  clear h
  obtain ⟨p0, q0, e0, a0, g1⟩ := g0
  obtain ⟨x0, f0, k0⟩ := (sh_i64 tk3 a0)
  obtain ⟨p1, q1, e1, a1, g2⟩ := g1
  obtain ⟨x1, f1, k1⟩ := (sh_i64 tk3 a1)
  obtain ⟨p2, q2, e2, a2, g3⟩ := g2
  obtain ⟨x2, f2, k2⟩ := (sh_str ti9 a2)
  obtain ⟨p3, q3, e3, a3, g4⟩ := g3
  obtain ⟨x3, f3, k3⟩ := (sh_str ti9 a3)
  obtain ⟨p4, q4, e4, a4, g5⟩ := g4
  obtain ⟨x4, f4, k4⟩ := (sh_i64 tk3 a4)
  obtain ⟨p5, q5, e5, a5, g6⟩ := g5
  obtain ⟨x5, f5, k5⟩ := (sh_ApiValue _ _ a5)
  obtain ⟨p6, q6, e6, a6, g7⟩ := g6
  obtain ⟨x6, f6, k6⟩ := (sh_ApiPolicy _ _ a6)
  subst f0 f1 f2 f3 f4 f5 f6
  have g7 : q6 = [] := g7
  subst g7
  subst e6
  subst e5
  subst e4
  subst e3
  subst e2
  subst e1
  subst e0
  exact ⟨⟨x0, x1, x2, x3, x4, x5, x6⟩, rfl, k0, k1, k2, k3, k4, k5, k6⟩
def okApiRequest (x : ApiRequest) : Prop := okI x.Kind ∧ okI x.Time ∧ okS x.Workflow ∧ okS x.Run ∧ okS x.ID ∧ okS x.Name ∧ okI x.Token ∧ okI x.Event ∧ okI x.Seq ∧ okI x.N ∧ okApiValue x.Data ∧ okApiPolicy x.Opts ∧ okLs 240 okApiCommand x.Commands ∧ okS x.Parent
theorem sh_ApiRequest : ∀ (n : Nat) (ps : List PV), Shaped Tryd.prog n 44 ps → ∃ x, ps = rowApiRequest x ∧ okApiRequest x := by
  intro n
  intro ps h
  obtain ⟨m, hm, g0⟩ := sh_st fs44 h
  clear h
  obtain ⟨p0, q0, e0, a0, g1⟩ := g0
  obtain ⟨x0, f0, k0⟩ := (sh_i64 tk3 a0)
  obtain ⟨p1, q1, e1, a1, g2⟩ := g1
  obtain ⟨x1, f1, k1⟩ := (sh_i64 tk3 a1)
  obtain ⟨p2, q2, e2, a2, g3⟩ := g2
  obtain ⟨x2, f2, k2⟩ := (sh_str ti9 a2)
  obtain ⟨p3, q3, e3, a3, g4⟩ := g3
  obtain ⟨x3, f3, k3⟩ := (sh_str ti9 a3)
  obtain ⟨p4, q4, e4, a4, g5⟩ := g4
  obtain ⟨x4, f4, k4⟩ := (sh_str ti9 a4)
  obtain ⟨p5, q5, e5, a5, g6⟩ := g5
  obtain ⟨x5, f5, k5⟩ := (sh_str ti9 a5)
  obtain ⟨p6, q6, e6, a6, g7⟩ := g6
  obtain ⟨x6, f6, k6⟩ := (sh_i64 tk3 a6)
  obtain ⟨p7, q7, e7, a7, g8⟩ := g7
  obtain ⟨x7, f7, k7⟩ := (sh_i64 tk3 a7)
  obtain ⟨p8, q8, e8, a8, g9⟩ := g8
  obtain ⟨x8, f8, k8⟩ := (sh_i64 tk3 a8)
  obtain ⟨p9, q9, e9, a9, g10⟩ := g9
  obtain ⟨x9, f9, k9⟩ := (sh_i64 tk3 a9)
  obtain ⟨p10, q10, e10, a10, g11⟩ := g10
  obtain ⟨x10, f10, k10⟩ := (sh_ApiValue _ _ a10)
  obtain ⟨p11, q11, e11, a11, g12⟩ := g11
  obtain ⟨x11, f11, k11⟩ := (sh_ApiPolicy _ _ a11)
  obtain ⟨p12, q12, e12, a12, g13⟩ := g12
  obtain ⟨x12, f12, k12⟩ := (sh_sl (row := rowApiCommand) (ok := okApiCommand) sl42 by191 a12 (fun m42 hm42 qs h42 => (sh_ApiCommand _ _ h42)))
  obtain ⟨p13, q13, e13, a13, g14⟩ := g13
  obtain ⟨x13, f13, k13⟩ := (sh_str ti9 a13)
  subst f0 f1 f2 f3 f4 f5 f6 f7 f8 f9 f10 f11 f12 f13
  have g14 : q13 = [] := g14
  subst g14
  subst e13
  subst e12
  subst e11
  subst e10
  subst e9
  subst e8
  subst e7
  subst e6
  subst e5
  subst e4
  subst e3
  subst e2
  subst e1
  subst e0
  exact ⟨⟨x0, x1, x2, x3, x4, x5, x6, x7, x8, x9, x10, x11, x12, x13⟩, rfl, k0, k1, k2, k3, k4, k5, k6, k7, k8, k9, k10, k11, k12, k13⟩
end Go.Proofs.YtopijeegnhighaaDoor

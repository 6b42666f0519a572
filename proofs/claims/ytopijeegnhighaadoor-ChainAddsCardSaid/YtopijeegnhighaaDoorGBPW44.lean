/- Chapter 44's examples, plainly. -/
import Derived.Test.YtopijeegnhighaaDoorGBPChain3
import Derived.Test.YtopijeegnhighaaDoorGBPSamV
import Derived.Test.YtopijeegnhighaaDoorGBF0
import Derived.Test.YtopijeegnhighaaDoorGBF1
namespace Go.Proofs.YtopijeegnhighaaDoor
open Go Abs
set_option linter.unusedSimpArgs false
set_option linter.unusedVariables false
theorem num1 : numberS [114, 49] = (1, true) := by
  have : runS 1 = [114, 49] := by rw [runS_pos (by omega), show (1 : Int).toNat = 1 from rfl, dec_lt (by omega)]; rfl
  rw [← this]; exact numberS_run (by omega) (by omega)
theorem num2 : numberS [114, 50] = (2, true) := by
  have : runS 2 = [114, 50] := by rw [runS_pos (by omega), show (2 : Int).toNat = 2 from rfl, dec_lt (by omega)]; rfl
  rw [← this]; exact numberS_run (by omega) (by omega)
theorem last_ex {a b : ApiRun} {w : List UInt8} (ok : okL [a, b]) (wa : a.Workflow = w) (wb : b.Workflow = w) (ia : a.ID = [114, 49]) (ib : b.ID = [114, 50]) (sa : (statusS a.History).1 = 6) (sb : (statusS b.History).1 = 1) : chain_last [a, b] w [114, 49] = some (1, true) := by
  have hF : chain_Find [a, b] w [114, 49] = some (0, true) := by
    unfold chain_Find
    have : loopO (chain_Find_l1 [a, b] [114, 49] w) (0 : Int) = some (.done (0, true)) := by
      rw [loopO_eq]
      unfold chain_Find_l1
      simp [idx, wa, ia]
    rw [this]; rfl
  have na : numR w a = 1 := by unfold numR; rw [if_pos wa, ia, num1]; rfl
  have nb : numR w b = 2 := by unfold numR; rw [if_pos wb, ib, num2]; rfl
  have hn : nextI [a, b] w 1 = 1 := by unfold nextI; simp [firstF, isNext, na, nb, nx]
  have hl : loopO (chain_last_l1 [a, b] w) (0 : Int) = some (.done (1, true)) := by
    rw [loopO_eq]
    have e0 : chain_last_l1 [a, b] w (0 : Int) = some (.next 1) := by
      unfold chain_last_l1
      rw [show idx [a, b] (0 : Int) = some a from rfl, Option.bind_some, history_Status_eq (ok.his a (by simp)), Option.bind_some, Option.bind_some, name_Number_eq (ok.ids a (by simp)), Option.bind_some, ia, num1]
      simp only [sa, decide_true, Bool.not_true, cond_false]
      rw [next_eq ok (by omega) (by omega), Option.bind_some, hn]; rfl
    rw [e0]
    simp only [Option.bind_some]
    rw [loopO_eq]
    have e1 : chain_last_l1 [a, b] w (1 : Int) = some (.out (.done (1, true))) := by
      unfold chain_last_l1
      rw [show idx [a, b] (1 : Int) = some b from rfl, Option.bind_some, history_Status_eq (ok.his b (by simp)), Option.bind_some, Option.bind_some, name_Number_eq (ok.ids b (by simp)), Option.bind_some, ib, num2]
      simp only [sb, show decide ((1 : Int) = 6) = false from rfl, Bool.not_false, cond_true]
    rw [e1]; rfl
  unfold chain_last
  rw [hF, Option.bind_some]
  simp only [Bool.not_true, cond_false]
  rw [hl]; rfl
theorem run_done {id key : List UInt8} {kind : Int} (hk : kind ≠ 0) : ∃ (r : ApiRun) (e1 e2 e3 : ApiEvent), law44xrun id key kind = some r ∧ r.Workflow = [119] ∧ r.ID = id ∧ r.History = [e1, e2, e3] ∧ e1.Kind = 1 ∧ e1.Key = key ∧ e2.Kind = 2 ∧ e3.Kind = kind ∧ e3.Time = 4 ∧ e3.Data = ApiValue.mk 2 7 [] [] [] := by
  unfold law44xrun
  rw [decide_eq_false hk, Bool.not_false, cond_true, app_ok (by simp), Option.bind_some]
  exact ⟨_, _, _, _, rfl, rfl, rfl, rfl, rfl, rfl, rfl, rfl, rfl, rfl⟩
theorem run_open {id key : List UInt8} : ∃ (r : ApiRun) (e1 e2 : ApiEvent), law44xrun id key 0 = some r ∧ r.Workflow = [119] ∧ r.ID = id ∧ r.History = [e1, e2] ∧ e1.Kind = 1 ∧ e1.Key = key ∧ e2.Kind = 2 := by
  unfold law44xrun
  exact ⟨_, _, _, rfl, rfl, rfl, rfl, rfl, rfl, rfl⟩
theorem stat_done {e1 e2 e3 : ApiEvent} {k s : Int} (h1 : e1.Kind = 1) (h2 : e2.Kind = 2) (h3 : e3.Kind = k) (hs : stK k = (s, true)) : statusS [e1, e2, e3] = (s, 2) := by
  unfold statusS
  simp [firstF, h1, h2, h3, hs, show stK 1 = (0, false) from rfl, show stK 2 = (0, false) from rfl]
theorem stat_open {e1 e2 : ApiEvent} (h1 : e1.Kind = 1) (h2 : e2.Kind = 2) : statusS [e1, e2] = (0, -1) := by
  unfold statusS
  simp [firstF, h1, h2, show stK 1 = (0, false) from rfl, show stK 2 = (0, false) from rfl]
theorem lat_one {r : ApiRun} {w : List UInt8} {n : Int} (h : numR w r = n) (hp : 0 < n) : latS [r] w = (0, n) := by
  unfold latS
  simp [foldi, latF, h, hp]
theorem next_one {r : ApiRun} {w : List UInt8} (ok : okL [r]) (hw : r.Workflow = w) (hi : r.ID = [114, 49]) : chain_Next [r] w = some [114, 50] := by
  have na : numR w r = 1 := by unfold numR; rw [if_pos hw, hi, num1]; rfl
  have r2 : runS 2 = [114, 50] := by rw [runS_pos (by omega), show (2 : Int).toNat = 2 from rfl, dec_lt (by omega)]; rfl
  unfold chain_Next
  rw [Latest_eq ok, lat_one na (by omega), Option.bind_some]
  simp only [show decide ((0 : Int) < 1) = true from rfl, Bool.not_true, cond_false]
  rw [show idx [r] (0 : Int) = some r from rfl, Option.bind_some, name_Number_eq (ok.ids r (by simp)), Option.bind_some, hi, num1]
  simp only
  rw [show IntKind.i64.wrap ((1 : Int) + 1) = 2 from by rw [w64 (by omega) (by omega)]; rfl, name_Run_eq (by unfold okI; omega), r2]; rfl
theorem next_none {w : List UInt8} : chain_Next [] w = some [114, 49] := by
  have ok : okL [] := ⟨by simp, by simp, by simp⟩
  have r1 : runS 1 = [114, 49] := by rw [runS_pos (by omega), show (1 : Int).toNat = 1 from rfl, dec_lt (by omega)]; rfl
  unfold chain_Next
  rw [Latest_eq ok, show latS [] w = (0, 0) from rfl, Option.bind_some]
  simp only [show decide ((0 : Int) < 0) = false from rfl, Bool.not_false, cond_true]
  rw [name_Run_eq (by unfold okI; omega), r1]; rfl
theorem decide_none {q : ApiRequest} : chain_Decide [] q = some 1 := by
  have ok : okL [] := ⟨by simp, by simp, by simp⟩
  unfold chain_Decide
  rw [Latest_eq ok, show latS [] q.Workflow = (0, 0) from rfl, Option.bind_some]
  rfl
theorem begun_some {r : ApiRun} {e : ApiEvent} {l : List ApiEvent} (h : r.History = e :: l) (hk : e.Kind = 1) : chain_begun r = some (e, true) := by
  unfold chain_begun
  rw [h]
  have e1 : decide (((e :: l).length : Int) = 0) = false := by simp; omega
  rw [e1, show idx (e :: l) (0 : Int) = some e from rfl]
  simp [gd, hk]
theorem decide_one {r : ApiRun} {q : ApiRequest} {e : ApiEvent} {l : List ApiEvent} (ok : okL [r]) (hw : r.Workflow = q.Workflow) (hi : r.ID = [114, 49]) (h : r.History = e :: l) (hk : e.Kind = 1) :
    chain_Decide [r] q = some (if e.Key = q.ID then 2 else if (statusS r.History).1 = 0 then 3 else if q.N = 0 then 1 else if q.N = 1 then (if (statusS r.History).1 = 1 then 3 else 1) else 3) := by
  have na : numR q.Workflow r = 1 := by unfold numR; rw [if_pos hw, hi, num1]; rfl
  unfold chain_Decide
  rw [Latest_eq ok, lat_one na (by omega), Option.bind_some]
  simp only [show decide ((0 : Int) < 1) = true from rfl, Bool.not_true, cond_false]
  rw [show idx [r] (0 : Int) = some r from rfl, Option.bind_some, begun_some h hk, Option.bind_some, Option.bind_some, history_Status_eq (ok.his r (by simp)), Option.bind_some]
  by_cases c1 : e.Key = q.ID
  · simp [c1]
  · by_cases c2 : (statusS r.History).1 = 0
    · simp [c1, c2]
    · by_cases c3 : q.N = 0
      · simp [c1, c2, c3]
      · by_cases c4 : q.N = 1
        · by_cases c5 : (statusS r.History).1 = 1 <;> simp [c1, c2, c4, c5]
        · simp [c1, c2, c3, c4]
theorem ok7 : okApiValue (ApiValue.mk 2 7 [] [] []) := (okApiValue_iff _).2 (by simp [okI, okS, okLs])
theorem works44 : law44xworks = some true := by
  obtain ⟨o, o1, o2, go, wo, io, ho, ko1, yo, ko2⟩ := run_open (id := [114, 49]) (key := [97])
  obtain ⟨d, d1, d2, d3, gd', wd, id', hd, kd1, yd, kd2, kd3, td, vd⟩ := run_done (id := [114, 49]) (key := [97]) (kind := 30) (by decide)
  obtain ⟨a, a1, a2, a3, ga, wa, ia, ha, ka1, ya, ka2, ka3, ta, va⟩ := run_done (id := [114, 49]) (key := [97]) (kind := 35) (by decide)
  obtain ⟨b, b1, b2, b3, gb, wb, ib, hb, kb1, yb, kb2, kb3, tb, vb⟩ := run_done (id := [114, 50]) (key := [97]) (kind := 30) (by decide)
  have sa : statusS a.History = (6, 2) := by rw [ha]; exact stat_done ka1 ka2 ka3 rfl
  have sb : statusS b.History = (1, 2) := by rw [hb]; exact stat_done kb1 kb2 kb3 rfl
  have sd : statusS d.History = (1, 2) := by rw [hd]; exact stat_done kd1 kd2 kd3 rfl
  have so : statusS o.History = (0, -1) := by rw [ho]; exact stat_open ko1 ko2
  have ok1 : ∀ (r : ApiRun), r.ID.length ≤ 10 → r.History.length ≤ 10 → okL [r] := fun r h1 h2 => ⟨by simp, by simp; omega, by simp; omega⟩
  have oko : okL [o] := ok1 o (by rw [io]; simp) (by rw [ho]; simp)
  have okd : okL [d] := ok1 d (by rw [id']; simp) (by rw [hd]; simp)
  have okab : okL [a, b] := ⟨by simp, by simp [ia, ib], by simp [ha, hb]⟩
  have hl := last_ex okab wa wb ia ib (by rw [sa]) (by rw [sb])
  have hF : chain_Follow [a, b] [119] [114, 49] = some ([114, 50], 1, true) := by
    unfold chain_Follow
    rw [hl, Option.bind_some]
    simp only [Bool.not_true, cond_false]
    rw [show idx [a, b] (1 : Int) = some b from rfl, Option.bind_some, history_Status_eq (okab.his b (by simp)), Option.bind_some, Option.bind_some, sb, ib]
  have hR : chain_Result [a, b] [119] [114, 49] = some (1, ApiValue.mk 2 7 [] [] [], true) := by
    unfold chain_Result
    rw [hl, Option.bind_some]
    simp only [Bool.not_true, cond_false]
    rw [show idx [a, b] (1 : Int) = some b from rfl, Option.bind_some, history_Status_eq (okab.his b (by simp)), Option.bind_some, sb]
    simp only [decide_true, cond_true, Option.bind_some]
    rw [hb, show idx [b1, b2, b3] (2 : Int) = some b3 from rfl, Option.bind_some, vb, value_Copy_eq ok7]; rfl
  have hC : ∃ q, chain_Continue a = some (q, true) ∧ q.ID = [97] ∧ q.Time = 4 := by
    unfold chain_Continue
    rw [begun_some ha ka1, Option.bind_some, history_Status_eq (okab.his a (by simp)), Option.bind_some, sa, ha]
    simp only [decide_true, Bool.not_true, cond_false]
    rw [show idx [a1, a2, a3] (2 : Int) = some a3 from rfl, Option.bind_some, va, value_Copy_eq ok7]
    exact ⟨_, rfl, ya, ta⟩
  obtain ⟨q, hq, q1, q2⟩ := hC
  unfold law44xworks
  rw [go, Option.bind_some, gd', Option.bind_some, ga, Option.bind_some, gb, Option.bind_some, hF, Option.bind_some, hR, Option.bind_some, show idx [a, b] (0 : Int) = some a from rfl, Option.bind_some, hq, Option.bind_some, next_none, Option.bind_some, next_one okd wd id',
    decide_none, decide_one oko wo io ho ko1, decide_one oko wo io ho ko1, decide_one okd wd id' hd kd1, decide_one okd wd id' hd kd1, so, sd, yo, yd, refSame_eq ok7, vsame_refl]
  simp [gd, q1, q2]
end Go.Proofs.YtopijeegnhighaaDoor

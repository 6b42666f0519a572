/- HistoryGrows: the plain law. -/
import Derived.Test.YtmbdbdhdcbdcpaaDoorGHPHistV
import Derived.Test.YtmbdbdhdcbdcpaaDoorGHPHistT
import Derived.Test.YtmbdbdhdcbdcpaaDoorGHF5
namespace Go.Proofs.YtmbdbdhdcbdcpaaDoor
open Go Abs
set_option linter.unusedSimpArgs false
set_option linter.unusedVariables false
def isSt (l : List ApiEvent) (i : Nat) : Bool := decide ((l[i]?.map (·.Kind)) = some 3)
def turnV (l : List ApiEvent) (i : Nat) : Int × Int × Int × Bool := match l[i + 1]? with
    | none => ((i : Int), (-1 : Int), (l.length : Int), false)
    | some f => ((i : Int), (i : Int) + 1, if f.Kind = 4 then (nx l (i + 2) : Int) else (i : Int) + 2, decide (f.Kind = 4))
theorem turnP_eq (l : List ApiEvent) (i : Nat) : turnP l i = if isSt l i then some (turnV l i) else none := by
  unfold turnP turnV isSt
  by_cases h : (l[i]?.map (·.Kind)) = some 3
  · rw [if_pos h, if_pos (decide_eq_true h)]
    cases l[i + 1]? <;> rfl
  · rw [if_neg h, if_neg (by simp [h])]
theorem fm_if {α β : Type} (p : α → Bool) (v : α → β) : ∀ l : List α, l.filterMap (fun x => if p x then some (v x) else none) = (l.filter p).map v
  | [] => rfl
  | x :: l => by
    rw [List.filterMap_cons, List.filter_cons]
    cases h : p x
    · simp [fm_if p v l]
    · simp [fm_if p v l]
theorem turnsP_eq (l : List ApiEvent) : turnsP l = ((List.range l.length).filter (isSt l)).map (turnV l) := by
  unfold turnsP
  rw [← fm_if]
  congr 1
  funext i
  exact turnP_eq l i
theorem isSt_app {l m : List ApiEvent} {i : Nat} (hi : i < l.length) : isSt (l ++ m) i = isSt l i := by
  unfold isSt; rw [List.getElem?_append_left hi]
theorem turnsP_app (l m : List ApiEvent) : ∃ r, turnsP (l ++ m) = ((List.range l.length).filter (isSt l)).map (turnV (l ++ m)) ++ r := by
  rw [turnsP_eq, List.length_append, List.range_add, List.filter_append, List.map_append]
  refine ⟨_, congrArg (fun x => x ++ _) ?_⟩
  congr 1
  refine List.filter_congr fun i hi => ?_
  exact isSt_app (List.mem_range.1 hi)
theorem turnV_fst (l : List ApiEvent) (i : Nat) : (turnV l i).1 = (i : Int) := by
  unfold turnV; split <;> rfl
theorem nx_app {l m : List ApiEvent} : ∀ (k s j : Nat), j - s = k → s ≤ j → (hj : j < l.length) → isCmd l[j].Kind = false → nx (l ++ m) s = nx l s := by
  intro k
  induction k with
  | zero =>
    intro s j hk hs hj hc
    obtain rfl : s = j := by omega
    rw [nx_in hj, nx_in (by rw [List.length_append]; omega), List.getElem_append_left hj, hc]
    rfl
  | succ k ih =>
    intro s j hk hs hj hc
    have hsl : s < l.length := by omega
    rw [nx_in hsl, nx_in (by rw [List.length_append]; omega), List.getElem_append_left hsl]
    cases isCmd l[s].Kind
    · rfl
    · simp only [if_true]
      exact ih (s + 1) j (by omega) (by omega) hj hc
theorem turnV_app {l m : List ApiEvent} {i j : Nat} (hij : i < j) (hj : j < l.length) (hs : isSt l j = true) : turnV (l ++ m) i = turnV l i := by
  have hk : l[j].Kind = 3 := by
    unfold isSt at hs
    rw [List.getElem?_eq_getElem hj] at hs
    simpa using hs
  have h1 : i + 1 < l.length := by omega
  unfold turnV
  rw [List.getElem?_append_left h1, List.getElem?_eq_getElem h1]
  simp only
  by_cases h4 : l[i + 1].Kind = 4
  · rw [if_pos h4, if_pos h4]
    have hne : j ≠ i + 1 := by rintro rfl; rw [hk] at h4; cases h4
    rw [nx_app (j - (i + 2)) (i + 2) j rfl (by omega) hj (by rw [hk]; decide)]
  · rw [if_neg h4, if_neg h4]
theorem filter_sorted (l : List ApiEvent) (n : Nat) : ((List.range n).filter (isSt l)).Pairwise (· < ·) := List.Pairwise.filter _ List.pairwise_lt_range
theorem HistoryGrows_pure (l m : List ApiEvent) (hl : okLs 272 okApiEvent l) (hm : okLs 272 okApiEvent m) : law24xHistoryGrows l m = some true := by
  unfold law24xHistoryGrows
  rw [works24]
  by_cases hn : (200 : Int) < (l.length : Int)
  · simp [hn]
  by_cases hn2 : (200 : Int) < (m.length : Int)
  · simp [hn2]
  have h1 : l.length ≤ 200 := by omega
  have h2 : m.length ≤ 200 := by omega
  obtain ⟨hok, happ⟩ := Append_eq hl hm h1 h2
  simp only [hn, hn2, decide_false, cond_false]
  rw [happ, Option.bind_some]
  by_cases h0 : chk 0 (l ++ m) zeroK = 0
  · have hc : chk 0 l zeroK = 0 := by
      have := chk_take (l ++ m) 0 l.length zeroK h0
      rwa [List.take_left] at this
    rw [if_pos h0, Turns_eq hl (by omega), Turns_eq hok (by rw [List.length_append]; omega), if_pos hc, if_pos h0]
    simp only [decide_true, Bool.not_true, cond_false, Option.bind_some]
    obtain ⟨r, hr⟩ := turnsP_app l m
    rw [hr, turnsP_eq]
    have hJ : ∀ j ∈ (List.range l.length).filter (isSt l), j < l.length ∧ isSt l j = true := fun j hj => by
      rw [List.mem_filter, List.mem_range] at hj
      exact hj
    have hsort := filter_sorted l l.length
    have hJl : ((List.range l.length).filter (isSt l)).length ≤ 200 := Nat.le_trans (List.length_filter_le _ _) (by rw [List.length_range]; exact h1)
    generalize (List.range l.length).filter (isSt l) = J at hJ hsort hJl ⊢
    have hlt : decide (((List.map mkH (List.map (turnV (l ++ m)) J ++ r)).length : Int) < ((List.map mkH (List.map (turnV l) J)).length : Int)) = false := by
      refine decide_eq_false ?_
      simp only [List.length_map, List.length_append]
      omega
    rw [hlt, cond_false]
    have hget : ∀ (k : Nat) (hk : k < J.length), (List.map mkH (List.map (turnV l) J))[k]? = some (mkH (turnV l J[k])) ∧ (List.map mkH (List.map (turnV (l ++ m)) J ++ r))[k]? = some (mkH (turnV (l ++ m) J[k])) := fun k hk => by
      constructor
      · simp [hk]
      · rw [List.map_append, List.getElem?_append_left (by simpa using hk)]
        simp [hk]
    have hidx : ∀ (k : Nat) (hk : k < J.length), idx (List.map mkH (List.map (turnV l) J)) (k : Int) = some (mkH (turnV l J[k])) ∧ idx (List.map mkH (List.map (turnV (l ++ m)) J ++ r)) (k : Int) = some (mkH (turnV (l ++ m) J[k])) := fun k hk => by
      rw [idx_nat, idx_nat]; exact hget k hk
    have hlen : (List.map mkH (List.map (turnV l) J)).length = J.length := by simp
    have hw : IntKind.i64.wrap (((List.map mkH (List.map (turnV l) J)).length : Int) - 1) = (J.length : Int) - 1 := by rw [hlen]; exact w64 (by omega) (by omega)
    have hloop : loopO (law24xHistoryGrows_l1 (List.map mkH (List.map (turnV l) J)) (List.map mkH (List.map (turnV (l ++ m)) J ++ r))) (0 : Int) = some (.go () : Fl Bool Unit) := by
      refine loop_look (J.length - 1) (.go () : Fl Bool Unit) (fun k hk => ?_) ?_
      · unfold law24xHistoryGrows_l1
        have hk1 : k + 1 < J.length := by omega
        have hlt2 : J[k] < J[k + 1] := List.pairwise_iff_getElem.1 hsort k (k + 1) (by omega) hk1 (by omega)
        obtain ⟨h3, h4⟩ := hJ _ (List.getElem_mem hk1)
        rw [hw, cond_d, if_pos (by omega), (hidx k (by omega)).1, Option.bind_some, (hidx k (by omega)).2, Option.bind_some, turnV_app hlt2 h3 h4, w64s hk (by omega)]
        simp
      · unfold law24xHistoryGrows_l1
        rw [hw, cond_d, if_neg (by omega)]
    rw [hloop, Option.bind_some, hw]
    simp only [Fl.next, hlen]
    by_cases hz : J.length = 0
    · simp [hz, gd]
    · have e : (J.length : Int) - 1 = ((J.length - 1 : Nat) : Int) := by omega
      have hp : decide ((0 : Int) < (J.length : Int)) = true := decide_eq_true (by omega)
      rw [e, (hidx (J.length - 1) (by omega)).1, (hidx (J.length - 1) (by omega)).2, hp]
      simp [gd, mkH, turnV_fst]
  · rw [if_neg h0]
    simp [h0]
end Go.Proofs.YtmbdbdhdcbdcpaaDoor

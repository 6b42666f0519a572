/- ChainAdds: the plain law. -/
import Derived.Test.YtopijeegnhighaaDoorGBPCh5
import Derived.Test.YtopijeegnhighaaDoorGBF0
import Derived.Test.YtopijeegnhighaaDoorGBF1
import Derived.Test.YtopijeegnhighaaDoorGBF2
import Derived.Test.YtopijeegnhighaaDoorGBF3
namespace Go.Proofs.YtopijeegnhighaaDoor
open Go Abs
set_option linter.unusedSimpArgs false
set_option linter.unusedVariables false
theorem runS_nil {v : Int} (h : v < 1) : runS v = [] := by unfold runS; rw [if_pos h]
theorem runS_ne {v : Int} (h : 1 ≤ v) : runS v ≠ [] := by rw [runS_pos h]; simp
theorem ChainAdds_pure (l : List ApiRun) (key : List UInt8) (h : okLs 544 okApiRun l) : law44xChainAdds l key = some true := by
  unfold law44xChainAdds
  obtain ⟨b, h1, h2⟩ := large_ex h
  rw [h1, works44]
  cases b
  · have hl := h2 rfl
    have ok := okL_of h hl
    simp only [Option.bind_some, cond_false]
    have hnx := Next_val (w := [119]) ok
    obtain ⟨x, hx1, hx2⟩ := Next_both (w := [119]) ok
    rw [hnx] at hx1
    rw [hnx, hx2, ← hx1]
    simp only [Option.bind_some]
    have hm0 : 0 ≤ (latS l [119]).2 ∧ (latS l [119]).2 ≤ 9223372036854775807 := by
      rcases lat_mem l [119] with h0 | ⟨i, r, _, _, h3, h4⟩
      · rw [h0]; exact ⟨by simp, by simp⟩
      · rw [h3]; exact ⟨by omega, (numR_ok [119] r).2.1⟩
    by_cases hov : (latS l [119]).2 = 9223372036854775807
    · have : IntKind.i64.wrap ((latS l [119]).2 + 1) < 1 := by rw [IntKind.wrap_i64]; omega
      rw [runS_nil this]
      rfl
    · have hw : IntKind.i64.wrap ((latS l [119]).2 + 1) = (latS l [119]).2 + 1 := w64 (by omega) (by omega)
      rw [hw]
      generalize hm : (latS l [119]).2 = m at *
      have hne : runS (m + 1) ≠ [] := runS_ne (by omega)
      rw [decide_eq_false hne, cond_false]
      have hid : numberS (runS (m + 1)) = (m + 1, true) := numberS_run (by omega) (by omega)
      have hnum : ∀ r : ApiRun, r.Workflow = [119] → r.ID = runS (m + 1) → numR [119] r = m + 1 := fun r hw' hi => by
        unfold numR
        rw [if_pos hw', hi, hid]
        rfl
      rcases Find_E (w := [119]) (id := runS (m + 1)) ok with ⟨⟨x, hx⟩, _⟩ | ⟨i, r, g1, g2, g3, g4⟩
      · rw [hx]
        simp only [Option.bind_some, cond_false]
        have hlb : l.length ≤ 30 := hl
        rw [app_ok (by simp only [List.length_nil]; omega), Option.bind_some]
        unfold law44xrun
        simp only [decide_true, Bool.not_true, cond_false, Option.bind_some, List.nil_append]
        rw [app_ok (by simp only [List.length_singleton]; omega), Option.bind_some]
        generalize hR : (ApiRun.mk ([119] : List UInt8) (runS (m + 1)) _ _ _ _ _ _ _ _ _) = R
        have hRw : R.Workflow = [119] := by rw [← hR]
        have hRi : R.ID = runS (m + 1) := by rw [← hR]
        have hRn := hnum R hRw hRi
        have hri : (runS (m + 1)).length ≤ 140737488355328 := by
          rw [runS_pos (by omega)]
          have := dec_len 18 (m + 1).toNat (by omega)
          simp only [List.length_cons]; omega
        have hRh : R.History.length ≤ 9223372036854775807 := by rw [← hR]; simp
        have ok2 : okL (l ++ [R]) := ⟨by rw [List.length_append, List.length_singleton]; omega, fun r hr => by
          rcases List.mem_append.1 hr with hr | hr
          · exact ok.ids r hr
          · rw [List.mem_singleton.1 hr, hRi]; exact hri, fun r hr => by
          rcases List.mem_append.1 hr with hr | hr
          · exact ok.his r hr
          · rw [List.mem_singleton.1 hr]; exact hRh⟩
        have hlat : latS (l ++ [R]) [119] = ((l.length : Int), m + 1) := by
          unfold latS at hm ⊢
          rw [foldi_append]
          simp only [foldi]
          unfold latF at hm ⊢
          rw [if_pos (by rw [hm, hRn]; omega), hRn, Nat.zero_add]
        have hat : (l ++ [R])[l.length]? = some R := by simp
        rw [Latest_eq ok2, hlat]
        have hpos : (0 : Int) < m + 1 := by omega
        simp only [hpos, decide_true, Option.bind_some, cond_true]
        unfold chain_Decide
        simp only
        rw [Latest_eq ok2, hlat]
        simp only [hpos, decide_true, Bool.not_true, cond_false, Option.bind_some]
        rw [idx_nat, hat, Option.bind_some]
        have hb : chain_begun R = some (ApiEvent.mk 1 1 0 0 0 0 0 [116] key (ApiValue.mk 0 0 [] [] []) (ApiPolicy.mk [] 0 0 0 0 0 0 0 0 []), true) := by rw [← hR]; rfl
        rw [hb]
        simp [gd]
      · exfalso
        have hi : r.ID = runS (m + 1) := by
          unfold findE at g4
          rw [if_neg hne] at g4
          have := List.find?_some g4
          rw [decide_eq_true_eq] at this
          exact this.2
        have := lat_max l [119] r (List.mem_of_getElem? g2)
        rw [hnum r g3 hi, hm] at this
        omega
  · rfl
end Go.Proofs.YtopijeegnhighaaDoor

/- What the markers and admissions read, plainly: DivergeReads. -/
import Derived.Test.YtnhchphmmdgphaaPDiv1
import Derived.Test.YtnhchphmmdgphaaGBF2
import Derived.Test.YtnhchphmmdgphaaGBF3
import Derived.Test.YtnhchphmmdgphaaGBF5
import Derived.Test.YtnhchphmmdgphaaGBF6
import Derived.Test.YtnhchphmmdgphaaGBF7
import Derived.Test.YtnhchphmmdgphaaGBSh
namespace Go.Proofs.Ytnhchphmmdgphaa
open Go Abs
set_option linter.unusedSimpArgs false
set_option linter.unusedVariables false

/-- A loop over a list that keeps some. -/
theorem loop_fm {α β : Type} (f : α → Option β) (l : List α) {body : (List β × Int) → Option (Step (List β × Int) (List β))}
    (h : ∀ (acc : List β) (i : Nat) (hi : i < l.length), acc.length ≤ i → body (acc, (i : Int)) = some (.next (acc ++ (f l[i]).toList, ((i + 1 : Nat) : Int))))
    (hout : ∀ acc, body (acc, (l.length : Int)) = some (.out acc)) : loopO body ([], (0 : Int)) = some (l.filterMap f) := by
  refine loop_to (fun s => ∃ i : Nat, s.2 = (i : Int) ∧ i ≤ l.length ∧ s.1 = (l.take i).filterMap f) (fun s => l.length - s.2.toNat) (fun _ => l.filterMap f) ?_ _ ⟨0, rfl, by omega, by simp⟩
  rintro ⟨acc, i0⟩ ⟨i, hi0, hi, hacc⟩
  simp only at hi0 hacc
  subst hi0
  by_cases hlt : i < l.length
  · have hl : acc.length ≤ i := by rw [hacc]; exact Nat.le_trans (List.length_filterMap_le ..) (by simp; omega)
    refine .inl ⟨_, h acc i hlt hl, ⟨i + 1, rfl, hlt, ?_⟩, by simp; omega, rfl⟩
    rw [hacc, List.take_succ_eq_append_getElem hlt, List.filterMap_append]
    cases hf : f l[i] <;> simp [hf]
  · obtain rfl : i = l.length := by omega
    rw [hout, hacc, List.take_length]
    exact .inr rfl
/-- A loop that only looks. -/
theorem loop_look {ρ : Type} (n : Nat) (r : ρ) {body : Int → Option (Step Int ρ)} (h : ∀ i : Nat, i < n → body (i : Int) = some (.next ((i + 1 : Nat) : Int))) (hout : body (n : Int) = some (.out r)) : loopO body (0 : Int) = some r := by
  refine loop_to (fun s => ∃ i : Nat, s = (i : Int) ∧ i ≤ n) (fun s => n - s.toNat) (fun _ => r) ?_ _ ⟨0, rfl, by omega⟩
  rintro s ⟨i, rfl, hi⟩
  by_cases hlt : i < n
  · exact .inl ⟨_, h i hlt, ⟨i + 1, rfl, hlt⟩, by simp; omega, rfl⟩
  · obtain rfl : i = n := by omega
    exact .inr hout
theorem w64s {i n : Nat} (h : i < n) (hn : n ≤ 9223372036854775807) : IntKind.i64.wrap ((i : Int) + 1) = ((i + 1 : Nat) : Int) := by rw [w64 (by omega) (by omega)]; omega
theorem idx_ok {α : Type} {l : List α} {i : Nat} (h : i < l.length) : idx l (i : Int) = some l[i] := by rw [idx_nat, List.getElem?_eq_getElem h]

/-! ### Values -/
mutual
def hgt : ApiValue → Nat
  | ⟨_, _, _, l, _⟩ => hgts l + 1
def hgts : List ApiValue → Nat
  | [] => 0
  | x :: l => max (hgt x) (hgts l)
end
theorem hgts_ge : ∀ {l : List ApiValue} {x : ApiValue}, x ∈ l → hgt x ≤ hgts l
  | [], x, h => by simp at h
  | y :: l, x, h => by
    simp only [hgts]
    rcases List.mem_cons.1 h with rfl | h
    · omega
    · have := hgts_ge h; omega
theorem hgt_eq (v : ApiValue) : hgt v = hgts v.Items + 1 := by cases v; simp [hgt]

theorem CopyF_eq : ∀ (n : Nat) (v : ApiValue), okApiValue v → 2 * hgt v ≤ n → value_CopyF n v = some v := by
  intro n
  induction n using Nat.strongRecOn with
  | _ n ih =>
    intro v hv hn
    have hh := hgt_eq v
    obtain ⟨m, rfl⟩ : ∃ m, n = m + 2 := ⟨n - 2, by omega⟩
    obtain ⟨k0, k1, k2, k3, k4⟩ := (okApiValue_iff v).1 hv
    rw [value_CopyF, value_copiesF]
    have hl : loopO (value_copies_l1 (value_CopyF m) v.Items) (([] : List ApiValue), (0 : Int)) = some (v.Items.filterMap some) := by
      refine loop_fm some v.Items (fun acc i hi hacc => ?_) (fun acc => ?_)
      · unfold value_copies_l1
        have h80 := k3.2.1
        rw [cond_d, if_pos (by simp only; omega), idx_ok hi, Option.bind_some, ih m (by omega) _ (k3.2.2 _ (List.getElem_mem hi)) (by have := hgts_ge (List.getElem_mem hi); omega), Option.bind_some, app_ok (by simp; omega), Option.bind_some, w64s hi k3.1]
        rfl
      · unfold value_copies_l1
        rw [cond_d, if_neg (by simp only; omega)]
    have h16 := k4.2.1
    rw [hl, Option.bind_some, Option.bind_some, slices_Clone_string_string, app_ok (by simp; omega), Option.bind_some, List.filterMap_some, List.nil_append]
    cases v; rfl
theorem value_Copy_eq {v : ApiValue} (hv : okApiValue v) : value_Copy v = some v := lim_eq (2 * hgt v) fun n hn => CopyF_eq n v hv hn

theorem SameF_self : ∀ (n : Nat) (v : ApiValue), okApiValue v → hgt v ≤ n → ref02xSameF n v v = some true := by
  intro n
  induction n with
  | zero => intro v hv hn; have := hgt_eq v; omega
  | succ n ih =>
    intro v hv hn
    have hh := hgt_eq v
    obtain ⟨k0, k1, k2, k3, k4⟩ := (okApiValue_iff v).1 hv
    rw [ref02xSameF]
    simp only [decide_true, Bool.not_true, cond_false]
    have h1 : loopO (ref02xSame_l1 v v) (0 : Int) = some (Fl.go ()) := by
      refine loop_look v.Keys.length _ (fun i hi => ?_) ?_
      · unfold ref02xSame_l1
        rw [cond_d, if_pos (by omega), idx_ok hi, Option.bind_some, Option.bind_some]
        simp only [decide_true, Bool.not_true, cond_false]
        rw [w64s hi k4.1]
      · unfold ref02xSame_l1
        rw [cond_d, if_neg (by omega)]
    have h2 : loopO (ref02xSame_l2 (ref02xSameF n) v v) (0 : Int) = some (Fl.go ()) := by
      refine loop_look v.Items.length _ (fun i hi => ?_) ?_
      · unfold ref02xSame_l2
        rw [cond_d, if_pos (by omega), idx_ok hi, Option.bind_some, Option.bind_some, ih _ (k3.2.2 _ (List.getElem_mem hi)) (by have := hgts_ge (List.getElem_mem hi); omega), Option.bind_some]
        simp only [Bool.not_true, cond_false]
        rw [w64s hi k3.1]
      · unfold ref02xSame_l2
        rw [cond_d, if_neg (by omega)]
    rw [h1, Option.bind_some]
    simp only [Fl.next]
    rw [h2, Option.bind_some]
theorem refSame_self {v : ApiValue} (hv : okApiValue v) : ref02xSame v v = some true := lim_eq (hgt v) fun n hn => SameF_self n v hv hn
theorem refSamePolicy_self {p : ApiPolicy} (hp : p.Fatal.length ≤ 9223372036854775807) : ref20xSamePolicy p p = some true := by
  unfold ref20xSamePolicy
  simp only [decide_true, Bool.not_true, cond_false]
  rw [loop_look p.Fatal.length (Fl.go ()) (fun i hi => ?_) ?_, Option.bind_some]
  · rfl
  · unfold ref20xSamePolicy_l1
    rw [cond_d, if_neg (by omega)]
  · unfold ref20xSamePolicy_l1
    rw [cond_d, if_pos (by omega), idx_ok hi, Option.bind_some, Option.bind_some]
    simp only [decide_true, Bool.not_true, cond_false]
    rw [w64s hi hp]
theorem refSame22_self {e : ApiEvent} (hv : okApiValue e.Data) (hp : e.Opts.Fatal.length ≤ 9223372036854775807) : ref22xSame e e = some true := by
  unfold ref22xSame
  simp only [decide_true, cond_true, beq_self_eq_true, gd, if_true, refSame_self hv, refSamePolicy_self hp, Option.bind_some]

/-! ### Markers and admissions -/
def zeroValue : ApiValue := ⟨0, 0, [], [], []⟩
theorem ok_zero : okApiValue zeroValue := by
  refine (okApiValue_iff _).2 ⟨?_, ?_, ?_, ?_, ?_⟩ <;> simp [zeroValue, okI, okS, okLs]
def mkOf (e : ApiEvent) : Option ApiPatch :=
  if e.Kind = 18 then (if 0 ≤ e.N then some ⟨0, e.Name, e.N, zeroValue⟩ else if e.N = -1 then some ⟨1, e.Name, 0, e.Data⟩ else none) else none
def adOf (e : ApiEvent) : Option ApiAdmit := if e.Kind = 27 then some ⟨e.Key, e.Name, e.Data⟩ else none

theorem Markers_eq {es : List ApiEvent} (h : ∀ e ∈ es, okApiEvent e) (hl : es.length ≤ 300) : diverge_Markers es = some (es.filterMap mkOf) := by
  unfold diverge_Markers
  rw [loop_fm mkOf es (fun acc i hi hacc => ?_) (fun acc => ?_), Option.bind_some]
  · have he := h _ (List.getElem_mem hi)
    unfold diverge_Markers_l1
    rw [cond_d, if_pos (by simp only; omega), idx_ok hi, Option.bind_some]
    simp only [w64s hi (show es.length ≤ 9223372036854775807 by omega), cond_d, cond_nd]
    generalize es[i] = e at *
    have hd : okApiValue e.Data := he.2.2.2.2.2.2.2.2.2.1
    unfold mkOf
    by_cases h18 : e.Kind = 18
    · by_cases h0 : 0 ≤ e.N
      · have e1 : (cond (!decide (e.Kind = 18)) true (decide (e.N < -1))) = false := by simp [h18]; omega
        simp only [h18, decide_true, Bool.not_true, cond_false, h0, if_true]
        rw [cond_d, if_neg (by omega), if_neg (by omega), app_ok (by simp; omega)]
        rfl
      · by_cases h1 : e.N = -1
        · simp only [h18, decide_true, Bool.not_true, cond_false, h0, h1, if_true]
          rw [cond_d, if_neg (by omega), value_Copy_eq hd, Option.bind_some, app_ok (by simp; omega)]
          simp
        · simp only [h18, decide_true, Bool.not_true, cond_false, h0, h1, if_true, if_false]
          rw [cond_d, if_pos (by omega)]
          simp
    · simp only [h18, decide_false, Bool.not_false, cond_true, if_false]
      simp
  · unfold diverge_Markers_l1
    rw [cond_d, if_neg (by simp only; omega)]

theorem refMarkers_eq {es : List ApiEvent} (hl : es.length ≤ 300) : ref27xMarkers es = some (es.filterMap mkOf) := by
  unfold ref27xMarkers
  rw [loop_fm mkOf es (fun acc i hi hacc => ?_) (fun acc => ?_), Option.bind_some]
  · unfold ref27xMarkers_l1
    rw [cond_d, if_pos (by simp only; omega)]
    simp only [idx_ok hi, Option.bind_some, w64s hi (show es.length ≤ 9223372036854775807 by omega)]
    generalize es[i] = e at *
    unfold mkOf
    by_cases h18 : e.Kind = 18
    · simp only [h18, decide_true, cond_true, beq_self_eq_true, gd, if_true, Option.bind_some, cond_d]
      by_cases h0 : 0 ≤ e.N
      · have h1 : ¬ e.N = -1 := by omega
        simp only [h0, h1, if_true, if_false]
        rw [app_ok (by simp; omega), Option.bind_some, Option.bind_some]
        rfl
      · by_cases h1 : e.N = -1
        · have h2 : ¬ (0 : Int) ≤ -1 := by omega
          simp only [h0, h1, h2, if_true, if_false, Option.bind_some]
          rw [app_ok (by simp; omega), Option.bind_some]
          simp
        · simp only [h0, h1, if_true, if_false, Option.bind_some]
          simp
    · simp only [h18, decide_false, cond_false, if_false, gd, Option.bind_some]
      simp
  · unfold ref27xMarkers_l1
    rw [cond_d, if_neg (by simp only; omega)]

theorem Admits_eq {es : List ApiEvent} (h : ∀ e ∈ es, okApiEvent e) (hl : es.length ≤ 300) : diverge_Admits es = some (es.filterMap adOf) := by
  unfold diverge_Admits
  rw [loop_fm adOf es (fun acc i hi hacc => ?_) (fun acc => ?_), Option.bind_some]
  · have he := h _ (List.getElem_mem hi)
    unfold diverge_Admits_l1
    rw [cond_d, if_pos (by simp only; omega), idx_ok hi, Option.bind_some]
    simp only [w64s hi (show es.length ≤ 9223372036854775807 by omega)]
    generalize es[i] = e at *
    have hd : okApiValue e.Data := he.2.2.2.2.2.2.2.2.2.1
    unfold adOf
    by_cases h27 : e.Kind = 27
    · simp only [h27, decide_true, cond_true, if_true]
      rw [value_Copy_eq hd, Option.bind_some, app_ok (by simp; omega)]
      rfl
    · simp only [h27, decide_false, cond_false, if_false]
      simp
  · unfold diverge_Admits_l1
    rw [cond_d, if_neg (by simp only; omega)]
theorem refAdmits_eq {es : List ApiEvent} (hl : es.length ≤ 300) : ref27xAdmits es = some (es.filterMap adOf) := by
  unfold ref27xAdmits
  rw [loop_fm adOf es (fun acc i hi hacc => ?_) (fun acc => ?_), Option.bind_some]
  · unfold ref27xAdmits_l1
    rw [cond_d, if_pos (by simp only; omega)]
    simp only [idx_ok hi, Option.bind_some, w64s hi (show es.length ≤ 9223372036854775807 by omega)]
    generalize es[i] = e at *
    unfold adOf
    by_cases h27 : e.Kind = 27
    · simp only [h27, decide_true, cond_true, if_true]
      rw [app_ok (by simp; omega)]
      rfl
    · simp only [h27, decide_false, cond_false, if_false]
      simp
  · unfold ref27xAdmits_l1
    rw [cond_d, if_neg (by simp only; omega)]

theorem DivergeReads_pure {es : List ApiEvent} (h : okLs 272 okApiEvent es) : law27xDivergeReads es = some true := by
  unfold law27xDivergeReads
  simp only [works27, Option.bind_some]
  rw [cond_d]
  by_cases hl : (300 : Int) < es.length
  · rw [if_pos hl]
  · have hes := h.2.2
    rw [if_neg hl, Markers_eq hes (by omega), Option.bind_some, refMarkers_eq (by omega), Option.bind_some, Admits_eq hes (by omega), Option.bind_some, refAdmits_eq (by omega), Option.bind_some]
    simp only [decide_true, Bool.not_true, cond_false]
    have hm : ∀ p ∈ es.filterMap mkOf, okApiValue p.Data := fun p hp => by
      obtain ⟨e, he, h1⟩ := List.mem_filterMap.1 hp
      have hd : okApiValue e.Data := (hes e he).2.2.2.2.2.2.2.2.2.1
      unfold mkOf at h1
      split at h1
      · split at h1
        · cases h1; exact ok_zero
        · split at h1
          · cases h1; exact hd
          · cases h1
      · cases h1
    have ha : ∀ p ∈ es.filterMap adOf, okApiValue p.Data := fun p hp => by
      obtain ⟨e, he, h1⟩ := List.mem_filterMap.1 hp
      have hd : okApiValue e.Data := (hes e he).2.2.2.2.2.2.2.2.2.1
      unfold adOf at h1
      split at h1
      · cases h1; exact hd
      · cases h1
    have hml : (es.filterMap mkOf).length ≤ es.length := List.length_filterMap_le ..
    have hal : (es.filterMap adOf).length ≤ es.length := List.length_filterMap_le ..
    generalize es.filterMap mkOf = ms at *
    generalize es.filterMap adOf = ads at *
    rw [loop_look ms.length (Fl.go ()) (fun i hi => ?_) ?_, Option.bind_some]
    · simp only [Fl.next]
      rw [loop_look ads.length (Fl.go ()) (fun i hi => ?_) ?_, Option.bind_some]
      · unfold law27xDivergeReads_l2
        rw [cond_d, if_neg (by omega)]
      · unfold law27xDivergeReads_l2
        rw [cond_d, if_pos (by omega)]
        simp only [idx_ok hi, Option.bind_some, decide_true, Bool.not_true, cond_false, beq_self_eq_true, gd, if_true]
        rw [refSame22_self (by exact ha _ (List.getElem_mem hi)) (by simp), Option.bind_some]
        simp only [Bool.not_true, cond_false]
        rw [w64s hi (by omega)]
    · unfold law27xDivergeReads_l1
      rw [cond_d, if_neg (by omega)]
    · unfold law27xDivergeReads_l1
      rw [cond_d, if_pos (by omega)]
      simp only [idx_ok hi, Option.bind_some, decide_true, Bool.not_true, cond_false, beq_self_eq_true, gd, if_true]
      rw [refSame22_self (by exact hm _ (List.getElem_mem hi)) (by simp), Option.bind_some]
      simp only [Bool.not_true, cond_false]
      rw [w64s hi (by omega)]
end Go.Proofs.Ytnhchphmmdgphaa

/- PartitionForest: the plain law. -/
import Derived.Test.YtmbdbdhdcbdcpaaDoorGPPPart
import Derived.Test.YtmbdbdhdcbdcpaaDoorGPF0
namespace Go.Proofs.YtmbdbdhdcbdcpaaDoor
open Go Abs
set_option linter.unusedSimpArgs false
set_option linter.unusedVariables false
/-- A loop over a list that carries something. -/
theorem loop_foldP {α σ ρ : Type} (l : List α) (P : σ → Prop) (f : σ → α → σ) (out : σ → ρ) (s0 : σ) {body : σ × Int → Option (Step (σ × Int) ρ)} (h0 : P s0) (h : ∀ (s : σ) (i : Nat) (hi : i < l.length), P s → body (s, (i : Int)) = some (.next (f s l[i], ((i + 1 : Nat) : Int))) ∧ P (f s l[i]))
    (hout : ∀ s, P s → body (s, (l.length : Int)) = some (.out (out s))) : loopO body (s0, (0 : Int)) = some (out (l.foldl f s0)) ∧ P (l.foldl f s0) := by
  have hP : ∀ i, i ≤ l.length → P ((l.take i).foldl f s0) := by
    intro i
    induction i with
    | zero => intro _; simpa using h0
    | succ i ih =>
      intro hi
      rw [List.take_succ_eq_append_getElem (by omega), List.foldl_append]
      exact (h _ i (by omega) (ih (by omega))).2
  refine ⟨loop_to (fun s => ∃ i : Nat, s = ((l.take i).foldl f s0, (i : Int)) ∧ i ≤ l.length) (fun s => l.length - s.2.toNat) (fun _ => out (l.foldl f s0)) ?_ _ ⟨0, by simp, by omega⟩, by have := hP l.length (Nat.le_refl _); rwa [List.take_length] at this⟩
  rintro s ⟨i, rfl, hi⟩
  by_cases hlt : i < l.length
  · refine .inl ⟨_, (h _ i hlt (hP i hi)).1, ⟨i + 1, ?_, hlt⟩, by simp; omega, rfl⟩
    rw [List.take_succ_eq_append_getElem hlt, List.foldl_append]
    rfl
  · obtain rfl : i = l.length := by omega
    have := hP l.length (Nat.le_refl _)
    rw [List.take_length] at this ⊢
    rw [hout _ this]
    exact .inr rfl
theorem loop_lookF {ρ : Type} (a n : Nat) (r : ρ) (ha : a ≤ n) {body : Int → Option (Step Int ρ)} (h : ∀ i : Nat, a ≤ i → i < n → body (i : Int) = some (.next ((i + 1 : Nat) : Int))) (hout : body (n : Int) = some (.out r)) : loopO body (a : Int) = some r := by
  refine loop_to (fun s => ∃ i : Nat, s = (i : Int) ∧ a ≤ i ∧ i ≤ n) (fun s => n - s.toNat) (fun _ => r) ?_ _ ⟨a, rfl, Nat.le_refl _, ha⟩
  rintro s ⟨i, rfl, hai, hi⟩
  by_cases hlt : i < n
  · exact .inl ⟨_, h i hai hlt, ⟨i + 1, rfl, by omega, hlt⟩, by simp; omega, rfl⟩
  · obtain rfl : i = n := by omega
    exact .inr hout

/-! ### Great degrees are like 15 -/
theorem tdiv_big {a d : Int} (h0 : 0 ≤ a) (h : a < d) : Int.tdiv a d = 0 := by
  rw [Int.tdiv_eq_ediv_of_nonneg h0]; exact Int.ediv_eq_zero_of_lt h0 h
theorem tdiv_cap {a d : Int} (h0 : 0 ≤ a) (h : a < 15) (hd : 1 ≤ d) : Int.tdiv a d = Int.tdiv a (min d 15) := by
  by_cases h15 : d ≤ 15
  · rw [Int.min_eq_left h15]
  · rw [Int.min_eq_right (by omega), tdiv_big h0 (by omega), tdiv_big h0 h]
theorem parS_cap (k : Int) {d : Int} (hd : 1 ≤ d) : parS k d = parS k (min d 15) := by
  unfold parS
  by_cases h : k < 1 ∨ 16 ≤ k
  · rw [if_pos (by omega), if_pos (by omega)]
  · have hm : ¬ min d 15 < 1 := by omega
    rw [if_neg (by omega), if_neg (by omega), tdiv_cap (by omega) (by omega) hd]
theorem pathS_cap {d : Int} (hd : 1 ≤ d) : ∀ (f : Nat) (i : Int), i < 16 → pathS d f i = pathS (min d 15) f i
  | 0, _, _ => rfl
  | f + 1, i, h => by
    unfold pathS
    by_cases hi : 0 < i
    · have hr := tdiv_range (a := i - 1) (by omega) hd
      rw [if_pos hi, if_pos hi, pathS_cap hd f _ (by omega), tdiv_cap (by omega) (by omega) hd]
    · rw [if_neg hi, if_neg hi]
theorem pathP_cap (i : Int) {d : Int} (hd : 1 ≤ d) : pathP i d = pathP i (min d 15) := by
  unfold pathP
  by_cases h : 0 ≤ i ∧ i < 16
  · rw [if_pos ⟨h.1, h.2, hd⟩, if_pos ⟨h.1, h.2, by omega⟩, pathS_cap hd 16 i h.2]
  · rw [if_neg (by omega), if_neg (by omega)]
theorem fm_congr {α β : Type} {f g : α → Option β} : ∀ (l : List α), (∀ x ∈ l, f x = g x) → l.filterMap f = l.filterMap g
  | [], _ => rfl
  | x :: l, h => by rw [List.filterMap_cons, List.filterMap_cons, h x (by simp), fm_congr l fun y hy => h y (by simp [hy])]
theorem kidsP_cap (i : Int) {d n : Int} (hd : 1 ≤ d) (hn : n ≤ 16) : kidsP i d n = kidsP i (min d 15) n := by
  unfold kidsP
  by_cases h1 : n < 1
  · rw [if_pos (by omega), if_pos (by omega)]
  · rw [if_neg (by omega), if_neg (by omega)]
    refine fm_congr _ fun k hk => ?_
    rw [List.mem_range] at hk
    unfold kidF
    rw [tdiv_cap (by omega) (by omega) hd]

/-! ### All of it, for 15 degrees and 16 numbers of partitions -/
def bump (s : List Int) (k : Int) : List Int := s.set k.toNat (IntKind.i64.wrap (s.getD k.toNat 0 + 1))
def kidOk (i d n k : Int) : Bool := decide (parS k d = (i, true)) && decide (i < k) && decide (k < n) && decide (0 ≤ k)
def pathOk (i d : Int) : Bool := decide (1 ≤ (pathP i d).length) && decide ((pathP i d)[0]? = some i) && decide ((pathP i d)[(pathP i d).length - 1]? = some 0) && (List.range (pathP i d).length).all fun (k : Nat) => decide (k = 0) || decide ((parS ((pathP i d).getD (k - 1) 0) d).1 = (pathP i d).getD k 0)
def seenF (d n : Int) (m : Nat) : List Int := (List.range m).foldl (fun (s : List Int) (i : Nat) => (kidsP (i : Int) d n).foldl bump s) (List.replicate m 0)
def forestB (d n : Int) (m : Nat) : Bool := ((List.range m).all fun (i : Nat) => (kidsP (i : Int) d n).all (kidOk (i : Int) d n) && pathOk (i : Int) d) && decide (seenF d n m = 0 :: List.replicate (m - 1) 1)
theorem forest_all : ∀ d : Fin 15, ∀ m : Fin 16, forestB ((d.1 : Int) + 1) ((m.1 : Int) + 1) (m.1 + 1) = true := by decide +kernel
theorem forest_ok {d n : Int} (h1 : 1 ≤ d) (h2 : d ≤ 15) (h3 : 1 ≤ n) (h4 : n ≤ 16) : forestB d n n.toNat = true := by
  have := forest_all ⟨(d - 1).toNat, by omega⟩ ⟨(n - 1).toNat, by omega⟩
  have e1 : (((d - 1).toNat : Nat) : Int) + 1 = d := by omega
  have e2 : (((n - 1).toNat : Nat) : Int) + 1 = n := by omega
  have e3 : (n - 1).toNat + 1 = n.toNat := by omega
  simp only [e1, e2, e3] at this
  exact this
theorem bump_len (s : List Int) (k : Int) : (bump s k).length = s.length := by simp [bump]
theorem Of_range {s : List UInt8} {n : Int} (hs : s.length ≤ 10000) (h1 : 1 ≤ n) (h2 : n ≤ 16) : ∃ x, partition_Of s n = some x ∧ 0 ≤ x ∧ x < n := by
  unfold partition_Of hash_Bucket hash_Fnv
  have hl := loop_foldP (l := s) (fun h : Int => 0 ≤ h ∧ h < 4294967296) (fun (h : Int) (c : UInt8) => IntKind.wrap .u32 ((abits .xor .u32 h (IntKind.wrap .u32 (c.toNat : Int))) * (16777619 : Int))) id 2166136261 (body := hash_Fnv_l1 s) (by omega) (fun h i hi hP => by
    refine ⟨?_, ?_⟩
    · unfold hash_Fnv_l1
      simp only
      rw [cond_d, if_pos (by omega), idx_ok hi, Option.bind_some, w64s hi (by omega)]
    · generalize (abits .xor .u32 h (IntKind.wrap .u32 (s[i].toNat : Int))) * (16777619 : Int) = z
      rw [IntKind.wrap_u32]
      omega) (fun h _ => by
    unfold hash_Fnv_l1
    simp only
    rw [cond_d, if_neg (by omega)]
    rfl)
  obtain ⟨hl, hP⟩ := hl
  rw [hl]
  generalize s.foldl _ _ = z at hP
  have nzd : ¬ n = 0 := by omega
  have n1 : ¬ n < 1 := by omega
  have n2 : ¬ 16 < n := by omega
  simp only [n1, n2, nz, nzd, decide_false, cond_false, Option.bind_some, if_false, ne_eq, not_false_eq_true, if_true, id]
  refine ⟨_, rfl, ?_⟩
  rw [w64 (by omega) (by omega)]
  exact ⟨Int.tmod_nonneg _ hP.1, Int.tmod_lt_of_pos _ (by omega)⟩

theorem PartitionForest_pure (key : List UInt8) (d n : Int) : law39xPartitionForest key d n = some true := by
  unfold law39xPartitionForest
  rw [lives39]
  by_cases hk : (10000 : Int) < (key.length : Int)
  · simp [hk]
  by_cases hd : d < 1
  · simp [hd]
  by_cases hn : n < 1
  · simp [hn]
  by_cases hn2 : 16 < n
  · simp [hn2]
  simp only [hk, hd, hn, hn2, decide_false, cond_false]
  have hfor := forest_ok (d := min d 15) (n := n) (by omega) (by omega) (by omega) (by omega)
  unfold forestB at hfor
  rw [Bool.and_eq_true, decide_eq_true_eq, List.all_eq_true] at hfor
  obtain ⟨hall, hseen⟩ := hfor
  have hd1 : 1 ≤ d := by omega
  have hmk : mkS 8 n = some () := by unfold mkS; rw [if_pos (by omega)]
  rw [hmk, Option.bind_some]
  have hrl : (List.range n.toNat).length = n.toNat := List.length_range
  -- one partition's round
  have hround : ∀ (i : Nat) (s : List Int), i < n.toNat → s.length = n.toNat → law39xPartitionForest_l1 d n (s, (i : Int)) = some (.next ((kidsP (i : Int) (min d 15) n).foldl bump s, ((i + 1 : Nat) : Int))) := by
    intro i s hi hs
    have h1 := hall i (List.mem_range.2 hi)
    rw [Bool.and_eq_true, List.all_eq_true] at h1
    obtain ⟨hkids, hpath⟩ := h1
    have hkl := kidsP_len (i : Int) d n
    have hpl := pathP_len (i : Int) d
    unfold law39xPartitionForest_l1
    simp only
    rw [cond_d, if_pos (by omega), Children_eq, Option.bind_some]
    obtain ⟨hl2, hlen⟩ := loop_foldP (ρ := Fl (Step (List Int × Int) (Fl Bool (List Int))) (List Int)) (kidsP (i : Int) d n) (fun s => s.length = n.toNat) bump (fun s => .go s) s (body := law39xPartitionForest_l2 d n (s, (i : Int)) (kidsP (i : Int) d n)) hs (fun t j hj ht => by
      have hok := hkids _ (by rw [← kidsP_cap (i : Int) hd1 (by omega)]; exact List.getElem_mem hj)
      unfold kidOk at hok
      simp only [Bool.and_eq_true, decide_eq_true_eq] at hok
      obtain ⟨⟨⟨h2, h3⟩, h4⟩, h5⟩ := hok
      rw [← parS_cap _ hd1] at h2
      refine ⟨?_, by rw [bump_len]; exact ht⟩
      unfold law39xPartitionForest_l2
      simp only
      rw [cond_d, if_pos (by omega), idx_ok hj]
      simp only [Option.bind_some]
      generalize (kidsP (i : Int) d n)[j] = k at h2 h3 h4 h5 ⊢
      have h6 : ¬ k ≤ (i : Int) := by omega
      have h7 : ¬ n ≤ k := by omega
      rw [Parent_eq, h2]
      simp only [Option.bind_some, Bool.not_true, decide_true, cond_true, cond_false, beq_self_eq_true, gd, if_true, h6, h7, decide_false]
      have hkn : k = ((k.toNat : Nat) : Int) := by omega
      have hix : idx t k = some (t.getD k.toNat 0) := by
        have hkl2 : k.toNat < t.length := by omega
        have := idx_ok hkl2
        rw [← hkn] at this
        rw [this, List.getD_eq_getElem?_getD, List.getElem?_eq_getElem hkl2]
        rfl
      rw [hix]
      simp only [Option.bind_some]
      rw [w64s hj (by omega)]
      rfl) (fun t ht => by
      unfold law39xPartitionForest_l2
      simp only
      rw [cond_d, if_neg (by omega)])
    rw [hl2, Option.bind_some]
    simp only [Fl.next]
    rw [Path_eq, Option.bind_some, kidsP_cap (i : Int) hd1 (by omega)]
    unfold pathOk at hpath
    rw [← pathP_cap (i : Int) hd1] at hpath
    simp only [Bool.and_eq_true, decide_eq_true_eq, List.all_eq_true, List.mem_range, Bool.or_eq_true] at hpath
    obtain ⟨⟨⟨hp1, hp2⟩, hp3⟩, hp4⟩ := hpath
    have hn0 : ¬ (((pathP (i : Int) d).length : Int) < 1) := by omega
    have e1 : IntKind.i64.wrap (((pathP (i : Int) d).length : Int) - 1) = (((pathP (i : Int) d).length - 1 : Nat) : Int) := by rw [w64 (by omega) (by omega)]; omega
    have hi0 : idx (pathP (i : Int) d) (0 : Int) = some (i : Int) := by
      have : idx (pathP (i : Int) d) ((0 : Nat) : Int) = (pathP (i : Int) d)[0]? := idx_nat ..
      rw [hp2] at this
      exact this
    rw [e1, hi0, idx_nat, hp3]
    simp only [hn0, decide_false, gd, beq_self_eq_true, if_true, Option.bind_some, cond_false, decide_true, Bool.not_true]
    have hl3 : loopO (law39xPartitionForest_l3 d (pathP (i : Int) d)) (1 : Int) = some (.go () : Fl (Step (List Int × Int) (Fl Bool (List Int))) Unit) := by
      refine loop_lookF 1 (pathP (i : Int) d).length _ hp1 (fun k hk1 hk2 => ?_) ?_
      · unfold law39xPartitionForest_l3
        have e2 : IntKind.i64.wrap ((k : Int) - 1) = ((k - 1 : Nat) : Int) := by rw [w64 (by omega) (by omega)]; omega
        have hk3 := hp4 k hk2
        rw [cond_d, if_pos (by omega), e2, idx_ok (by omega : k - 1 < (pathP (i : Int) d).length), Option.bind_some, Parent_eq, Option.bind_some, idx_ok hk2, Option.bind_some, w64s hk2 (by omega)]
        have hk4 : (parS ((pathP (i : Int) d).getD (k - 1) 0) d).1 = (pathP (i : Int) d).getD k 0 := by
          rcases hk3 with h | h
          · omega
          · rw [parS_cap _ hd1]; exact h
        rw [List.getD_eq_getElem?_getD, List.getD_eq_getElem?_getD, List.getElem?_eq_getElem (by omega), List.getElem?_eq_getElem hk2] at hk4
        simp only [Option.getD_some] at hk4
        rw [decide_eq_true hk4]
        rfl
      · unfold law39xPartitionForest_l3
        rw [cond_d, if_neg (by omega)]
    rw [hl3, Option.bind_some]
    simp only
    rw [w64s hi (by omega)]
  obtain ⟨hl1, hlen⟩ := loop_foldP (ρ := Fl Bool (List Int)) (List.range n.toNat) (fun s => s.length = n.toNat) (fun (s : List Int) (i : Nat) => (kidsP (i : Int) (min d 15) n).foldl bump s) (fun s => .go s) (List.replicate n.toNat (0 : Int)) (body := law39xPartitionForest_l1 d n) (by simp) (fun s i hi hs => by
    rw [hrl] at hi
    refine ⟨?_, ?_⟩
    · rw [hround i s hi hs, List.getElem_range]
    · rw [List.getElem_range]
      have : ∀ (l : List Int) (s : List Int), (l.foldl bump s).length = s.length := by
        intro l
        induction l with
        | nil => intro s; rfl
        | cons x l ih => intro s; rw [List.foldl_cons, ih, bump_len]
      simp only [this, hs]) (fun s hs => by
    rw [hrl]
    unfold law39xPartitionForest_l1
    simp only
    rw [cond_d, if_neg (by omega)])
  rw [show List.foldl (fun (s : List Int) (i : Nat) => (kidsP (i : Int) (min d 15) n).foldl bump s) (List.replicate n.toNat (0 : Int)) (List.range n.toNat) = seenF (min d 15) n n.toNat from rfl, hseen] at hl1
  rw [hl1, Option.bind_some]
  simp only [Fl.next]
  have hsl : ((0 : Int) :: List.replicate (n.toNat - 1) 1).length = n.toNat := by simp; omega
  have hl4 : loopO (law39xPartitionForest_l4 ((0 : Int) :: List.replicate (n.toNat - 1) 1) n) (1 : Int) = some (.go () : Fl Bool Unit) := by
    refine loop_lookF 1 n.toNat _ (by omega) (fun k hk1 hk2 => ?_) ?_
    · unfold law39xPartitionForest_l4
      rw [cond_d, if_pos (by omega), idx_ok (by rw [hsl]; exact hk2), Option.bind_some, w64s hk2 (by omega)]
      obtain ⟨m, rfl⟩ : ∃ m, k = m + 1 := ⟨k - 1, by omega⟩
      simp
    · unfold law39xPartitionForest_l4
      rw [cond_d, if_neg (by omega)]
  rw [hl4, Option.bind_some]
  obtain ⟨x, hx, hx1, hx2⟩ := Of_range (s := key) (by omega) (show 1 ≤ n by omega) (by omega)
  simp only
  rw [hx]
  simp [idx, gd, hx1, hx2]
end Go.Proofs.YtmbdbdhdcbdcpaaDoor

/- Partitions, plainly; PartitionTree. -/
import Derived.Test.YtmbdbdhdcbdcpaaDoorGPPLoop
import Derived.Test.YtmbdbdhdcbdcpaaDoorGPF0
namespace Go.Proofs.YtmbdbdhdcbdcpaaDoor
open Go Abs
set_option linter.unusedSimpArgs false
set_option linter.unusedVariables false
def parS (i d : Int) : Int × Bool := if i < 1 ∨ 16 ≤ i ∨ d < 1 then (0, false) else (Int.tdiv (i - 1) d, true)
theorem tdiv_range {a d : Int} (h : 0 ≤ a) (hd : 1 ≤ d) : 0 ≤ Int.tdiv a d ∧ Int.tdiv a d ≤ a := by
  rw [Int.tdiv_eq_ediv_of_nonneg h]
  exact ⟨Int.ediv_nonneg h (by omega), Int.ediv_le_self d h⟩
theorem par_wrap {i d : Int} (h1 : 1 ≤ i) (h2 : i < 16) (hd : 1 ≤ d) : IntKind.i64.wrap (Int.tdiv (IntKind.i64.wrap (i - 1)) d) = Int.tdiv (i - 1) d := by
  rw [w64 (x := i - 1) (by omega) (by omega)]
  have := tdiv_range (a := i - 1) (by omega) hd
  exact w64 (by omega) (by omega)
theorem Parent_eq (i d : Int) : partition_Parent i d = some (parS i d) := by
  unfold partition_Parent partition_known parS
  by_cases h0 : i = 0
  · subst h0; simp [gd]
  · by_cases h1 : 0 ≤ i ∧ i < 16
    · by_cases h2 : d < 1
      · simp [h0, h1.1, h1.2, h2, gd]
      · have n1 : ¬ (i < 1 ∨ 16 ≤ i ∨ d < 1) := by omega
        have nzd : ¬ d = 0 := by omega
        rw [if_neg n1]
        simp only [h0, h1.1, h1.2, h2, gd, nz, nzd, decide_true, decide_false, cond_true, cond_false, beq_self_eq_true, if_true, Option.bind_some, Bool.not_true, if_false, ne_eq, not_false_eq_true]
        rw [par_wrap (by omega) h1.2 (by omega)]
    · have n1 : (i < 1 ∨ 16 ≤ i ∨ d < 1) := by omega
      have e : (cond (decide ((0 : Int) ≤ i)) (decide (i < 16)) false) = false := by
        by_cases h : 0 ≤ i
        · have : ¬ i < 16 := fun hh => h1 ⟨h, hh⟩
          simp [this]
        · simp [h]
      rw [if_pos n1, e]
      simp [h0, gd]
theorem Of_ex {s : List UInt8} (n : Int) (hs : s.length ≤ 10000) : ∃ x, partition_Of s n = some x := by
  unfold partition_Of hash_Bucket hash_Fnv
  have hl := loop_fold (l := s) (fun (h : Int) (c : UInt8) => IntKind.wrap .u32 ((abits .xor .u32 h (IntKind.wrap .u32 (c.toNat : Int))) * (16777619 : Int))) 2166136261 (body := hash_Fnv_l1 s) (fun h i hi => by
    unfold hash_Fnv_l1
    simp only
    rw [cond_d, if_pos (by omega), idx_ok hi, Option.bind_some, w64s hi (by omega)]) (fun h => by
    unfold hash_Fnv_l1
    simp only
    rw [cond_d, if_neg (by omega)])
  rw [hl]
  by_cases h1 : n < 1
  · exact ⟨0, by simp [h1]⟩
  · by_cases h2 : 16 < n
    · exact ⟨0, by simp [h2]⟩
    · have nzd : ¬ n = 0 := by omega
      simp only [h1, h2, nz, nzd, decide_false, cond_false, Option.bind_some, if_false, ne_eq, not_false_eq_true, if_true]
      exact ⟨_, rfl⟩

/-! ### Paths -/
def pathS (d : Int) : Nat → Int → List Int
  | 0, _ => []
  | f + 1, i => if 0 < i then Int.tdiv (i - 1) d :: pathS d f (Int.tdiv (i - 1) d) else []
theorem Path_loop {d : Int} (hd : 1 ≤ d) : ∀ (f : Nat) (i : Int) (acc : List Int), 0 ≤ i → i < 16 → i ≤ f → acc.length ≤ 1000 - i.toNat → loopO (partition_Path_l1 d) (i, acc) = some (acc ++ pathS d f i)
  | 0, i, acc, h0, _, hf, _ => by
    have : i = 0 := by omega
    subst this
    have h1 : partition_Path_l1 d ((0 : Int), acc) = some (.out acc) := by unfold partition_Path_l1; rfl
    rw [loopO_eq, h1]; simp [pathS]
  | f + 1, i, acc, h0, h16, hf, ha => by
    by_cases hi : 0 < i
    · have hr := tdiv_range (a := i - 1) (by omega) hd
      have nzd : ¬ d = 0 := by omega
      have h1 : partition_Path_l1 d (i, acc) = some (.next (Int.tdiv (i - 1) d, acc ++ [Int.tdiv (i - 1) d])) := by
        unfold partition_Path_l1
        simp only
        rw [cond_d, if_pos hi, par_wrap (by omega) h16 hd, app_ok (by simp only [List.length_singleton]; omega)]
        simp [nz, nzd]
      rw [loopO_eq, h1]
      simp only [Option.bind_some]
      rw [Path_loop hd f _ _ hr.1 (by omega) (by omega) (by rw [List.length_append, List.length_singleton]; omega)]
      rw [pathS, if_pos hi, List.append_assoc]; rfl
    · have : i = 0 := by omega
      subst this
      have h1 : partition_Path_l1 d ((0 : Int), acc) = some (.out acc) := by unfold partition_Path_l1; rfl
      rw [loopO_eq, h1]; simp [pathS]
def pathP (i d : Int) : List Int := if 0 ≤ i ∧ i < 16 ∧ 1 ≤ d then i :: pathS d 16 i else []
theorem Path_eq (i d : Int) : partition_Path i d = some (pathP i d) := by
  unfold partition_Path partition_known pathP
  by_cases h : 0 ≤ i ∧ i < 16 ∧ 1 ≤ d
  · have h3 : ¬ d < 1 := by omega
    rw [if_pos h]
    simp only [h.1, h.2.1, h3, decide_true, decide_false, cond_true, cond_false, Bool.not_true, Option.bind_some]
    rw [Path_loop h.2.2 16 i [i] h.1 h.2.1 (by omega) (by simp only [List.length_singleton]; omega)]
    rfl
  · rw [if_neg h]
    by_cases h1 : 0 ≤ i
    · by_cases h2 : i < 16
      · have h3 : d < 1 := by omega
        simp [h1, h2, h3]
      · simp [h1, h2]
    · simp [h1]
/-! ### Children -/
theorem loop_fm1 {β : Type} (N : Nat) (f : Nat → Option β) {body : (List β × Int) → Option (Step (List β × Int) (List β))}
    (h : ∀ (acc : List β) (k : Nat), k < N → acc.length ≤ k → body (acc, ((k + 1 : Nat) : Int)) = some (.next (acc ++ (f k).toList, ((k + 2 : Nat) : Int))))
    (hout : ∀ acc, body (acc, ((N + 1 : Nat) : Int)) = some (.out acc)) : loopO body ([], (1 : Int)) = some ((List.range N).filterMap f) := by
  refine loop_to (fun s => ∃ k : Nat, s.2 = ((k + 1 : Nat) : Int) ∧ k ≤ N ∧ s.1 = (List.range k).filterMap f) (fun s => N + 1 - s.2.toNat) (fun _ => (List.range N).filterMap f) ?_ _ ⟨0, rfl, by omega, by simp⟩
  rintro ⟨acc, i0⟩ ⟨k, hi0, hk, hacc⟩
  simp only at hi0 hacc
  subst hi0
  by_cases hlt : k < N
  · have hl : acc.length ≤ k := by rw [hacc]; exact Nat.le_trans (List.length_filterMap_le ..) (by simp)
    refine .inl ⟨_, h acc k hlt hl, ⟨k + 1, rfl, hlt, ?_⟩, by simp only; omega, rfl⟩
    rw [hacc, List.range_succ, List.filterMap_append]
    cases hf : f k <;> simp [hf]
  · obtain rfl : k = N := by omega
    rw [hout, hacc]
    exact .inr rfl
def kidF (i d : Int) (k : Nat) : Option Int := if Int.tdiv (k : Int) d = i then some ((k : Int) + 1) else none
def kidsP (i d n : Int) : List Int := if 16 < n ∨ d < 1 ∨ n < 1 then [] else (List.range (n - 1).toNat).filterMap (kidF i d)
theorem Children_eq (i d n : Int) : partition_Children i d n = some (kidsP i d n) := by
  unfold partition_Children kidsP
  by_cases h1 : 16 < n
  · simp [h1]
  · by_cases h2 : d < 1
    · simp [h2]
    · rw [decide_eq_false h1, cond_false, decide_eq_false h2, cond_false]
      by_cases h3 : n < 1
      · have hb : partition_Children_l1 i n d ([], 1) = some (.out []) := by
          unfold partition_Children_l1
          simp only
          rw [cond_d, if_neg (by omega)]
        rw [loopO_eq, hb, if_pos (.inr (.inr h3))]; rfl
      · rw [if_neg (by omega)]
        rw [loop_fm1 (n - 1).toNat (kidF i d) (fun acc k hk ha => ?_) (fun acc => ?_)]
        · rfl
        · unfold partition_Children_l1 kidF
          have nzd : ¬ d = 0 := by omega
          have hw := par_wrap (i := ((k + 1 : Nat) : Int)) (d := d) (by omega) (by omega) (by omega)
          have e1 : ((k + 1 : Nat) : Int) - 1 = (k : Int) := by omega
          have hw2 : IntKind.i64.wrap (((k + 1 : Nat) : Int) + 1) = ((k + 2 : Nat) : Int) := by rw [w64 (by omega) (by omega)]; omega
          simp only
          rw [cond_d, if_pos (by omega), hw, hw2, e1]
          simp only [nz, nzd, if_false, ne_eq, not_false_eq_true, if_true, Option.bind_some]
          rw [cond_d]
          by_cases hc : Int.tdiv (k : Int) d = i
          · rw [if_pos hc, if_pos hc, app_ok (by simp only [List.length_singleton]; omega)]; rfl
          · rw [if_neg hc, if_neg hc]; simp
        · unfold partition_Children_l1
          simp only
          rw [cond_d, if_neg (by omega)]
theorem SameInts_refl {l : List Int} (h : l.length ≤ 1000) : ref15xSameInts l l = some true := by
  unfold ref15xSameInts
  rw [loop_look l.length (.go () : Fl Bool Unit) (fun i hi => ?_) ?_]
  · simp [Fl.next]
  · unfold ref15xSameInts_l1
    rw [cond_d, if_neg (by omega)]
  · unfold ref15xSameInts_l1
    rw [cond_d, if_pos (by omega), idx_ok hi, Option.bind_some, Option.bind_some, w64s hi (by omega)]
    simp
theorem pathS_len (d : Int) : ∀ (f : Nat) (i : Int), (pathS d f i).length ≤ f
  | 0, i => by simp [pathS]
  | f + 1, i => by
    unfold pathS
    split
    · rw [List.length_cons]; have := pathS_len d f (Int.tdiv (i - 1) d); omega
    · simp
theorem pathP_len (i d : Int) : (pathP i d).length ≤ 1000 := by
  unfold pathP
  split
  · rw [List.length_cons]; have := pathS_len d 16 i; omega
  · simp
theorem kidsP_len (i d n : Int) : (kidsP i d n).length ≤ 1000 := by
  unfold kidsP
  split
  · simp
  · exact Nat.le_trans (List.length_filterMap_le ..) (by rw [List.length_range]; omega)
theorem SameInts_eq {l m : List Int} (h : l = m) (hl : l.length ≤ 1000) : ref15xSameInts l m = some true := h ▸ SameInts_refl hl
theorem lives39 : law39xlives = some true := by
  unfold law39xlives partition_Split
  rw [Parent_eq, Path_eq, Children_eq]
  simp only [Option.bind_some]
  rw [if_pos (by decide), if_pos (by decide), if_pos (by decide)]
  rw [show splitPS [97, 35, 98, 35, 49, 50] = ([97, 35, 98], 12, true) by decide +kernel, show splitPS [109, 97, 105, 110, 35, 49, 54] = ([], 0, false) by decide +kernel, show splitPS [109, 97, 105, 110, 35, 48, 51] = ([], 0, false) by decide +kernel]
  rw [show parS 4 2 = (1, true) by decide +kernel, SameInts_eq (show pathP 4 2 = [4, 1, 0] by decide +kernel) (pathP_len _ _), SameInts_eq (show kidsP 1 2 8 = [3, 4] by decide +kernel) (kidsP_len _ _ _)]
  have hn : partition_Name [109, 97, 105, 110] 3 = some [109, 97, 105, 110, 35, 51] := by
    unfold partition_Name partition_known strconv_Itoa
    rw [show Lib.itoa 3 = [51] by decide +kernel]
    rfl
  rw [hn]
  rfl
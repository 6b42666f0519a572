/- What values' encodings are, and how long. -/
import Derived.Test.YtmnobgopfnhbnaaGPPVal2
import Derived.Test.YtmnobgopfnhbnaaGPPPut
namespace Go.Proofs.Ytmnobgopfnhbnaa
open Go Abs
set_option linter.unusedSimpArgs false
set_option linter.unusedVariables false

/-! ### Numbers and strings -/
def ienc (n : Int) : List UInt8 := vint (zz n)
def tenc (s : List UInt8) : List UInt8 := vint (zz s.length) ++ s
theorem ienc_len {n : Int} (h : okI n) : (ienc n).length ≤ 10 := vint_len10 (zz_lt h.1 h.2)
theorem ienc_len_nat {n : Nat} (h : n ≤ 9223372036854775807) : (ienc (n : Int)).length ≤ 10 := ienc_len ⟨by omega, by omega⟩
theorem tenc_len {s : List UInt8} (h : s.length ≤ 9223372036854775807) : (tenc s).length ≤ 10 + s.length := by
  have := ienc_len_nat h
  unfold ienc at this
  simp only [tenc, List.length_append]; omega
theorem tenc_ge (s : List UInt8) : s.length ≤ (tenc s).length := by simp [tenc]
theorem putI {b : List UInt8} {n : Int} (hb : b.length ≤ 10000000000000) (h : okI n) : wire_PutInt b n = some (b ++ ienc n) := wire_PutInt_eq hb h.1 h.2
theorem putT {b s : List UInt8} (hb : b.length ≤ 10000000000000) (hs : s.length ≤ 10000000000000) : wire_PutText b s = some (b ++ tenc s) := by rw [wire_PutText_eq hb hs, tenc, List.append_assoc]

/-- A loop that appends what each element gives. -/
theorem loop_cat {α : Type} (B : Nat) (l : List α) (f : α → List UInt8) (b : List UInt8) (hB : (b ++ l.flatMap f).length ≤ B) {body : List UInt8 × Int → Option (Step (List UInt8 × Int) (List UInt8))}
    (h : ∀ (s : List UInt8) (i : Nat) (hi : i < l.length), (s ++ f l[i]).length ≤ B → body (s, (i : Int)) = some (.next (s ++ f l[i], ((i + 1 : Nat) : Int)))) (hout : ∀ s, body (s, (l.length : Int)) = some (.out s)) :
    loopO body (b, (0 : Int)) = some (b ++ l.flatMap f) := by
  refine loop_to (fun s => ∃ i : Nat, s.2 = (i : Int) ∧ i ≤ l.length ∧ s.1 = b ++ (l.take i).flatMap f) (fun s => l.length - s.2.toNat) (fun _ => b ++ l.flatMap f) ?_ _ ⟨0, rfl, by omega, by simp⟩
  rintro ⟨s, i0⟩ ⟨i, hi0, hi, hs⟩
  simp only at hi0 hs
  subst hi0 hs
  by_cases hlt : i < l.length
  · have e : b ++ (l.take i).flatMap f ++ f l[i] = b ++ (l.take (i + 1)).flatMap f := by rw [List.take_succ_eq_append_getElem hlt, List.flatMap_append]; simp
    have hle : (b ++ (l.take i).flatMap f ++ f l[i]).length ≤ B := by
      rw [e]
      refine Nat.le_trans ?_ hB
      conv => rhs; rw [← List.take_append_drop (i + 1) l, List.flatMap_append]
      simp only [List.length_append]; omega
    refine .inl ⟨_, h _ i hlt hle, ⟨i + 1, rfl, hlt, e⟩, by simp; omega, rfl⟩
  · obtain rfl : i = l.length := by omega
    rw [hout, List.take_length]
    exact .inr rfl

/-! ### Values -/
mutual
def venc : ApiValue → List UInt8
  | ⟨k, i, t, l, ks⟩ => ienc k ++ (if k = 1 ∨ k = 2 ∨ k = 6 then ienc i else if k = 3 then tenc t else if k = 4 then ienc l.length ++ vencl l else if k = 5 then ienc l.length ++ vencm l ks else [])
def vencl : List ApiValue → List UInt8
  | [] => []
  | x :: l => venc x ++ vencl l
def vencm : List ApiValue → List (List UInt8) → List UInt8
  | x :: l, k :: ks => tenc k ++ venc x ++ vencm l ks
  | _, _ => []
end
theorem vencl_eq : ∀ l, vencl l = l.flatMap venc
  | [] => by simp [vencl]
  | x :: l => by simp [vencl, vencl_eq l]
theorem vencm_eq : ∀ l ks, vencm l ks = (l.zip ks).flatMap fun p => tenc p.2 ++ venc p.1
  | [], _ => by simp [vencm]
  | x :: l, [] => by simp [vencm]
  | x :: l, k :: ks => by simp [vencm, vencm_eq l ks]
theorem venc_eq (v : ApiValue) : venc v = ienc v.Kind ++ (if v.Kind = 1 ∨ v.Kind = 2 ∨ v.Kind = 6 then ienc v.Int else if v.Kind = 3 then tenc v.Text else if v.Kind = 4 then ienc v.Items.length ++ v.Items.flatMap venc
    else if v.Kind = 5 then ienc v.Items.length ++ (v.Items.zip v.Keys).flatMap (fun p => tenc p.2 ++ venc p.1) else []) := by cases v; simp only [venc, vencl_eq, vencm_eq]

mutual
/-- The number of nodes. -/
def nsz : ApiValue → Nat
  | ⟨_, _, _, l, _⟩ => nszs l + 1
def nszs : List ApiValue → Nat
  | [] => 0
  | x :: l => nsz x + nszs l
end
theorem nsz_eq (v : ApiValue) : nsz v = nszs v.Items + 1 := by cases v; simp [nsz]

theorem flat_len {α : Type} (f : α → List UInt8) (g : α → Nat) : ∀ (l : List α), (∀ x ∈ l, (f x).length ≤ g x) → (l.flatMap f).length ≤ (l.map g).sum
  | [], _ => by simp
  | x :: l, h => by
    have h1 := h x (by simp)
    have h2 := flat_len f g l (fun y hy => h y (by simp [hy]))
    simp only [List.flatMap_cons, List.length_append, List.map_cons, List.sum_cons]; omega
theorem nszs_sum : ∀ l, nszs l = (l.map nsz).sum
  | [] => by simp [nszs]
  | x :: l => by simp [nszs, nszs_sum l]
theorem nszs_ge : ∀ l, l.length ≤ nszs l
  | [] => by simp
  | x :: l => by have := nszs_ge l; have := nsz_eq x; simp only [nszs, List.length_cons]; omega
theorem sum_mul (c : Nat) : ∀ (l : List ApiValue), (l.map fun x => nsz x * c).sum = nszs l * c
  | [] => by simp [nszs]
  | x :: l => by simp [nszs, sum_mul c l, Nat.add_mul]
/-- A value whose strings are short has a short encoding. -/
theorem venc_len : ∀ (n : Nat) (v : ApiValue), hgt v ≤ n → okApiValue v → shr v = true → (venc v).length + 4200 ≤ nsz v * 8400 := by
  intro n
  induction n with
  | zero => intro v h; have := hgt_eq v; omega
  | succ n ih =>
    intro v h hv hs
    have hh := hgt_eq v
    obtain ⟨k0, k1, k2, k3, k4⟩ := (okApiValue_iff v).1 hv
    rw [shr_eq] at hs
    simp only [Bool.and_eq_true, Bool.not_eq_true', List.all_eq_true, List.any_eq_false, longS, decide_eq_false_iff_not, decide_eq_true_eq] at hs
    obtain ⟨⟨h1, h2⟩, h3⟩ := hs
    have e1 := ienc_len k0
    have e2 := ienc_len k1
    have e3 := tenc_len (s := v.Text) (by omega)
    have e4 := ienc_len_nat (n := v.Items.length) k3.1
    have hi : ∀ x ∈ v.Items, (venc x).length + 4200 ≤ nsz x * 8400 := fun x hx => ih x (by have := hgts_ge hx; omega) (k3.2.2 x hx) (h3 x hx)
    rw [venc_eq, nsz_eq]
    simp only [List.length_append]
    have f4 : (v.Items.flatMap venc).length ≤ nszs v.Items * 8400 := by
      have := flat_len venc (fun x => nsz x * 8400) v.Items (fun x hx => by have := hi x hx; omega)
      rwa [sum_mul] at this
    have key : ∀ (l : List ApiValue) (ks : List (List UInt8)), (∀ x ∈ l, (venc x).length + 4200 ≤ nsz x * 8400) → (∀ k ∈ ks, k.length ≤ 4096) → ((l.zip ks).flatMap fun p => tenc p.2 ++ venc p.1).length ≤ nszs l * 8400 := by
      intro l
      induction l with
      | nil => intro ks _ _; simp
      | cons x l ihl =>
        intro ks hl hk
        cases ks with
        | nil => simp
        | cons k ks =>
          have a1 := ihl ks (fun y hy => hl y (by simp [hy])) (fun y hy => hk y (by simp [hy]))
          have a2 := hl x (by simp)
          have a3 := hk k (by simp)
          have a4 := tenc_len (s := k) (by omega)
          simp only [List.zip_cons_cons, List.flatMap_cons, List.length_append, nszs, Nat.add_mul]; omega
    have f5 := key v.Items v.Keys hi (fun k hk => by have := h2 k hk; omega)
    split
    · omega
    · split
      · omega
      · split
        · simp only [List.length_append]; omega
        · split
          · simp only [List.length_append]; omega
          · simp; omega
/-- What being formed says of the lists' lengths. -/
theorem fmd_lens {o : Bool} {v : ApiValue} (h : fmd o v = true) : (v.Kind ≠ 4 → v.Kind ≠ 5 → v.Items = []) ∧ (v.Kind = 5 → v.Keys.length = v.Items.length) ∧ ∀ x ∈ v.Items, fmd o x = true := by
  rw [fmd_eq, Bool.and_eq_true, List.all_eq_true] at h
  refine ⟨fun h4 h5 => ?_, fun h5 => ?_, h.2⟩
  · have hf := h.1
    unfold floc at hf
    by_cases h0 : v.Kind = 0
    · simp [h0] at hf; simp [hf]
    · by_cases h1 : v.Kind = 1
      · simp [h1] at hf; simp [hf]
      · by_cases h2 : v.Kind = 2
        · simp [h2] at hf; simp [hf]
        · by_cases h6 : v.Kind = 6
          · simp [h6] at hf; simp [hf]
          · by_cases h3 : v.Kind = 3
            · simp [h3] at hf; simp [hf]
            · simp [h0, h1, h2, h6, h3, h4, h5] at hf
  · have hf := h.1
    unfold floc at hf
    simp [h5] at hf
    exact hf.1.2
end Go.Proofs.Ytmnobgopfnhbnaa

/- Small words for pure functions: limits, loops, indexing, slicing, guarded values. -/
import Derived.WalkKit
namespace Go.Proofs.Ytlfggjfndmfblaa
open Go
set_option linter.unusedVariables false
set_option linter.unusedSimpArgs false

theorem bind_s {α β : Type} {o : Option α} {f : α → Option β} {r : β} (h : o.bind f = some r) : ∃ x, o = some x ∧ f x = some r := Option.bind_eq_some_iff.1 h
theorem cond_t {α : Type} {b : Bool} {x y : Option α} {r : α} (hb : b = true) (h : cond b x y = some r) : x = some r := by rw [hb] at h; exact h
theorem cond_f {α : Type} {b : Bool} {x y : Option α} {r : α} (hb : b = false) (h : cond b x y = some r) : y = some r := by rw [hb] at h; exact h
theorem ite_t {α : Type} {p : Prop} [Decidable p] {x : Option α} {r : α} (h : (if p then x else none) = some r) : p ∧ x = some r := by
  by_cases hp : p
  · rw [if_pos hp] at h; exact ⟨hp, h⟩
  · rw [if_neg hp] at h; cases h

/-- What a function settles on. -/
noncomputable def lim {β : Type} (f : Nat → Option β) : Option β := open Classical in if h : ∃ r N, ∀ n, N ≤ n → f n = some r then some (Classical.choose h) else none
theorem lim_some {β : Type} {f : Nat → Option β} {r : β} (h : lim f = some r) : ∃ n, f n = some r := by
  unfold lim at h
  split at h
  · rename_i hx
    cases h
    obtain ⟨N, hN⟩ := Classical.choose_spec hx
    exact ⟨N, hN N (Nat.le_refl _)⟩
  · cases h
theorem lim_eq {β : Type} {f : Nat → Option β} {r : β} (N : Nat) (h : ∀ n, N ≤ n → f n = some r) : lim f = some r := by
  unfold lim
  have hx : ∃ r N, ∀ n, N ≤ n → f n = some r := ⟨r, N, h⟩
  rw [dif_pos hx]
  obtain ⟨M, hM⟩ := Classical.choose_spec hx
  have h1 := hM (max N M) (Nat.le_max_right _ _)
  have h2 := h (max N M) (Nat.le_max_left _ _)
  rw [h1] at h2
  exact h2

/-- A loop's round: another one, or its end. -/
inductive Step (σ ρ : Type) where
  | next (s : σ)
  | out (r : ρ)
/-- A part's end: on with these values, or done. -/
inductive Fl (τ κ : Type) where
  | done (t : τ)
  | go (j : κ)

/-- What a part leaves, and what comes of it. -/
def Fl.next {τ κ : Type} (x : Fl τ κ) (f : κ → Option τ) : Option τ := match x with | .done t => some t | .go j => f j

def loopF {σ ρ : Type} (body : σ → Option (Step σ ρ)) : Nat → σ → Option ρ
  | 0, _ => none
  | n + 1, s => (body s).bind fun | .next s' => loopF body n s' | .out r => some r
theorem loopF_mono {σ ρ : Type} {body : σ → Option (Step σ ρ)} : ∀ {n : Nat} {s : σ} {r : ρ}, loopF body n s = some r → ∀ m, n ≤ m → loopF body m s = some r
  | 0, s, r, h, m, hm => by cases h
  | n + 1, s, r, h, 0, hm => by omega
  | n + 1, s, r, h, m + 1, hm => by
    simp only [loopF] at h ⊢
    obtain ⟨x, hx, h⟩ := bind_s h
    rw [hx]
    cases x with
    | next s' => exact loopF_mono h m (by omega)
    | out r' => exact h
noncomputable def loopO {σ ρ : Type} (body : σ → Option (Step σ ρ)) (s : σ) : Option ρ := lim fun n => loopF body n s
theorem loopO_of {σ ρ : Type} {body : σ → Option (Step σ ρ)} {n : Nat} {s : σ} {r : ρ} (h : loopF body n s = some r) : loopO body s = some r := lim_eq n fun m hm => loopF_mono h m hm
theorem loopO_some {σ ρ : Type} {body : σ → Option (Step σ ρ)} {s : σ} {r : ρ} (h : loopO body s = some r) : ∃ n, loopF body n s = some r := lim_some h
theorem loopO_eq {σ ρ : Type} (body : σ → Option (Step σ ρ)) (s : σ) : loopO body s = (body s).bind fun | .next s' => loopO body s' | .out r => some r := by
  have key : ∀ r, loopO body s = some r ↔ ((body s).bind fun | .next s' => loopO body s' | .out r => some r) = some r := by
    intro r
    constructor
    · intro h
      obtain ⟨n, hn⟩ := loopO_some h
      cases n with
      | zero => cases hn
      | succ n =>
        simp only [loopF] at hn
        obtain ⟨x, hx, hn⟩ := bind_s hn
        rw [hx]
        cases x with
        | next s' => exact loopO_of hn
        | out r' => exact hn
    · intro h
      obtain ⟨x, hx, h⟩ := bind_s h
      cases x with
      | next s' =>
        obtain ⟨n, hn⟩ := loopO_some h
        exact loopO_of (n := n + 1) (by simp only [loopF, hx]; exact hn)
      | out r' => exact loopO_of (n := 1) (by simp only [loopF, hx]; exact h)
  cases h1 : loopO body s with
  | some r => exact ((key r).1 h1).symm
  | none =>
    cases h2 : ((body s).bind fun | .next s' => loopO body s' | .out r => some r) with
    | none => rfl
    | some r => rw [(key r).2 h2] at h1; cases h1

/-- How a loop's result is shown: an invariant, a measure, what holds of the end. -/
theorem loop_ex {σ ρ : Type} {body : σ → Option (Step σ ρ)} (I : σ → Prop) (m : σ → Nat) (Q : ρ → Prop)
    (h : ∀ s, I s → (∃ s', body s = some (.next s') ∧ I s' ∧ m s' < m s) ∨ (∃ r, body s = some (.out r) ∧ Q r)) : ∀ s, I s → ∃ r, loopO body s = some r ∧ Q r := by
  intro s
  induction hn : m s using Nat.strongRecOn generalizing s with
  | _ n ih =>
    intro hI
    rw [loopO_eq]
    rcases h s hI with ⟨s', h1, h2, h3⟩ | ⟨r, h1, h2⟩
    · rw [h1]; exact ih (m s') (by omega) s' rfl h2
    · rw [h1]; exact ⟨r, rfl, h2⟩
/-- The same, where the end is told by a function that every round keeps. -/
theorem loop_to {σ ρ : Type} {body : σ → Option (Step σ ρ)} (I : σ → Prop) (m : σ → Nat) (F : σ → ρ)
    (h : ∀ s, I s → (∃ s', body s = some (.next s') ∧ I s' ∧ m s' < m s ∧ F s' = F s) ∨ body s = some (.out (F s))) : ∀ s, I s → loopO body s = some (F s) := by
  intro s
  induction hn : m s using Nat.strongRecOn generalizing s with
  | _ n ih =>
    intro hI
    rw [loopO_eq]
    rcases h s hI with ⟨s', h1, h2, h3, h4⟩ | h1
    · rw [h1, ← h4]; exact ih (m s') (by omega) s' rfl h2
    · rw [h1]; rfl

/-- Where c holds, m; else a value of no matter. -/
def gd {α : Type} [Inhabited α] (c : Bool) (m : Option α) : Option α := if c then m else some default
theorem gd_some {α : Type} [Inhabited α] {c : Bool} {m : Option α} {x : α} (h : gd c m = some x) (hc : c = true) : m = some x := by rw [gd, if_pos hc] at h; exact h

def idx {α : Type} (l : List α) (i : Int) : Option α := if i < 0 then none else l[i.toNat]?
theorem idx_some {α : Type} {l : List α} {i : Int} {x : α} (h : idx l i = some x) : 0 ≤ i ∧ i < l.length ∧ l[i.toNat]? = some x := by
  unfold idx at h
  split at h
  · cases h
  · have := (List.getElem?_eq_some_iff.1 h).1
    exact ⟨by omega, by omega, h⟩
theorem idx_nat {α : Type} {l : List α} (n : Nat) : idx l (n : Int) = l[n]? := by rw [idx, if_neg (by omega), Int.toNat_natCast]
def slcL {α : Type} (xs : List α) (l : Int) : Option (List α) := if 0 ≤ l ∧ l ≤ xs.length then some (xs.drop l.toNat) else none
def slcH {α : Type} (xs : List α) (h : Int) : Option (List α) := if 0 ≤ h ∧ h ≤ xs.length then some (xs.take h.toNat) else none
def slcB {α : Type} (xs : List α) (l h : Int) : Option (List α) := if 0 ≤ l ∧ l ≤ h ∧ h ≤ xs.length then some ((xs.take h.toNat).drop l.toNat) else none
theorem slcL_some {α : Type} {xs ys : List α} {l : Int} (h : slcL xs l = some ys) : (0 ≤ l ∧ l ≤ xs.length) ∧ ys = xs.drop l.toNat := by
  have := ite_t h
  exact ⟨this.1, (Option.some.inj this.2).symm⟩
theorem slcH_some {α : Type} {xs ys : List α} {l : Int} (h : slcH xs l = some ys) : (0 ≤ l ∧ l ≤ xs.length) ∧ ys = xs.take l.toNat := by
  have := ite_t h
  exact ⟨this.1, (Option.some.inj this.2).symm⟩
theorem slcB_some {α : Type} {xs ys : List α} {l k : Int} (h : slcB xs l k = some ys) : (0 ≤ l ∧ l ≤ k ∧ k ≤ xs.length) ∧ ys = (xs.take k.toNat).drop l.toNat := by
  have := ite_t h
  exact ⟨this.1, (Option.some.inj this.2).symm⟩
/-- A slice grown; k: how many bytes an element has. -/
def app {α : Type} (k : Nat) (xs ys : List α) : Option (List α) := if (xs.length + ys.length) * k ≤ 140737488355328 then some (xs ++ ys) else none
theorem app_some {α : Type} {k : Nat} {xs ys zs : List α} (h : app k xs ys = some zs) : (xs.length + ys.length) * k ≤ 140737488355328 ∧ zs = xs ++ ys := by
  have := ite_t h
  exact ⟨this.1, (Option.some.inj this.2).symm⟩
def cat (a b : List UInt8) : Option (List UInt8) := if a.length + b.length ≤ 9223372036854775807 then some (a ++ b) else none
theorem cat_some {a b c : List UInt8} (h : cat a b = some c) : a.length + b.length ≤ 9223372036854775807 ∧ c = a ++ b := by
  have := ite_t h
  exact ⟨this.1, (Option.some.inj this.2).symm⟩
def nz (b : Int) : Option Int := if b ≠ 0 then some b else none
theorem nz_some {b c : Int} (h : nz b = some c) : b ≠ 0 ∧ c = b := by
  have := ite_t h
  exact ⟨this.1, (Option.some.inj this.2).symm⟩
def nn (b : Int) : Option Int := if 0 ≤ b then some b else none
theorem nn_some {b c : Int} (h : nn b = some c) : 0 ≤ b ∧ c = b := by
  have := ite_t h
  exact ⟨this.1, (Option.some.inj this.2).symm⟩
/-- A byte's number. -/
def byteOf (n : Int) : Option UInt8 := if 0 ≤ n ∧ n < 256 then some (UInt8.ofNat n.toNat) else none
theorem byteOf_some {n : Int} {x : UInt8} (h : byteOf n = some x) : n = (x.toNat : Int) := by
  obtain ⟨⟨h1, h2⟩, h3⟩ := ite_t h
  have := (Option.some.inj h3).symm
  subst this
  simp [UInt8.toNat_ofNat']
  omega
theorem byteOf_nat (x : UInt8) : byteOf (x.toNat : Int) = some x := by
  have h := x.toNat_lt
  unfold byteOf
  rw [if_pos (by omega)]
  simp
theorem fl_done {τ κ : Type} {t r : τ} {X : κ → Option τ} (h : (match (Fl.done t : Fl τ κ) with | .done t => some t | .go j => X j) = some r) : t = r := Option.some.inj h
end Go.Proofs.Ytlfggjfndmfblaa

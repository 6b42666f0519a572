/- From a law's data to typed values. -/
import Derived.Test.YtnhchphmmdgphaaAbs27
namespace Go.Proofs.Ytnhchphmmdgphaa.Abs
open Go
set_option linter.unusedVariables false
set_option linter.unusedSimpArgs false

def tyFs (P : Program) (t : TypeId) : Option (List TypeId) := match P.underlying t with | some (.struct fs) => some (fs.toList.map (·.type)) | _ => none
def tySl (P : Program) (t : TypeId) : Option (TypeId × Nat) := match P.underlying t with | some (.slice e) => some (e, P.cellsOf e) | _ => none
def okI (x : Int) : Prop := -9223372036854775808 ≤ x ∧ x ≤ 9223372036854775807
def okW (k : IntKind) (x : Int) : Prop := (Lit.int k x).wf = true
def okS (s : List UInt8) : Prop := s.length ≤ 140737488351232
def okLs {α : Type} (k : Nat) (ok : α → Prop) (xs : List α) : Prop := xs.length ≤ 9223372036854775807 ∧ xs.length * k ≤ 140737488351232 ∧ ∀ x ∈ xs, ok x

section
variable {P : Program} {n : Nat} {t e : TypeId} {ps : List PV}
theorem sh_int {k : IntKind} (h : tyInt P t = some k) (hs : Shaped P n t ps) : ∃ x, ps = [.int k x] ∧ okW k x := by
  cases n with
  | zero => exact hs.elim
  | succ n =>
    have hu := tyInt_spec h
    simp only [Shaped, hu] at hs
    exact hs
theorem wf64 {x : Int} (h : okW .i64 x) : okI x := by
  unfold okW Lit.wf at h
  unfold okI
  simp only [Bool.and_eq_true, decide_eq_true_eq] at h
  exact ⟨h.1, h.2⟩
theorem sh_i64 (h : tyInt P t = some .i64) (hs : Shaped P n t ps) : ∃ x, ps = [.int .i64 x] ∧ okI x := by
  obtain ⟨x, h1, h2⟩ := sh_int h hs
  exact ⟨x, h1, wf64 h2⟩
theorem sh_u8 (h : tyInt P t = some .u8) (hs : Shaped P n t ps) : ∃ x : UInt8, ps = brow x ∧ True := by
  obtain ⟨x, h1, h2⟩ := sh_int h hs
  unfold okW Lit.wf at h2
  simp only [Bool.and_eq_true, decide_eq_true_eq] at h2
  have h4 : (0 : Int) ≤ x := h2.1
  have h5 : x ≤ (255 : Int) := h2.2
  have h3 : 0 ≤ x ∧ x < 256 := ⟨h4, by omega⟩
  refine ⟨UInt8.ofNat x.toNat, ?_, trivial⟩
  rw [h1]
  unfold brow
  have : ((UInt8.ofNat x.toNat).toNat : Int) = x := by simp; omega
  rw [this]
theorem sh_bool (h : tyIs P t = 4) (hs : Shaped P n t ps) : ∃ x, ps = [.bool x] ∧ True := by
  cases n with
  | zero => exact hs.elim
  | succ n =>
    have hu := tyIs4 h
    simp only [Shaped, hu] at hs
    obtain ⟨b, hb⟩ := hs
    exact ⟨b, hb, trivial⟩
theorem sh_str (h : tyIs P t = 2) (hs : Shaped P n t ps) : ∃ x, ps = [.str x] ∧ okS x := by
  cases n with
  | zero => exact hs.elim
  | succ n =>
    have hu := tyIs2 h
    simp only [Shaped, hu] at hs
    exact hs
theorem list_of {α : Type} {row : α → List PV} {ok : α → Prop} : ∀ (xs : List (List PV)), (∀ x ∈ xs, ∃ a, x = row a ∧ ok a) → ∃ as : List α, xs = as.map row ∧ ∀ a ∈ as, ok a
  | [], _ => ⟨[], rfl, by simp⟩
  | x :: xs, h => by
    obtain ⟨a, rfl, ha⟩ := h x (by simp)
    obtain ⟨as, rfl, has⟩ := list_of xs (fun y hy => h y (by simp [hy]))
    exact ⟨a :: as, rfl, by simpa using ⟨ha, has⟩⟩
theorem sh_sl {α : Type} {sz k : Nat} {row : α → List PV} {ok : α → Prop} (h : tySl P t = some (e, sz)) (hk : P.bytesOf e = k) (hs : Shaped P n t ps) (conv : ∀ m, m < n → ∀ qs, Shaped P m e qs → ∃ a : α, qs = row a ∧ ok a) : ∃ xs : List α, ps = [PV.ls sz row xs] ∧ okLs k ok xs := by
  cases n with
  | zero => exact hs.elim
  | succ n =>
    unfold tySl at h
    cases hu : P.underlying t with
    | none => simp [hu] at h
    | some d =>
      cases d <;> simp [hu] at h
      rename_i e'
      obtain ⟨rfl, rfl⟩ := h
      simp only [Shaped, hu] at hs
      obtain ⟨xs, rfl, hx, hl, hl2⟩ := hs
      rw [hk] at hl2
      obtain ⟨as, rfl, has⟩ := list_of (row := row) (ok := ok) xs (fun x hxm => conv n (by omega) x (hx x hxm))
      exact ⟨as, rfl, by simpa using hl, by simpa using hl2, has⟩
theorem sh_st {l : List TypeId} (h : tyFs P t = some l) (hs : Shaped P n t ps) : ∃ m, m < n ∧ ShapedF (Shaped P m) l ps := by
  cases n with
  | zero => exact hs.elim
  | succ n =>
    unfold tyFs at h
    cases hu : P.underlying t with
    | none => simp [hu] at h
    | some d =>
      cases d <;> simp [hu] at h
      subst h
      simp only [Shaped, hu] at hs
      exact ⟨n, by omega, by simpa using hs⟩
end
end Go.Proofs.Ytnhchphmmdgphaa.Abs

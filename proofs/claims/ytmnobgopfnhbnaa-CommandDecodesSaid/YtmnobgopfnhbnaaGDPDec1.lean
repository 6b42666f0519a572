/- Reading step by step: the two readers side by side, their error told. -/
import Derived.Test.YtmnobgopfnhbnaaGDPRd
namespace Go.Proofs.Ytmnobgopfnhbnaa
open Go Abs
set_option linter.unusedSimpArgs false
set_option linter.unusedVariables false
def LikeE (e : Int) (r : WireReader) (w : Ref01Reader) : Prop := ∃ (b : List UInt8) (a : Nat), b.length ≤ 1000000000 ∧ a ≤ b.length ∧ r = ⟨b, a, e, true⟩ ∧ w = ⟨true, if e = 0 then b.drop a else [], e⟩
theorem like_e {r : WireReader} {w : Ref01Reader} (h : Like r w) : ∃ e, LikeE e r w := by
  obtain ⟨b, a, e, h1, h2, h3, h4⟩ := h
  exact ⟨e, b, a, h1, h2, h3, h4⟩
theorem LikeE.like {e : Int} {r : WireReader} {w : Ref01Reader} (h : LikeE e r w) : Like r w := by
  obtain ⟨b, a, h1, h2, h3, h4⟩ := h
  exact ⟨b, a, e, h1, h2, h3, h4⟩
theorem le_err {e : Int} {r : WireReader} {w : Ref01Reader} (h : LikeE e r w) : wire_Reader_Err r = some e ∧ ref01xReader_Err w = some e := by
  obtain ⟨b, a, _, _, rfl, rfl⟩ := h
  exact ⟨rfl, rfl⟩
theorem le_fail {e : Int} {r : WireReader} {w : Ref01Reader} (x : Int) (h : LikeE e r w) : ∃ r' w', wire_Reader_Fail x r = some r' ∧ ref01xReader_Fail x w = some w' ∧ LikeE (if e = 0 then x else e) r' w' := by
  obtain ⟨b, a, hb, ha, rfl, rfl⟩ := h
  refine ⟨_, _, fail_eq, ?_, b, a, hb, ha, rfl, rfl⟩
  unfold ref01xReader_Fail ref01xReader_stopped ref01xReader_set
  by_cases h : e = 0
  · by_cases h2 : x = 0
    · simp [h, h2]
    · simp [h, h2]
  · simp [h]
theorem rInt_i64 (l : List UInt8) (low high : Int) : okI (rInt l low high).1 := by
  unfold rInt
  split
  · simp [okI]
  · rename_i u k hs
    have := unzz_ge (scan_lt l 0 0 u k hs (by omega) (by simp))
    split
    · simp [okI]
    · exact this
theorem le_int {e : Int} {r : WireReader} {w : Ref01Reader} (low high : Int) (h : LikeE e r w) : ∃ x e' r' w', wire_Reader_Int low high r = some (x, r') ∧ ref01xReader_Int low high w = some (x, w') ∧ LikeE e' r' w' ∧ okI x ∧ (e ≠ 0 → x = 0 ∧ e' = e) ∧ (e' = 0 → e = 0) := by
  by_cases he : e = 0
  · subst he
    obtain ⟨b, a, hb, ha, rfl, rfl⟩ := h
    have hl : Like ⟨b, a, 0, true⟩ ⟨true, if (0 : Int) = 0 then b.drop a else [], 0⟩ := ⟨b, a, 0, hb, ha, rfl, rfl⟩
    obtain ⟨x, r', w', h1, h2, h3⟩ := like_int (low := low) (high := high) hl
    obtain ⟨e', h4⟩ := like_e h3
    refine ⟨x, e', r', w', h1, h2, h4, ?_, fun h => absurd rfl h, fun _ => rfl⟩
    rw [int_eq ha hb] at h1
    cases h1
    exact rInt_i64 _ _ _
  · obtain ⟨b, a, hb, ha, rfl, rfl⟩ := h
    refine ⟨0, e, ⟨b, a, e, true⟩, ⟨true, if e = 0 then b.drop a else [], e⟩, ?_, ?_, ⟨b, a, hb, ha, rfl, rfl⟩, by simp [okI], fun _ => ⟨rfl, rfl⟩, fun h => absurd h he⟩
    · unfold wire_Reader_Int; rw [dead_eq]; simp [he]
    · unfold ref01xReader_Int ref01xReader_stopped; simp [he]
theorem le_text {e : Int} {r : WireReader} {w : Ref01Reader} (most : Int) (h : LikeE e r w) : ∃ x e' r' w', wire_Reader_Text most r = some (x, r') ∧ ref01xReader_Text most w = some (x, w') ∧ LikeE e' r' w' ∧ x.length ≤ 1000000000 ∧ (e ≠ 0 → x = [] ∧ e' = e) ∧ (e' = 0 → e = 0) := by
  by_cases he : e = 0
  · subst he
    obtain ⟨b, a, hb, ha, rfl, rfl⟩ := h
    have hl : Like ⟨b, a, 0, true⟩ ⟨true, if (0 : Int) = 0 then b.drop a else [], 0⟩ := ⟨b, a, 0, hb, ha, rfl, rfl⟩
    obtain ⟨x, r', w', h1, h2, h3⟩ := like_text (most := most) hl
    obtain ⟨e', h4⟩ := like_e h3
    refine ⟨x, e', r', w', h1, h2, h4, ?_, fun h => absurd rfl h, fun _ => rfl⟩
    rw [text_eq ha hb] at h1
    have : x = (rText b a most).1 := by rw [Option.some.inj h1]
    rw [this]
    unfold rText
    split
    · simp
    · split
      · simp
      · simp only [List.length_take, List.length_drop]; omega
  · obtain ⟨b, a, hb, ha, rfl, rfl⟩ := h
    refine ⟨[], e, ⟨b, a, e, true⟩, ⟨true, if e = 0 then b.drop a else [], e⟩, ?_, ?_, ⟨b, a, hb, ha, rfl, rfl⟩, by simp, fun _ => ⟨rfl, rfl⟩, fun h => absurd h he⟩
    · unfold wire_Reader_Text wire_Reader_Int; rw [dead_eq]; simp [he, dead_eq]
    · unfold ref01xReader_Text ref01xReader_Int ref01xReader_stopped; simp [he]
theorem le_open {b : List UInt8} (h : b.length ≤ 1000000000) : ∃ r w, wire_Open b = some r ∧ ref01xOpen b = some w ∧ LikeE 0 r w := by
  refine ⟨_, ⟨true, b, 0⟩, wire_Open_eq (by omega), ?_, b, 0, h, by omega, rfl, by simp⟩
  unfold ref01xOpen
  rw [app_ok (by simp; omega)]; simp
def eIf (c : Bool) (e : Int) : Int := if e = 0 then (if c then 0 else 3) else e
theorem eIf_0 {c : Bool} {e : Int} : eIf c e = 0 ↔ e = 0 ∧ c = true := by
  unfold eIf
  by_cases h : e = 0
  · cases c <;> simp [h]
  · simp [h]
theorem loop_two {σ τ ρ θ : Type} {b1 : σ → Option (Step σ ρ)} {b2 : τ → Option (Step τ θ)} (R : σ → τ → Prop) (m : σ → Nat) (Q : ρ → θ → Prop)
    (h : ∀ s t, R s t → (∃ s' t', b1 s = some (.next s') ∧ b2 t = some (.next t') ∧ R s' t' ∧ m s' < m s) ∨ (∃ x y, b1 s = some (.out x) ∧ loopO b2 t = some y ∧ Q x y)) :
    ∀ s t, R s t → ∃ x y, loopO b1 s = some x ∧ loopO b2 t = some y ∧ Q x y := by
  have key : ∀ n s t, m s ≤ n → R s t → ∃ x y, loopO b1 s = some x ∧ loopO b2 t = some y ∧ Q x y := by
    intro n
    induction n with
    | zero =>
      intro s t hm hr
      rcases h s t hr with ⟨s', t', h1, h2, h3, h4⟩ | ⟨x, y, h1, h2, h3⟩
      · omega
      · exact ⟨x, y, loop_out h1, h2, h3⟩
    | succ n ih =>
      intro s t hm hr
      rcases h s t hr with ⟨s', t', h1, h2, h3, h4⟩ | ⟨x, y, h1, h2, h3⟩
      · obtain ⟨x, y, g1, g2, g3⟩ := ih s' t' (by omega) h3
        exact ⟨x, y, by rw [loop_next h1, g1], by rw [loop_next h2, g2], g3⟩
      · exact ⟨x, y, loop_out h1, h2, h3⟩
  exact fun s t hr => key _ s t (Nat.le_refl _) hr
theorem bl_total : ∀ (a b : List UInt8), (!(Op.bytesLess a b || decide (a = b))) = Op.bytesLess b a
  | [], [] => by simp [Op.bytesLess]
  | [], y :: b => by simp [Op.bytesLess]
  | x :: a, [] => by simp [Op.bytesLess]
  | x :: a, y :: b => by
    simp only [Op.bytesLess, List.cons.injEq]
    have ih := bl_total a b
    by_cases h1 : x < y
    · have h2 : ¬ y < x := fun h => absurd (UInt8.lt_trans h1 h) (UInt8.lt_irrefl _)
      have h3 : ¬ y = x := fun h => by subst h; exact UInt8.lt_irrefl _ h1
      simp [h1, h2, h3]
    · by_cases h2 : y < x
      · have h3 : ¬ x = y := fun h => by subst h; exact UInt8.lt_irrefl _ h2
        simp [h1, h2, h3]
      · have h3 : x = y := UInt8.le_antisymm (UInt8.not_lt.1 h2) (UInt8.not_lt.1 h1)
        subst h3
        simpa [h1] using ih
end Go.Proofs.Ytmnobgopfnhbnaa

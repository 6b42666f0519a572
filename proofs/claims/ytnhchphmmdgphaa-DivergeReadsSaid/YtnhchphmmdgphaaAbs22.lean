/- A law's row: its arguments, and what is left behind. -/
import Derived.Test.YtnhchphmmdgphaaAbs21
import Derived.WideShapes
import Derived.Below
namespace Go.Proofs.Ytnhchphmmdgphaa.Abs
open Go RowKit
set_option linter.unusedVariables false
set_option linter.unusedSimpArgs false

def gOld (W : World) : G := ⟨old W, [], fun _ => none⟩

/-- The law, called from the world W with arguments that W's memory holds. -/
theorem law_calls {P : Program} {f : FuncId} {args : List AV} {W : World} {vs : Array Value} (hc : ACalls P f args [] (.c (.bool true)) []) (hv : RCells (gOld W) W vs args) :
    Calls P f vs W fun e w' => e = .returned (.bool true) ∧ Below W.heap.size W w' := by
  have h := hc.2 W (old W) [] vs (fun b o hb => hb) (by simp) (by simp) (by simp) rfl (by simp) hv
  refine h.mono fun e w' he => ?_
  obtain ⟨v, g', rfl, hi, hr⟩ := he
  obtain ⟨⟩ | _ := hr
  rename_i h
  cases h
  exact ⟨rfl, hi.os, hi.tape, hi.output, hi.size, fun k hk => hi.old k hk (by simp)⟩

theorem rcells_nil {g : G} {w : World} : RCells g w #[] [] := ⟨rfl, fun i v a h => by simp at h⟩
theorem rcells_cons {g : G} {w : World} {v : Value} {a : AV} {vs : List Value} {as : List AV} (h : RAV g w v a) (t : RCells g w vs.toArray as) : RCells g w (v :: vs).toArray (a :: as) := by
  refine ⟨by simpa using t.1, fun i u b hu hb => ?_⟩
  cases i with
  | zero => simp at hu hb; subst hu; subst hb; exact h
  | succ i => exact t.2 i u b (by simpa using hu) (by simpa using hb)

/-- An argument that is one cell. -/
theorem open_one {H : Type} {enc : TypeId × Value → H} {P : Program} {W : World} {base : Nat} {spare : Nat → Bool} {held : Bool} {L : List TypeId} (hL : plainOk P L = true) {t : TypeId} (ht : t ∈ L) {v : Value} {d : DataW H} {mp : List MemPlace}
    (hk : tyIs P t = 1 ∨ tyIs P t = 2 ∨ tyIs P t = 3 ∨ tyIs P t = 4) (hv : Value.okWide P W .any base t v) (h : DataW.Trod enc P W 0 spare held t v d mp) (hwt : ∀ y ∈ d.weights P t, y ≤ 140737488351232) : ∃ p n, RAV (gOld W) W v (.c p) ∧ Shaped P n t [p] := by
  obtain ⟨fuel, hf⟩ := h
  obtain ⟨ps, h1, h2⟩ := trod_pv hL fuel t _ _ ht hf hwt
  have hone : v.cells.toList = [v] := by
    have hp := List.all_eq_true.1 hL t ht
    unfold tyIs at hk
    split at hp
    · rename_i hu
      simp only [Value.okWide, hu] at hv
      cases v <;> simp_all [Value.cells, Cell.okWide, Cell.ok]
    · rename_i hu
      simp only [Value.okWide, hu] at hv
      cases v <;> simp_all [Value.cells, Cell.okWide, Cell.ok]
    · rename_i hu
      simp only [Value.okWide, hu] at hv
      cases v <;> simp_all [Value.cells, Cell.okWide, Cell.ok]
    · rename_i hu
      simp only [Value.okWide, hu] at hv
      cases v <;> simp_all [Value.cells, Cell.okWide, Cell.ok]
    · rename_i hu
      simp [hu] at hk
    · cases hp
  rw [hone] at h1
  obtain ⟨p, rfl⟩ : ∃ p, ps = [p] := by
    match ps, h1.1 with
    | [p], _ => exact ⟨p, rfl⟩
  exact ⟨p, fuel, .c (h1.2 0 v p rfl rfl), h2⟩

/-- An argument that is a row of cells. -/
theorem open_agg {H : Type} {enc : TypeId × Value → H} {P : Program} {W : World} {base : Nat} {spare : Nat → Bool} {held : Bool} {L : List TypeId} (hL : plainOk P L = true) {t : TypeId} (ht : t ∈ L) {v : Value} {d : DataW H} {mp : List MemPlace}
    (hk : tyIs P t = 6) (hv : Value.okWide P W .any base t v) (h : DataW.Trod enc P W 0 spare held t v d mp) (hwt : ∀ y ∈ d.weights P t, y ≤ 140737488351232) : ∃ ps n, RAV (gOld W) W v (.agg (ps.map AV.c)) ∧ Shaped P n t ps := by
  obtain ⟨fuel, hf⟩ := h
  obtain ⟨ps, h1, h2⟩ := trod_pv hL fuel t _ _ ht hf hwt
  have hagg : ∃ cs : Array Value, v = .agg cs := by
    unfold tyIs at hk
    cases hu : P.underlying t with
    | none => simp [hu] at hk
    | some d =>
      cases d <;> simp [hu] at hk
      simp only [Value.okWide, hu] at hv
      obtain ⟨cs, rfl, _⟩ := hv
      exact ⟨cs, rfl⟩
  obtain ⟨cs, rfl⟩ := hagg
  simp only [Value.cells] at h1
  refine ⟨ps, fuel, .agg cs _ (by have := h1.1; simp at this; simp [this]) (fun i v a hv' ha => ?_), h2⟩
  rw [List.getElem?_map, Option.map_eq_some_iff] at ha
  obtain ⟨p, hp, rfl⟩ := ha
  exact .c (h1.2 i v p (by simpa using hv') hp)

end Go.Proofs.Ytnhchphmmdgphaa.Abs

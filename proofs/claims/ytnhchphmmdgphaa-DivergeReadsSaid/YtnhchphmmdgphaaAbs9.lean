/- Calls and code: the logic's judgements and their soundness. -/
import Derived.Test.YtnhchphmmdgphaaAbs8
namespace Go.Proofs.Ytnhchphmmdgphaa.Abs
open Go
set_option linter.unusedVariables false
set_option linter.unusedSimpArgs false

/-! ### Weakening -/
def AV.le (a b : AV) : Prop := ∀ g w v, RAV g w v a → RAV g w v b
theorem AV.le_refl (a : AV) : a.le a := fun _ _ _ h => h
theorem AV.le_any (a : AV) : a.le .any := fun _ _ _ _ => .any
theorem AV.le_nil_list (sz : Nat) : AV.nil.le (.c (.list sz [])) := fun g w v h => by cases h; exact .c (.empty _ _ _)
theorem AV.le_nil_own (t sz : Nat) (h0 : 0 < sz) : AV.nil.le (.own t sz []) := fun g w v h => by
  cases h
  exact .own t sz [] ⟨h0, by simp, 0, [], World.ownsRow_nil w 0 0 sz, by simp, by simp [Value.ownBlock]⟩
theorem AV.le_own_list (t sz : Nat) (xs : List (List PV)) : (AV.own t sz xs).le (.c (.list sz xs)) := fun g w v h => .c h.own_inv.rv

inductive AV.leL : List AV → List AV → Prop
  | nil : AV.leL [] []
  | cons {a b : AV} {as bs : List AV} (h : a.le b) (t : AV.leL as bs) : AV.leL (a :: as) (b :: bs)

theorem AV.leL_refl : ∀ l : List AV, AV.leL l l
  | [] => .nil
  | a :: as => .cons (AV.le_refl a) (AV.leL_refl as)

theorem RCells.le {g : G} {w : World} {vs : Array Value} : ∀ {as bs : List AV}, AV.leL as bs → RCells g w vs as → RCells g w vs bs := by
  intro as bs h
  have key : as.length = bs.length ∧ ∀ (i : Nat) (b : AV), bs[i]? = some b → ∃ a, as[i]? = some a ∧ a.le b := by
    induction h with
    | nil => exact ⟨rfl, by simp⟩
    | cons h t ih =>
      refine ⟨by simp [ih.1], fun i b hb => ?_⟩
      cases i with
      | zero => simp at hb; subst hb; exact ⟨_, rfl, h⟩
      | succ i => simp at hb; simpa using ih.2 i b hb
  intro hc
  refine ⟨hc.1.trans key.1, fun i v b hv hb => ?_⟩
  obtain ⟨a, ha, hle⟩ := key.2 i b hb
  exact hle g w v (hc.2 i v a hv ha)

theorem AV.le_agg {as bs : List AV} (h : AV.leL as bs) : (AV.agg as).le (.agg bs) := fun g w v hv => by
  cases hv with
  | agg vs cs h1 h2 =>
    have := RCells.le h (show RCells g w vs as from ⟨h1, h2⟩)
    exact .agg vs bs this.1 this.2

theorem AV.le_tup {as bs : List AV} (h : AV.leL as bs) : (AV.tup as).le (.tup bs) := fun g w v hv => by
  cases hv with
  | tup vs cs h1 h2 =>
    have := RCells.le h (show RCells g w vs as from ⟨h1, h2⟩)
    exact .tup vs bs this.1 this.2

/-! ### What a call is handed -/
mutual
/-- A value as a callee sees it: without our tokens; of our variables it knows those that it is handed. -/
def AV.low (ids : List Nat) : AV → AV
  | .own _ sz xs => .c (.list sz xs)
  | .agg cs => .agg (AV.lowL ids cs)
  | .tup cs => .tup (AV.lowL ids cs)
  | .fn f cs => .fn f (AV.lowL ids cs)
  | .box id off => (match ids.idxOf? id with | some k => .box k off | _ => .any)
  | .ptrs _ => .any
  | .pptr _ => .any
  | a => a
def AV.lowL (ids : List Nat) : List AV → List AV
  | [] => []
  | a :: as => AV.low ids a :: AV.lowL ids as
end
theorem AV.lowL_eq (ids : List Nat) (l : List AV) : AV.lowL ids l = l.map (AV.low ids) := by
  induction l with
  | nil => rfl
  | cons a l ih => simp [AV.lowL, ih]

mutual
/-- What a callee gave back, as we see it. -/
def AV.lift (ids : List Nat) (n d : Nat) : AV → AV
  | .own t sz xs => if t < 16 then .own (16 * d + t) sz xs else .c (.list sz xs)
  | .agg cs => .agg (AV.liftL ids n d cs)
  | .tup cs => .tup (AV.liftL ids n d cs)
  | .fn f cs => .fn f (AV.liftL ids n d cs)
  | .box k off => (match ids[k]? with | some i => .box i off | _ => .box (n + (k - ids.length)) off)
  | .ptrs l => .ptrs (l.map fun p => ((match ids[p.1]? with | some i => i | _ => n + (p.1 - ids.length)), p.2))
  | .pptr p => .pptr ((match ids[p.1]? with | some i => i | _ => n + (p.1 - ids.length)), p.2)
  | a => a
def AV.liftL (ids : List Nat) (n d : Nat) : List AV → List AV
  | [] => []
  | a :: as => AV.lift ids n d a :: AV.liftL ids n d as
end
theorem AV.liftL_eq (ids : List Nat) (n d : Nat) (l : List AV) : AV.liftL ids n d l = l.map (AV.lift ids n d) := by
  induction l with
  | nil => rfl
  | cons a l ih => simp [AV.liftL, ih]

def callable (P : Program) (f : FuncId) : Bool := match P.funcs[f]? with | some fn => fn.name != "runtime.NumGoroutine" && fn.body.isSome | _ => false

/-- THE JUDGEMENT ON CALLS: handed these arguments and these variables, the call returns r and leaves the variables (and new ones behind them) as σ' says; of all else that was there nothing has changed. -/
def ACalls (P : Program) (f : FuncId) (args : List AV) (σ : St) (r : AV) (σ' : St) : Prop :=
  callable P f = true ∧ ∀ (w : World) (I : Nat → Nat → Prop) (β : List Nat) (vs : Array Value),
    (∀ b o, I b o → b < w.heap.size) → β.Nodup → (∀ b ∈ β, b < w.heap.size) → (∀ b ∈ β, ∀ o, ¬ I b o) → β.length = σ.length →
    (∀ (id : Nat) cs b, σ[id]? = some cs → β[id]? = some b → RBox ⟨I, β, fun _ => none⟩ w b cs) → RCells ⟨I, β, fun _ => none⟩ w vs args →
    Calls P f vs w fun e w' => ∃ v g', e = .returned v ∧ Inv ⟨w, I, β⟩ g' w' σ' ∧ RAV g' w' v r

theorem RAV.low {g : G} {w : World} {v : Value} {a : AV} (ids : List Nat) (β : List Nat) (hβ : ∀ (k id : Nat) (b : Nat), ids[k]? = some id → g.β[id]? = some b → β[k]? = some b) (h : RAV g w v a) : RAV ⟨g.I, β, fun _ => none⟩ w v (a.low ids) := by
  induction h with
  | c h => exact .c h
  | nil => exact .nil
  | own t sz xs h => exact .c h.rv
  | agg vs cs h _ ih =>
    simp only [AV.low, AV.lowL_eq]
    refine .agg vs _ (by simpa using h) (fun i v a hv ha => ?_)
    simp only [List.getElem?_map, Option.map_eq_some_iff] at ha
    obtain ⟨a, ha, rfl⟩ := ha
    exact ih i v a hv ha
  | tup vs cs h _ ih =>
    simp only [AV.low, AV.lowL_eq]
    refine .tup vs _ (by simpa using h) (fun i v a hv ha => ?_)
    simp only [List.getElem?_map, Option.map_eq_some_iff] at ha
    obtain ⟨a, ha, rfl⟩ := ha
    exact ih i v a hv ha
  | box id off b hb =>
    simp only [AV.low]
    split
    · rename_i k hk
      refine .box k off b (hβ k id b ?_ hb)
      rw [List.idxOf?, List.findIdx?_eq_some_iff_getElem] at hk
      obtain ⟨h1, h2, _⟩ := hk
      rw [List.getElem?_eq_getElem h1]
      simpa using h2
    · exact .any
  | eptr b o off cs vs hc hv => exact .eptr b o off cs vs hc hv
  | ptrs b o cap l hcap hc => exact .any
  | pptr b o bk p hi hb hc => exact .any
  | fn k vs cs h _ ih =>
    simp only [AV.low, AV.lowL_eq]
    refine .fn k vs _ (by simpa using h) (fun i v a hv ha => ?_)
    simp only [List.getElem?_map, Option.map_eq_some_iff] at ha
    obtain ⟨a, ha, rfl⟩ := ha
    exact ih i v a hv ha
  | nilptr => exact .nilptr
  | any => exact .any

theorem RCells.low {g : G} {w : World} {vs : Array Value} {cs : List AV} (ids : List Nat) (β : List Nat) (hβ : ∀ (k id : Nat) (b : Nat), ids[k]? = some id → g.β[id]? = some b → β[k]? = some b) (h : RCells g w vs cs) : RCells ⟨g.I, β, fun _ => none⟩ w vs (AV.lowL ids cs) := by
  rw [AV.lowL_eq]
  refine ⟨by simpa using h.1, fun i v a hv ha => ?_⟩
  simp only [List.getElem?_map, Option.map_eq_some_iff] at ha
  obtain ⟨a, ha, rfl⟩ := ha
  exact (h.2 i v a hv ha).low ids β hβ

/-- What a callee told, told in our ghosts. -/
theorem RAV.lift {g1 g2 : G} {w : World} {v : Value} {a : AV} (ids : List Nat) (n d : Nat) (hI : g2.I = g1.I)
    (hβ1 : ∀ (k i b : Nat), ids[k]? = some i → g1.β[k]? = some b → g2.β[i]? = some b) (hβ2 : ∀ (k b : Nat), ids[k]? = none → g1.β[k]? = some b → g2.β[n + (k - ids.length)]? = some b)
    (hτ : ∀ (t b : Nat), t < 16 → g1.τ t = some b → g2.τ (16 * d + t) = some b) (h : RAV g1 w v a) : RAV g2 w v (a.lift ids n d) := by
  have hβ : ∀ (k b : Nat), g1.β[k]? = some b → g2.β[(match ids[k]? with | some i => i | _ => n + (k - ids.length))]? = some b := by
    intro k b hb
    split
    · rename_i i hi; exact hβ1 k i b hi hb
    · rename_i hi; exact hβ2 k b (by cases h : ids[k]? <;> simp_all) hb
  induction h with
  | c h => exact .c (hI ▸ h)
  | nil => exact .nil
  | own t sz xs h =>
    simp only [AV.lift]
    split
    · rename_i ht
      obtain ⟨h0, hs, e, cells, ho, hv, hb⟩ := h
      exact .own _ sz xs ⟨h0, hs, e, cells, ho, fun i j x p hx hp => by rw [hI]; exact hv i j x p hx hp, fun b hb' => ⟨hτ t b ht (hb b hb').1, fun o => by rw [hI]; exact (hb b hb').2 o⟩⟩
    · exact .c (hI ▸ h.rv)
  | agg vs cs h _ ih =>
    simp only [AV.lift, AV.liftL_eq]
    refine .agg vs _ (by simpa using h) (fun i v a hv ha => ?_)
    simp only [List.getElem?_map, Option.map_eq_some_iff] at ha
    obtain ⟨a, ha, rfl⟩ := ha
    exact ih i v a hv ha
  | tup vs cs h _ ih =>
    simp only [AV.lift, AV.liftL_eq]
    refine .tup vs _ (by simpa using h) (fun i v a hv ha => ?_)
    simp only [List.getElem?_map, Option.map_eq_some_iff] at ha
    obtain ⟨a, ha, rfl⟩ := ha
    exact ih i v a hv ha
  | box k off b hb =>
    simp only [AV.lift]
    split
    · rename_i i hi
      exact .box i off b (hβ1 k i b hi hb)
    · rename_i hi
      exact .box _ off b (hβ2 k b (by cases h : ids[k]? <;> simp_all) hb)
  | eptr b o off cs vs hc hv => exact .eptr b o off cs vs (fun j hj => by rw [hI]; exact hc j hj) (fun j p hp => by rw [hI]; exact hv j p hp)
  | ptrs b o cap l hcap hc =>
    simp only [AV.lift]
    have := RAV.ptrs (g := g2) (w := w) b o cap (l.map fun p => ((match ids[p.1]? with | some i => i | _ => n + (p.1 - ids.length)), p.2)) (by simpa using hcap) (fun i p hp => ?_)
    · rwa [List.length_map] at this
    · rw [List.getElem?_map, Option.map_eq_some_iff] at hp
      obtain ⟨q, hq, rfl⟩ := hp
      obtain ⟨h1, bk, h2, h3⟩ := hc i q hq
      exact ⟨by rw [hI]; exact h1, bk, hβ _ _ h2, h3⟩
  | pptr b o bk p hi hb hc => exact .pptr b o bk _ (by rw [hI]; exact hi) (hβ _ _ hb) hc
  | fn k vs cs h _ ih =>
    simp only [AV.lift, AV.liftL_eq]
    refine .fn k vs _ (by simpa using h) (fun i v a hv ha => ?_)
    simp only [List.getElem?_map, Option.map_eq_some_iff] at ha
    obtain ⟨a, ha, rfl⟩ := ha
    exact ih i v a hv ha
  | nilptr => exact .nilptr
  | any => exact .any

/-- The store behind a call: the variables that were handed over, and the new ones. -/
def St.upd (σ : St) : List Nat → St → St
  | [], _ => σ
  | _ :: _, [] => σ
  | i :: is, cs :: r => St.upd (σ.set i cs) is r

end Go.Proofs.Ytnhchphmmdgphaa.Abs

/- Regions that draw their order: quiet operations first, in whatever order; what waits for all of them behind. -/
import Derived.Test.YtnhchphmmdgphaaAbs11
namespace Go.Proofs.Ytnhchphmmdgphaa.Abs
open Go
set_option linter.unusedVariables false
set_option linter.unusedSimpArgs false

def QE (σ : St) (v : AV) : Option (Nat → Bool) → AV → St → Prop := fun dm v' σ' => dm = .none ∧ v' = v ∧ σ' = σ

/-- A quiet operation: it yields this value, and nothing that is known changes. -/
def AQ (P : Program) (o : Oper) (ev : Operand → AV) (σ : St) (v : AV) : Prop :=
  match o.op with
  | .call { callee := .value f, args, argTypes } => (match ev f with
    | .fn k caps => ∃ as r, AV.leL (AV.lowL [] (args.toList.map ev ++ caps)) as ∧ ACalls P k as [] r [] ∧ v = r.low []
    | _ => False)
  | _ => aval P o ev σ (QE σ v)

def evF (F : Nat → AV) : Operand → AV
  | .tmp t => F t
  | .const v => AV.ofValue v
  | .func f => .fn f []
  | .global _ => .any

theorem evF_get (fr : Fr) : evF fr.get = fr.ev := by funext x; cases x <;> rfl

def putF (F : Nat → AV) (dst : Option Tmp) (v : AV) : Nat → AV := match dst with | some d => fun i => if i = d then v else F i | _ => F

theorem get_put (fr : Fr) (dst : Option Tmp) (v : AV) : (fr.put dst v).get = putF fr.get dst v := by
  funext i
  cases dst <;> rfl

theorem putF_comm (F : Nat → AV) {x y : Option Tmp} (v u : AV) (h : ∀ d, x = some d → y ≠ some d) : putF (putF F x v) y u = putF (putF F y u) x v := by
  cases x with
  | none => rfl
  | some d =>
    cases y with
    | none => rfl
    | some e =>
      have hne : d ≠ e := fun he => h d rfl (he ▸ rfl)
      funext i
      simp only [putF]
      by_cases h1 : i = e
      · subst h1
        simp [Ne.symm hne]
      · simp [h1]

theorem evF_put {F : Nat → AV} {dst : Option Tmp} {v : AV} {x : Operand} (h : ∀ d, dst = some d → x ≠ .tmp d) : evF (putF F dst v) x = evF F x := by
  cases dst with
  | none => rfl
  | some d =>
    cases x with
    | tmp t =>
      have : t ≠ d := fun e => h d rfl (e ▸ rfl)
      simp [evF, putF, this]
    | _ => rfl

/-! ### A rule looks at its operands alone -/
theorem afill_congr {P : Program} {t : TypeId} {ev ev' : Operand → AV} : ∀ (parts : List (Nat × Operand)) (cs : List AV), (∀ x ∈ parts.map (·.2), ev x = ev' x) → afill P t ev cs parts = afill P t ev' cs parts
  | [], cs, _ => rfl
  | (i, x) :: r, cs, h => by
    have hx : ev x = ev' x := h x (by simp)
    have ih := fun cs => afill_congr (P := P) (t := t) r cs (fun y hy => h y (by simp only [List.map_cons, List.mem_cons]; exact .inr hy))
    simp only [afill, hx, ih]
theorem arows_congr {hs : List Nat} {sz : Nat} {ev ev' : Operand → AV} : ∀ (parts : List (Nat × Operand)) (k : Nat), (∀ x ∈ parts.map (·.2), ev x = ev' x) → arows hs sz ev k parts = arows hs sz ev' k parts
  | [], k, _ => rfl
  | (i, x) :: r, k, h => by
    have hx : ev x = ev' x := h x (by simp)
    have ih := fun k => arows_congr (hs := hs) (sz := sz) r k (fun y hy => h y (by simp only [List.map_cons, List.mem_cons]; exact .inr hy))
    simp only [arows, hx, ih]
theorem aptrs_congr {ev ev' : Operand → AV} : ∀ (parts : List (Nat × Operand)) (k : Nat), (∀ x ∈ parts.map (·.2), ev x = ev' x) → aptrs ev k parts = aptrs ev' k parts
  | [], k, _ => rfl
  | (i, x) :: r, k, h => by
    have hx : ev x = ev' x := h x (by simp)
    have ih := fun k => aptrs_congr r k (fun y hy => h y (by simp only [List.map_cons, List.mem_cons]; exact .inr hy))
    simp only [aptrs, hx, ih]

theorem opt_map_congr {ev ev' : Operand → AV} {o : Option Operand} (h : ∀ x ∈ o.toList, ev x = ev' x) : o.map ev = o.map ev' := by
  cases o with
  | none => rfl
  | some x => simp [h x (by simp)]

theorem aval_congr {P : Program} {o : Oper} {ev ev' : Operand → AV} {σ : St} {K : Option (Nat → Bool) → AV → St → Prop} (h : ∀ x ∈ o.op.operands, ev x = ev' x) : aval P o ev σ K = aval P o ev' σ K := by
  obtain ⟨dst, op, ty, pos, after, guard⟩ := o
  cases op <;> simp only [Op.operands] at h
  case move x => simp only [aval, h x (by simp)]
  case assign x => simp only [aval, h x (by simp)]
  case pick x a b => simp only [aval, h x (by simp), h a (by simp), h b (by simp)]
  case alloc e => rfl
  case box e x => simp only [aval, h x (by simp)]
  case build t parts => simp only [aval, afill_congr (P := P) (t := t) parts.toList _ (fun x hx => h x (by simpa using hx))]
  case buildSlice t n parts =>
    have hp : ∀ x ∈ parts.toList.map (·.2), ev x = ev' x := fun x hx => h x (by simpa using hx)
    simp only [aval, aptrs_congr parts.toList 0 hp]
    have : ∀ hs sz, arows hs sz ev 0 parts.toList = arows hs sz ev' 0 parts.toList := fun hs sz => arows_congr parts.toList 0 hp
    simp only [this]
  case load t x => simp only [aval, h x (by simp)]
  case store t x y => simp only [aval, h x (by simp), h y (by simp)]
  case nilCheck x => simp only [aval, h x (by simp)]
  case binOp op t x y t2 => simp only [aval, h x (by simp), h y (by simp)]
  case unOp op t x => simp only [aval, h x (by simp)]
  case convert s d x => simp only [aval, h x (by simp)]
  case makeFunc fn first captured =>
    have hc : captured.toList.map ev = captured.toList.map ev' := List.map_congr_left fun x hx => h x (by simp at hx; simp [hx])
    cases fn <;> simp only [aval, hc]
  case slice t x lo hi mx =>
    have h1 : lo.map ev = lo.map ev' := opt_map_congr fun y hy => h y (by simp at hy; simp [hy])
    have h2 : hi.map ev = hi.map ev' := opt_map_congr fun y hy => h y (by simp at hy; simp [hy])
    cases mx <;> simp only [aval, h x (by simp), h1, h2]
  case fieldAddr t x f => simp only [aval, h x (by simp)]
  case field t x f => simp only [aval, h x (by simp)]
  case indexAddr t x ix => simp only [aval, h x (by simp), h ix (by simp)]
  case index t x ix => simp only [aval, h x (by simp), h ix (by simp)]
  case extract x i => simp only [aval, h x (by simp)]
  case call c =>
    obtain ⟨callee, args, argTypes⟩ := c
    cases callee with
    | builtin b =>
      have h' : ∀ x ∈ args.toList, ev x = ev' x := fun x hx => h x (by simp [Call.operands]; simpa using hx)
      cases b
      case len =>
        simp only [aval]
        split
        · rename_i x t h1 h2
          rw [h' x (by simp [h1])]
        · rfl
      case append =>
        simp only [aval]
        split
        · rename_i s x t tx h1 h2
          rw [h' s (by simp [h1]), h' x (by simp [h1])]
        · rfl
      case max =>
        simp only [aval]
        split
        · rename_i x y h1
          rw [h' x (by simp [h1]), h' y (by simp [h1])]
        · rfl
      case min =>
        simp only [aval]
        split
        · rename_i x y h1
          rw [h' x (by simp [h1]), h' y (by simp [h1])]
        · rfl
      all_goals rfl
    | _ => rfl
  all_goals rfl

theorem AQ_congr {P : Program} {o : Oper} {ev ev' : Operand → AV} {σ : St} {v : AV} (h : ∀ x ∈ o.op.operands, ev x = ev' x) : AQ P o ev σ v = AQ P o ev' σ v := by
  unfold AQ
  split
  · rename_i f args ts hop
    rw [hop] at h
    have hf : ev f = ev' f := h f (by simp [Op.operands, Call.operands])
    have ha : args.toList.map ev = args.toList.map ev' := List.map_congr_left fun x hx => h x (by simp at hx; simp [Op.operands, Call.operands, hx])
    rw [hf, ha]
  · exact aval_congr h

end Go.Proofs.Ytnhchphmmdgphaa.Abs

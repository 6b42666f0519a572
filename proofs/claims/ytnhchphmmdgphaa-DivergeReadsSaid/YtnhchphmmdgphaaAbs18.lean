/- The walk's steps. -/
import Derived.Test.YtnhchphmmdgphaaAbs17
namespace Go.Proofs.Ytnhchphmmdgphaa.Abs
open Go
set_option linter.unusedVariables false
set_option linter.unusedSimpArgs false

/-! ### A rule has one outcome -/
theorem aload_fun {ag : Bool} {n : Nat} {x : AV} {σ : St} {K : AV → Prop} : aload ag n x σ K → ∃ v, K v ∧ ∀ K' : AV → Prop, K' v → aload ag n x σ K' := by
  unfold aload
  repeat' split
  all_goals first | exact fun h => ⟨_, h, fun K' h' => h'⟩ | exact fun h => ⟨_, h.2, fun K' h' => ⟨h.1, h'⟩⟩ | exact fun h => h.elim

theorem abin_fun {P : Program} {op : BinOp} {t : TypeId} {x y : AV} {K : AV → Prop} : abin P op t x y K → ∃ v, K v ∧ ∀ K' : AV → Prop, K' v → abin P op t x y K' := by
  unfold abin
  repeat' split
  all_goals first | exact fun h => h.elim | exact fun h => ⟨_, h.2.2, fun K' h' => ⟨h.1, h.2.1, h'⟩⟩ | exact fun h => ⟨_, h.2, fun K' h' => ⟨h.1, h'⟩⟩ | exact fun h => ⟨_, h, fun K' h' => h'⟩

theorem alen_fun {k : Nat} {x : AV} {K : AV → Prop} : alen k x K → ∃ v, K v ∧ ∀ K' : AV → Prop, K' v → alen k x K' := by
  unfold alen
  repeat' split
  all_goals first | exact fun h => ⟨_, h.2, fun K' h' => ⟨h.1, h'⟩⟩ | exact fun h => h.elim

theorem abounds_fun {lo hi : Option AV} {n : Nat} {k : Nat → Nat → Prop} : abounds lo hi n k → ∃ l h, k l h ∧ ∀ k' : Nat → Nat → Prop, k' l h → abounds lo hi n k' := by
  unfold abounds
  repeat' split
  all_goals first | exact fun h => h.elim | exact fun h => ⟨_, _, h.2.2.2, fun K' h' => ⟨h.1, h.2.1, h.2.2.1, h'⟩⟩ | exact fun h => ⟨_, _, h.2.2, fun K' h' => ⟨h.1, h.2.1, h'⟩⟩ | exact fun h => ⟨_, _, h, fun K' h' => h'⟩

theorem aslice_fun {P : Program} {t : TypeId} {x : AV} {lo hi : Option AV} {K : AV → Prop} : aslice P t x lo hi K → ∃ v, K v ∧ ∀ K' : AV → Prop, K' v → aslice P t x lo hi K' := by
  unfold aslice
  repeat' split
  all_goals first | (intro h; obtain ⟨l, h', h1, h2⟩ := abounds_fun h.2; exact ⟨_, h1, fun K' hk => ⟨h.1, h2 _ hk⟩⟩) | exact fun h => h.elim

theorem get_fun {α : Type} {l : List α} {i : Int} {Q : α → Prop} (h0 : 0 ≤ i) (h1 : i < l.length) (h : ∀ x, l[i.toNat]? = some x → Q x) : ∃ x, Q x ∧ ∀ Q' : α → Prop, Q' x → ∀ y, l[i.toNat]? = some y → Q' y := by
  have hlt : i.toNat < l.length := by omega
  refine ⟨l[i.toNat], h _ (List.getElem?_eq_getElem hlt), fun Q' hq y hy => ?_⟩
  rw [List.getElem?_eq_getElem hlt] at hy
  cases hy
  exact hq

/-- What a quiet step owes. -/
def QQ (σ : St) (R : AV → Prop) : Option (Nat → Bool) → AV → St → Prop := fun dm v σ' => dm = .none ∧ σ' = σ ∧ R v

theorem aval_quiet {P : Program} {o : Oper} {ev : Operand → AV} {σ : St} {R : AV → Prop} (h : aval P o ev σ (QQ σ R)) : ∃ v, aval P o ev σ (QE σ v) ∧ R v := by
  have one : ∀ {A : (AV → Prop) → Prop}, (∃ v, QQ σ R .none v σ ∧ ∀ K' : AV → Prop, K' v → A K') → ∃ v, A (fun v' => QE σ v .none v' σ) ∧ R v := by
    rintro A ⟨v, h1, h2⟩
    exact ⟨v, h2 _ ⟨rfl, rfl, rfl⟩, h1.2.2⟩
  obtain ⟨dst, op, ty, pos, after, guard⟩ := o
  cases op
  case call c =>
    obtain ⟨callee, args, argTypes⟩ := c
    cases callee with
    | builtin b =>
      cases b
      case len =>
        simp only [aval] at h ⊢
        split at h
        · exact one (A := fun K => alen _ _ K) (alen_fun h)
        · exact h.elim
      case append =>
        exfalso
        simp only [aval] at h
        split at h
        · have h' := aappend_mono (K' := fun dm _ _ => dm = .none) (fun dm v σ h => h.1) h
          unfold aappend at h'
          repeat' split at h'
          all_goals simp at h'
        · exact h.elim
      case max =>
        simp only [aval] at h ⊢
        split at h
        · split at h
          · exact ⟨_, ⟨h.1, rfl, h.2.1⟩, h.2.2⟩
          · exact h.elim
        · exact h.elim
      case min =>
        simp only [aval] at h ⊢
        split at h
        · split at h
          · exact ⟨_, ⟨h.1, rfl, h.2.1⟩, h.2.2⟩
          · exact h.elim
        · exact h.elim
      all_goals simp only [aval] at h
    | _ => simp only [aval] at h
  case slice t x lo hi mx =>
    cases mx with
    | none =>
      obtain ⟨h7, h⟩ := h
      obtain ⟨v, h1, h2⟩ := aslice_fun h
      exact ⟨v, ⟨h7, h2 _ ⟨rfl, rfl, rfl⟩⟩, h1.2.2⟩
    | some m => simp only [aval] at h
  case makeFunc fn f cs =>
    cases fn <;> simp only [aval] at h
    exact ⟨_, ⟨h.1, h.2.1, rfl, h.2.2.1⟩, h.2.2.2⟩
  case buildSlice t n parts =>
    simp only [aval] at h ⊢
    split at h
    · obtain ⟨h1, h2, hs, h⟩ := h
      split at h
      · cases h.1
      · rename_i hrows
        split at h
        · rename_i l hl
          refine ⟨.ptrs l, ⟨h1, h2, hs, ?_⟩, h.2.2.2⟩
          split
          · rename_i rows hr; exact absurd hr (hrows rows)
          · exact ⟨h.1, rfl, rfl, rfl⟩
        · exact h.elim
    · exact h.elim
  case binOp op t x y t2 =>
    simp only [aval] at h ⊢
    exact one (A := fun K => abin P op t _ _ K) (abin_fun h)
  case load t x =>
    simp only [aval] at h ⊢
    split at h
    · exact one (A := fun K => aload _ _ _ σ K) (aload_fun h)
    · exact h.elim
  case pick x p q =>
    simp only [aval] at h ⊢
    split at h
    · rename_i t ht
      split at h
      · exact ⟨_, ⟨h.1, rfl, h.2.1⟩, h.2.2⟩
      · cases t
        · exact ⟨_, ⟨(fun e => by cases e), fun _ => ⟨rfl, rfl, rfl⟩⟩, (h.2 rfl).2.2⟩
        · exact ⟨_, ⟨fun _ => ⟨rfl, rfl, rfl⟩, (fun e => by cases e)⟩, (h.1 rfl).2.2⟩
    · exact h.elim
  case indexAddr t x ix =>
    simp only [aval] at h ⊢
    split at h
    · split at h
      · split at h
        · obtain ⟨h1, h2, h3, h⟩ := h
          obtain ⟨row, a, b⟩ := get_fun h2 h3 h
          exact ⟨_, ⟨h1, h2, h3, b _ ⟨rfl, rfl, rfl⟩⟩, a.2.2⟩
        · obtain ⟨h1, h2, h3, h⟩ := h
          obtain ⟨row, a, b⟩ := get_fun h2 h3 h
          exact ⟨_, ⟨h1, h2, h3, b _ ⟨rfl, rfl, rfl⟩⟩, a.2.2⟩
        · obtain ⟨h1, h2, h3, h⟩ := h
          obtain ⟨row, a, b⟩ := get_fun h2 h3 h
          exact ⟨_, ⟨h1, h2, h3, b _ ⟨rfl, rfl, rfl⟩⟩, a.2.2⟩
        · exact h.elim
      · exact h.elim
    · exact h.elim
  case index t x ix =>
    simp only [aval] at h ⊢
    obtain ⟨h0, h⟩ := h
    split at h
    · obtain ⟨h2, h3, h⟩ := h
      obtain ⟨row, a, b⟩ := get_fun h2 h3 h
      exact ⟨_, ⟨h0, h2, h3, b _ ⟨rfl, rfl, rfl⟩⟩, a.2.2⟩
    · exact h.elim
  all_goals simp only [aval] at h ⊢
  all_goals (repeat' split at h)
  all_goals first
    | exact h.elim
    | exact ⟨_, ⟨h.1, rfl, h.2.1⟩, h.2.2⟩
    | exact ⟨_, ⟨h.1, h.2.1, rfl, h.2.2.1⟩, h.2.2.2⟩
    | exact ⟨_, ⟨h.1, h.2.1, h.2.2.1, rfl, h.2.2.2.1⟩, h.2.2.2.2⟩
    | (obtain ⟨h1, h2, l, h3, h4⟩ := h; exact ⟨_, ⟨h1, h2, l, h3, h4.1, rfl, h4.2.1⟩, h4.2.2⟩)
    | exact h.2.elim
    | exact h.2.2.elim
    | exact h.2.2.2.elim
    | exact ⟨_, ⟨h.1, h.2.1, h.2.2.1, h.2.2.2.1, rfl, h.2.2.2.2.1⟩, h.2.2.2.2.2⟩
    | (rename_i hif; refine ⟨_, ?_, h.2.2.2⟩; rw [if_pos hif]; exact ⟨h.1, h.2.1, rfl, h.2.2.1⟩)
    | (rename_i hif _ _ _; refine ⟨_, ?_, h.2.2⟩; rw [if_neg hif]; exact ⟨h.1, rfl, h.2.1⟩)
    | (rename_i hif _ _ hx; refine ⟨_, ?_, h.2.2⟩; rw [if_neg hif]; simp only [hx]; exact ⟨h.1, rfl, h.2.1⟩)

theorem aops_mono {P : Program} {ops : List Oper} {K K' : Fr → St → Prop} (hk : ∀ fr σ, K fr σ → K' fr σ) : ∀ (l : List Oper) (fr : Fr) (σ : St), aops P ops l fr σ K → aops P ops l fr σ K'
  | [], fr, σ => hk fr σ
  | o :: l, fr, σ => aguard_mono (aop_mono (fun fr σ => aops_mono hk l fr σ)) (aops_mono hk l _ σ)

theorem aqs_mono {P : Program} {ops : List Oper} {σ : St} {K K' : Fr → Prop} (hk : ∀ fr, K fr → K' fr) : ∀ (l : List Oper) (fr : Fr), aqs P ops l fr σ K → aqs P ops l fr σ K'
  | [], fr => hk fr
  | o :: l, fr => aguard_mono (fun ⟨v, h1, h2⟩ => ⟨v, h1, aqs_mono hk l _ h2⟩) (aqs_mono hk l _)

theorem awp_mono {P : Program} {V : List Nat} {k0 : Nat} : ∀ (c : Code) {Q Q' : Exit → Fr → St → Prop} {fr : Fr} {σ : St}, (∀ e fr σ, Q e fr σ → Q' e fr σ) → awp P V k0 c Q fr σ → awp P V k0 c Q' fr σ := by
  intro c
  induction c with
  | skip => exact fun hq h => hq _ _ _ h
  | exit id => exact fun hq h => hq _ _ _ h
  | ret => exact fun hq h => hq _ _ _ h
  | seq x y ihx ihy =>
    intro Q Q' fr σ hq h
    simp only [awp] at h ⊢
    refine ihx (fun e fr σ he => ?_) h
    cases e with
    | normal => obtain ⟨fr', σ', hw, h⟩ := he; exact ⟨fr', σ', hw, ihy hq h⟩
    | _ => exact hq _ _ _ he
  | cond t x y ihx ihy =>
    intro Q Q' fr σ hq
    simp only [awp]
    split
    · exact fun h => ⟨fun e => ihx hq (h.1 e), fun e => ihy hq (h.2 e)⟩
    · exact id
  | block id x ih =>
    intro Q Q' fr σ hq h
    simp only [awp] at h ⊢
    refine ih (fun e fr σ he => ?_) h
    cases e with
    | exit id' =>
      simp only at he ⊢
      split
      · rename_i e; simp only [e, if_true] at he; exact hq _ _ _ he
      · rename_i e; simp only [e, if_false] at he; exact hq _ _ _ he
    | _ => exact hq _ _ _ he
  | loop x ih =>
    intro Q Q' fr σ hq h
    simp only [awp] at h ⊢
    obtain ⟨k, h⟩ := h
    refine ⟨k, ?_⟩
    induction k generalizing fr σ with
    | zero =>
      simp only [loopU] at h ⊢
      obtain ⟨J, h0, h1⟩ := h
      refine ⟨J, h0, fun n fr σ hJ => ih (fun e fr σ he => ?_) (h1 n fr σ hJ)⟩
      cases e with
      | normal => exact he
      | _ => exact hq _ _ _ he
    | succ k ihk =>
      simp only [loopU] at h ⊢
      refine ih (fun e fr σ he => ?_) h
      cases e with
      | normal => obtain ⟨fr', σ', hw, he⟩ := he; exact ⟨fr', σ', hw, ihk he⟩
      | _ => exact hq _ _ _ he
  | region id ops draw =>
    intro Q Q' fr σ hq
    cases draw with
    | false => exact aops_mono (fun fr σ => hq _ _ _) _ fr σ
    | true =>
      simp only [awp]
      rintro (⟨pre, h1, h2⟩ | ⟨pl, h1, h2⟩)
      · exact .inl ⟨pre, h1, aqs_mono (fun fr => aops_mono (fun fr σ => hq _ _ _) _ fr _) _ fr h2⟩
      · exact .inr ⟨pl, h1, ad_mono (fun fr σ => hq _ _ _) _ fr σ h2⟩
  | _ => intro Q Q' fr σ _ h; simp [awp] at h

/-- What comes later, not to be looked at yet. -/
def hold (p : Prop) : Prop := p
theorem hold_is {p : Prop} : hold p = p := propext Iff.rfl

def seqQ (K : Fr → St → Prop) (Q : Exit → Fr → St → Prop) : Exit → Fr → St → Prop := fun e fr σ => match e with | .normal => K fr σ | e => Q e fr σ
def blkQ (id : Nat) (Q : Exit → Fr → St → Prop) : Exit → Fr → St → Prop := fun e fr σ => match e with | .exit id' => if id' = id then Q .normal fr σ else Q (.exit id') fr σ | e => Q e fr σ
def finQ (P : Program) (rs : List ResultVar) (k0 : Nat) (r : AV) (σr : St) : Exit → Fr → St → Prop := fun e fr σ' => match e with
  | .ret => aresults P fr σ' rs fun vs => Fin k0 (rval vs) σ' r σr
  | .normal => aresults P fr σ' rs fun vs => Fin k0 (rval vs) σ' r σr
  | _ => False

section
variable {P : Program} {V : List Nat} {k0 : Nat} {Q : Exit → Fr → St → Prop} {fr : Fr} {σ : St} {K : Fr → St → Prop}
theorem w_seq {x y : Code} (h : awp P V k0 x (seqQ (awp P V k0 y Q) Q) fr σ) : awp P V k0 (.seq x y) Q fr σ := by
  refine awp_mono x (fun e fr σ he => ?_) h
  cases e with
  | normal => exact ⟨fr, σ, Weak.refl _ _ _, he⟩
  | _ => exact he
/-- Ways meet: what the first part leaves, told once. -/
theorem w_cut {x y : Code} (A : Fr → St → Prop) (h : awp P V k0 x (seqQ (fun fr σ => ∃ fr' σ', Weak k0 fr σ fr' σ' ∧ A fr' σ') Q) fr σ) (h2 : ∀ fr σ, A fr σ → awp P V k0 y Q fr σ) : awp P V k0 (.seq x y) Q fr σ := by
  refine awp_mono x (fun e fr σ he => ?_) h
  cases e with
  | normal => obtain ⟨fr', σ', hw, ha⟩ := he; exact ⟨fr', σ', hw, h2 _ _ ha⟩
  | _ => exact he
theorem w_skip (h : Q .normal fr σ) : awp P V k0 .skip Q fr σ := h
theorem w_ret (h : Q .ret fr σ) : awp P V k0 .ret Q fr σ := h
theorem w_exit {id : Nat} (h : Q (.exit id) fr σ) : awp P V k0 (.exit id) Q fr σ := h
theorem w_block {id : Nat} {c : Code} (h : awp P V k0 c (blkQ id Q) fr σ) : awp P V k0 (.block id c) Q fr σ := h
theorem w_region {id : Nat} {l : List Oper} (h : aops P l l fr σ fun fr σ => hold (Q .normal (prune V fr) σ)) : awp P V k0 (.region id l.toArray false) Q fr σ := h
theorem w_draw (pre : Nat) {id : Nat} {l : List Oper} (hB : drawOk l.toArray pre = true) (h : aqs P l (l.take pre) fr σ fun fr' => aops P l (l.drop pre) fr' σ fun fr σ => Q .normal (prune V fr) σ) : awp P V k0 (.region id l.toArray true) Q fr σ :=
  .inl ⟨pre, hB, h⟩
theorem w_plan (pl : List PI) {id : Nat} {l : List Oper} (hB : planOk l.toArray pl = true) (h : ad P l.toArray pl fr σ fun fr σ => hold (Q .normal (prune V fr) σ)) : awp P V k0 (.region id l.toArray true) Q fr σ :=
  .inr ⟨pl, hB, h⟩
theorem w_cond {c : Operand} {x y : Code} (b : Bool) (h : fr.ev c = .c (.bool b)) (h1 : b = true → awp P V k0 x Q fr σ) (h2 : b = false → awp P V k0 y Q fr σ) : awp P V k0 (.cond c x y) Q fr σ := by
  simp only [awp, h]
  exact ⟨h1, h2⟩
theorem w_loop {c : Code} (J : Nat → Fr → St → Prop) (n : Nat) {fr' : Fr} {σ' : St} (hw : Weak k0 fr σ fr' σ') (h0 : J n fr' σ') (h : ∀ n fr σ, J n fr σ → awp P V k0 c (seqQ (fun fr σ => ∃ m fr' σ', m < n ∧ Weak k0 fr σ fr' σ' ∧ J m fr' σ') Q) fr σ) : awp P V k0 (.loop c) Q fr σ :=
  ⟨0, J, ⟨n, fr', σ', hw, h0⟩, h⟩
/-- A loop of which at most k rounds are told one by one. -/
def LU (P : Program) (V : List Nat) (k0 : Nat) (c : Code) (Q : Exit → Fr → St → Prop) (k : Nat) (fr : Fr) (σ : St) : Prop :=
  loopU k0 (awp P V k0 c) (fun fr σ => ∃ J : Nat → Fr → St → Prop, (∃ n fr' σ', Weak k0 fr σ fr' σ' ∧ J n fr' σ') ∧ ∀ n fr σ, J n fr σ → awp P V k0 c (fun e fr σ => match e with | .normal => ∃ m fr' σ', m < n ∧ Weak k0 fr σ fr' σ' ∧ J m fr' σ' | e => Q e fr σ) fr σ) Q k fr σ
theorem w_unr (k : Nat) {c : Code} (h : LU P V k0 c Q k fr σ) : awp P V k0 (.loop c) Q fr σ := ⟨k, h⟩
theorem lu_s {k : Nat} {c : Code} (h : awp P V k0 c (seqQ (fun fr σ => LU P V k0 c Q k fr σ) Q) fr σ) : LU P V k0 c Q (k + 1) fr σ := by
  simp only [LU, loopU]
  refine awp_mono c (fun e fr σ he => ?_) h
  cases e with
  | normal => exact ⟨fr, σ, Weak.refl _ _ _, he⟩
  | _ => exact he
theorem q_seq_n : seqQ K Q .normal fr σ = K fr σ := propext Iff.rfl
theorem q_seq_r : seqQ K Q .ret fr σ = Q .ret fr σ := propext Iff.rfl
theorem q_seq_x (id : Nat) : seqQ K Q (.exit id) fr σ = Q (.exit id) fr σ := propext Iff.rfl
theorem q_blk_n (id : Nat) : blkQ id Q .normal fr σ = Q .normal fr σ := propext Iff.rfl
theorem q_blk_r (id : Nat) : blkQ id Q .ret fr σ = Q .ret fr σ := propext Iff.rfl
theorem q_blk_x (id id' : Nat) : blkQ id Q (.exit id') fr σ = if id' = id then Q .normal fr σ else Q (.exit id') fr σ := propext Iff.rfl
theorem q_fin_r {rs : List ResultVar} {r : AV} {σr : St} : finQ P rs k0 r σr .ret fr σ = aresults P fr σ rs fun vs => Fin k0 (rval vs) σ r σr := propext Iff.rfl
theorem q_fin_n {rs : List ResultVar} {r : AV} {σr : St} : finQ P rs k0 r σr .normal fr σ = aresults P fr σ rs fun vs => Fin k0 (rval vs) σ r σr := propext Iff.rfl
end

theorem acalls {P : Program} {f : FuncId} {fn : Func} {code : Code} {args : List AV} {σ : St} {r : AV} {σr : St} (V : List Nat) (hm : P.follows .mixedOrders = true) (hf : P.funcs[f]? = some fn) (hb : fn.body = some code) (hc : callable P f = true)
    (hok : codeOk (args.length + (fn.ntmps - args.length)) code = true) (h : awp P V σ.length code (finQ P fn.results.toList σ.length r σr) (mkFr 0 args) σ) : ACalls P f args σ r σr :=
  acalls_intro V hm hf hb hc hok h

/-! ### Knowing less, slot by slot -/
inductive Fr.leF : Fr → Fr → Prop
  | nil (fr : Fr) : Fr.leF fr []
  | cons {i : Nat} {a b : AV} {r s : Fr} (h : a.le b) (t : Fr.leF r s) : Fr.leF ((i, a) :: r) ((i, b) :: s)

theorem Fr.leF_get {fr fr' : Fr} (h : Fr.leF fr fr') (d : Nat) : (fr.get d).le (fr'.get d) := by
  induction h with
  | nil fr => exact AV.le_any _
  | cons h t ih =>
    simp only [Fr.get]
    split
    · exact h
    · exact ih

theorem Weak.frame {k0 : Nat} {fr fr' : Fr} {σ : St} (h : Fr.leF fr fr') : Weak k0 fr σ fr' σ := Weak.slots (Fr.leF_get h)
theorem Fr.leF_refl : ∀ fr : Fr, Fr.leF fr fr
  | [] => .nil _
  | (i, a) :: r => .cons (AV.le_refl a) (Fr.leF_refl r)

def Fr.inB (m : Nat) : Fr → Bool
  | [] => true
  | (_, a) :: r => a.inB m && Fr.inB m r
theorem Fr.inB_get {m : Nat} {fr : Fr} (h : fr.inB m = true) (d : Nat) : (fr.get d).inB m = true := by
  induction fr with
  | nil => rfl
  | cons x r ih =>
    obtain ⟨i, a⟩ := x
    simp only [Fr.inB, Bool.and_eq_true] at h
    simp only [Fr.get]
    split
    · exact h.1
    · exact ih h.2
def St.inB (m : Nat) : St → Bool
  | [] => true
  | cs :: r => AV.inB.inBL m cs && St.inB m r
theorem St.inB_get {m : Nat} {σ : St} (h : σ.inB m = true) (i : Nat) (cs : List AV) (hi : σ[i]? = some cs) : AV.inB.inBL m cs = true := by
  induction σ generalizing i with
  | nil => simp at hi
  | cons x r ih =>
    simp only [St.inB, Bool.and_eq_true] at h
    cases i with
    | zero => simp at hi; subst hi; exact h.1
    | succ i => simp at hi; exact ih h.2 i hi

/-- To forget: slots, then the variables from m on. -/
theorem Weak.forget {k0 : Nat} (m : Nat) {fr fr' : Fr} {σ : St} (h : Fr.leF fr fr') (hm : k0 ≤ m) (hf : fr'.inB m = true) (hs : St.inB m (σ.take m) = true) : Weak k0 fr σ fr' (σ.take m) :=
  (Weak.frame h).trans (Weak.take hm (fun d => Fr.inB_get hf d) (fun i cs hi hcs => St.inB_get hs i cs (by rw [List.getElem?_take_of_lt hi]; exact hcs)))

/-- The cells of a variable, told less. -/
theorem Weak.cells {k0 : Nat} {fr : Fr} {σ σ' : St} (h : leS σ σ') : Weak k0 fr σ fr σ' := by
  intro c g w tmps hk hi hf
  have hl := leS_get h
  exact ⟨g, ⟨hi.os, hi.tape, hi.output, hi.size, hi.old, hi.Ile, hi.Iold, hi.Ilt, hi.βpre, hi.βnew, hi.βnd, by rw [← hl.1]; exact hi.βlen, hi.βI, hi.βlt, hi.τnew, hi.τinj, fun id cs b hs hb => by
    obtain ⟨bs, hbs, hle⟩ := hl.2 id cs hs
    obtain ⟨cur, e, hh, hc⟩ := hi.store id bs b hbs hb
    exact ⟨cur, e, hh, RCells.le hle hc⟩⟩, hf⟩

end Go.Proofs.Ytnhchphmmdgphaa.Abs

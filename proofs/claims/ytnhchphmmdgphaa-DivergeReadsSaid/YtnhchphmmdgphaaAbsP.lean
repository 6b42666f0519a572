/- Regions whose order is drawn, told in one order: quiet operations may float past the others; what they read is looked at again. -/
import Derived.Test.YtnhchphmmdgphaaAbs14
namespace Go.Proofs.Ytnhchphmmdgphaa.Abs
open Go
set_option linter.unusedVariables false
set_option linter.unusedSimpArgs false

theorem aload_mono {ag : Bool} {n : Nat} {x : AV} {σ : St} {K K' : AV → Prop} (hk : ∀ v, K v → K' v) : aload ag n x σ K → aload ag n x σ K' := by
  unfold aload
  repeat' split
  all_goals first | exact fun h => hk _ h | exact fun h => ⟨h.1, hk _ h.2⟩ | exact id

theorem abin_mono {P : Program} {op : BinOp} {t : TypeId} {x y : AV} {K K' : AV → Prop} (hk : ∀ v, K v → K' v) : abin P op t x y K → abin P op t x y K' := by
  unfold abin
  repeat' split
  all_goals first | exact fun h => hk _ h | exact fun h => ⟨h.1, hk _ h.2⟩ | exact fun h => ⟨h.1, h.2.1, hk _ h.2.2⟩ | exact id

theorem alen_mono {k : Nat} {x : AV} {K K' : AV → Prop} (hk : ∀ v, K v → K' v) : alen k x K → alen k x K' := by
  unfold alen
  repeat' split
  all_goals first | exact fun h => ⟨h.1, hk _ h.2⟩ | exact id

theorem abounds_mono {lo hi : Option AV} {n : Nat} {k k' : Nat → Nat → Prop} (hk : ∀ l h, k l h → k' l h) : abounds lo hi n k → abounds lo hi n k' := by
  unfold abounds
  repeat' split
  all_goals first | exact fun h => hk _ _ h | exact fun h => ⟨h.1, h.2.1, hk _ _ h.2.2⟩ | exact fun h => ⟨h.1, h.2.1, h.2.2.1, hk _ _ h.2.2.2⟩ | exact id

theorem aslice_mono {P : Program} {t : TypeId} {x : AV} {lo hi : Option AV} {K K' : AV → Prop} (hk : ∀ v, K v → K' v) : aslice P t x lo hi K → aslice P t x lo hi K' := by
  unfold aslice
  repeat' split
  all_goals first | exact fun h => ⟨h.1, abounds_mono (fun l h => hk _) h.2⟩ | exact id

theorem aappend_mono {P : Program} {o : Oper} {t tx : TypeId} {s x : AV} {σ : St} {K K' : Option (Nat → Bool) → AV → St → Prop} (hk : ∀ dm v σ, K dm v σ → K' dm v σ) : aappend P o t tx s x σ K → aappend P o t tx s x σ K' := by
  unfold aappend
  repeat' split
  all_goals first
    | exact id
    | exact fun h => ⟨h.1, h.2.1, h.2.2.1, h.2.2.2.1, h.2.2.2.2.1, hk _ _ _ h.2.2.2.2.2⟩
    | exact fun h => ⟨h.1, h.2.1, h.2.2.1, h.2.2.2.1, hk _ _ _ h.2.2.2.2⟩
    | exact fun h => ⟨h.1, h.2.1, h.2.2.1, hk _ _ _ h.2.2.2⟩
    | exact fun h => ⟨h.1, h.2.1, h.2.2.1, h.2.2.2.1, h.2.2.2.2.1, h.2.2.2.2.2.1, hk _ _ _ h.2.2.2.2.2.2⟩

theorem aval_mono {P : Program} {o : Oper} {ev : Operand → AV} {σ : St} {K K' : Option (Nat → Bool) → AV → St → Prop} (hk : ∀ dm v σ, K dm v σ → K' dm v σ) : aval P o ev σ K → aval P o ev σ K' := by
  obtain ⟨dst, op, ty, pos, after, guard⟩ := o
  cases op
  case call c =>
    obtain ⟨callee, args, argTypes⟩ := c
    cases callee with
    | builtin b =>
      cases b <;> simp only [aval] <;> repeat' split
      all_goals first | exact fun h => alen_mono (fun v => hk _ _ _) h | exact fun h => aappend_mono hk h | exact fun h => hk _ _ _ h | exact id
    | _ => exact id
  case slice t x lo hi mx =>
    cases mx
    · exact fun h => ⟨h.1, aslice_mono (fun v => hk _ _ _) h.2⟩
    · exact id
  case makeFunc fn f cs => cases fn <;> first | exact fun h => ⟨h.1, hk _ _ _ h.2⟩ | exact id
  case binOp => simp only [aval]; exact abin_mono (fun v => hk _ _ _)
  case buildSlice t n parts =>
    simp only [aval]
    split
    · rintro ⟨h1, h2, hs, h⟩
      refine ⟨h1, h2, hs, ?_⟩
      split at h
      · exact hk _ _ _ h
      · split at h
        · exact ⟨h.1, hk _ _ _ h.2⟩
        · exact h
    · exact id
  all_goals simp only [aval]
  all_goals repeat' split
  all_goals first
    | exact id
    | exact fun h => hk _ _ _ h
    | exact fun h => aload_mono (fun v => hk _ _ _) h
    | exact fun h => ⟨fun e => hk _ _ _ (h.1 e), fun e => hk _ _ _ (h.2 e)⟩
    | exact fun h => ⟨h.1, hk _ _ _ h.2⟩
    | exact fun h => ⟨h.1, h.2.1, hk _ _ _ h.2.2⟩
    | exact fun h => ⟨h.1, h.2.1, h.2.2.1, hk _ _ _ h.2.2.2⟩
    | exact fun h => ⟨h.1, h.2.1, h.2.2.1, fun x e => hk _ _ _ (h.2.2.2 x e)⟩
    | exact fun h => ⟨h.1, h.2.1, h.2.2.1, h.2.2.2.1, hk _ _ _ h.2.2.2.2⟩
    | exact fun h => ⟨h.1, h.2.1, h.2.2.1, fun b e => hk _ _ _ (h.2.2.2 b e)⟩
    | (rintro ⟨h1, h2, l, h3, h4⟩; exact ⟨h1, h2, l, h3, hk _ _ _ h4⟩)

inductive PI where
  | q (i : Nat)
  | n (i : Nat) (rl : List Nat)
def PI.ix : PI → Nat
  | .q i => i
  | .n i _ => i

def acallV (P : Program) (dst : Option Tmp) (fv : AV) (args : List AV) (σ : St) (K : Option (Nat → Bool) → AV → St → Prop) : Prop :=
  match fv with
  | .fn f caps => ∃ ids as σc r σr, List.Nodup ids ∧ (∀ i ∈ ids, i < σ.length) ∧ AV.leL (AV.lowL ids (args ++ caps)) as ∧ leS (σ.sub ids) σc ∧ ACalls P f as σc r σr ∧
      K (some fun t => t / 16 == dst.getD 0) (r.lift ids σ.length (dst.getD 0)) (σ.after ids (dst.getD 0) σr)
  | _ => False
def aopV (P : Program) (o : Oper) (ev : Operand → AV) (σ : St) (K : Option (Nat → Bool) → AV → St → Prop) : Prop :=
  match o.op with
  | .call { callee := .value f, args, argTypes } => acallV P o.dst (ev f) (args.toList.map ev) σ K
  | _ => (match isNilCmp o with
    | some (neg, t, x, y) => anil P neg t (ev x) (ev y) fun v => K .none v σ
    | _ => aval P o ev σ K)
theorem aop_V {P : Program} {o : Oper} {fr : Fr} {σ : St} {K : Fr → St → Prop} : aop P o fr σ K = aopV P o fr.ev σ fun dm v σ' => K ((fr.demo dm).put o.dst v) σ' := by
  obtain ⟨dst, op, ty, pos, after, guard⟩ := o
  cases op
  case call c => obtain ⟨callee, args, argTypes⟩ := c; cases callee <;> rfl
  all_goals rfl
theorem aopV_congr {P : Program} {o : Oper} {ev ev' : Operand → AV} {σ : St} {K : Option (Nat → Bool) → AV → St → Prop} (h : ∀ x ∈ o.op.operands, ev x = ev' x) : aopV P o ev σ K = aopV P o ev' σ K := by
  have hv := aval_congr (P := P) (σ := σ) (K := K) h
  unfold aopV
  split
  · rename_i f args ts hop
    have hf : ev f = ev' f := h f (by simp [hop, Op.operands, Call.operands])
    have ha : args.toList.map ev = args.toList.map ev' := List.map_congr_left fun x hx => h x (by simp [hop, Op.operands, Call.operands]; simp at hx; first | exact .inr hx | exact .inl hx)
    rw [hf, ha]
  · split
    · rename_i neg t x y hn
      have hxy : ev x = ev' x ∧ ev y = ev' y := by
        unfold isNilCmp at hn
        split at hn
        · rename_i hop
          cases hn
          exact ⟨h _ (by simp [hop, Op.operands]), h _ (by simp [hop, Op.operands])⟩
        · rename_i hop
          cases hn
          exact ⟨h _ (by simp [hop, Op.operands]), h _ (by simp [hop, Op.operands])⟩
        · cases hn
      rw [hxy.1, hxy.2]
    · exact hv

def YAf (P : Program) (ops : Array Oper) (σ : St) (q : Nat) (fr : Fr) : Prop := ∃ o d, ops[q]? = some o ∧ o.dst = some d ∧ YA P ops σ o (fr.get d) fr.get
def RC (P : Program) (ops : Array Oper) (σ : St) (fr : Fr) : List Nat → Prop
  | [] => True
  | q :: r => YAf P ops σ q fr ∧ RC P ops σ fr r
theorem RC_mem {P : Program} {ops : Array Oper} {σ : St} {fr : Fr} : ∀ {l : List Nat}, RC P ops σ fr l → ∀ q ∈ l, YAf P ops σ q fr
  | [], _, q, hq => by simp at hq
  | x :: l, h, q, hq => by
    rcases List.mem_cons.1 hq with rfl | hq
    · exact h.1
    · exact RC_mem h.2 q hq

def ad (P : Program) (ops : Array Oper) : List PI → Fr → St → (Fr → St → Prop) → Prop
  | [], fr, σ, K => K fr σ
  | .q i :: r, fr, σ, K => (match ops[i]? with
    | some o => aguard ops.toList o fr.get (∃ v, AQ P o fr.ev σ v ∧ ad P ops r (fr.put o.dst v) σ K) (ad P ops r (fr.put o.dst (.tup [])) σ K)
    | _ => False)
  | .n i rl :: r, fr, σ, K => (match ops[i]? with
    | some o => aguard ops.toList o fr.get (aop P o fr σ fun fr' σ' => RC P ops σ' fr' rl ∧ ad P ops r fr' σ' K) (ad P ops r (fr.put o.dst (.tup [])) σ K)
    | _ => False)

def apartB (ops : Array Oper) (i j : Nat) : Bool := match ops[i]?, ops[j]? with   -- i writes nothing that j looks at or writes
  | some o, some oj => (match o.dst with | some d => !(oj.looksAt ops).contains d && (i == j || oj.dst != some d) | _ => true)
  | _, _ => false
def needB (ops : Array Oper) (j i : Nat) : Bool := match ops[j]?, ops[i]? with   -- i looks at what j writes
  | some oj, some o => (match oj.dst with | some d => (o.looksAt ops).contains d | _ => false)
  | _, _ => true
def okL (ops : Array Oper) : List PI → List Nat → Bool
  | [], _ => true
  | it :: r, done =>
    decide (it.ix < ops.size) && !done.contains it.ix && (done.all fun j => !needB ops j it.ix || waitsB ops ops.size j it.ix) &&
    (match it with
      | .q i => (match ops[i]? with | some o => o.dst.isSome | _ => false) && apartB ops i i && (done.all fun j => apartB ops i j)
      | .n i rl => (done.all fun j => apartB ops i j || waitsB ops ops.size j i) && (r.all fun x => waitsB ops ops.size i x.ix) && (done.all fun j => rl.contains j || waitsB ops ops.size j i)) &&
    okL ops r (it.ix :: done)
def planOk (ops : Array Oper) (pl : List PI) : Bool :=
  okL ops pl [] && ((List.range ops.size).all fun i => pl.any fun x => x.ix == i) && ((List.range ops.size).all fun i => match ops[i]? with | some o => o.after.all fun e => !Region.binds .any e || decide (e.on < i) | _ => false)

/-- What is known of the slots while some quiet operations that are told already have not been done yet. -/
def pend (ops : Array Oper) (L : Array Bool) (done : List Nat) (d : Nat) : Prop := ∃ q ∈ done, L.getD q false = false ∧ ∃ o, ops[q]? = some o ∧ o.dst = some d
open Classical in
noncomputable def restr (ops : Array Oper) (L : Array Bool) (done : List Nat) (fr : Fr) (d : Nat) : AV := if pend ops L done d then .any else fr.get d

structure DI (P : Program) (ops : Array Oper) (c : Ctx) (N : Nat) (L : Array Bool) (done : List Nat) (fr : Fr) (σ : St) (a : Act) (w : World) : Prop where
  sz : L.size = ops.size
  dc : DC ops L
  sub : ∀ i, L.getD i false = true → i ∈ done
  ya : ∀ q ∈ done, L.getD q false = false → YAf P ops σ q fr
  sim : SimF c N a w (restr ops L done fr) σ

theorem looks_operand {ops : Array Oper} {o : Oper} {t : Nat} (h : .tmp t ∈ o.op.operands) : t ∈ o.looksAt ops := by
  unfold Oper.looksAt
  exact List.mem_append_left _ (List.mem_filterMap.2 ⟨.tmp t, by simpa using h, rfl⟩)

theorem aguard_congr {ops : Array Oper} {o : Oper} {F F' : Nat → AV} {y n : Prop} (h : ∀ d ∈ o.looksAt ops, F d = F' d) : aguard ops.toList o F y n = aguard ops.toList o F' y n := by
  unfold aguard
  cases hg : o.guard with
  | none => rfl
  | some p =>
    obtain ⟨j, want⟩ := p
    simp only
    cases hp : ops.toList[j]? with
    | none => rfl
    | some q =>
      simp only
      cases hd : q.dst with
      | none => rfl
      | some d =>
        simp only
        rw [h d (by unfold Oper.looksAt; rw [Array.getElem?_toList] at hp; exact List.mem_append_right _ (by simp [hg, hp, hd]))]
theorem evF_congr {ops : Array Oper} {o : Oper} {F F' : Nat → AV} (h : ∀ d ∈ o.looksAt ops, F d = F' d) : ∀ x ∈ o.op.operands, evF F x = evF F' x := by
  intro x hx
  cases x with
  | tmp t => exact h t (looks_operand hx)
  | _ => rfl
theorem YA_congr {P : Program} {ops : Array Oper} {σ : St} {o : Oper} {v : AV} {F F' : Nat → AV} (h : ∀ d ∈ o.looksAt ops, F d = F' d) : YA P ops σ o v F = YA P ops σ o v F' := by
  unfold YA
  rw [aguard_congr h, AQ_congr (evF_congr h)]

theorem set_getD {L : Array Bool} {i j : Nat} (hi : i < L.size) : (L.setIfInBounds i true).getD j false = if j = i then true else L.getD j false := by
  by_cases h : j = i
  · subst h; simp [Array.getD_eq_getD_getElem?, hi]
  · simp [Array.getD_eq_getD_getElem?, Array.getElem?_setIfInBounds_ne (Ne.symm h), h]
theorem getD_lt {L : Array Bool} {i : Nat} (h : L.getD i true = false) : i < L.size := by
  rw [Array.getD_eq_getD_getElem?] at h
  cases hi : L[i]? with
  | none => rw [hi] at h; simp at h
  | some b => exact (Array.getElem?_eq_some_iff.1 hi).1

theorem needs_of {ops : Array Oper} {i j : Nat} {o oj : Oper} {d : Nat} (hi : ops[i]? = some o) (hj : ops[j]? = some oj) (hd : oj.dst = some d) (hl : d ∈ o.looksAt ops) : needB ops j i = true := by
  simp [needB, hi, hj, hd, hl]
theorem apart_of {ops : Array Oper} {i j : Nat} {o oj : Oper} {d : Nat} (hi : ops[i]? = some o) (hj : ops[j]? = some oj) (hd : o.dst = some d) (h : apartB ops i j = true) : d ∉ oj.looksAt ops ∧ (i = j ∨ oj.dst ≠ some d) := by
  simp only [apartB, hi, hj, hd, Bool.and_eq_true, Bool.not_eq_true', Bool.or_eq_true, beq_iff_eq, bne_iff_ne] at h
  refine ⟨fun hm => ?_, h.2⟩
  have := List.contains_iff_mem.2 hm
  rw [h.1] at this
  cases this

/-- Quiet operations told one after another: none of them needs to be done yet. -/
theorem absorb {P : Program} {ops : Array Oper} {c : Ctx} {N : Nat} {L : Array Bool} {σ : St} {a : Act} {w : World} {K : Fr → St → Prop} : ∀ (pl : List PI) (done : List Nat) (fr : Fr), okL ops pl done = true → (∀ i, i < ops.size → i ∈ done ∨ ∃ x ∈ pl, x.ix = i) → DI P ops c N L done fr σ a w → ad P ops pl fr σ K →
    (∀ q ∈ done, ∀ q' ∈ done, L.getD q false = false → L.getD q' false = false → needB ops q' q = true → waitsB ops ops.size q' q = true) →
    ∃ pl' done' fr', (pl' = [] ∨ ∃ i rl r, pl' = .n i rl :: r) ∧ okL ops pl' done' = true ∧ (∀ i, i < ops.size → i ∈ done' ∨ ∃ x ∈ pl', x.ix = i) ∧ DI P ops c N L done' fr' σ a w ∧ ad P ops pl' fr' σ K ∧
      (∀ q ∈ done', ∀ q' ∈ done', L.getD q false = false → L.getD q' false = false → needB ops q' q = true → waitsB ops ops.size q' q = true)
  | [], done, fr, hok, hall, hdi, had, h1 => ⟨[], done, fr, .inl rfl, hok, hall, hdi, had, h1⟩
  | .n i rl :: r, done, fr, hok, hall, hdi, had, h1 => ⟨.n i rl :: r, done, fr, .inr ⟨i, rl, r, rfl⟩, hok, hall, hdi, had, h1⟩
  | .q i :: r, done, fr, hok, hall, hdi, had, h1 => by
    have hok0 := hok
    simp only [okL, PI.ix, Bool.and_eq_true, decide_eq_true_eq, Bool.not_eq_true'] at hok
    obtain ⟨⟨⟨⟨hlt, hnd⟩, hneed⟩, ⟨hdst, hself⟩, hap⟩, hrest⟩ := hok
    have hni : i ∉ done := fun hm => by have := List.contains_iff_mem.2 hm; rw [hnd] at this; cases this
    have hLi : L.getD i false = false := by
      cases h : L.getD i false with
      | false => rfl
      | true => exact absurd (hdi.sub i h) hni
    obtain ⟨o, ho⟩ : ∃ o, ops[i]? = some o := ⟨_, Array.getElem?_eq_getElem (of_decide_eq_true hlt)⟩
    rw [ho] at hdst
    obtain ⟨d, hd⟩ := Option.isSome_iff_exists.1 hdst
    simp only [ad, ho] at had
    obtain ⟨v, hy, hrest'⟩ : ∃ v, YA P ops σ o v fr.get ∧ ad P ops r (fr.put o.dst v) σ K := by
      unfold YA
      rw [evF_get]
      unfold aguard at had ⊢
      split at had
      · obtain ⟨v, h3, h4⟩ := had; exact ⟨v, h3, h4⟩
      · rename_i j want hg
        split at had
        · split at had
          · split at had
            · rename_i b hb
              by_cases hbw : b = want
              · obtain ⟨v, h3, h4⟩ := had.1 hbw
                exact ⟨v, ⟨fun _ => h3, fun e => absurd hbw e⟩, h4⟩
              · exact ⟨.tup [], ⟨fun e => absurd e hbw, fun _ => rfl⟩, had.2 hbw⟩
            · exact ⟨.tup [], rfl, had⟩
            · exact had.elim
          · exact had.elim
        · exact had.elim
    have hput : (fr.put o.dst v).get = putF fr.get o.dst v := get_put fr o.dst v
    have hselfd := (apart_of ho ho hd hself).1
    have hyi : YAf P ops σ i (fr.put o.dst v) := by
      refine ⟨o, d, ho, hd, ?_⟩
      rw [hput]
      have : putF fr.get o.dst v d = v := by simp [putF, hd]
      rw [this]
      exact (YA.put (fun e he => by rw [hd] at he; cases he; exact hselfd)).2 hy
    refine absorb r (i :: done) (fr.put o.dst v) hrest (fun k hk => ?_) ⟨hdi.sz, hdi.dc, fun k hk => List.mem_cons_of_mem _ (hdi.sub k hk), fun q hq hLq => ?_, ?_⟩ hrest' (fun q hq q' hq' hLq hLq' hnb => ?_)
    · rcases hall k hk with h | ⟨x, hx, rfl⟩
      · exact .inl (List.mem_cons_of_mem _ h)
      · rcases List.mem_cons.1 hx with rfl | hx
        · exact .inl (by simp [PI.ix])
        · exact .inr ⟨x, hx, rfl⟩
    · rcases List.mem_cons.1 hq with rfl | hq
      · exact hyi
      · obtain ⟨oq, dq, hoq, hdq, hyq⟩ := hdi.ya q hq hLq
        have hapq := apart_of ho hoq hd (List.all_eq_true.1 hap q hq)
        refine ⟨oq, dq, hoq, hdq, ?_⟩
        rw [hput]
        have hne : dq ≠ d := by
          rintro rfl
          rcases hapq.2 with rfl | h
          · exact hni hq
          · exact h hdq
        have : putF fr.get o.dst v dq = fr.get dq := by simp [putF, hd, hne]
        rw [this]
        exact (YA.put (fun e he => by rw [hd] at he; cases he; exact hapq.1)).2 hyq
    · obtain ⟨g, hi, hf, hN, hdd⟩ := hdi.sim
      refine ⟨g, hi, fun e => ?_, hN, hdd⟩
      have := hf e
      unfold restr at this ⊢
      split
      · exact .any
      · rename_i hnp
        have hnp' : ¬ pend ops L done e := fun ⟨q, hq, h⟩ => hnp ⟨q, List.mem_cons_of_mem _ hq, h⟩
        rw [if_neg hnp'] at this
        have hed : e ≠ d := fun he => hnp ⟨i, by simp, hLi, o, ho, by rw [he]; exact hd⟩
        rw [hput]
        simpa [putF, hd, hed] using this
    · have hno : ∀ k ∈ i :: done, apartB ops i k = true → needB ops i k = false := by
        intro k hk hapk
        simp only [needB, ho]
        cases hk' : ops[k]? with
        | none => simp [apartB, ho, hk'] at hapk
        | some ok =>
          have := (apart_of ho hk' hd hapk).1
          simp only [hd]
          exact Bool.eq_false_iff.2 fun hc => this (List.contains_iff_mem.1 hc)
      rcases List.mem_cons.1 hq' with he' | hm'
      · exfalso
        subst he'
        rcases List.mem_cons.1 hq with he | hm
        · rw [he, hno _ (by simp) hself] at hnb; cases hnb
        · rw [hno q (List.mem_cons_of_mem _ hm) (List.all_eq_true.1 hap q hm)] at hnb; cases hnb
      · rcases List.mem_cons.1 hq with he | hm
        · have := List.all_eq_true.1 hneed q' hm'
          simp only [Bool.or_eq_true, Bool.not_eq_true'] at this
          rw [he] at hnb ⊢
          rcases this with h | h
          · rw [h] at hnb; cases hnb
          · exact h
        · exact h1 q hm q' hm' hLq hLq' hnb

theorem aopV_mono {P : Program} {o : Oper} {ev : Operand → AV} {σ : St} {K K' : Option (Nat → Bool) → AV → St → Prop} (hk : ∀ dm v σ, K dm v σ → K' dm v σ) : aopV P o ev σ K → aopV P o ev σ K' := by
  unfold aopV
  split
  · unfold acallV
    split
    · rintro ⟨ids, as, σc, r, σr, h1, h2, h3, h4, h5, h6⟩
      exact ⟨ids, as, σc, r, σr, h1, h2, h3, h4, h5, hk _ _ _ h6⟩
    · exact id
  · split
    · unfold anil
      repeat' split
      all_goals first | exact fun h => ⟨h.1, fun b hb => hk _ _ _ (h.2 b hb)⟩ | exact fun h => ⟨h.1, hk _ _ _ h.2⟩ | exact id
    · exact aval_mono hk
theorem RAV.undef {g g' : G} {w w' : World} {a : AV} (h : RAV g w undef a) : RAV g' w' undef a ∧ ∀ f, a.dem f = a := by
  unfold Go.undef at h ⊢
  cases h with
  | c h => cases h
  | own t sz xs h =>
    obtain ⟨_, _, e, cells, ho, _⟩ := h
    rcases ho.2 with ⟨h, _⟩ | ⟨_, _, _, h, _⟩ <;> cases h
  | tup vs cs hl _ =>
    have : cs = [] := List.eq_nil_of_length_eq_zero (by simpa using hl.symm)
    subst this
    exact ⟨.tup _ _ rfl (fun i v a hv => by simp at hv), fun f => rfl⟩
  | any => exact ⟨.any, fun f => rfl⟩
def demG (F : Nat → AV) (dm : Option (Nat → Bool)) : Nat → AV := fun d => match dm with | .none => F d | some f => (F d).dem f
theorem aopV_sound {P : Program} {c : Ctx} {N : Nat} {o : Oper} {a : Act} {w : World} {F : Nat → AV} {σ : St} {K : Option (Nat → Bool) → AV → St → Prop} {next : Act → World → Prop} {Q : Exit → Act → World → Prop} (hok : opOk N o = true)
    (h : aopV P o (evF F) σ K) (hs : SimF c N a w F σ) (hn : ∀ a' w' dm v σ', K dm v σ' → SimF c N a' w' (putF (demG F dm) o.dst v) σ' → next a' w') : o.wp P a w next Q := by
  let l := List.range N ++ tmpsOf o
  let fr := frOf F l
  have hfr : ∀ d, d ∈ l → fr.get d = F d := fun d hd => by rw [frOf_get, if_pos hd]
  obtain ⟨g, hi, hf, hN, hd⟩ := hs
  have hev : ∀ x ∈ o.op.operands, (evF F) x = fr.ev x := by
    intro x hx
    cases x with
    | tmp t =>
      have : t ∈ l := List.mem_append_right _ (List.mem_filterMap.2 ⟨.tmp t, by simpa using hx, rfl⟩)
      exact (hfr t this).symm
    | _ => rfl
  rw [aopV_congr hev] at h
  have h' : aop P o fr σ (fun fr' σ' => ∃ dm v, fr' = (fr.demo dm).put o.dst v ∧ K dm v σ') := by
    rw [aop_V]
    exact aopV_mono (fun dm v σ' hk => ⟨dm, v, rfl, hk⟩) h
  have hs : Sim c N a w fr σ := ⟨g, hi, fun d => by
    rw [frOf_get]
    split
    · exact hf d
    · exact .any, hN, hd⟩
  refine aop_sound hok h' hs (fun a' w' fr' σ' hk hs' => ?_)
  obtain ⟨dm, v, rfl, hk⟩ := hk
  obtain ⟨g', hi', hf', hN', hd'⟩ := hs'
  refine hn a' w' dm v σ' hk ⟨g', hi', fun d => ?_, hN', hd'⟩
  have hthis := hf' d
  rw [get_put] at hthis
  by_cases hdl : d ∈ l
  · have e : (fr.demo dm).get d = demG F dm d := by
      cases dm with
      | none => exact hfr d hdl
      | some f => simp only [Fr.demo, demG]; rw [Fr.get_dem, hfr d hdl]
    have e2 : putF (fr.demo dm).get o.dst v d = putF (demG F dm) o.dst v d := by
      cases hdst : o.dst with
      | none => exact e
      | some q => simp only [putF]; rw [e]
    rw [← e2]
    exact hthis
  · have hdN : ¬ d < N := fun h => hdl (List.mem_append_left _ (List.mem_range.2 h))
    have hu : a'.tmps.getD d Go.undef = Go.undef := by rw [Array.getD_eq_getD_getElem?, Array.getElem?_eq_none (by omega)]; rfl
    have hu0 : a.tmps.getD d Go.undef = Go.undef := by rw [Array.getD_eq_getD_getElem?, Array.getElem?_eq_none (by omega)]; rfl
    have h0 := hf d
    rw [hu0] at h0
    obtain ⟨h1, h2⟩ := RAV.undef (g' := g') (w' := w') h0
    have hne : ∀ q, o.dst = some q → d ≠ q := fun q hq he => hdN (he ▸ dst_lt hok q hq)
    have e0 : demG F dm d = F d := by
      cases dm with
      | none => rfl
      | some f => exact h2 f
    have e : putF (demG F dm) o.dst v d = F d := by
      cases hdst : o.dst with
      | none => exact e0
      | some q => simp only [putF]; rw [if_neg (hne q hdst)]; exact e0
    rw [hu, e]
    exact h1

/-! ### How many are left -/
def left (L : Array Bool) : Nat → Nat
  | 0 => 0
  | n + 1 => left L n + (if L.getD n false = true then 0 else 1)
theorem left_set {L : Array Bool} {i : Nat} (hi : i < L.size) (hL : L.getD i false = false) : ∀ n, left (L.setIfInBounds i true) n + (if i < n then 1 else 0) = left L n
  | 0 => rfl
  | n + 1 => by
    have ih := left_set hi hL n
    simp only [left, set_getD hi]
    by_cases h : n = i
    · subst h
      rw [if_neg (Nat.lt_irrefl _)] at ih
      rw [if_pos rfl, if_pos (rfl : true = true), if_pos (Nat.lt_succ_self _), hL, if_neg (by simp)]
      omega
    · rw [if_neg h]
      by_cases h2 : i < n
      · rw [if_pos h2] at ih
        rw [if_pos (show i < n + 1 by omega)]
        omega
      · rw [if_neg h2] at ih
        rw [if_neg (show ¬ i < n + 1 by omega)]
        omega
theorem left_zero {L : Array Bool} : ∀ {n : Nat}, left L n = 0 → ∀ i, i < n → L.getD i false = true
  | 0, _, i, hi => by omega
  | n + 1, h, i, hi => by
    simp only [left] at h
    by_cases he : i = n
    · subst he
      cases hL : L.getD i false with
      | true => rfl
      | false => rw [hL] at h; simp at h
    · exact left_zero (n := n) (by omega) i (by omega)
theorem left_all : ∀ (n m : Nat), left (Array.replicate m false) n = n
  | 0, m => rfl
  | n + 1, m => by
    have : (Array.replicate m false).getD n false = false := by
      rw [Array.getD_eq_getD_getElem?]
      cases h : (Array.replicate m false)[n]? with
      | none => rfl
      | some b => rw [Array.getElem?_replicate] at h; split at h <;> simp_all
    simp only [left, left_all n m, this]
    simp
theorem ready_of {ops : Array Oper} {L : Array Bool} (hsz : L.size = ops.size) (hord : ∀ i, i < ops.size → ∃ o, ops[i]? = some o ∧ ∀ e ∈ o.after, Region.binds .any e = true → e.on < i) : ∀ n i, i < n → i < ops.size → L.getD i false = false → ∃ k, k ∈ Region.ready .any ops L
  | 0, i, h, _, _ => by omega
  | n + 1, i, h, hi, hL => by
    obtain ⟨o, ho, hb⟩ := hord i hi
    by_cases hall : ∀ e ∈ o.after, Region.binds .any e = true → L.getD e.on false = true
    · refine ⟨i, ?_⟩
      unfold Region.ready
      refine List.mem_filter.2 ⟨List.mem_range.2 hi, ?_⟩
      have h1 : L.getD i true = false := by
        have : i < L.size := by omega
        simp [Array.getD_eq_getD_getElem?, this] at hL ⊢
        exact hL
      simp only [h1, ho, Option.map_some, Option.getD_some, Bool.not_false, Bool.true_and]
      rw [Array.all_eq_true']
      intro e he
      cases hbe : Region.binds .any e with
      | false => rfl
      | true => simp [hall e he hbe]
    · simp only [Classical.not_forall] at hall
      obtain ⟨e, he, hbe, hle⟩ := hall
      have hlt := hb e he hbe
      exact ready_of hsz hord n e.on (by omega) (by omega) (by simpa using hle)

theorem ready_un {ops : Array Oper} {L : Array Bool} {i : Nat} (h : i ∈ Region.ready .any ops L) : i < ops.size ∧ L.getD i true = false := by
  unfold Region.ready at h
  obtain ⟨h1, h2⟩ := List.mem_filter.1 h
  simp only [Bool.and_eq_true, Bool.not_eq_true'] at h2
  exact ⟨List.mem_range.1 h1, h2.1⟩

theorem ad_sound {P : Program} {ops : Array Oper} {c : Ctx} {N : Nat} {Q : Exit → Act → World → Prop} {K : Fr → St → Prop} (hok : ∀ (i : Nat) o, ops[i]? = some o → opOk N o = true)
    (hord : ∀ i, i < ops.size → ∃ o, ops[i]? = some o ∧ ∀ e ∈ o.after, Region.binds .any e = true → e.on < i) (hQ : ∀ a w fr σ, K fr σ → Sim c N a w fr σ → Q .normal a w) :
    ∀ (n : Nat) (L : Array Bool) (pl : List PI) (done : List Nat) (fr : Fr) (σ : St) (a : Act) (w : World), left L ops.size = n → okL ops pl done = true → (∀ i, i < ops.size → i ∈ done ∨ ∃ x ∈ pl, x.ix = i) → DI P ops c N L done fr σ a w → ad P ops pl fr σ K →
      (∀ q ∈ done, ∀ q' ∈ done, L.getD q false = false → L.getD q' false = false → needB ops q' q = true → waitsB ops ops.size q' q = true) → wpAny P .any ops Q n L a w := by
  intro n
  induction n with
  | zero =>
    intro L pl done fr σ a w hl hpl hall hdi had h1
    obtain ⟨pl', done', fr', hpl', hok', hall', hdi', had', h1'⟩ := absorb pl done fr hpl hall hdi had h1
    have hlist : ∀ i, i < ops.size → L.getD i false = true := left_zero hl
    refine ⟨?_, ?_⟩
    · refine List.eq_nil_iff_forall_not_mem.2 fun i hi => ?_
      obtain ⟨h2, h3⟩ := ready_un hi
      have := hlist i h2
      rw [getD_tf h3] at this
      cases this
    · rcases hpl' with rfl | ⟨i, rl, r, rfl⟩
      · refine hQ a w fr' σ had' ?_
        obtain ⟨g, hi, hf, hN, hd⟩ := hdi'.sim
        refine ⟨g, hi, fun d => ?_, hN, hd⟩
        have := hf d
        unfold restr at this
        rw [if_neg] at this
        · exact this
        · rintro ⟨q, hq, hLq, o, ho, _⟩
          rw [hlist q (Array.getElem?_eq_some_iff.1 ho).1] at hLq
          cases hLq
      · exfalso
        simp only [okL, PI.ix, Bool.and_eq_true, Bool.not_eq_true'] at hok'
        have hlt := of_decide_eq_true hok'.1.1.1.1
        have := hdi'.sub i (hlist i hlt)
        have h5 := List.contains_iff_mem.2 this
        rw [hok'.1.1.1.2] at h5
        cases h5
  | succ n ih =>
    intro L pl done fr σ a w hl hpl hall hdi had h1
    obtain ⟨pl', done', fr', hpl', hok', hall', hdi', had', h1'⟩ := absorb pl done fr hpl hall hdi had h1
    clear hpl hall hdi had h1 pl done fr
    have hsz := hdi'.sz
    refine ⟨fun h0 => ?_, fun i hi => ?_⟩
    · exfalso
      obtain ⟨k, hk⟩ : ∃ i, i < ops.size ∧ L.getD i false = false := by
        refine Classical.byContradiction fun hno => ?_
        have : ∀ m, m ≤ ops.size → left L m = 0 := by
          intro m
          induction m with
          | zero => intro _; rfl
          | succ m ihm =>
            intro hm
            simp only [left, ihm (by omega)]
            have : L.getD m false = true := by
              cases h : L.getD m false with
              | true => rfl
              | false => exact absurd ⟨m, by omega, h⟩ hno
            simp [this]
        rw [this ops.size (Nat.le_refl _)] at hl
        cases hl
      obtain ⟨k2, hk2⟩ := ready_of hsz hord (k + 1) k (by omega) hk.1 hk.2
      rw [h0] at hk2
      cases hk2
    · obtain ⟨hlt, hun⟩ := ready_un hi
      have hLi : L.getD i false = false := getD_tf hun
      have hiL : i < L.size := getD_lt hun
      obtain ⟨o, ho⟩ : ∃ o, ops[i]? = some o := ⟨_, Array.getElem?_eq_getElem hlt⟩
      have hleft : left (L.setIfInBounds i true) ops.size = n := by
        have := left_set hiL hLi ops.size
        rw [if_pos hlt] at this
        omega
      have hL' : ∀ j, (L.setIfInBounds i true).getD j false = if j = i then true else L.getD j false := fun j => set_getD hiL
      have hunset : ∀ j, (L.setIfInBounds i true).getD j false = false → L.getD j false = false ∧ j ≠ i := by
        intro j hj
        rw [hL' j] at hj
        by_cases he : j = i
        · rw [if_pos he] at hj; cases hj
        · rw [if_neg he] at hj; exact ⟨hj, he⟩
      have hdc' := hdi'.dc.set hi
      -- what waits is done
      have hwaits : ∀ j, waitsB ops ops.size j i = true → L.getD j false = true := fun j hj => waits_ready hdi'.dc _ j i hj hi
      unfold wpOp
      simp only [ho]
      by_cases hid : i ∈ done'
      · -- a quiet operation that was told before
        obtain ⟨oq, d, hoq, hd, hy⟩ := hdi'.ya i hid hLi
        rw [ho] at hoq
        cases hoq
        have hsame : ∀ e ∈ o.looksAt ops, fr'.get e = restr ops L done' fr' e := by
          intro e he
          unfold restr
          rw [if_neg]
          rintro ⟨q, hq, hLq, oq, hoq, hdq⟩
          have := h1' i hid q hq hLi hLq (needs_of ho hoq hdq he)
          rw [hwaits q this] at hLq
          cases hLq
        rw [YA_congr hsame] at hy
        have hnext : ∀ a' w', SimF c N a' w' (putF (restr ops L done' fr') o.dst (fr'.get d)) σ → wpAny P .any ops Q n (L.setIfInBounds i true) a' w' := by
          intro a' w' hs
          refine ih _ pl' done' fr' σ a' w' hleft hok' hall' ⟨by simpa using hsz, hdc', fun k hk => ?_, fun q hq hLq => hdi'.ya q hq (hunset q hLq).1, ?_⟩ had' (fun q hq q' hq' h3 h4 => h1' q hq q' hq' (hunset q h3).1 (hunset q' h4).1)
          · rw [hL' k] at hk
            by_cases he : k = i
            · rw [he]; exact hid
            · rw [if_neg he] at hk; exact hdi'.sub k hk
          · obtain ⟨g, hinv, hf, hN, hdd⟩ := hs
            refine ⟨g, hinv, fun e => ?_, hN, hdd⟩
            have := hf e
            unfold restr
            split
            · exact .any
            · rename_i hnp
              simp only [putF, hd] at this
              by_cases he : e = d
              · rw [if_pos he] at this; rw [he] at this ⊢; exact this
              · rw [if_neg he] at this
                unfold restr at this
                rw [if_neg] at this
                · exact this
                · rintro ⟨q, hq, hLq, oq, hoq, hdq⟩
                  refine hnp ⟨q, hq, ?_, oq, hoq, hdq⟩
                  rw [hL' q]
                  by_cases hqi : q = i
                  · exfalso; subst hqi; rw [ho] at hoq; cases hoq; rw [hd] at hdq; cases hdq; exact he rfl
                  · rw [if_neg hqi]; exact hLq
        have hs := hdi'.sim
        obtain ⟨g, hinv, hf, hN, hdd⟩ := hs
        unfold YA at hy
        rcases aguard_sound hf hy with ⟨hw, hy⟩ | ⟨hw, hv⟩
        · simp only [hw, if_true]
          exact .inl (quiet_wp (hok i o ho) hy hdi'.sim hnext)
        · simp only [hw, Bool.false_eq_true, if_false]
          refine hnext _ w ?_
          rw [hv]
          exact SimF.put hinv hf hN hdd (dst_lt (hok i o ho)) (.tup #[] [] rfl (fun i v a hv => by simp at hv))
      · -- the next one of the others
        rcases hpl' with rfl | ⟨k, rl, r, rfl⟩
        · rcases hall' i hlt with h | ⟨x, hx, _⟩
          · exact absurd h hid
          · cases hx
        have hokk := hok'
        simp only [okL, PI.ix, Bool.and_eq_true, Bool.not_eq_true'] at hok'
        obtain ⟨⟨⟨⟨_, hkd⟩, hneed⟩, ⟨hap, hlater⟩, hrl⟩, hrest⟩ := hok'
        have hknd : k ∉ done' := fun hm => by have := List.contains_iff_mem.2 hm; rw [hkd] at this; cases this
        have hki : k = i := by
          rcases hall' i hlt with h | ⟨x, hx, hxi⟩
          · exact absurd h hid
          · rcases List.mem_cons.1 hx with rfl | hx
            · exact hxi
            · exfalso
              have this : waitsB ops ops.size k x.ix = true := List.all_eq_true.1 hlater x hx
              rw [hxi] at this
              exact hknd (hdi'.sub k (hwaits k this))
        subst hki
        simp only [ad, ho] at had'
        have hsame : ∀ e ∈ o.looksAt ops, fr'.get e = restr ops L done' fr' e := by
          intro e he
          unfold restr
          rw [if_neg]
          rintro ⟨q, hq, hLq, oq, hoq, hdq⟩
          have := List.all_eq_true.1 hneed q hq
          simp only [Bool.or_eq_true, Bool.not_eq_true', needs_of ho hoq hdq he, Bool.true_eq_false, false_or] at this
          rw [hwaits q this] at hLq
          cases hLq
        have hall2 : ∀ j, j < ops.size → j ∈ k :: done' ∨ ∃ x ∈ r, x.ix = j := by
          intro j hj
          rcases hall' j hj with h | ⟨x, hx, hxj⟩
          · exact .inl (List.mem_cons_of_mem _ h)
          · rcases List.mem_cons.1 hx with rfl | hx
            · exact .inl (by rw [← hxj]; simp [PI.ix])
            · exact .inr ⟨x, hx, hxj⟩
        have hsub2 : ∀ j, (L.setIfInBounds k true).getD j false = true → j ∈ k :: done' := by
          intro j hj
          rw [hL' j] at hj
          by_cases he : j = k
          · rw [he]; simp
          · rw [if_neg he] at hj; exact List.mem_cons_of_mem _ (hdi'.sub j hj)
        have h12 : ∀ q ∈ k :: done', ∀ q' ∈ k :: done', (L.setIfInBounds k true).getD q false = false → (L.setIfInBounds k true).getD q' false = false → needB ops q' q = true → waitsB ops ops.size q' q = true := by
          intro q hq q' hq' h3 h4
          rcases List.mem_cons.1 hq with he | hq
          · exact absurd he (hunset q h3).2
          · rcases List.mem_cons.1 hq' with he | hq'
            · exact absurd he (hunset q' h4).2
            · exact h1' q hq q' hq' (hunset q h3).1 (hunset q' h4).1
        rw [aguard_congr hsame] at had'
        have hs := hdi'.sim
        obtain ⟨g, hinv, hf, hN, hdd⟩ := hs
        rcases aguard_sound hf had' with ⟨hw, hx⟩ | ⟨hw, hx⟩
        · simp only [hw, if_true]
          rw [aop_V, ← evF_get, aopV_congr (evF_congr hsame)] at hx
          refine .inl (aopV_sound (hok k o ho) hx hdi'.sim (fun a' w' dm v σ' hk hs' => ?_))
          obtain ⟨hrc, hrest'⟩ := hk
          refine ih _ r (k :: done') _ σ' a' w' hleft hrest hall2 ⟨by simpa using hsz, hdc', hsub2, fun q hq hLq => ?_, ?_⟩ hrest' h12
          · rcases List.mem_cons.1 hq with he | hq
            · exact absurd he (hunset q hLq).2
            · have := List.all_eq_true.1 hrl q hq
              simp only [Bool.or_eq_true] at this
              rcases this with h | h
              · exact RC_mem hrc q (List.contains_iff_mem.1 h)
              · have := hwaits q h
                rw [(hunset q hLq).1] at this
                cases this
          · obtain ⟨g', hinv', hf', hN', hdd'⟩ := hs'
            refine ⟨g', hinv', fun e => ?_, hN', hdd'⟩
            have := hf' e
            unfold restr
            split
            · exact .any
            · rename_i hnp
              have hnp' : ¬ (pend ops L done' e ∧ o.dst ≠ some e) := by
                rintro ⟨⟨q, hq, hLq, oq, hoq, hdq⟩, hne⟩
                refine hnp ⟨q, List.mem_cons_of_mem _ hq, ?_, oq, hoq, hdq⟩
                rw [hL' q, if_neg]
                · exact hLq
                · intro he; exact hknd (he ▸ hq)
              have e2 : ((fr'.demo dm).put o.dst v).get e = putF (demG (restr ops L done' fr') dm) o.dst v e := by
                rw [get_put]
                have hdem : ¬ pend ops L done' e → (fr'.demo dm).get e = demG (restr ops L done' fr') dm e := by
                  intro hp
                  have h0 : restr ops L done' fr' e = fr'.get e := by unfold restr; rw [if_neg hp]
                  cases dm with
                  | none => simp only [Fr.demo, demG]; exact h0.symm
                  | some f => simp only [Fr.demo, demG]; rw [Fr.get_dem, h0]
                cases hdst : o.dst with
                | none => exact hdem (fun hp => hnp' ⟨hp, by rw [hdst]; simp⟩)
                | some q =>
                  simp only [putF]
                  by_cases he : e = q
                  · rw [if_pos he, if_pos he]
                  · rw [if_neg he, if_neg he]
                    exact hdem (fun hp => hnp' ⟨hp, by rw [hdst]; simp; exact fun h => he h.symm⟩)
              rw [e2]
              exact this
        · simp only [hw, Bool.false_eq_true, if_false]
          have hput := SimF.put hinv hf hN hdd (dst_lt (hok k o ho)) (av := .tup []) (v := undef) (.tup #[] [] rfl (fun i v a hv => by simp at hv))
          refine ih _ r (k :: done') _ σ _ w hleft hrest hall2 ⟨by simpa using hsz, hdc', hsub2, fun q hq hLq => ?_, ?_⟩ hx h12
          · rcases List.mem_cons.1 hq with he | hq
            · exact absurd he (hunset q hLq).2
            · obtain ⟨oq, dq, hoq, hdq, hyq⟩ := hdi'.ya q hq (hunset q hLq).1
              have hapq : apartB ops k q = true := by
                have := List.all_eq_true.1 hap q hq
                simp only [Bool.or_eq_true] at this
                rcases this with h | h
                · exact h
                · have := hwaits q h
                  rw [(hunset q hLq).1] at this
                  cases this
              refine ⟨oq, dq, hoq, hdq, ?_⟩
              rw [get_put]
              have e3 : putF fr'.get o.dst (.tup []) dq = fr'.get dq := by
                cases hdst : o.dst with
                | none => rfl
                | some e =>
                  simp only [putF]
                  rw [if_neg]
                  rintro rfl
                  rcases (apart_of ho hoq hdst hapq).2 with h | h
                  · exact hknd (h ▸ hq)
                  · exact h hdq
              rw [e3]
              exact (YA.put (fun e he => (apart_of ho hoq he hapq).1)).2 hyq
          · obtain ⟨g', hinv', hf', hN', hdd'⟩ := hput
            refine ⟨g', hinv', fun e => ?_, hN', hdd'⟩
            have := hf' e
            unfold restr
            split
            · exact .any
            · rename_i hnp
              have hnp' : ¬ (pend ops L done' e ∧ o.dst ≠ some e) := by
                rintro ⟨⟨q, hq, hLq, oq, hoq, hdq⟩, hne⟩
                refine hnp ⟨q, List.mem_cons_of_mem _ hq, ?_, oq, hoq, hdq⟩
                rw [hL' q, if_neg]
                · exact hLq
                · intro he; exact hknd (he ▸ hq)
              have e2 : (fr'.put o.dst (.tup [])).get e = putF (restr ops L done' fr') o.dst (.tup []) e := by
                rw [get_put]
                have h0 : ¬ pend ops L done' e → restr ops L done' fr' e = fr'.get e := fun hp => by unfold restr; rw [if_neg hp]
                cases hdst : o.dst with
                | none => exact (h0 (fun hp => hnp' ⟨hp, by rw [hdst]; simp⟩)).symm
                | some q =>
                  simp only [putF]
                  by_cases he : e = q
                  · rw [if_pos he, if_pos he]
                  · rw [if_neg he, if_neg he]
                    exact (h0 (fun hp => hnp' ⟨hp, by rw [hdst]; simp; exact fun h => he h.symm⟩)).symm
              rw [e2]
              exact this

/-- A drawn region, told by a plan. -/
theorem plan_sound {P : Program} {c : Ctx} {N : Nat} {ops : Array Oper} {id : Nat} {σ : St} {fr : Fr} {pl : List PI} {K : Fr → St → Prop} {Q : Exit → Act → World → Prop} (hm : P.follows .mixedOrders = true) (hB : planOk ops pl = true) (hok : ∀ o ∈ ops.toList, opOk N o = true)
    (h : ad P ops pl fr σ K) {a : Act} {w : World} (hs : Sim c N a w fr σ) (hQ : ∀ a w fr σ, K fr σ → Sim c N a w fr σ → Q .normal a w) : (Code.region id ops true).wp P Q a w := by
  simp only [planOk, Bool.and_eq_true] at hB
  obtain ⟨⟨h1, h2⟩, h3⟩ := hB
  obtain ⟨g, hi, hf, hN, hd⟩ := hs
  obtain ⟨hi', st⟩ := hi.drew
  refine wp_region_any hm ?_
  have hrep : ∀ i, (Array.replicate ops.size false).getD i false = false := by
    intro i
    rw [Array.getD_eq_getD_getElem?]
    cases h : (Array.replicate ops.size false)[i]? with
    | none => rfl
    | some b => rw [Array.getElem?_replicate] at h; split at h <;> simp_all
  refine ad_sound (c := c) (N := N) (K := K) (fun i o ho => hok o (by rw [← Array.getElem?_toList] at ho; exact List.mem_of_getElem? ho)) (fun i hi => ?_) hQ ops.size _ pl [] fr σ a _ (left_all _ _) h1 (fun i hi => ?_) ⟨by simp, fun k o ho hl => (by rw [hrep] at hl; cases hl), fun i hl => (by rw [hrep] at hl; cases hl), fun q hq => (by simp at hq), ⟨g, hi', fun d => ?_, hN, hd⟩⟩ h (fun q hq => by simp at hq)
  · have := List.all_eq_true.1 h3 i (List.mem_range.2 hi)
    cases ho : ops[i]? with
    | none => rw [ho] at this; cases this
    | some o =>
      rw [ho] at this
      refine ⟨o, rfl, fun e he hb => ?_⟩
      have := Array.all_eq_true'.1 this e he
      simp only [Bool.or_eq_true, Bool.not_eq_true', hb, Bool.true_eq_false, false_or, decide_eq_true_eq] at this
      exact this
  · have := List.all_eq_true.1 h2 i (List.mem_range.2 hi)
    obtain ⟨x, hx, hxi⟩ := List.any_eq_true.1 this
    exact .inr ⟨x, hx, by simpa using hxi⟩
  · have := (hf d).stp st
    unfold restr
    rw [if_neg]
    · exact this
    · rintro ⟨q, hq, _⟩
      cases hq

theorem acall_mono {P : Program} {dst : Option Tmp} {fv : AV} {args : List AV} {fr : Fr} {σ : St} {K K' : Fr → St → Prop} (hk : ∀ fr σ, K fr σ → K' fr σ) : acall P dst fv args fr σ K → acall P dst fv args fr σ K' := by
  unfold acall
  split
  · rintro ⟨ids, as, σc, r, σr, h1, h2, h3, h4, h5, h6⟩
    exact ⟨ids, as, σc, r, σr, h1, h2, h3, h4, h5, hk _ _ h6⟩
  · exact id

theorem aop_mono {P : Program} {o : Oper} {fr : Fr} {σ : St} {K K' : Fr → St → Prop} (hk : ∀ fr σ, K fr σ → K' fr σ) : aop P o fr σ K → aop P o fr σ K' := by
  unfold aop
  split
  · exact acall_mono hk
  · split
    · unfold anil
      repeat' split
      all_goals first | exact fun h => ⟨h.1, fun b hb => hk _ _ (h.2 b hb)⟩ | exact fun h => ⟨h.1, hk _ _ h.2⟩ | exact id
    · exact aval_mono (fun dm v σ => hk _ _)

theorem aguard_mono {ops : List Oper} {o : Oper} {get : Nat → AV} {y y' n n' : Prop} (hy : y → y') (hn : n → n') : aguard ops o get y n → aguard ops o get y' n' := by
  unfold aguard
  repeat' split
  all_goals first | exact hy | exact hn | exact fun h => ⟨fun e => hy (h.1 e), fun e => hn (h.2 e)⟩ | exact id

theorem ad_mono {P : Program} {ops : Array Oper} {K K' : Fr → St → Prop} (hk : ∀ fr σ, K fr σ → K' fr σ) : ∀ (pl : List PI) (fr : Fr) (σ : St), ad P ops pl fr σ K → ad P ops pl fr σ K'
  | [], fr, σ => hk fr σ
  | .q i :: r, fr, σ => by
    simp only [ad]
    cases ops[i]? with
    | none => exact id
    | some o => exact aguard_mono (fun ⟨v, h1, h2⟩ => ⟨v, h1, ad_mono hk r _ σ h2⟩) (ad_mono hk r _ σ)
  | .n i rl :: r, fr, σ => by
    simp only [ad]
    cases ops[i]? with
    | none => exact id
    | some o => exact aguard_mono (aop_mono fun fr' σ' ⟨h1, h2⟩ => ⟨h1, ad_mono hk r fr' σ' h2⟩) (ad_mono hk r _ σ)
end Go.Proofs.Ytnhchphmmdgphaa.Abs

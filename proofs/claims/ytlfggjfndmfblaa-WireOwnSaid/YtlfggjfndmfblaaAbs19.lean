/- Regions whose order is drawn, told in one order: quiet operations may float past the others; what they read is looked at again. Regions with two operations in no order of their own: told in both orders. The code's judgement, and how a call's judgement is shown. How a call's judgement is shown: enter, walk, hand back. Handing back. The walk's steps. Lemmas for walks: drawn regions step by step, calls in the common cases, hand-backs. -/
import Derived.Test.YtlfggjfndmfblaaAbs14
import Derived.IntWalk
namespace Go.Proofs.Ytlfggjfndmfblaa.Abs
open Go
set_option linter.unusedVariables false
set_option linter.unusedSimpArgs false

theorem aload_mono {ag : Bool} {n : Nat} {x : AV} {σ : St} {K K' : AV → Prop} (hk : ∀ v, K v → K' v) : aload ag n x σ K → aload ag n x σ K' := by
  unfold aload
  repeat' split
  all_goals first | exact fun h => hk _ h | exact fun h => ⟨h.1, hk _ h.2⟩ | exact id

theorem abin_mono {P : Program} {op : BinOp} {t : TypeId} {x y : AV} {K K' : AV → Prop} (hk : ∀ v, K v → K' v) : abin P op t x y K → abin P op t x y K' := by
  unfold abin
  repeat' split
  all_goals first | exact fun h => hk _ h | exact fun h => ⟨h.1, hk _ h.2⟩ | exact fun h => ⟨h.1, h.2.1, hk _ h.2.2⟩ | exact id

theorem alen_mono {k : Nat} {x : AV} {K K' : AV → Prop} (hk : ∀ v, K v → K' v) : alen k x K → alen k x K' := by
  unfold alen
  repeat' split
  all_goals first | exact fun h => ⟨h.1, hk _ h.2⟩ | exact id

theorem abounds_mono {lo hi : Option AV} {n : Nat} {k k' : Nat → Nat → Prop} (hk : ∀ l h, k l h → k' l h) : abounds lo hi n k → abounds lo hi n k' := by
  unfold abounds
  repeat' split
  all_goals first | exact fun h => hk _ _ h | exact fun h => ⟨h.1, h.2.1, hk _ _ h.2.2⟩ | exact fun h => ⟨h.1, h.2.1, h.2.2.1, hk _ _ h.2.2.2⟩ | exact id

theorem aslice_mono {P : Program} {t : TypeId} {x : AV} {lo hi : Option AV} {K K' : AV → Prop} (hk : ∀ v, K v → K' v) : aslice P t x lo hi K → aslice P t x lo hi K' := by
  unfold aslice
  repeat' split
  all_goals first | exact fun h => ⟨h.1, abounds_mono (fun l h => hk _) h.2⟩ | exact id

theorem aappend_mono {P : Program} {o : Oper} {t tx : TypeId} {s x : AV} {σ : St} {K K' : Option (Nat → Bool) → AV → St → Prop} (hk : ∀ dm v σ, K dm v σ → K' dm v σ) : aappend P o t tx s x σ K → aappend P o t tx s x σ K' := by
  unfold aappend
  repeat' split
  all_goals first
    | exact id
    | exact fun h => ⟨h.1, h.2.1, h.2.2.1, h.2.2.2.1, h.2.2.2.2.1, hk _ _ _ h.2.2.2.2.2⟩
    | exact fun h => ⟨h.1, h.2.1, h.2.2.1, h.2.2.2.1, hk _ _ _ h.2.2.2.2⟩
    | exact fun h => ⟨h.1, h.2.1, h.2.2.1, hk _ _ _ h.2.2.2⟩
    | exact fun h => ⟨h.1, h.2.1, h.2.2.1, h.2.2.2.1, h.2.2.2.2.1, h.2.2.2.2.2.1, hk _ _ _ h.2.2.2.2.2.2⟩

theorem aval0_mono {P : Program} {o : Oper} {ev : Operand → AV} {σ : St} {K K' : Option (Nat → Bool) → AV → St → Prop} (hk : ∀ dm v σ, K dm v σ → K' dm v σ) : aval0 P o ev σ K → aval0 P o ev σ K' := by
  obtain ⟨dst, op, ty, pos, after, guard⟩ := o
  cases op
  case call c =>
    obtain ⟨callee, args, argTypes⟩ := c
    cases callee with
    | builtin b =>
      cases b <;> simp only [aval0] <;> repeat' split
      all_goals first | exact fun h => alen_mono (fun v => hk _ _ _) h | exact fun h => aappend_mono hk h | exact fun h => hk _ _ _ h | exact id
    | _ => exact id
  case slice t x lo hi mx =>
    cases mx
    · exact fun h => ⟨h.1, aslice_mono (fun v => hk _ _ _) h.2⟩
    · exact id
  case makeFunc fn f cs => cases fn <;> first | exact fun h => ⟨h.1, hk _ _ _ h.2⟩ | exact id
  case binOp => simp only [aval0]; exact abin_mono (fun v => hk _ _ _)
  case buildSlice t n parts =>
    simp only [aval0]
    split
    · rintro ⟨h1, h2, hs, h⟩
      refine ⟨h1, h2, hs, ?_⟩
      split at h
      · exact hk _ _ _ h
      · split at h
        · exact ⟨h.1, hk _ _ _ h.2⟩
        · exact h
    · exact id
  all_goals simp only [aval0]
  all_goals repeat' split
  all_goals first
    | exact id
    | exact fun h => hk _ _ _ h
    | exact fun h => aload_mono (fun v => hk _ _ _) h
    | exact fun h => ⟨fun e => hk _ _ _ (h.1 e), fun e => hk _ _ _ (h.2 e)⟩
    | exact fun h => ⟨h.1, hk _ _ _ h.2⟩
    | exact fun h => ⟨h.1, h.2.1, hk _ _ _ h.2.2⟩
    | exact fun h => ⟨h.1, h.2.1, h.2.2.1, hk _ _ _ h.2.2.2⟩
    | exact fun h => ⟨h.1, h.2.1, h.2.2.1, fun x e => hk _ _ _ (h.2.2.2 x e)⟩
    | exact fun h => ⟨h.1, h.2.1, h.2.2.1, h.2.2.2.1, hk _ _ _ h.2.2.2.2⟩
    | exact fun h => ⟨h.1, h.2.1, h.2.2.1, fun b e => hk _ _ _ (h.2.2.2 b e)⟩
    | (rintro ⟨h1, h2, l, h3, h4⟩; exact ⟨h1, h2, l, h3, hk _ _ _ h4⟩)

theorem aval_mono {P : Program} {o : Oper} {ev : Operand → AV} {σ : St} {K K' : Option (Nat → Bool) → AV → St → Prop} (hk : ∀ dm v σ, K dm v σ → K' dm v σ) : aval P o ev σ K → aval P o ev σ K' := by
  rintro (h | ⟨v, h, h2⟩ | ⟨v, h, h2⟩ | ⟨dm, v, σ', h, h2⟩)
  · exact .inl (aval0_mono hk h)
  · exact .inr (.inl ⟨v, h, hk _ _ _ h2⟩)
  · exact .inr (.inr (.inl ⟨v, h, hk _ _ _ h2⟩))
  · exact .inr (.inr (.inr ⟨dm, v, σ', h, hk _ _ _ h2⟩))

inductive PI where
  | q (i : Nat)
  | n (i : Nat) (rl : List Nat)
def PI.ix : PI → Nat
  | .q i => i
  | .n i _ => i

def acallV (P : Program) (dst : Option Tmp) (fv : AV) (args : List AV) (σ : St) (K : Option (Nat → Bool) → AV → St → Prop) : Prop :=
  match fv with
  | .fn f caps => ∃ d ids lt as σc r σr, List.Nodup ids ∧ List.Nodup lt ∧ (∀ i ∈ ids, i < σ.length) ∧ AV.leL (AV.lowTL lt ids (args ++ caps)) as ∧ leS (σ.sub ids lt) σc ∧ ACalls P f as σc r σr ∧
      K (some (endF lt d)) (r.lift ids σ.length d) (σ.after ids d σr lt)
  | _ => False
def aopV (P : Program) (o : Oper) (ev : Operand → AV) (σ : St) (K : Option (Nat → Bool) → AV → St → Prop) : Prop :=
  match o.op with
  | .call { callee := .value f, args, argTypes } => acallV P o.dst (ev f) (args.toList.map ev) σ K
  | _ => (match isNilCmp o with
    | some (neg, t, x, y) => anil P neg t (ev x) (ev y) fun v => K .none v σ
    | _ => aval P o ev σ K)
theorem aop_V {P : Program} {o : Oper} {fr : Fr} {σ : St} {K : Fr → St → Prop} : aop P o fr σ K = aopV P o fr.ev σ fun dm v σ' => K ((fr.demo dm).put o.dst v) σ' := by
  obtain ⟨dst, op, ty, pos, after, guard⟩ := o
  cases op
  case call c => obtain ⟨callee, args, argTypes⟩ := c; cases callee <;> rfl
  all_goals rfl
theorem aopV_congr {P : Program} {o : Oper} {ev ev' : Operand → AV} {σ : St} {K : Option (Nat → Bool) → AV → St → Prop} (h : ∀ x ∈ o.op.operands, ev x = ev' x) : aopV P o ev σ K = aopV P o ev' σ K := by
  have hv := aval_congr (P := P) (σ := σ) (K := K) h
  unfold aopV
  split
  · rename_i f args ts hop
    have hf : ev f = ev' f := h f (by simp [hop, Op.operands, Call.operands])
    have ha : args.toList.map ev = args.toList.map ev' := List.map_congr_left fun x hx => h x (by simp [hop, Op.operands, Call.operands]; simp at hx; first | exact .inr hx | exact .inl hx)
    rw [hf, ha]
  · split
    · rename_i neg t x y hn
      have hxy : ev x = ev' x ∧ ev y = ev' y := by
        unfold isNilCmp at hn
        split at hn
        · rename_i hop
          cases hn
          exact ⟨h _ (by simp [hop, Op.operands]), h _ (by simp [hop, Op.operands])⟩
        · rename_i hop
          cases hn
          exact ⟨h _ (by simp [hop, Op.operands]), h _ (by simp [hop, Op.operands])⟩
        · cases hn
      rw [hxy.1, hxy.2]
    · exact hv

def YAf (P : Program) (ops : Array Oper) (σ : St) (q : Nat) (fr : Fr) : Prop := ∃ o d, ops[q]? = some o ∧ o.dst = some d ∧ YA P ops σ o (fr.get d) fr.get
def RC (P : Program) (ops : Array Oper) (σ : St) (fr : Fr) : List Nat → Prop
  | [] => True
  | q :: r => YAf P ops σ q fr ∧ RC P ops σ fr r
theorem RC_mem {P : Program} {ops : Array Oper} {σ : St} {fr : Fr} : ∀ {l : List Nat}, RC P ops σ fr l → ∀ q ∈ l, YAf P ops σ q fr
  | [], _, q, hq => by simp at hq
  | x :: l, h, q, hq => by
    rcases List.mem_cons.1 hq with rfl | hq
    · exact h.1
    · exact RC_mem h.2 q hq

def ad (P : Program) (ops : Array Oper) : List PI → Fr → St → (Fr → St → Prop) → Prop
  | [], fr, σ, K => K fr σ
  | .q i :: r, fr, σ, K => (match ops[i]? with
    | some o => aguard ops.toList o fr.get (∃ v, AQ P o fr.ev σ v ∧ ad P ops r (fr.put o.dst v) σ K) (ad P ops r (fr.put o.dst (.tup [])) σ K)
    | _ => False)
  | .n i rl :: r, fr, σ, K => (match ops[i]? with
    | some o => aguard ops.toList o fr.get (aop P o fr σ fun fr' σ' => RC P ops σ' fr' rl ∧ ad P ops r fr' σ' K) (ad P ops r (fr.put o.dst (.tup [])) σ K)
    | _ => False)

def apartB (ops : Array Oper) (i j : Nat) : Bool := match ops[i]?, ops[j]? with   -- i writes nothing that j looks at or writes
  | some o, some oj => (match o.dst with | some d => !(oj.looksAt ops).contains d && (i == j || oj.dst != some d) | _ => true)
  | _, _ => false
def needB (ops : Array Oper) (j i : Nat) : Bool := match ops[j]?, ops[i]? with   -- i looks at what j writes
  | some oj, some o => (match oj.dst with | some d => (o.looksAt ops).contains d | _ => false)
  | _, _ => true
def okL (ops : Array Oper) : List PI → List Nat → Bool
  | [], _ => true
  | it :: r, done =>
    decide (it.ix < ops.size) && !done.contains it.ix && (done.all fun j => !needB ops j it.ix || waitsB ops ops.size j it.ix) &&
    (match it with
      | .q i => (match ops[i]? with | some o => o.dst.isSome | _ => false) && apartB ops i i && (done.all fun j => apartB ops i j)
      | .n i rl => (done.all fun j => apartB ops i j || waitsB ops ops.size j i) && (r.all fun x => waitsB ops ops.size i x.ix) && (done.all fun j => rl.contains j || waitsB ops ops.size j i)) &&
    okL ops r (it.ix :: done)
def planOk (ops : Array Oper) (pl : List PI) : Bool :=
  okL ops pl [] && ((List.range ops.size).all fun i => pl.any fun x => x.ix == i) && ((List.range ops.size).all fun i => match ops[i]? with | some o => o.after.all fun e => !Region.binds .any e || decide (e.on < i) | _ => false)

/-- What is known of the slots while some quiet operations that are told already have not been done yet. -/
def pend (ops : Array Oper) (L : Array Bool) (done : List Nat) (d : Nat) : Prop := ∃ q ∈ done, L.getD q false = false ∧ ∃ o, ops[q]? = some o ∧ o.dst = some d
open Classical in
noncomputable def restr (ops : Array Oper) (L : Array Bool) (done : List Nat) (fr : Fr) (d : Nat) : AV := if pend ops L done d then .any else fr.get d

structure DI (P : Program) (ops : Array Oper) (c : Ctx) (N : Nat) (L : Array Bool) (done : List Nat) (fr : Fr) (σ : St) (a : Act) (w : World) : Prop where
  sz : L.size = ops.size
  dc : DC ops L
  sub : ∀ i, L.getD i false = true → i ∈ done
  ya : ∀ q ∈ done, L.getD q false = false → YAf P ops σ q fr
  sim : SimF c N a w (restr ops L done fr) σ

theorem looks_operand {ops : Array Oper} {o : Oper} {t : Nat} (h : .tmp t ∈ o.op.operands) : t ∈ o.looksAt ops := by
  unfold Oper.looksAt
  exact List.mem_append_left _ (List.mem_filterMap.2 ⟨.tmp t, by simpa using h, rfl⟩)

theorem aguard_congr {ops : Array Oper} {o : Oper} {F F' : Nat → AV} {y n : Prop} (h : ∀ d ∈ o.looksAt ops, F d = F' d) : aguard ops.toList o F y n = aguard ops.toList o F' y n := by
  unfold aguard
  cases hg : o.guard with
  | none => rfl
  | some p =>
    obtain ⟨j, want⟩ := p
    simp only
    cases hp : ops.toList[j]? with
    | none => rfl
    | some q =>
      simp only
      cases hd : q.dst with
      | none => rfl
      | some d =>
        simp only
        rw [h d (by unfold Oper.looksAt; rw [Array.getElem?_toList] at hp; exact List.mem_append_right _ (by simp [hg, hp, hd]))]
theorem evF_congr {ops : Array Oper} {o : Oper} {F F' : Nat → AV} (h : ∀ d ∈ o.looksAt ops, F d = F' d) : ∀ x ∈ o.op.operands, evF F x = evF F' x := by
  intro x hx
  cases x with
  | tmp t => exact h t (looks_operand hx)
  | _ => rfl
theorem YA_congr {P : Program} {ops : Array Oper} {σ : St} {o : Oper} {v : AV} {F F' : Nat → AV} (h : ∀ d ∈ o.looksAt ops, F d = F' d) : YA P ops σ o v F = YA P ops σ o v F' := by
  unfold YA
  rw [aguard_congr h, AQ_congr (evF_congr h)]

theorem set_getD {L : Array Bool} {i j : Nat} (hi : i < L.size) : (L.setIfInBounds i true).getD j false = if j = i then true else L.getD j false := by
  by_cases h : j = i
  · subst h; simp [Array.getD_eq_getD_getElem?, hi]
  · simp [Array.getD_eq_getD_getElem?, Array.getElem?_setIfInBounds_ne (Ne.symm h), h]
theorem getD_lt {L : Array Bool} {i : Nat} (h : L.getD i true = false) : i < L.size := by
  rw [Array.getD_eq_getD_getElem?] at h
  cases hi : L[i]? with
  | none => rw [hi] at h; simp at h
  | some b => exact (Array.getElem?_eq_some_iff.1 hi).1

theorem needs_of {ops : Array Oper} {i j : Nat} {o oj : Oper} {d : Nat} (hi : ops[i]? = some o) (hj : ops[j]? = some oj) (hd : oj.dst = some d) (hl : d ∈ o.looksAt ops) : needB ops j i = true := by
  simp [needB, hi, hj, hd, hl]
theorem apart_of {ops : Array Oper} {i j : Nat} {o oj : Oper} {d : Nat} (hi : ops[i]? = some o) (hj : ops[j]? = some oj) (hd : o.dst = some d) (h : apartB ops i j = true) : d ∉ oj.looksAt ops ∧ (i = j ∨ oj.dst ≠ some d) := by
  simp only [apartB, hi, hj, hd, Bool.and_eq_true, Bool.not_eq_true', Bool.or_eq_true, beq_iff_eq, bne_iff_ne] at h
  refine ⟨fun hm => ?_, h.2⟩
  have := List.contains_iff_mem.2 hm
  rw [h.1] at this
  cases this

/-- Quiet operations told one after another: none of them needs to be done yet. -/
theorem absorb {P : Program} {ops : Array Oper} {c : Ctx} {N : Nat} {L : Array Bool} {σ : St} {a : Act} {w : World} {K : Fr → St → Prop} : ∀ (pl : List PI) (done : List Nat) (fr : Fr), okL ops pl done = true → (∀ i, i < ops.size → i ∈ done ∨ ∃ x ∈ pl, x.ix = i) → DI P ops c N L done fr σ a w → ad P ops pl fr σ K →
    (∀ q ∈ done, ∀ q' ∈ done, L.getD q false = false → L.getD q' false = false → needB ops q' q = true → waitsB ops ops.size q' q = true) →
    ∃ pl' done' fr', (pl' = [] ∨ ∃ i rl r, pl' = .n i rl :: r) ∧ okL ops pl' done' = true ∧ (∀ i, i < ops.size → i ∈ done' ∨ ∃ x ∈ pl', x.ix = i) ∧ DI P ops c N L done' fr' σ a w ∧ ad P ops pl' fr' σ K ∧
      (∀ q ∈ done', ∀ q' ∈ done', L.getD q false = false → L.getD q' false = false → needB ops q' q = true → waitsB ops ops.size q' q = true)
  | [], done, fr, hok, hall, hdi, had, h1 => ⟨[], done, fr, .inl rfl, hok, hall, hdi, had, h1⟩
  | .n i rl :: r, done, fr, hok, hall, hdi, had, h1 => ⟨.n i rl :: r, done, fr, .inr ⟨i, rl, r, rfl⟩, hok, hall, hdi, had, h1⟩
  | .q i :: r, done, fr, hok, hall, hdi, had, h1 => by
    have hok0 := hok
    simp only [okL, PI.ix, Bool.and_eq_true, decide_eq_true_eq, Bool.not_eq_true'] at hok
    obtain ⟨⟨⟨⟨hlt, hnd⟩, hneed⟩, ⟨hdst, hself⟩, hap⟩, hrest⟩ := hok
    have hni : i ∉ done := fun hm => by have := List.contains_iff_mem.2 hm; rw [hnd] at this; cases this
    have hLi : L.getD i false = false := by
      cases h : L.getD i false with
      | false => rfl
      | true => exact absurd (hdi.sub i h) hni
    obtain ⟨o, ho⟩ : ∃ o, ops[i]? = some o := ⟨_, Array.getElem?_eq_getElem (of_decide_eq_true hlt)⟩
    rw [ho] at hdst
    obtain ⟨d, hd⟩ := Option.isSome_iff_exists.1 hdst
    simp only [ad, ho] at had
    obtain ⟨v, hy, hrest'⟩ : ∃ v, YA P ops σ o v fr.get ∧ ad P ops r (fr.put o.dst v) σ K := by
      unfold YA
      rw [evF_get]
      unfold aguard at had ⊢
      split at had
      · obtain ⟨v, h3, h4⟩ := had; exact ⟨v, h3, h4⟩
      · rename_i j want hg
        split at had
        · split at had
          · split at had
            · rename_i b hb
              by_cases hbw : b = want
              · obtain ⟨v, h3, h4⟩ := had.1 hbw
                exact ⟨v, ⟨fun _ => h3, fun e => absurd hbw e⟩, h4⟩
              · exact ⟨.tup [], ⟨fun e => absurd e hbw, fun _ => rfl⟩, had.2 hbw⟩
            · exact ⟨.tup [], rfl, had⟩
            · exact had.elim
          · exact had.elim
        · exact had.elim
    have hput : (fr.put o.dst v).get = putF fr.get o.dst v := get_put fr o.dst v
    have hselfd := (apart_of ho ho hd hself).1
    have hyi : YAf P ops σ i (fr.put o.dst v) := by
      refine ⟨o, d, ho, hd, ?_⟩
      rw [hput]
      have : putF fr.get o.dst v d = v := by simp [putF, hd]
      rw [this]
      exact (YA.put (fun e he => by rw [hd] at he; cases he; exact hselfd)).2 hy
    refine absorb r (i :: done) (fr.put o.dst v) hrest (fun k hk => ?_) ⟨hdi.sz, hdi.dc, fun k hk => List.mem_cons_of_mem _ (hdi.sub k hk), fun q hq hLq => ?_, ?_⟩ hrest' (fun q hq q' hq' hLq hLq' hnb => ?_)
    · rcases hall k hk with h | ⟨x, hx, rfl⟩
      · exact .inl (List.mem_cons_of_mem _ h)
      · rcases List.mem_cons.1 hx with rfl | hx
        · exact .inl (by simp [PI.ix])
        · exact .inr ⟨x, hx, rfl⟩
    · rcases List.mem_cons.1 hq with rfl | hq
      · exact hyi
      · obtain ⟨oq, dq, hoq, hdq, hyq⟩ := hdi.ya q hq hLq
        have hapq := apart_of ho hoq hd (List.all_eq_true.1 hap q hq)
        refine ⟨oq, dq, hoq, hdq, ?_⟩
        rw [hput]
        have hne : dq ≠ d := by
          rintro rfl
          rcases hapq.2 with rfl | h
          · exact hni hq
          · exact h hdq
        have : putF fr.get o.dst v dq = fr.get dq := by simp [putF, hd, hne]
        rw [this]
        exact (YA.put (fun e he => by rw [hd] at he; cases he; exact hapq.1)).2 hyq
    · obtain ⟨g, hi, hf, hN, hdd⟩ := hdi.sim
      refine ⟨g, hi, fun e => ?_, hN, hdd⟩
      have := hf e
      unfold restr at this ⊢
      split
      · exact .any
      · rename_i hnp
        have hnp' : ¬ pend ops L done e := fun ⟨q, hq, h⟩ => hnp ⟨q, List.mem_cons_of_mem _ hq, h⟩
        rw [if_neg hnp'] at this
        have hed : e ≠ d := fun he => hnp ⟨i, by simp, hLi, o, ho, by rw [he]; exact hd⟩
        rw [hput]
        simpa [putF, hd, hed] using this
    · have hno : ∀ k ∈ i :: done, apartB ops i k = true → needB ops i k = false := by
        intro k hk hapk
        simp only [needB, ho]
        cases hk' : ops[k]? with
        | none => simp [apartB, ho, hk'] at hapk
        | some ok =>
          have := (apart_of ho hk' hd hapk).1
          simp only [hd]
          exact Bool.eq_false_iff.2 fun hc => this (List.contains_iff_mem.1 hc)
      rcases List.mem_cons.1 hq' with he' | hm'
      · exfalso
        subst he'
        rcases List.mem_cons.1 hq with he | hm
        · rw [he, hno _ (by simp) hself] at hnb; cases hnb
        · rw [hno q (List.mem_cons_of_mem _ hm) (List.all_eq_true.1 hap q hm)] at hnb; cases hnb
      · rcases List.mem_cons.1 hq with he | hm
        · have := List.all_eq_true.1 hneed q' hm'
          simp only [Bool.or_eq_true, Bool.not_eq_true'] at this
          rw [he] at hnb ⊢
          rcases this with h | h
          · rw [h] at hnb; cases hnb
          · exact h
        · exact h1 q hm q' hm' hLq hLq' hnb

theorem aopV_mono {P : Program} {o : Oper} {ev : Operand → AV} {σ : St} {K K' : Option (Nat → Bool) → AV → St → Prop} (hk : ∀ dm v σ, K dm v σ → K' dm v σ) : aopV P o ev σ K → aopV P o ev σ K' := by
  unfold aopV
  split
  · unfold acallV
    split
    · rintro ⟨d, ids, lt, as, σc, r, σr, h1, h2, h3, h4, h5, h6, h7⟩
      exact ⟨d, ids, lt, as, σc, r, σr, h1, h2, h3, h4, h5, h6, hk _ _ _ h7⟩
    · exact id
  · split
    · unfold anil
      repeat' split
      all_goals first | exact fun h => ⟨h.1, fun b hb => hk _ _ _ (h.2 b hb)⟩ | exact fun h => ⟨h.1, hk _ _ _ h.2⟩ | exact id
    · exact aval_mono hk
theorem RAV.undef {g g' : G} {w w' : World} {a : AV} (h : RAV g w undef a) : RAV g' w' undef a ∧ ∀ f, a.dem f = a := by
  unfold Go.undef at h ⊢
  cases h with
  | c h => cases h
  | own t sz xs h =>
    obtain ⟨_, _, e, cells, ho, _⟩ := h
    rcases ho.2 with ⟨h, _⟩ | ⟨_, _, _, h, _⟩ <;> cases h
  | mrow t sz xs h =>
    obtain ⟨_, _, e, cells, ho, _⟩ := h
    rcases ho.2 with ⟨h, _⟩ | ⟨_, _, _, h, _⟩ <;> cases h
  | mptr t sz i off row h =>
    obtain ⟨b, cur, e, h, _⟩ := h
    cases h
  | tup vs cs hl _ =>
    have : cs = [] := List.eq_nil_of_length_eq_zero (by simpa using hl.symm)
    subst this
    exact ⟨.tup _ _ rfl (fun i v a hv => by simp at hv), fun f => rfl⟩
  | any => exact ⟨.any, fun f => rfl⟩
def demG (F : Nat → AV) (dm : Option (Nat → Bool)) : Nat → AV := fun d => match dm with | .none => F d | some f => (F d).dem f
theorem aopV_sound {P : Program} {c : Ctx} {N : Nat} {o : Oper} {a : Act} {w : World} {F : Nat → AV} {σ : St} {K : Option (Nat → Bool) → AV → St → Prop} {next : Act → World → Prop} {Q : Exit → Act → World → Prop} (hok : opOk N o = true)
    (h : aopV P o (evF F) σ K) (hs : SimF c N a w F σ) (hn : ∀ a' w' dm v σ', K dm v σ' → SimF c N a' w' (putF (demG F dm) o.dst v) σ' → next a' w') : o.wp P a w next Q := by
  let l := List.range N ++ tmpsOf o
  let fr := frOf F l
  have hfr : ∀ d, d ∈ l → fr.get d = F d := fun d hd => by rw [frOf_get, if_pos hd]
  obtain ⟨g, hi, hf, hN, hd⟩ := hs
  have hev : ∀ x ∈ o.op.operands, (evF F) x = fr.ev x := by
    intro x hx
    cases x with
    | tmp t =>
      have : t ∈ l := List.mem_append_right _ (List.mem_filterMap.2 ⟨.tmp t, by simpa using hx, rfl⟩)
      exact (hfr t this).symm
    | _ => rfl
  rw [aopV_congr hev] at h
  have h' : aop P o fr σ (fun fr' σ' => ∃ dm v, fr' = (fr.demo dm).put o.dst v ∧ K dm v σ') := by
    rw [aop_V]
    exact aopV_mono (fun dm v σ' hk => ⟨dm, v, rfl, hk⟩) h
  have hs : Sim c N a w fr σ := ⟨g, hi, fun d => by
    rw [frOf_get]
    split
    · exact hf d
    · exact .any, hN, hd⟩
  refine aop_sound hok h' hs (fun a' w' fr' σ' hk hs' => ?_)
  obtain ⟨dm, v, rfl, hk⟩ := hk
  obtain ⟨g', hi', hf', hN', hd'⟩ := hs'
  refine hn a' w' dm v σ' hk ⟨g', hi', fun d => ?_, hN', hd'⟩
  have hthis := hf' d
  rw [get_put] at hthis
  by_cases hdl : d ∈ l
  · have e : (fr.demo dm).get d = demG F dm d := by
      cases dm with
      | none => exact hfr d hdl
      | some f => simp only [Fr.demo, demG]; rw [Fr.get_dem, hfr d hdl]
    have e2 : putF (fr.demo dm).get o.dst v d = putF (demG F dm) o.dst v d := by
      cases hdst : o.dst with
      | none => exact e
      | some q => simp only [putF]; rw [e]
    rw [← e2]
    exact hthis
  · have hdN : ¬ d < N := fun h => hdl (List.mem_append_left _ (List.mem_range.2 h))
    have hu : a'.tmps.getD d Go.undef = Go.undef := by rw [Array.getD_eq_getD_getElem?, Array.getElem?_eq_none (by omega)]; rfl
    have hu0 : a.tmps.getD d Go.undef = Go.undef := by rw [Array.getD_eq_getD_getElem?, Array.getElem?_eq_none (by omega)]; rfl
    have h0 := hf d
    rw [hu0] at h0
    obtain ⟨h1, h2⟩ := RAV.undef (g' := g') (w' := w') h0
    have hne : ∀ q, o.dst = some q → d ≠ q := fun q hq he => hdN (he ▸ dst_lt hok q hq)
    have e0 : demG F dm d = F d := by
      cases dm with
      | none => rfl
      | some f => exact h2 f
    have e : putF (demG F dm) o.dst v d = F d := by
      cases hdst : o.dst with
      | none => exact e0
      | some q => simp only [putF]; rw [if_neg (hne q hdst)]; exact e0
    rw [hu, e]
    exact h1

/-! ### How many are left -/
def left (L : Array Bool) : Nat → Nat
  | 0 => 0
  | n + 1 => left L n + (if L.getD n false = true then 0 else 1)
theorem left_set {L : Array Bool} {i : Nat} (hi : i < L.size) (hL : L.getD i false = false) : ∀ n, left (L.setIfInBounds i true) n + (if i < n then 1 else 0) = left L n
  | 0 => rfl
  | n + 1 => by
    have ih := left_set hi hL n
    simp only [left, set_getD hi]
    by_cases h : n = i
    · subst h
      rw [if_neg (Nat.lt_irrefl _)] at ih
      rw [if_pos rfl, if_pos (rfl : true = true), if_pos (Nat.lt_succ_self _), hL, if_neg (by simp)]
      omega
    · rw [if_neg h]
      by_cases h2 : i < n
      · rw [if_pos h2] at ih
        rw [if_pos (show i < n + 1 by omega)]
        omega
      · rw [if_neg h2] at ih
        rw [if_neg (show ¬ i < n + 1 by omega)]
        omega
theorem left_zero {L : Array Bool} : ∀ {n : Nat}, left L n = 0 → ∀ i, i < n → L.getD i false = true
  | 0, _, i, hi => by omega
  | n + 1, h, i, hi => by
    simp only [left] at h
    by_cases he : i = n
    · subst he
      cases hL : L.getD i false with
      | true => rfl
      | false => rw [hL] at h; simp at h
    · exact left_zero (n := n) (by omega) i (by omega)
theorem left_all : ∀ (n m : Nat), left (Array.replicate m false) n = n
  | 0, m => rfl
  | n + 1, m => by
    have : (Array.replicate m false).getD n false = false := by
      rw [Array.getD_eq_getD_getElem?]
      cases h : (Array.replicate m false)[n]? with
      | none => rfl
      | some b => rw [Array.getElem?_replicate] at h; split at h <;> simp_all
    simp only [left, left_all n m, this]
    simp
theorem ready_of {ops : Array Oper} {L : Array Bool} {rk : Nat → Nat} (hsz : L.size = ops.size) (hord : ∀ i, i < ops.size → ∃ o, ops[i]? = some o ∧ ∀ e ∈ o.after, Region.binds .any e = true → e.on < ops.size ∧ rk e.on < rk i) : ∀ n i, rk i < n → i < ops.size → L.getD i false = false → ∃ k, k ∈ Region.ready .any ops L
  | 0, i, h, _, _ => by omega
  | n + 1, i, h, hi, hL => by
    obtain ⟨o, ho, hb⟩ := hord i hi
    by_cases hall : ∀ e ∈ o.after, Region.binds .any e = true → L.getD e.on false = true
    · refine ⟨i, ?_⟩
      unfold Region.ready
      refine List.mem_filter.2 ⟨List.mem_range.2 hi, ?_⟩
      have h1 : L.getD i true = false := by
        have : i < L.size := by omega
        simp [Array.getD_eq_getD_getElem?, this] at hL ⊢
        exact hL
      simp only [h1, ho, Option.map_some, Option.getD_some, Bool.not_false, Bool.true_and]
      rw [Array.all_eq_true']
      intro e he
      cases hbe : Region.binds .any e with
      | false => rfl
      | true => simp [hall e he hbe]
    · simp only [Classical.not_forall] at hall
      obtain ⟨e, he, hbe, hle⟩ := hall
      have hlt := hb e he hbe
      exact ready_of hsz hord n e.on (by omega) hlt.1 (by simpa using hle)

theorem ready_un {ops : Array Oper} {L : Array Bool} {i : Nat} (h : i ∈ Region.ready .any ops L) : i < ops.size ∧ L.getD i true = false := by
  unfold Region.ready at h
  obtain ⟨h1, h2⟩ := List.mem_filter.1 h
  simp only [Bool.and_eq_true, Bool.not_eq_true'] at h2
  exact ⟨List.mem_range.1 h1, h2.1⟩

theorem ad_sound {P : Program} {ops : Array Oper} {c : Ctx} {N : Nat} {Q : Exit → Act → World → Prop} {K : Fr → St → Prop} {rk : Nat → Nat} (hok : ∀ (i : Nat) o, ops[i]? = some o → opOk N o = true)
    (hord : ∀ i, i < ops.size → ∃ o, ops[i]? = some o ∧ ∀ e ∈ o.after, Region.binds .any e = true → e.on < ops.size ∧ rk e.on < rk i) (hQ : ∀ a w fr σ, K fr σ → Sim c N a w fr σ → Q .normal a w) :
    ∀ (n : Nat) (L : Array Bool) (pl : List PI) (done : List Nat) (fr : Fr) (σ : St) (a : Act) (w : World), left L ops.size = n → okL ops pl done = true → (∀ i, i < ops.size → i ∈ done ∨ ∃ x ∈ pl, x.ix = i) → DI P ops c N L done fr σ a w → ad P ops pl fr σ K →
      (∀ q ∈ done, ∀ q' ∈ done, L.getD q false = false → L.getD q' false = false → needB ops q' q = true → waitsB ops ops.size q' q = true) → wpAny P .any ops Q n L a w := by
  intro n
  induction n with
  | zero =>
    intro L pl done fr σ a w hl hpl hall hdi had h1
    obtain ⟨pl', done', fr', hpl', hok', hall', hdi', had', h1'⟩ := absorb pl done fr hpl hall hdi had h1
    have hlist : ∀ i, i < ops.size → L.getD i false = true := left_zero hl
    refine ⟨?_, ?_⟩
    · refine List.eq_nil_iff_forall_not_mem.2 fun i hi => ?_
      obtain ⟨h2, h3⟩ := ready_un hi
      have := hlist i h2
      rw [getD_tf h3] at this
      cases this
    · rcases hpl' with rfl | ⟨i, rl, r, rfl⟩
      · refine hQ a w fr' σ had' ?_
        obtain ⟨g, hi, hf, hN, hd⟩ := hdi'.sim
        refine ⟨g, hi, fun d => ?_, hN, hd⟩
        have := hf d
        unfold restr at this
        rw [if_neg] at this
        · exact this
        · rintro ⟨q, hq, hLq, o, ho, _⟩
          rw [hlist q (Array.getElem?_eq_some_iff.1 ho).1] at hLq
          cases hLq
      · exfalso
        simp only [okL, PI.ix, Bool.and_eq_true, Bool.not_eq_true'] at hok'
        have hlt := of_decide_eq_true hok'.1.1.1.1
        have := hdi'.sub i (hlist i hlt)
        have h5 := List.contains_iff_mem.2 this
        rw [hok'.1.1.1.2] at h5
        cases h5
  | succ n ih =>
    intro L pl done fr σ a w hl hpl hall hdi had h1
    obtain ⟨pl', done', fr', hpl', hok', hall', hdi', had', h1'⟩ := absorb pl done fr hpl hall hdi had h1
    clear hpl hall hdi had h1 pl done fr
    have hsz := hdi'.sz
    refine ⟨fun h0 => ?_, fun i hi => ?_⟩
    · exfalso
      obtain ⟨k, hk⟩ : ∃ i, i < ops.size ∧ L.getD i false = false := by
        refine Classical.byContradiction fun hno => ?_
        have : ∀ m, m ≤ ops.size → left L m = 0 := by
          intro m
          induction m with
          | zero => intro _; rfl
          | succ m ihm =>
            intro hm
            simp only [left, ihm (by omega)]
            have : L.getD m false = true := by
              cases h : L.getD m false with
              | true => rfl
              | false => exact absurd ⟨m, by omega, h⟩ hno
            simp [this]
        rw [this ops.size (Nat.le_refl _)] at hl
        cases hl
      obtain ⟨k2, hk2⟩ := ready_of hsz hord (rk k + 1) k (by omega) hk.1 hk.2
      rw [h0] at hk2
      cases hk2
    · obtain ⟨hlt, hun⟩ := ready_un hi
      have hLi : L.getD i false = false := getD_tf hun
      have hiL : i < L.size := getD_lt hun
      obtain ⟨o, ho⟩ : ∃ o, ops[i]? = some o := ⟨_, Array.getElem?_eq_getElem hlt⟩
      have hleft : left (L.setIfInBounds i true) ops.size = n := by
        have := left_set hiL hLi ops.size
        rw [if_pos hlt] at this
        omega
      have hL' : ∀ j, (L.setIfInBounds i true).getD j false = if j = i then true else L.getD j false := fun j => set_getD hiL
      have hunset : ∀ j, (L.setIfInBounds i true).getD j false = false → L.getD j false = false ∧ j ≠ i := by
        intro j hj
        rw [hL' j] at hj
        by_cases he : j = i
        · rw [if_pos he] at hj; cases hj
        · rw [if_neg he] at hj; exact ⟨hj, he⟩
      have hdc' := hdi'.dc.set hi
      -- what waits is done
      have hwaits : ∀ j, waitsB ops ops.size j i = true → L.getD j false = true := fun j hj => waits_ready hdi'.dc _ j i hj hi
      unfold wpOp
      simp only [ho]
      by_cases hid : i ∈ done'
      · -- a quiet operation that was told before
        obtain ⟨oq, d, hoq, hd, hy⟩ := hdi'.ya i hid hLi
        rw [ho] at hoq
        cases hoq
        have hsame : ∀ e ∈ o.looksAt ops, fr'.get e = restr ops L done' fr' e := by
          intro e he
          unfold restr
          rw [if_neg]
          rintro ⟨q, hq, hLq, oq, hoq, hdq⟩
          have := h1' i hid q hq hLi hLq (needs_of ho hoq hdq he)
          rw [hwaits q this] at hLq
          cases hLq
        rw [YA_congr hsame] at hy
        have hnext : ∀ a' w', SimF c N a' w' (putF (restr ops L done' fr') o.dst (fr'.get d)) σ → wpAny P .any ops Q n (L.setIfInBounds i true) a' w' := by
          intro a' w' hs
          refine ih _ pl' done' fr' σ a' w' hleft hok' hall' ⟨by simpa using hsz, hdc', fun k hk => ?_, fun q hq hLq => hdi'.ya q hq (hunset q hLq).1, ?_⟩ had' (fun q hq q' hq' h3 h4 => h1' q hq q' hq' (hunset q h3).1 (hunset q' h4).1)
          · rw [hL' k] at hk
            by_cases he : k = i
            · rw [he]; exact hid
            · rw [if_neg he] at hk; exact hdi'.sub k hk
          · obtain ⟨g, hinv, hf, hN, hdd⟩ := hs
            refine ⟨g, hinv, fun e => ?_, hN, hdd⟩
            have := hf e
            unfold restr
            split
            · exact .any
            · rename_i hnp
              simp only [putF, hd] at this
              by_cases he : e = d
              · rw [if_pos he] at this; rw [he] at this ⊢; exact this
              · rw [if_neg he] at this
                unfold restr at this
                rw [if_neg] at this
                · exact this
                · rintro ⟨q, hq, hLq, oq, hoq, hdq⟩
                  refine hnp ⟨q, hq, ?_, oq, hoq, hdq⟩
                  rw [hL' q]
                  by_cases hqi : q = i
                  · exfalso; subst hqi; rw [ho] at hoq; cases hoq; rw [hd] at hdq; cases hdq; exact he rfl
                  · rw [if_neg hqi]; exact hLq
        have hs := hdi'.sim
        obtain ⟨g, hinv, hf, hN, hdd⟩ := hs
        unfold YA at hy
        rcases aguard_sound hf hy with ⟨hw, hy⟩ | ⟨hw, hv⟩
        · simp only [hw, if_true]
          exact .inl (quiet_wp (hok i o ho) hy hdi'.sim hnext)
        · simp only [hw, Bool.false_eq_true, if_false]
          refine hnext _ w ?_
          rw [hv]
          exact SimF.put hinv hf hN hdd (dst_lt (hok i o ho)) (.tup #[] [] rfl (fun i v a hv => by simp at hv))
      · -- the next one of the others
        rcases hpl' with rfl | ⟨k, rl, r, rfl⟩
        · rcases hall' i hlt with h | ⟨x, hx, _⟩
          · exact absurd h hid
          · cases hx
        have hokk := hok'
        simp only [okL, PI.ix, Bool.and_eq_true, Bool.not_eq_true'] at hok'
        obtain ⟨⟨⟨⟨_, hkd⟩, hneed⟩, ⟨hap, hlater⟩, hrl⟩, hrest⟩ := hok'
        have hknd : k ∉ done' := fun hm => by have := List.contains_iff_mem.2 hm; rw [hkd] at this; cases this
        have hki : k = i := by
          rcases hall' i hlt with h | ⟨x, hx, hxi⟩
          · exact absurd h hid
          · rcases List.mem_cons.1 hx with rfl | hx
            · exact hxi
            · exfalso
              have this : waitsB ops ops.size k x.ix = true := List.all_eq_true.1 hlater x hx
              rw [hxi] at this
              exact hknd (hdi'.sub k (hwaits k this))
        subst hki
        simp only [ad, ho] at had'
        have hsame : ∀ e ∈ o.looksAt ops, fr'.get e = restr ops L done' fr' e := by
          intro e he
          unfold restr
          rw [if_neg]
          rintro ⟨q, hq, hLq, oq, hoq, hdq⟩
          have := List.all_eq_true.1 hneed q hq
          simp only [Bool.or_eq_true, Bool.not_eq_true', needs_of ho hoq hdq he, Bool.true_eq_false, false_or] at this
          rw [hwaits q this] at hLq
          cases hLq
        have hall2 : ∀ j, j < ops.size → j ∈ k :: done' ∨ ∃ x ∈ r, x.ix = j := by
          intro j hj
          rcases hall' j hj with h | ⟨x, hx, hxj⟩
          · exact .inl (List.mem_cons_of_mem _ h)
          · rcases List.mem_cons.1 hx with rfl | hx
            · exact .inl (by rw [← hxj]; simp [PI.ix])
            · exact .inr ⟨x, hx, hxj⟩
        have hsub2 : ∀ j, (L.setIfInBounds k true).getD j false = true → j ∈ k :: done' := by
          intro j hj
          rw [hL' j] at hj
          by_cases he : j = k
          · rw [he]; simp
          · rw [if_neg he] at hj; exact List.mem_cons_of_mem _ (hdi'.sub j hj)
        have h12 : ∀ q ∈ k :: done', ∀ q' ∈ k :: done', (L.setIfInBounds k true).getD q false = false → (L.setIfInBounds k true).getD q' false = false → needB ops q' q = true → waitsB ops ops.size q' q = true := by
          intro q hq q' hq' h3 h4
          rcases List.mem_cons.1 hq with he | hq
          · exact absurd he (hunset q h3).2
          · rcases List.mem_cons.1 hq' with he | hq'
            · exact absurd he (hunset q' h4).2
            · exact h1' q hq q' hq' (hunset q h3).1 (hunset q' h4).1
        rw [aguard_congr hsame] at had'
        have hs := hdi'.sim
        obtain ⟨g, hinv, hf, hN, hdd⟩ := hs
        rcases aguard_sound hf had' with ⟨hw, hx⟩ | ⟨hw, hx⟩
        · simp only [hw, if_true]
          rw [aop_V, ← evF_get, aopV_congr (evF_congr hsame)] at hx
          refine .inl (aopV_sound (hok k o ho) hx hdi'.sim (fun a' w' dm v σ' hk hs' => ?_))
          obtain ⟨hrc, hrest'⟩ := hk
          refine ih _ r (k :: done') _ σ' a' w' hleft hrest hall2 ⟨by simpa using hsz, hdc', hsub2, fun q hq hLq => ?_, ?_⟩ hrest' h12
          · rcases List.mem_cons.1 hq with he | hq
            · exact absurd he (hunset q hLq).2
            · have := List.all_eq_true.1 hrl q hq
              simp only [Bool.or_eq_true] at this
              rcases this with h | h
              · exact RC_mem hrc q (List.contains_iff_mem.1 h)
              · have := hwaits q h
                rw [(hunset q hLq).1] at this
                cases this
          · obtain ⟨g', hinv', hf', hN', hdd'⟩ := hs'
            refine ⟨g', hinv', fun e => ?_, hN', hdd'⟩
            have := hf' e
            unfold restr
            split
            · exact .any
            · rename_i hnp
              have hnp' : ¬ (pend ops L done' e ∧ o.dst ≠ some e) := by
                rintro ⟨⟨q, hq, hLq, oq, hoq, hdq⟩, hne⟩
                refine hnp ⟨q, List.mem_cons_of_mem _ hq, ?_, oq, hoq, hdq⟩
                rw [hL' q, if_neg]
                · exact hLq
                · intro he; exact hknd (he ▸ hq)
              have e2 : ((fr'.demo dm).put o.dst v).get e = putF (demG (restr ops L done' fr') dm) o.dst v e := by
                rw [get_put]
                have hdem : ¬ pend ops L done' e → (fr'.demo dm).get e = demG (restr ops L done' fr') dm e := by
                  intro hp
                  have h0 : restr ops L done' fr' e = fr'.get e := by unfold restr; rw [if_neg hp]
                  cases dm with
                  | none => simp only [Fr.demo, demG]; exact h0.symm
                  | some f => simp only [Fr.demo, demG]; rw [Fr.get_dem, h0]
                cases hdst : o.dst with
                | none => exact hdem (fun hp => hnp' ⟨hp, by rw [hdst]; simp⟩)
                | some q =>
                  simp only [putF]
                  by_cases he : e = q
                  · rw [if_pos he, if_pos he]
                  · rw [if_neg he, if_neg he]
                    exact hdem (fun hp => hnp' ⟨hp, by rw [hdst]; simp; exact fun h => he h.symm⟩)
              rw [e2]
              exact this
        · simp only [hw, Bool.false_eq_true, if_false]
          have hput := SimF.put hinv hf hN hdd (dst_lt (hok k o ho)) (av := .tup []) (v := undef) (.tup #[] [] rfl (fun i v a hv => by simp at hv))
          refine ih _ r (k :: done') _ σ _ w hleft hrest hall2 ⟨by simpa using hsz, hdc', hsub2, fun q hq hLq => ?_, ?_⟩ hx h12
          · rcases List.mem_cons.1 hq with he | hq
            · exact absurd he (hunset q hLq).2
            · obtain ⟨oq, dq, hoq, hdq, hyq⟩ := hdi'.ya q hq (hunset q hLq).1
              have hapq : apartB ops k q = true := by
                have := List.all_eq_true.1 hap q hq
                simp only [Bool.or_eq_true] at this
                rcases this with h | h
                · exact h
                · have := hwaits q h
                  rw [(hunset q hLq).1] at this
                  cases this
              refine ⟨oq, dq, hoq, hdq, ?_⟩
              rw [get_put]
              have e3 : putF fr'.get o.dst (.tup []) dq = fr'.get dq := by
                cases hdst : o.dst with
                | none => rfl
                | some e =>
                  simp only [putF]
                  rw [if_neg]
                  rintro rfl
                  rcases (apart_of ho hoq hdst hapq).2 with h | h
                  · exact hknd (h ▸ hq)
                  · exact h hdq
              rw [e3]
              exact (YA.put (fun e he => (apart_of ho hoq he hapq).1)).2 hyq
          · obtain ⟨g', hinv', hf', hN', hdd'⟩ := hput
            refine ⟨g', hinv', fun e => ?_, hN', hdd'⟩
            have := hf' e
            unfold restr
            split
            · exact .any
            · rename_i hnp
              have hnp' : ¬ (pend ops L done' e ∧ o.dst ≠ some e) := by
                rintro ⟨⟨q, hq, hLq, oq, hoq, hdq⟩, hne⟩
                refine hnp ⟨q, List.mem_cons_of_mem _ hq, ?_, oq, hoq, hdq⟩
                rw [hL' q, if_neg]
                · exact hLq
                · intro he; exact hknd (he ▸ hq)
              have e2 : (fr'.put o.dst (.tup [])).get e = putF (restr ops L done' fr') o.dst (.tup []) e := by
                rw [get_put]
                have h0 : ¬ pend ops L done' e → restr ops L done' fr' e = fr'.get e := fun hp => by unfold restr; rw [if_neg hp]
                cases hdst : o.dst with
                | none => exact (h0 (fun hp => hnp' ⟨hp, by rw [hdst]; simp⟩)).symm
                | some q =>
                  simp only [putF]
                  by_cases he : e = q
                  · rw [if_pos he, if_pos he]
                  · rw [if_neg he, if_neg he]
                    exact (h0 (fun hp => hnp' ⟨hp, by rw [hdst]; simp; exact fun h => he h.symm⟩)).symm
              rw [e2]
              exact this

/-- A region's runs, told by a plan. -/
theorem plan_any {P : Program} {c : Ctx} {N : Nat} {ops : Array Oper} {σ : St} {fr : Fr} {pl : List PI} {K : Fr → St → Prop} {Q : Exit → Act → World → Prop} {rk : Nat → Nat} (h1 : okL ops pl [] = true) (h2 : ((List.range ops.size).all fun i => pl.any fun x => x.ix == i) = true)
    (h3 : ∀ i, i < ops.size → ∃ o, ops[i]? = some o ∧ ∀ e ∈ o.after, Region.binds .any e = true → e.on < ops.size ∧ rk e.on < rk i) (hok : ∀ (i : Nat) o, ops[i]? = some o → opOk N o = true)
    (h : ad P ops pl fr σ K) {a : Act} {w : World} (hs : Sim c N a w fr σ) (hQ : ∀ a w fr σ, K fr σ → Sim c N a w fr σ → Q .normal a w) : wpAny P .any ops Q ops.size (Array.replicate ops.size false) a { w with drawn := w.drawn + 1 } := by
  obtain ⟨g, hi, hf, hN, hd⟩ := hs
  obtain ⟨hi', st⟩ := hi.drew
  have hrep : ∀ i, (Array.replicate ops.size false).getD i false = false := by
    intro i
    rw [Array.getD_eq_getD_getElem?]
    cases h : (Array.replicate ops.size false)[i]? with
    | none => rfl
    | some b => rw [Array.getElem?_replicate] at h; split at h <;> simp_all
  refine ad_sound (c := c) (N := N) (K := K) hok h3 hQ ops.size _ pl [] fr σ a _ (left_all _ _) h1 (fun i hi => ?_) ⟨by simp, fun k o ho hl => (by rw [hrep] at hl; cases hl), fun i hl => (by rw [hrep] at hl; cases hl), fun q hq => (by simp at hq), ⟨g, hi', fun d => ?_, hN, hd⟩⟩ h (fun q hq => by simp at hq)
  · have := List.all_eq_true.1 h2 i (List.mem_range.2 hi)
    obtain ⟨x, hx, hxi⟩ := List.any_eq_true.1 this
    exact .inr ⟨x, hx, by simpa using hxi⟩
  · have := (hf d).stp st
    unfold restr
    rw [if_neg]
    · exact this
    · rintro ⟨q, hq, _⟩
      cases hq
/-- A drawn region, told by a plan. -/
theorem plan_sound {P : Program} {c : Ctx} {N : Nat} {ops : Array Oper} {id : Nat} {σ : St} {fr : Fr} {pl : List PI} {K : Fr → St → Prop} {Q : Exit → Act → World → Prop} (hm : P.follows .mixedOrders = true) (hB : planOk ops pl = true) (hok : ∀ o ∈ ops.toList, opOk N o = true)
    (h : ad P ops pl fr σ K) {a : Act} {w : World} (hs : Sim c N a w fr σ) (hQ : ∀ a w fr σ, K fr σ → Sim c N a w fr σ → Q .normal a w) : (Code.region id ops true).wp P Q a w := by
  simp only [planOk, Bool.and_eq_true] at hB
  obtain ⟨⟨h1, h2⟩, h3⟩ := hB
  refine wp_region_any hm (plan_any (rk := fun i => i) h1 h2 (fun i hi => ?_) (fun i o ho => hok o (by rw [← Array.getElem?_toList] at ho; exact List.mem_of_getElem? ho)) h hs hQ)
  have := List.all_eq_true.1 h3 i (List.mem_range.2 hi)
  cases ho : ops[i]? with
  | none => rw [ho] at this; cases this
  | some o =>
    rw [ho] at this
    refine ⟨o, rfl, fun e he hb => ?_⟩
    have := Array.all_eq_true'.1 this e he
    simp only [Bool.or_eq_true, Bool.not_eq_true', hb, Bool.true_eq_false, false_or, decide_eq_true_eq] at this
    exact ⟨by omega, this⟩

theorem acall_mono {P : Program} {dst : Option Tmp} {fv : AV} {args : List AV} {fr : Fr} {σ : St} {K K' : Fr → St → Prop} (hk : ∀ fr σ, K fr σ → K' fr σ) : acall P dst fv args fr σ K → acall P dst fv args fr σ K' := by
  unfold acall
  split
  · rintro ⟨d, ids, lt, as, σc, r, σr, h1, h2, h3, h4, h5, h6, h7⟩
    exact ⟨d, ids, lt, as, σc, r, σr, h1, h2, h3, h4, h5, h6, hk _ _ h7⟩
  · exact id

theorem aop_mono {P : Program} {o : Oper} {fr : Fr} {σ : St} {K K' : Fr → St → Prop} (hk : ∀ fr σ, K fr σ → K' fr σ) : aop P o fr σ K → aop P o fr σ K' := by
  unfold aop
  split
  · exact acall_mono hk
  · split
    · unfold anil
      repeat' split
      all_goals first | exact fun h => ⟨h.1, fun b hb => hk _ _ (h.2 b hb)⟩ | exact fun h => ⟨h.1, hk _ _ h.2⟩ | exact id
    · exact aval_mono (fun dm v σ => hk _ _)

theorem aguard_mono {ops : List Oper} {o : Oper} {get : Nat → AV} {y y' n n' : Prop} (hy : y → y') (hn : n → n') : aguard ops o get y n → aguard ops o get y' n' := by
  unfold aguard
  repeat' split
  all_goals first | exact hy | exact hn | exact fun h => ⟨fun e => hy (h.1 e), fun e => hn (h.2 e)⟩ | exact id

theorem ad_mono {P : Program} {ops : Array Oper} {K K' : Fr → St → Prop} (hk : ∀ fr σ, K fr σ → K' fr σ) : ∀ (pl : List PI) (fr : Fr) (σ : St), ad P ops pl fr σ K → ad P ops pl fr σ K'
  | [], fr, σ => hk fr σ
  | .q i :: r, fr, σ => by
    simp only [ad]
    cases ops[i]? with
    | none => exact id
    | some o => exact aguard_mono (fun ⟨v, h1, h2⟩ => ⟨v, h1, ad_mono hk r _ σ h2⟩) (ad_mono hk r _ σ)
  | .n i rl :: r, fr, σ => by
    simp only [ad]
    cases ops[i]? with
    | none => exact id
    | some o => exact aguard_mono (aop_mono fun fr' σ' ⟨h1, h2⟩ => ⟨h1, ad_mono hk r fr' σ' h2⟩) (ad_mono hk r _ σ)
end Go.Proofs.Ytlfggjfndmfblaa.Abs

namespace Go.Proofs.Ytlfggjfndmfblaa.Abs
open Go
set_option linter.unusedVariables false
set_option linter.unusedSimpArgs false

/-- An order of a region: each is ready at its turn, and none is left. -/
def VL (ops : Array Oper) : List Nat → Array Bool → Prop
  | [], L => Region.ready .any ops L = []
  | k :: l, L => k ∈ Region.ready .any ops L ∧ VL ops l (L.setIfInBounds k true)

theorem wpAny_VL {P : Program} {ops : Array Oper} {Q : Exit → Act → World → Prop} : ∀ (l : List Nat) (n : Nat) (L : Array Bool) (a : Act) (w : World), wpAny P .any ops Q n L a w → VL ops l L → l.length ≤ n → wpOps P ops Q l a w
  | [], n, L, a, w, h, hv, _ => by
    have hv : Region.ready .any ops L = [] := hv
    cases n with
    | zero => simpa [wpOps] using h.2
    | succ n => simpa [wpOps] using h.1 hv
  | k :: l, 0, L, a, w, h, hv, hl => by simp at hl
  | k :: l, n + 1, L, a, w, h, hv, hl => by
    rw [wpOps_cons]
    exact wpOp_mono (fun a w hh => wpAny_VL l n _ a w hh hv.2 (by simpa using hl)) (h.2 k hv.1)

theorem left_pos {L : Array Bool} {i : Nat} : ∀ {n : Nat}, i < n → L.getD i false = false → 0 < left L n
  | 0, h, _ => by omega
  | n + 1, h, hL => by
    simp only [left]
    by_cases he : i = n
    · subst he; rw [hL]; simp
    · have := left_pos (n := n) (by omega) hL
      omega
theorem go_VL {ops : Array Oper} : ∀ (fuel t : Nat) (L : Array Bool), L.size = ops.size → left L ops.size ≤ fuel → VL ops (Region.linearise.go .any ops fuel t L []) L ∧ (Region.linearise.go .any ops fuel t L []).length ≤ fuel
  | 0, t, L, hs, hl => by
    refine ⟨?_, by simp [Region.linearise.go]⟩
    simp only [Region.linearise.go, List.reverse_nil]
    refine List.eq_nil_iff_forall_not_mem.2 fun i hi => ?_
    obtain ⟨h1, h2⟩ := ready_un hi
    have := left_pos h1 (show L.getD i false = false by
      have h3 : i < L.size := by omega
      simp [Array.getD_eq_getD_getElem?, h3] at h2 ⊢
      exact h2)
    omega
  | fuel + 1, t, L, hs, hl => by
    simp only [Region.linearise.go]
    change VL ops (match (Region.ready .any ops L)[t % (Region.ready .any ops L).length]? with | some i => Region.linearise.go .any ops fuel (t / (Region.ready .any ops L).length) (L.setIfInBounds i true) [i] | none => [].reverse) L ∧ (match (Region.ready .any ops L)[t % (Region.ready .any ops L).length]? with | some i => Region.linearise.go .any ops fuel (t / (Region.ready .any ops L).length) (L.setIfInBounds i true) [i] | none => [].reverse).length ≤ fuel + 1
    cases hi : (Region.ready .any ops L)[t % (Region.ready .any ops L).length]? with
    | none =>
      have hnil : Region.ready .any ops L = [] := by
        cases hr : Region.ready .any ops L with
        | nil => rfl
        | cons x xs =>
          rw [hr] at hi
          have hlt : t % (x :: xs).length < (x :: xs).length := Nat.mod_lt _ (by simp)
          simp at hi
          simp at hlt
          omega
      simp only [List.reverse_nil]
      exact ⟨hnil, by simp⟩
    | some i =>
      simp only []
      rw [linearise_go_acc, List.reverse_singleton, List.singleton_append]
      have hm := List.mem_of_getElem? hi
      obtain ⟨h1, h2⟩ := ready_un hm
      have h3 : i < L.size := by omega
      have h4 : L.getD i false = false := by
        simp [Array.getD_eq_getD_getElem?, h3] at h2 ⊢
        exact h2
      have h5 := left_set h3 h4 ops.size
      rw [if_pos h1] at h5
      obtain ⟨g1, g2⟩ := go_VL (ops := ops) fuel (t / (Region.ready .any ops L).length) (L.setIfInBounds i true) (by simp [hs]) (by omega)
      exact ⟨⟨hm, g1⟩, by simpa using g2⟩

/-! ### One more edge -/
def edgeO (i : Nat) (o : Oper) : Oper := { o with after := o.after.push { on := i, ground := .data } }
def edge (ops : Array Oper) (i j : Nat) : Array Oper := (ops.toList.mapIdx fun k o => if k = j then edgeO i o else o).toArray
theorem edge_size (ops : Array Oper) (i j : Nat) : (edge ops i j).size = ops.size := by simp [edge]
theorem edge_get (ops : Array Oper) (i j k : Nat) : (edge ops i j)[k]? = (ops[k]?).map fun o => if k = j then edgeO i o else o := by
  unfold edge
  rw [List.getElem?_toArray, List.getElem?_mapIdx, Array.getElem?_toList]

theorem ready_edge {ops : Array Oper} {i j k : Nat} {L : Array Bool} (h : k ∈ Region.ready .any ops L) (hk : k = j → L.getD i false = true) : k ∈ Region.ready .any (edge ops i j) L := by
  unfold Region.ready at h ⊢
  obtain ⟨h1, h2⟩ := List.mem_filter.1 h
  refine List.mem_filter.2 ⟨by rw [edge_size]; exact h1, ?_⟩
  rw [edge_get]
  cases ho : ops[k]? with
  | none => simp [ho] at h2
  | some o =>
    rw [ho] at h2
    simp only [Option.map_some, Option.getD_some, Bool.and_eq_true] at h2 ⊢
    refine ⟨h2.1, ?_⟩
    split
    · rename_i e
      unfold edgeO
      simp only [Array.all_push, Bool.and_eq_true]
      exact ⟨h2.2, by rw [hk e, Bool.or_true]⟩
    · exact h2.2
theorem ready_of_edge {ops : Array Oper} {i j k : Nat} {L : Array Bool} (h : k ∈ Region.ready .any (edge ops i j) L) : k ∈ Region.ready .any ops L := by
  unfold Region.ready at h ⊢
  obtain ⟨h1, h2⟩ := List.mem_filter.1 h
  refine List.mem_filter.2 ⟨by rw [edge_size] at h1; exact h1, ?_⟩
  rw [edge_get] at h2
  cases ho : ops[k]? with
  | none => simp [ho] at h2
  | some o =>
    rw [ho] at h2
    simp only [Option.map_some, Option.getD_some, Bool.and_eq_true] at h2 ⊢
    refine ⟨h2.1, ?_⟩
    have h3 := h2.2
    split at h3
    · unfold edgeO at h3
      simp only [Array.all_push, Bool.and_eq_true] at h3
      exact h3.1
    · exact h3
/-- i comes before j, or neither comes. -/
def bef (i j : Nat) : List Nat → Prop
  | [] => True
  | k :: l => k = i ∨ (k ≠ j ∧ bef i j l)
theorem bef_or (i j : Nat) : ∀ l, bef i j l ∨ bef j i l
  | [] => .inl trivial
  | k :: l => by
    by_cases h1 : k = i
    · exact .inl (.inl h1)
    · by_cases h2 : k = j
      · exact .inr (.inl h2)
      · rcases bef_or i j l with h | h
        · exact .inl (.inr ⟨h2, h⟩)
        · exact .inr (.inr ⟨h1, h⟩)
theorem VL_edge {ops : Array Oper} {i j : Nat} (hij : i ≠ j) : ∀ (l : List Nat) (L : Array Bool), L.size = ops.size → VL ops l L → (L.getD i false = true ∨ bef i j l) → VL (edge ops i j) l L
  | [], L, hs, h, _ => by
    have h : Region.ready .any ops L = [] := h
    refine List.eq_nil_iff_forall_not_mem.2 fun k hk => ?_
    have := ready_of_edge hk
    rw [h] at this
    cases this
  | k :: l, L, hs, h, hb => by
    obtain ⟨h1, h2⟩ := h
    have hlt := (ready_un h1).1
    have hset : ∀ x, L.getD x false = true → (L.setIfInBounds k true).getD x false = true := fun x hx => by
      rw [set_getD (by omega)]; split <;> simp [hx]
    refine ⟨ready_edge h1 fun e => ?_, VL_edge hij l _ (by simp [hs]) h2 ?_⟩
    · rcases hb with hb | hb
      · exact hb
      · rcases hb with hb | hb
        · exact absurd (hb.symm.trans e) hij
        · exact absurd e hb.1
    · rcases hb with hb | hb
      · exact .inl (hset _ hb)
      · rcases hb with hb | hb
        · subst hb
          exact .inl (by rw [set_getD (by omega), if_pos rfl])
        · exact .inr hb.2

/-! ### What an operation does does not hang on its edges -/
theorem ite_after (k j i : Nat) (o : Oper) : ∃ af, (if k = j then edgeO i o else o) = { o with after := af } := by
  split
  · exact ⟨_, rfl⟩
  · exact ⟨o.after, rfl⟩
theorem edge_yielded (ops : Array Oper) (i j : Nat) (tmps : Array Value) : yielded (edge ops i j) tmps = yielded ops tmps := by
  funext k
  have : ((edge ops i j)[k]?).bind (·.dst) = (ops[k]?).bind (·.dst) := by
    rw [edge_get]
    cases ops[k]? with
    | none => rfl
    | some o =>
      obtain ⟨af, e⟩ := ite_after k j i o
      simp only [Option.map_some, e, Option.bind_some]
  simp only [yielded, this]
theorem edge_wpOp {P : Program} {ops : Array Oper} {Q : Exit → Act → World → Prop} (i j k : Nat) (K : Act → World → Prop) (a : Act) (w : World) : wpOp P (edge ops i j) Q k K a w = wpOp P ops Q k K a w := by
  unfold wpOp
  rw [edge_get, edge_yielded]
  cases ops[k]? with
  | none => rfl
  | some o =>
    obtain ⟨af, e⟩ := ite_after k j i o
    simp only [Option.map_some, e]
    rfl
theorem edge_wpOps {P : Program} {ops : Array Oper} {Q : Exit → Act → World → Prop} (i j : Nat) : ∀ (l : List Nat) (a : Act) (w : World), wpOps P (edge ops i j) Q l a w = wpOps P ops Q l a w
  | [], a, w => rfl
  | k :: l, a, w => by
    rw [wpOps_cons, wpOps_cons, edge_wpOp]
    congr 1
    funext a w
    exact edge_wpOps i j l a w

/-- A drawn region, by its orders in which i comes before j and by those in which j comes before i. -/
theorem wp_region_two {P : Program} {ops : Array Oper} {Q : Exit → Act → World → Prop} {id : Nat} {a : Act} {w : World} {i j : Nat} (hij : i ≠ j) (hm : P.follows .mixedOrders = true)
    (h1 : wpAny P .any (edge ops i j) Q ops.size (Array.replicate ops.size false) a { w with drawn := w.drawn + 1 }) (h2 : wpAny P .any (edge ops j i) Q ops.size (Array.replicate ops.size false) a { w with drawn := w.drawn + 1 }) : (Code.region id ops true).wp P Q a w :=
  wp_region_draw fun t => by
    simp only [Region.schedule, hm, Bool.true_or, if_true]
    obtain ⟨g1, g2⟩ := go_VL (ops := ops) ops.size t (Array.replicate ops.size false) (by simp) (by rw [left_all]; omega)
    show wpOps P ops Q (Region.linearise.go .any ops ops.size t (Array.replicate ops.size false) []) a _
    rcases bef_or i j (Region.linearise.go .any ops ops.size t (Array.replicate ops.size false) []) with hb | hb
    · rw [← edge_wpOps i j]
      exact wpAny_VL _ _ _ _ _ h1 (VL_edge hij _ _ (by simp) g1 (.inr hb)) g2
    · rw [← edge_wpOps j i]
      exact wpAny_VL _ _ _ _ _ h2 (VL_edge hij.symm _ _ (by simp) g1 (.inr hb)) g2

/-! ### The plan's own rules do not hang on the edges -/
theorem edge_toList (ops : Array Oper) (i j k : Nat) : (edge ops i j).toList[k]? = (ops.toList[k]?).map fun o => if k = j then edgeO i o else o := by
  rw [Array.getElem?_toList, Array.getElem?_toList, edge_get]
theorem aop_after {P : Program} {dst : Option Tmp} {op : Op} {ty : TypeId} {pos : String} {af af' : Array Edge} {gd : Option (Nat × Bool)} {fr : Fr} {σ : St} {K : Fr → St → Prop} : aop P ⟨dst, op, ty, pos, af, gd⟩ fr σ K = aop P ⟨dst, op, ty, pos, af', gd⟩ fr σ K := by
  cases op
  case call c => obtain ⟨callee, args, argTypes⟩ := c; cases callee <;> first | rfl | (rename_i b; cases b <;> rfl)
  case slice t x lo hi mx => cases mx <;> rfl
  case makeFunc fn f cs => cases fn <;> rfl
  all_goals rfl
theorem AQ_after {P : Program} {dst : Option Tmp} {op : Op} {ty : TypeId} {pos : String} {af af' : Array Edge} {gd : Option (Nat × Bool)} {ev : Operand → AV} {σ : St} {v : AV} : AQ P ⟨dst, op, ty, pos, af, gd⟩ ev σ v = AQ P ⟨dst, op, ty, pos, af', gd⟩ ev σ v := by
  cases op
  case call c => obtain ⟨callee, args, argTypes⟩ := c; cases callee <;> first | rfl | (rename_i b; cases b <;> rfl)
  case slice t x lo hi mx => cases mx <;> rfl
  case makeFunc fn f cs => cases fn <;> rfl
  all_goals rfl
theorem aguard_edge {ops : Array Oper} {i j : Nat} {o : Oper} {af : Array Edge} {get : Nat → AV} {y n : Prop} : aguard (edge ops i j).toList { o with after := af } get y n = aguard ops.toList o get y n := by
  unfold aguard
  cases hg : o.guard with
  | none => rfl
  | some p =>
    obtain ⟨k, want⟩ := p
    simp only
    rw [edge_toList]
    cases ops.toList[k]? with
    | none => rfl
    | some q =>
      obtain ⟨af', e⟩ := ite_after k j i q
      simp only [Option.map_some, e]
theorem looks_edge {ops : Array Oper} {i j : Nat} {o : Oper} {af : Array Edge} : ({ o with after := af } : Oper).looksAt (edge ops i j) = o.looksAt ops := by
  unfold Oper.looksAt
  simp only [edge_get]
  congr 1
  cases o.guard with
  | none => rfl
  | some p =>
    obtain ⟨k, want⟩ := p
    simp only
    cases ops[k]? with
    | none => rfl
    | some q =>
      obtain ⟨af', e⟩ := ite_after k j i q
      simp only [Option.map_some, e, Option.bind_some]
theorem YA_edge {P : Program} {ops : Array Oper} {i j : Nat} {σ : St} {o : Oper} {af : Array Edge} {v : AV} {F : Nat → AV} : YA P (edge ops i j) σ { o with after := af } v F = YA P ops σ o v F := by
  unfold YA
  rw [aguard_edge]
  obtain ⟨dst, op, ty, pos, a0, gd⟩ := o
  rw [AQ_after (af' := a0)]
theorem YAf_edge {P : Program} {ops : Array Oper} {i j : Nat} {σ : St} {q : Nat} {fr : Fr} : YAf P (edge ops i j) σ q fr = YAf P ops σ q fr := by
  unfold YAf
  rw [edge_get]
  cases hq : ops[q]? with
  | none => simp
  | some o =>
    obtain ⟨af, e⟩ := ite_after q j i o
    simp only [Option.map_some, e, Option.some.injEq]
    refine propext ⟨?_, ?_⟩
    · rintro ⟨_, d, rfl, h1, h2⟩
      exact ⟨o, d, rfl, h1, by rw [YA_edge] at h2; exact h2⟩
    · rintro ⟨_, d, rfl, h1, h2⟩
      exact ⟨_, d, rfl, h1, by rw [YA_edge]; exact h2⟩
theorem RC_edge {P : Program} {ops : Array Oper} {i j : Nat} {σ : St} {fr : Fr} : ∀ (l : List Nat), RC P (edge ops i j) σ fr l = RC P ops σ fr l
  | [] => rfl
  | q :: r => by simp only [RC, YAf_edge, RC_edge r]
theorem ad_edge {P : Program} {ops : Array Oper} {i j : Nat} {K : Fr → St → Prop} : ∀ (pl : List PI) (fr : Fr) (σ : St), ad P (edge ops i j) pl fr σ K = ad P ops pl fr σ K
  | [], fr, σ => rfl
  | .q k :: r, fr, σ => by
    simp only [ad, edge_get]
    cases hq : ops[k]? with
    | none => rfl
    | some o =>
      obtain ⟨af, e⟩ := ite_after k j i o
      simp only [Option.map_some, e, aguard_edge]
      obtain ⟨dst, op, ty, pos, a0, gd⟩ := o
      simp only [AQ_after (af := af) (af' := a0), ad_edge r]
  | .n k rl :: r, fr, σ => by
    simp only [ad, edge_get]
    cases hq : ops[k]? with
    | none => rfl
    | some o =>
      obtain ⟨af, e⟩ := ite_after k j i o
      simp only [Option.map_some, e, aguard_edge]
      obtain ⟨dst, op, ty, pos, a0, gd⟩ := o
      simp only [aop_after (af := af) (af' := a0), ad_edge r, RC_edge]

/-- A plan for the orders in which i comes before j. -/
def rkOf (pl : List PI) (k : Nat) : Nat := (pl.map PI.ix).idxOf k
def planR (ops : Array Oper) (pl : List PI) : Bool :=
  okL ops pl [] && ((List.range ops.size).all fun i => pl.any fun x => x.ix == i) &&
  ((List.range ops.size).all fun i => match ops[i]? with | some o => o.after.toList.all fun e => !Region.binds .any e || (Nat.blt e.on ops.size && Nat.blt (rkOf pl e.on) (rkOf pl i)) | _ => false)
theorem planR_any {P : Program} {c : Ctx} {N : Nat} {ops : Array Oper} {i j : Nat} {σ : St} {fr : Fr} {pl : List PI} {K : Fr → St → Prop} {Q : Exit → Act → World → Prop} (hB : planR (edge ops i j) pl = true) (hok : ∀ o ∈ ops.toList, opOk N o = true)
    (h : ad P ops pl fr σ K) {a : Act} {w : World} (hs : Sim c N a w fr σ) (hQ : ∀ a w fr σ, K fr σ → Sim c N a w fr σ → Q .normal a w) : wpAny P .any (edge ops i j) Q ops.size (Array.replicate ops.size false) a { w with drawn := w.drawn + 1 } := by
  simp only [planR, Bool.and_eq_true] at hB
  obtain ⟨⟨h1, h2⟩, h3⟩ := hB
  have := plan_any (P := P) (c := c) (N := N) (ops := edge ops i j) (rk := rkOf pl) (K := K) (Q := Q) (fr := fr) (σ := σ) h1 h2 (fun k hk => ?_) (fun k o ho => ?_) (by rw [ad_edge]; exact h) hs hQ
  · rw [edge_size] at this
    exact this
  · have := List.all_eq_true.1 h3 k (List.mem_range.2 hk)
    cases ho : (edge ops i j)[k]? with
    | none => rw [ho] at this; cases this
    | some o =>
      rw [ho] at this
      refine ⟨o, rfl, fun e he hb => ?_⟩
      have := List.all_eq_true.1 this e (by simpa using he)
      simp only [Bool.or_eq_true, Bool.not_eq_true', hb, Bool.true_eq_false, false_or, Bool.and_eq_true, Nat.blt_eq] at this
      exact this
  · rw [edge_get] at ho
    cases hq : ops[k]? with
    | none => rw [hq] at ho; cases ho
    | some o' =>
      obtain ⟨af, e⟩ := ite_after k j i o'
      rw [hq] at ho
      simp only [Option.map_some, e, Option.some.injEq] at ho
      subst ho
      exact hok o' (by rw [← Array.getElem?_toList] at hq; exact List.mem_of_getElem? hq)
/-- A drawn region with two operations in no order of their own. -/
theorem plan_two {P : Program} {c : Ctx} {N : Nat} {ops : Array Oper} {id i j : Nat} {σ : St} {fr : Fr} {pl pl' : List PI} {K : Fr → St → Prop} {Q : Exit → Act → World → Prop} (hm : P.follows .mixedOrders = true) (hij : i ≠ j) (hB : planR (edge ops i j) pl = true) (hB' : planR (edge ops j i) pl' = true) (hok : ∀ o ∈ ops.toList, opOk N o = true)
    (h : ad P ops pl fr σ K) (h' : ad P ops pl' fr σ K) {a : Act} {w : World} (hs : Sim c N a w fr σ) (hQ : ∀ a w fr σ, K fr σ → Sim c N a w fr σ → Q .normal a w) : (Code.region id ops true).wp P Q a w :=
  wp_region_two hij hm (planR_any hB hok h hs hQ) (planR_any hB' hok h' hs hQ)
/-- What is told of a drawn region: one plan, or two. -/
def APlan (P : Program) (ops : Array Oper) (fr : Fr) (σ : St) (K : Fr → St → Prop) : Prop :=
  (∃ pl, planOk ops pl = true ∧ ad P ops pl fr σ K) ∨ ∃ i j pl pl', i ≠ j ∧ planR (edge ops i j) pl = true ∧ planR (edge ops j i) pl' = true ∧ ad P ops pl fr σ K ∧ ad P ops pl' fr σ K
theorem aplan_sound {P : Program} {c : Ctx} {N : Nat} {ops : Array Oper} {id : Nat} {σ : St} {fr : Fr} {K : Fr → St → Prop} {Q : Exit → Act → World → Prop} (hm : P.follows .mixedOrders = true) (h : APlan P ops fr σ K) (hok : ∀ o ∈ ops.toList, opOk N o = true)
    {a : Act} {w : World} (hs : Sim c N a w fr σ) (hQ : ∀ a w fr σ, K fr σ → Sim c N a w fr σ → Q .normal a w) : (Code.region id ops true).wp P Q a w := by
  rcases h with ⟨pl, hB, h⟩ | ⟨i, j, pl, pl', hij, hB, hB', h, h'⟩
  · exact plan_sound hm hB hok h hs hQ
  · exact plan_two hm hij hB hB' hok h h' hs hQ
theorem aplan_mono {P : Program} {ops : Array Oper} {K K' : Fr → St → Prop} (hk : ∀ fr σ, K fr σ → K' fr σ) {fr : Fr} {σ : St} : APlan P ops fr σ K → APlan P ops fr σ K' := by
  rintro (⟨pl, h1, h2⟩ | ⟨i, j, pl, pl', hij, h1, h2, h3, h4⟩)
  · exact .inl ⟨pl, h1, ad_mono hk _ _ _ h2⟩
  · exact .inr ⟨i, j, pl, pl', hij, h1, h2, ad_mono hk _ _ _ h3, ad_mono hk _ _ _ h4⟩
end Go.Proofs.Ytlfggjfndmfblaa.Abs

namespace Go.Proofs.Ytlfggjfndmfblaa.Abs
open Go
set_option linter.unusedVariables false
set_option linter.unusedSimpArgs false

def prune (V : List Nat) (fr : Fr) : Fr := match V with
  | [] => []
  | i :: V => match fr.get i with
    | .any => prune V fr
    | a => (i, a) :: prune V fr

theorem prune_get (V : List Nat) (fr : Fr) (d : Nat) : (prune V fr).get d = if d ∈ V then fr.get d else .any := by
  induction V with
  | nil => rfl
  | cons i V ih =>
    simp only [prune]
    split
    · rename_i h
      rw [ih]
      by_cases e : d = i
      · subst e; simp [h]
      · simp [e]
    · simp only [Fr.get, ih, List.mem_cons]
      by_cases e : d = i
      · subst e; simp
      · simp [e]

theorem Sim.prune {c : Ctx} {N : Nat} {a : Act} {w : World} {fr : Fr} {σ : St} (V : List Nat) (h : Sim c N a w fr σ) : Sim c N a w (prune V fr) σ := by
  obtain ⟨g, hi, hf, hN, hd⟩ := h
  refine ⟨g, hi, fun d => ?_, hN, hd⟩
  rw [prune_get]
  split
  · exact hf d
  · exact .any

/-- To know less: of the slots, and of the variables behind the first k0. -/
def Weak (k0 : Nat) (fr : Fr) (σ : St) (fr' : Fr) (σ' : St) : Prop := ∀ c g w tmps, c.β0.length = k0 → Inv c g w σ → RFr g w tmps fr → ∃ g', Inv c g' w σ' ∧ RFr g' w tmps fr'

theorem Weak.refl (k0 : Nat) (fr : Fr) (σ : St) : Weak k0 fr σ fr σ := fun c g w tmps _ hi hf => ⟨g, hi, hf⟩
theorem Weak.trans {k0 : Nat} {fr fr' fr'' : Fr} {σ σ' σ'' : St} (h : Weak k0 fr σ fr' σ') (h' : Weak k0 fr' σ' fr'' σ'') : Weak k0 fr σ fr'' σ'' := fun c g w tmps hk hi hf => by
  obtain ⟨g1, hi1, hf1⟩ := h c g w tmps hk hi hf
  exact h' c g1 w tmps hk hi1 hf1
theorem Weak.slots {k0 : Nat} {fr fr' : Fr} {σ : St} (h : ∀ d, (fr.get d).le (fr'.get d)) : Weak k0 fr σ fr' σ := fun c g w tmps _ hi hf => ⟨g, hi, fun d => h d _ _ _ (hf d)⟩

/-- Does a value speak of none but the first m variables? -/
def AV.inB (m : Nat) : AV → Bool
  | .box id _ => decide (id < m)
  | .ptrs l => l.all fun p => decide (p.1 < m)
  | .pptr p => decide (p.1 < m)
  | .view id _ _ => decide (id < m)
  | .agg cs => inBL m cs
  | .tup cs => inBL m cs
  | .fn _ cs => inBL m cs
  | _ => true
where inBL (m : Nat) : List AV → Bool
  | [] => true
  | a :: as => AV.inB m a && inBL m as

theorem inBL_get {m : Nat} : ∀ {l : List AV}, AV.inB.inBL m l = true → ∀ (i : Nat) a, l[i]? = some a → a.inB m = true
  | [], _, i, a, h => by simp at h
  | x :: xs, h, i, a, hi => by
    simp only [AV.inB.inBL, Bool.and_eq_true] at h
    cases i with
    | zero => simp at hi; subst hi; exact h.1
    | succ i => simp at hi; exact inBL_get h.2 i a hi

theorem RAV.inB {g g' : G} {w : World} {v : Value} {a : AV} {m : Nat} (hI : g'.I = g.I) (hτ : g'.τ = g.τ) (hβ : ∀ (k b : Nat), k < m → g.β[k]? = some b → g'.β[k]? = some b) (h : RAV g w v a) : a.inB m = true → RAV g' w v a := by
  induction h with
  | c h => exact fun _ => .c (hI ▸ h)
  | nil => exact fun _ => .nil
  | own t sz xs h =>
    intro _
    obtain ⟨h0, hs, e, cells, ho, hv, hb⟩ := h
    exact .own _ sz xs ⟨h0, hs, e, cells, ho, fun i j x p hx hp => by rw [hI]; exact hv i j x p hx hp, fun b hb' => ⟨by rw [hτ]; exact (hb b hb').1, fun o => by rw [hI]; exact (hb b hb').2 o⟩⟩
  | agg vs cs h _ ih => exact fun hb => .agg vs cs h (fun i v a hv ha => ih i v a hv ha (inBL_get (by simpa [AV.inB] using hb) i a ha))
  | tup vs cs h _ ih => exact fun hb => .tup vs cs h (fun i v a hv ha => ih i v a hv ha (inBL_get (by simpa [AV.inB] using hb) i a ha))
  | box id off b h => exact fun hb => .box id off b (hβ _ _ (by simpa [AV.inB] using hb) h)
  | eptr b o off cs vs hc hv => exact fun _ => .eptr b o off cs vs (fun j hj => by rw [hI]; exact hc j hj) (fun j p hp => by rw [hI]; exact hv j p hp)
  | view id off n b cap h hn => exact fun hb => .view id off n b cap (hβ _ _ (by simpa [AV.inB] using hb) h) hn
  | mrow t sz xs h =>
    intro _
    obtain ⟨h0, hs, e, cells, ho, hv, hb⟩ := h
    exact .mrow _ sz xs ⟨h0, hs, e, cells, ho, fun i j x p hx hp => by rw [hI]; exact hv i j x p hx hp, fun b hb' => ⟨by rw [hτ]; exact (hb b hb').1, fun o => by rw [hI]; exact (hb b hb').2 o⟩⟩
  | mptr t sz i off row h =>
    intro _
    obtain ⟨b, cur, e, hv, ht, hIn, hl, hc, hh, hr⟩ := h
    exact .mptr t sz i off row ⟨b, cur, e, hv, by rw [hτ]; exact ht, fun o => by rw [hI]; exact hIn o, hl, hc, hh, fun j p hp => by rw [hI]; exact hr j p hp⟩
  | ptrs b o cap l hcap hc =>
    intro hb
    refine .ptrs b o cap l hcap (fun i p hp => ?_)
    obtain ⟨h1, bk, h2, h3⟩ := hc i p hp
    simp only [AV.inB, List.all_eq_true] at hb
    exact ⟨by rw [hI]; exact h1, bk, hβ _ _ (by simpa using hb p (List.mem_of_getElem? hp)) h2, h3⟩
  | pptr b o bk p hi hb hc => exact fun hbb => .pptr b o bk p (by rw [hI]; exact hi) (hβ _ _ (by simpa [AV.inB] using hbb) hb) hc
  | fn k vs cs h _ ih => exact fun hb => .fn k vs cs h (fun i v a hv ha => ih i v a hv ha (inBL_get (by simpa [AV.inB] using hb) i a ha))
  | nilptr => exact fun _ => .nilptr
  | any => exact fun _ => .any

/-- Variables that nobody speaks of are forgotten. -/
theorem Weak.take {k0 m : Nat} {fr : Fr} {σ : St} (hm : k0 ≤ m) (hf : ∀ d, (fr.get d).inB m = true) (hs : ∀ (i : Nat) cs, i < m → σ[i]? = some cs → AV.inB.inBL m cs = true) : Weak k0 fr σ fr (σ.take m) := by
  intro c g w tmps hk hi hfr
  let g' : G := { g with β := g.β.take m }
  have hβ : ∀ (k b : Nat), k < m → g.β[k]? = some b → g'.β[k]? = some b := fun k b hk hb => by show (g.β.take m)[k]? = some b; rw [List.getElem?_take_of_lt hk]; exact hb
  have hmem : ∀ b, b ∈ g.β.take m → b ∈ g.β := fun b hb => List.mem_of_mem_take hb
  refine ⟨g', ⟨hi.os, hi.tape, hi.output, hi.size, hi.old, hi.Ile, hi.Iold, hi.Ilt, ?_, fun b hb => hi.βnew b ?_, (List.take_sublist _ _).nodup hi.βnd, ?_, fun b hb => hi.βI b (hmem b hb), fun b hb => hi.βlt b (hmem b hb), fun t b ht => ?_, hi.τinj, fun id cs b hs' hb => ?_, hi.cell0, hi.glo⟩,
    fun d => RAV.inB (g := g) (g' := g') rfl rfl hβ (hfr d) (hf d)⟩
  · show (g.β.take m).take c.β0.length = c.β0
    rw [List.take_take, hk, Nat.min_eq_left hm, ← hk]
    exact hi.βpre
  · change b ∈ (g.β.take m).drop c.β0.length at hb
    rw [List.drop_take] at hb
    exact List.mem_of_mem_take hb
  · show (g.β.take m).length = (σ.take m).length
    simp [hi.βlen]
  · obtain ⟨h1, h2, h3⟩ := hi.τnew t b ht
    exact ⟨h1, h2, fun hb => h3 (hmem b hb)⟩
  · rw [List.getElem?_take] at hs'
    split at hs'
    · rename_i hid
      change (g.β.take m)[id]? = some b at hb
      rw [List.getElem?_take_of_lt hid] at hb
      obtain ⟨cur, e, hh, hr⟩ := hi.store id cs b hs' hb
      exact ⟨cur, e, hh, hr.1, fun i v a hv ha => RAV.inB (g := g) (g' := g') rfl rfl hβ (hr.2 i v a hv ha) (inBL_get (hs id cs hid hs') i a ha)⟩
    · cases hs'

/-- Some rounds of a loop told one by one, then the rest. -/
def loopU (k0 : Nat) (body : (Exit → Fr → St → Prop) → Fr → St → Prop) (base : Fr → St → Prop) (Q : Exit → Fr → St → Prop) : Nat → Fr → St → Prop
  | 0, fr, σ => base fr σ
  | k + 1, fr, σ => body (fun e fr σ => match e with | .normal => ∃ fr' σ', Weak k0 fr σ fr' σ' ∧ loopU k0 body base Q k fr' σ' | e => Q e fr σ) fr σ

/-- THE JUDGEMENT ON CODE. V: the slots that are told on from region to region; k0: how many variables the call was handed. -/
def awp (P : Program) (V : List Nat) (k0 : Nat) : Code → (Exit → Fr → St → Prop) → Fr → St → Prop
  | .skip, Q, fr, σ => Q .normal fr σ
  | .seq x y, Q, fr, σ => awp P V k0 x (fun e fr σ => match e with | .normal => ∃ fr' σ', Weak k0 fr σ fr' σ' ∧ awp P V k0 y Q fr' σ' | e => Q e fr σ) fr σ
  | .cond c x y, Q, fr, σ => (match fr.ev c with | .c (.bool b) => (b = true → awp P V k0 x Q fr σ) ∧ (b = false → awp P V k0 y Q fr σ) | _ => False)
  | .block id c, Q, fr, σ => awp P V k0 c (fun e fr σ => match e with | .exit id' => if id' = id then Q .normal fr σ else Q (.exit id') fr σ | e => Q e fr σ) fr σ
  | .exit id, Q, fr, σ => Q (.exit id) fr σ
  | .ret, Q, fr, σ => Q .ret fr σ
  | .loop c, Q, fr, σ => ∃ k, loopU k0 (awp P V k0 c) (fun fr σ => ∃ J : Nat → Fr → St → Prop, (∃ n fr' σ', Weak k0 fr σ fr' σ' ∧ J n fr' σ') ∧ ∀ n fr σ, J n fr σ → awp P V k0 c (fun e fr σ => match e with | .normal => ∃ m fr' σ', m < n ∧ Weak k0 fr σ fr' σ' ∧ J m fr' σ' | e => Q e fr σ) fr σ) Q k fr σ
  | .region _ ops false, Q, fr, σ => aops true P ops.toList ops.toList fr σ fun fr σ => Q .normal (prune V fr) σ
  | .region _ ops true, Q, fr, σ => (∃ pre, drawOk ops pre = true ∧ aqs P ops.toList (ops.toList.take pre) fr σ fun fr' => aops true P ops.toList (ops.toList.drop pre) fr' σ fun fr σ => Q .normal (prune V fr) σ) ∨ APlan P ops fr σ fun fr σ => Q .normal (prune V fr) σ
  | _, _, _, _ => False

def codeOk (N : Nat) : Code → Bool
  | .seq x y => codeOk N x && codeOk N y
  | .cond _ x y => codeOk N x && codeOk N y
  | .block _ c => codeOk N c
  | .loop c => codeOk N c
  | .region _ ops _ => ops.toList.all (opOk N)
  | _ => true

def LoopIn (P : Program) (c : Code) (Q : Exit → Act → World → Prop) (a : Act) (w : World) : Prop := ∀ b k cs, ∃ e a' w', Q e a' w' ∧ Arrives P (lone (b.at a (.code c :: .inLoop c :: k)) cs w) b k cs e a' w'
theorem wp_loop_in {P : Program} {Q : Exit → Act → World → Prop} {a : Act} {w : World} {c : Code} (h : LoopIn P c Q a w) : (Code.loop c).wp P Q a w := by
  intro b k cs
  obtain ⟨e, a', w', hq, harr⟩ := h b k cs
  exact ⟨e, a', w', hq, .of_steps (.one step_loop) harr⟩
theorem in_round {P : Program} {Q : Exit → Act → World → Prop} {a : Act} {w : World} {c : Code} (h : c.wp P (Exit.then (fun a w => LoopIn P c Q a w) Q) a w) : LoopIn P c Q a w := by
  intro b k cs
  obtain ⟨e, a₁, w₁, hq, harr⟩ := h b (.inLoop c :: k) cs
  cases e with
  | normal =>
    obtain ⟨e₂, a₂, w₂, hq₂, harr₂⟩ := hq b k cs
    exact ⟨e₂, a₂, w₂, hq₂, .of_steps (Steps.trans harr (.one step_inLoop)) harr₂⟩
  | exit id => exact ⟨_, a₁, w₁, hq, .pass (x := .inLoop c) rfl (fun _ _ => .inl (by simp)) harr⟩
  | goto l => exact ⟨_, a₁, w₁, hq, .pass (x := .inLoop c) rfl (fun _ _ => .inl (by simp)) harr⟩
  | ret => exact ⟨_, a₁, w₁, hq, .pass (x := .inLoop c) rfl (fun _ _ => .inl (by simp)) harr⟩
  | panic ch => exact ⟨_, a₁, w₁, hq, .pass (x := .inLoop c) rfl (fun _ _ => .inl (by simp)) harr⟩
  | outgrown => exact ⟨_, a₁, w₁, hq, .pass (x := .inLoop c) rfl (fun _ _ => .inl (by simp)) harr⟩
theorem in_n {P : Program} {Q : Exit → Act → World → Prop} {c : Code} (R : Nat → Act → World → Prop)
    (round : ∀ n a w, R n a w → c.wp P (Exit.then (fun a' w' => ∃ m, m < n ∧ R m a' w') Q) a w) : ∀ n a w, R n a w → LoopIn P c Q a w := by
  intro n
  induction n using Nat.strongRecOn with
  | _ n ih =>
    intro a w hI
    refine in_round (wp_mono (round n a w hI) fun e a' w' he => ?_)
    cases e with
    | normal => obtain ⟨m, hlt, hR⟩ := he; exact ih m hlt a' w' hR
    | _ => exact he

theorem awp_sound {P : Program} {V : List Nat} {c : Ctx} {N : Nat} (hm : P.follows .mixedOrders = true) : ∀ (code : Code) (Q : Exit → Fr → St → Prop) (fr : Fr) (σ : St) (a : Act) (w : World), codeOk N code = true → awp P V c.β0.length code Q fr σ → Sim c N a w fr σ →
    code.wp P (fun e a w => ∃ fr σ, Sim c N a w fr σ ∧ Q e fr σ) a w := by
  intro code
  induction code with
  | skip => exact fun Q fr σ a w _ h hs => wp_skip ⟨fr, σ, hs, h⟩
  | exit id => exact fun Q fr σ a w _ h hs => wp_exit ⟨fr, σ, hs, h⟩
  | ret => exact fun Q fr σ a w _ h hs => wp_ret ⟨fr, σ, hs, h⟩
  | seq x y ihx ihy =>
    intro Q fr σ a w hok h hs
    simp only [codeOk, Bool.and_eq_true] at hok
    simp only [awp] at h
    refine wp_seq (wp_mono (ihx _ fr σ a w hok.1 h hs) fun e a w => ?_)
    rintro ⟨fr', σ', hs', hq⟩
    cases e with
    | normal =>
      obtain ⟨fr2, σ2, hweak, hq⟩ := hq
      obtain ⟨g, hi, hf, hN, hd⟩ := hs'
      obtain ⟨g2, hi2, hf2⟩ := hweak c g w a.tmps rfl hi hf
      exact ihy Q fr2 σ2 a w hok.2 hq ⟨g2, hi2, hf2, hN, hd⟩
    | _ => exact ⟨fr', σ', hs', hq⟩
  | cond t x y ihx ihy =>
    intro Q fr σ a w hok h hs
    simp only [codeOk, Bool.and_eq_true] at hok
    simp only [awp] at h
    split at h
    · rename_i b hb
      have hs' := hs
      obtain ⟨g, hi, hf, hN, hd⟩ := hs
      have hv := ev_sound hf t
      rw [hb] at hv
      have hv := hv.c_inv
      generalize hvt : a.eval t = v at hv
      cases hv
      refine wp_cond_split hvt (fun hb => ?_) (fun hb => ?_)
      · exact ihx Q fr σ a w hok.1 (h.1 hb) hs'
      · exact ihy Q fr σ a w hok.2 (h.2 hb) hs'
    · exact h.elim
  | block id x ih =>
    intro Q fr σ a w hok h hs
    simp only [awp] at h
    refine wp_block (wp_mono (ih _ fr σ a w hok h hs) fun e a w => ?_)
    rintro ⟨fr', σ', hs', hq⟩
    cases e with
    | exit id' =>
      simp only [Exit.inBlock] at hq ⊢
      split
      · rename_i he; simp only [he, if_true] at hq; exact ⟨fr', σ', hs', hq⟩
      · rename_i he; simp only [he, if_false] at hq; exact ⟨fr', σ', hs', hq⟩
    | _ => exact ⟨fr', σ', hs', hq⟩
  | loop x ih =>
    intro Q fr σ a w hok h hs
    simp only [awp] at h
    obtain ⟨k, h⟩ := h
    refine wp_loop_in ?_
    induction k generalizing fr σ a w with
    | zero =>
      simp only [loopU] at h
      obtain ⟨J, ⟨n, fr0, σ0, hweak0, hJ⟩, hround⟩ := h
      obtain ⟨g0, hi0, hf0, hN0, hd0⟩ := hs
      obtain ⟨g1, hi1, hf1⟩ := hweak0 c g0 w a.tmps rfl hi0 hf0
      refine in_n (fun n a w => ∃ fr σ, J n fr σ ∧ Sim c N a w fr σ) (fun n a w hI => ?_) n a w ⟨fr0, σ0, hJ, g1, hi1, hf1, hN0, hd0⟩
      obtain ⟨fr1, σ1, hJ1, hs1⟩ := hI
      refine wp_mono (ih _ fr1 σ1 a w hok (hround _ fr1 σ1 hJ1) hs1) fun e a' w' => ?_
      rintro ⟨fr', σ', hs', hq⟩
      cases e with
      | normal =>
        obtain ⟨m, fr2, σ2, hlt, hweak, hJ2⟩ := hq
        obtain ⟨g, hi, hf, hN, hd⟩ := hs'
        obtain ⟨g2, hi2, hf2⟩ := hweak c g w' a'.tmps rfl hi hf
        exact ⟨m, hlt, fr2, σ2, hJ2, g2, hi2, hf2, hN, hd⟩
      | _ => exact ⟨fr', σ', hs', hq⟩
    | succ k ihk =>
      simp only [loopU] at h
      refine in_round (wp_mono (ih _ fr σ a w hok h hs) fun e a' w' => ?_)
      rintro ⟨fr', σ', hs', hq⟩
      cases e with
      | normal =>
        obtain ⟨fr2, σ2, hweak, hq⟩ := hq
        obtain ⟨g, hi, hf, hN, hd⟩ := hs'
        obtain ⟨g2, hi2, hf2⟩ := hweak c g w' a'.tmps rfl hi hf
        exact ihk fr2 σ2 a' w' ⟨g2, hi2, hf2, hN, hd⟩ hq
      | _ => exact ⟨fr', σ', hs', hq⟩
  | region id ops draw =>
    intro Q fr σ a w hok h hs
    have hok' : ∀ o ∈ ops.toList, opOk N o = true := fun o ho => List.all_eq_true.1 hok o ho
    cases draw with
    | false =>
      simp only [awp] at h
      exact wp_region_list (aops_sound (fun a w fr σ hk hs => ⟨_, σ, hs.prune V, hk⟩) ops.toList fr σ a w hok' h hs)
    | true =>
      simp only [awp] at h
      rcases h with ⟨pre, hB, h⟩ | h
      · exact draw_sound hm hB hok' h hs (fun a w fr σ hk hs => ⟨_, σ, hs.prune V, hk⟩)
      · exact aplan_sound hm h hok' hs (fun a w fr σ hk hs => ⟨_, σ, hs.prune V, hk⟩)
  | _ => exact fun Q fr σ a w _ h => by simp [awp] at h

end Go.Proofs.Ytlfggjfndmfblaa.Abs

namespace Go.Proofs.Ytlfggjfndmfblaa.Abs
open Go
set_option linter.unusedVariables false
set_option linter.unusedSimpArgs false

/-- What is known when the body has ended, told to the caller. -/
def Fin (k0 : Nat) (rv : AV) (σ : St) (r : AV) (σr : St) : Prop := ∀ c g w v, c.β0.length = k0 → Inv c g w σ → RAV g w v rv → ∃ g', Inv c g' w σr ∧ RAV g' w v r

def aresults (P : Program) (fr : Fr) (σ : St) : List ResultVar → (List AV → Prop) → Prop
  | [], K => K []
  | .tmp t :: rs, K => aresults P fr σ rs fun vs => K (fr.get t :: vs)
  | .cell a t :: rs, K => (match tyVar P t with
    | some (ag, n) => (match fr.get a with
      | .box id off => aload ag n (.box id off) σ fun v => aresults P fr σ rs fun vs => K (v :: vs)
      | _ => False)
    | _ => False)

def rval : List AV → AV
  | [v] => v
  | vs => .tup vs

def resOne (tmps : Array Value) : ResultVar → Sem Value
  | .tmp t => pure (tmps.getD t undef)
  | .cell b t => do loadVar t (← asAddr (tmps.getD b undef))

theorem results_eq (fn : Func) (tmps : Array Value) : results fn tmps = (do
    let vs ← fn.results.mapM (resOne tmps)
    pure (if h : vs.size = 1 then vs[0] else .tuple vs)) := by
  unfold results
  congr 1

theorem aresults_sound {P : Program} {c : Ctx} {g : G} {w : World} {a : Act} {fr : Fr} {σ : St} (hi : Inv c g w σ) (hf : RFr g w a.tmps fr) : ∀ (rs : List ResultVar) (K : List AV → Prop), aresults P fr σ rs K →
    ∃ vs avs, (rs.mapM (resOne a.tmps)).run P w = .ok vs w ∧ RCells g w vs.toArray avs ∧ K avs
  | [], K, h => ⟨[], [], by simp, ⟨rfl, by simp⟩, h⟩
  | .tmp t :: rs, K, h => by
    obtain ⟨vs, avs, hr, hc, hk⟩ := aresults_sound hi hf rs _ h
    refine ⟨a.tmps.getD t undef :: vs, fr.get t :: avs, by simp only [List.mapM_cons, resOne, pure_bind, Sem.run_bind, hr, Result.andThen_ok, Sem.run_pure], ?_, hk⟩
    have h1 : RCells g w #[a.tmps.getD t undef] [fr.get t] := ⟨rfl, fun i v x hv hx => by
      cases i with
      | zero => simp at hv hx; subst hv; subst hx; have := hf t; simpa [Array.getD_eq_getD_getElem?] using this
      | succ i => simp at hv⟩
    have := h1.app hc
    simpa using this
  | .cell b t :: rs, K, h => by
    simp only [aresults] at h
    split at h
    · rename_i ag n ht
      split at h
      · rename_i id off hb
        have hbx := hf b
        rw [hb] at hbx
        obtain ⟨v, av, hrun, hv, hk1⟩ := aload_sound hi ht hbx h
        obtain ⟨vs, avs, hr, hc, hk⟩ := aresults_sound hi hf rs _ hk1
        generalize hvb : a.tmps.getD b undef = vb at hbx hrun
        cases hbx with
        | box _ _ bk hbk =>
          refine ⟨v :: vs, av :: avs, ?_, ?_, hk⟩
          · have hl : (loadVar t ⟨bk, off, none⟩).run P w = .ok v w := by simpa [Instr.loadAt, Instr.sureAddr] using hrun
            have h1 : (resOne a.tmps (.cell b t)).run P w = .ok v w := by simp only [resOne, hvb, asAddr, pure_bind, hl]
            simp only [List.mapM_cons, Sem.run_bind, h1, Result.andThen_ok, hr, Sem.run_pure]
          · have h1 : RCells g w #[v] [av] := ⟨rfl, fun i u x hu hx => by
              cases i with
              | zero => simp at hu hx; subst hu; subst hx; exact hv
              | succ i => simp at hu⟩
            have := h1.app hc
            simpa using this
      · exact h.elim
    · exact h.elim

def mkFr : Nat → List AV → Fr
  | _, [] => []
  | k, a :: as => (k, a) :: mkFr (k + 1) as

theorem mkFr_get : ∀ (as : List AV) (k d : Nat), (mkFr k as).get d = if k ≤ d ∧ d < k + as.length then as.getD (d - k) .any else .any
  | [], k, d => by simp [mkFr, Fr.get]
  | a :: as, k, d => by
    simp only [mkFr, Fr.get, mkFr_get as]
    by_cases h : d = k
    · subst h; simp
    · simp only [h, if_false, List.length_cons]
      by_cases h2 : k + 1 ≤ d ∧ d < k + 1 + as.length
      · rw [if_pos h2, if_pos (by omega)]
        rw [show d - k = (d - (k + 1)) + 1 by omega]
        simp
      · rw [if_neg h2, if_neg (by omega)]

/-- THE WAY IN: the body's judgement gives the call's. -/
theorem acalls_intro {P : Program} {f : FuncId} {fn : Func} {code : Code} {args : List AV} {σ : St} {r : AV} {σr : St} (V : List Nat) (hm : P.follows .mixedOrders = true) (hf : P.funcs[f]? = some fn) (hb : fn.body = some code) (hc : callable P f = true)
    (hok : codeOk (args.length + (fn.ntmps - args.length)) code = true)
    (h : awp P V σ.length code (fun e fr σ' => match e with
      | .ret => aresults P fr σ' fn.results.toList fun vs => Fin σ.length (rval vs) σ' r σr
      | .normal => aresults P fr σ' fn.results.toList fun vs => Fin σ.length (rval vs) σ' r σr
      | _ => False) (mkFr 0 args) σ) : ACalls P f args σ r σr := by
  refine ⟨hc, fun w I β τ vs hI hnd hlt hβI hτ hτi hlen hst hargs hglo => ?_⟩
  have hsz : vs.size = args.length := hargs.1
  let g : G := ⟨I, β, τ⟩
  have inv : Inv ⟨w, I, β, fun b => ∃ t, τ t = some b⟩ g w σ := ⟨rfl, rfl, rfl, Nat.le_refl _, fun _ _ _ _ => rfl, fun _ _ h => h, fun _ _ h _ _ => h, hI, by simp [g], by simp [g], hnd, hlen, hβI, hlt, fun t b ht => ⟨.inr ⟨t, ht⟩, hτ t b ht⟩, hτi, fun id cs b hs hb => hst id cs b hs hb, fun _ _ _ => rfl, hglo⟩
  have hfr : RFr g w (vs ++ Array.replicate (fn.ntmps - vs.size) undef) (mkFr 0 args) := by
    intro d
    rw [mkFr_get]
    split
    · rename_i hd
      have hd' : d < args.length := by omega
      have h1 := hargs.2 d vs[d] args[d] (Array.getElem?_eq_getElem (by omega)) (List.getElem?_eq_getElem hd')
      have e1 : (vs ++ Array.replicate (fn.ntmps - vs.size) undef).getD d undef = vs[d]'(by omega) := by
        rw [Array.getD_eq_getD_getElem?, Array.getElem?_append_left (by omega), Array.getElem?_eq_getElem (by omega)]
        rfl
      rw [e1, Nat.sub_zero, List.getD_eq_getElem?_getD, List.getElem?_eq_getElem hd']
      exact h1
    · exact .any
  have hsim : Sim ⟨w, I, β, fun b => ∃ t, τ t = some b⟩ (args.length + (fn.ntmps - args.length)) { tmps := vs ++ Array.replicate (fn.ntmps - vs.size) undef, defers := [] } w (mkFr 0 args) σ :=
    ⟨g, inv, hfr, by simp [hsz], rfl⟩
  rw [← hlen] at h
  have h' := h
  refine calls_of_wp hf hb (wp_mono (awp_sound (c := ⟨w, I, β, fun b => ∃ t, τ t = some b⟩) hm code _ _ _ _ _ hok h' hsim) fun e a w' => ?_)
  rintro ⟨fr, σ', ⟨g', hi', hf', _, hd'⟩, hq⟩
  have fin : ∀ (_ : aresults P fr σ' fn.results.toList fun vs => Fin β.length (rval vs) σ' r σr), a.defers = [] ∧ ∃ v, (results fn a.tmps).run P w' = .ok v w' ∧ ∃ v' g', Ending.returned v = .returned v' ∧ Inv ⟨w, I, β, fun b => ∃ t, τ t = some b⟩ g' w' σr ∧ RAV g' w' v' r := by
    intro hq
    obtain ⟨us, avs, hr, hcl, hk⟩ := aresults_sound hi' hf' _ _ hq
    refine ⟨hd', if h : us.toArray.size = 1 then us.toArray[0] else .tuple us.toArray, ?_, ?_⟩
    · rw [results_eq]
      simp only [Sem.run_bind, Array.mapM_eq_mapM_toList, Sem.run_map, hr, Result.andThen_ok, Sem.run_pure]
    · have hrv : RAV g' w' (if h : us.toArray.size = 1 then us.toArray[0] else .tuple us.toArray) (rval avs) := by
        have hl : us.length = avs.length := by simpa using hcl.1
        rcases avs with _ | ⟨x, _ | ⟨y, rest⟩⟩
        · have h1 : ¬ us.toArray.size = 1 := by simpa using (by simp [hl] : ¬ us.length = 1)
          rw [dif_neg h1]
          exact .tup _ [] hcl.1 hcl.2
        · have h1 : us.toArray.size = 1 := by simpa using hl
          rw [dif_pos h1]
          exact hcl.2 0 _ x (by simp) rfl
        · have h1 : ¬ us.toArray.size = 1 := by
            intro h1
            have h2 : us.length = 1 := by simpa using h1
            rw [h2] at hl
            simp at hl
          rw [dif_neg h1]
          exact .tup _ (x :: y :: rest) hcl.1 hcl.2
      obtain ⟨g2, hi2, hr2⟩ := hk ⟨w, I, β, fun b => ∃ t, τ t = some b⟩ g' w' _ rfl hi' hrv
      exact ⟨_, g2, rfl, hi2, hr2⟩
  cases e with
  | normal => exact fin hq
  | ret => exact fin hq
  | exit id => exact hq.elim
  | goto l => exact hq.elim
  | panic ch => exact hq.elim
  | outgrown => exact hq.elim

end Go.Proofs.Ytlfggjfndmfblaa.Abs

namespace Go.Proofs.Ytlfggjfndmfblaa.Abs
open Go
set_option linter.unusedVariables false
set_option linter.unusedSimpArgs false

mutual
/-- The tokens under new numbers; what has none is told as plain data. -/
def AV.retok (toks : List Nat) : AV → AV
  | .own t sz xs => (match toks.idxOf? t with | some j => .own j sz xs | _ => .c (.list sz xs))
  | .mrow t sz xs => (match toks.idxOf? t with | some j => .mrow j sz xs | _ => .any)
  | .mptr t sz i off row => (match toks.idxOf? t with | some j => .mptr j sz i off row | _ => .any)
  | .agg cs => .agg (AV.retokL toks cs)
  | .tup cs => .tup (AV.retokL toks cs)
  | .fn f cs => .fn f (AV.retokL toks cs)
  | a => a
def AV.retokL (toks : List Nat) : List AV → List AV
  | [] => []
  | a :: as => AV.retok toks a :: AV.retokL toks as
end
theorem AV.retokL_eq (toks : List Nat) (l : List AV) : AV.retokL toks l = l.map (AV.retok toks) := by
  induction l with
  | nil => rfl
  | cons a l ih => simp [AV.retokL, ih]

theorem RAV.retok {g : G} {w : World} {v : Value} {a : AV} (toks : List Nat) (h : RAV g w v a) : RAV ⟨g.I, g.β, fun j => (toks[j]?).bind g.τ⟩ w v (a.retok toks) := by
  induction h with
  | c h => exact .c h
  | nil => exact .nil
  | own t sz xs h =>
    simp only [AV.retok]
    split
    · rename_i j hj
      obtain ⟨h0, hs, e, cells, ho, hv, hb⟩ := h
      have hjt : toks[j]? = some t := by
        rw [List.idxOf?, List.findIdx?_eq_some_iff_getElem] at hj
        obtain ⟨h1, h2, _⟩ := hj
        rw [List.getElem?_eq_getElem h1]
        simpa using h2
      exact .own j sz xs ⟨h0, hs, e, cells, ho, hv, fun b hb' => ⟨by simp [hjt, (hb b hb').1], (hb b hb').2⟩⟩
    · exact .c h.rv
  | agg vs cs h _ ih =>
    simp only [AV.retok, AV.retokL_eq]
    refine .agg vs _ (by simpa using h) (fun i v a hv ha => ?_)
    simp only [List.getElem?_map, Option.map_eq_some_iff] at ha
    obtain ⟨a, ha, rfl⟩ := ha
    exact ih i v a hv ha
  | tup vs cs h _ ih =>
    simp only [AV.retok, AV.retokL_eq]
    refine .tup vs _ (by simpa using h) (fun i v a hv ha => ?_)
    simp only [List.getElem?_map, Option.map_eq_some_iff] at ha
    obtain ⟨a, ha, rfl⟩ := ha
    exact ih i v a hv ha
  | box id off b h => exact .box id off b h
  | eptr b o off cs vs hc hv => exact .eptr b o off cs vs hc hv
  | ptrs b o cap l hcap hc => exact .ptrs b o cap l hcap hc
  | view id off n b cap h hn => exact .view id off n b cap h hn
  | mrow t sz xs h =>
    simp only [AV.retok]
    split
    · rename_i j hj
      obtain ⟨h0, hs, e, cells, ho, hv, hb⟩ := h
      exact .mrow j sz xs ⟨h0, hs, e, cells, ho, hv, fun b hb' => ⟨by simp [idx_get hj, (hb b hb').1], (hb b hb').2⟩⟩
    · exact .any
  | mptr t sz i off row h =>
    simp only [AV.retok]
    split
    · rename_i j hj
      obtain ⟨b, cur, e, hv, ht, hI, hl, hc, hh, hr⟩ := h
      exact .mptr j sz i off row ⟨b, cur, e, hv, by simp [idx_get hj, ht], hI, hl, hc, hh, hr⟩
    · exact .any
  | pptr b o bk p hi hb hc => exact .pptr b o bk p hi hb hc
  | fn k vs cs h _ ih =>
    simp only [AV.retok, AV.retokL_eq]
    refine .fn k vs _ (by simpa using h) (fun i v a hv ha => ?_)
    simp only [List.getElem?_map, Option.map_eq_some_iff] at ha
    obtain ⟨a, ha, rfl⟩ := ha
    exact ih i v a hv ha
  | nilptr => exact .nilptr
  | any => exact .any

def all_ : Nat → Bool := fun _ => true

/-- The store's cells, no token left, of the first variables alone. -/
theorem RAV.pure {g g' : G} {w : World} {v : Value} {a : AV} {m : Nat} (hI : g'.I = g.I) (hβ : ∀ (k b : Nat), k < m → g.β[k]? = some b → g'.β[k]? = some b) (h : RAV g w v a) (hin : (a.dem all_).inB m = true) : RAV g' w v (a.dem all_) := by
  have h1 := h.dem all_
  have h2 := RAV.inB (g := g.dem all_) (g' := ⟨g.I, g'.β, fun _ => .none⟩) (m := m) rfl (by funext t; simp [G.dem, all_]) hβ h1 hin
  have st : Stp ⟨g.I, g'.β, fun _ => .none⟩ w g' w := ⟨fun b o h => by rw [hI]; exact h, fun _ _ _ => rfl, fun _ _ h => h, fun t b h => by simp at h⟩
  exact h2.stp st

theorem fin_main {k0 : Nat} {rv r : AV} {σ σr : St} (toks : List Nat) (hnd : toks.Nodup) (hin : (rv.retok toks).inB k0 = true) (hs : ∀ (i : Nat) cs, i < k0 → σ[i]? = some cs → AV.inB.inBL k0 (AV.demL all_ cs) = true)
    (hr : (rv.retok toks).le r) (hσ : leS (St.dem all_ (σ.take k0)) σr) : Fin k0 rv σ r σr := by
  intro c g w v hk hi hv
  let g' : G := { I := g.I, β := g.β.take k0, τ := fun j => (toks[j]?).bind g.τ }
  have hβ : ∀ (k b : Nat), k < k0 → g.β[k]? = some b → g'.β[k]? = some b := fun k b hk hb => by show (g.β.take k0)[k]? = some b; rw [List.getElem?_take_of_lt hk]; exact hb
  have hmem : ∀ b, b ∈ g.β.take k0 → b ∈ g.β := fun b hb => List.mem_of_mem_take hb
  have hsl := leS_get hσ
  refine ⟨g', ⟨hi.os, hi.tape, hi.output, hi.size, hi.old, hi.Ile, hi.Iold, hi.Ilt, ?_, fun b hb => hi.βnew b ?_, (List.take_sublist _ _).nodup hi.βnd, ?_, fun b hb => hi.βI b (hmem b hb), fun b hb => hi.βlt b (hmem b hb), fun t b ht => ?_, fun t t' b h1 h2 => ?_, fun id cs b hs' hb => ?_, hi.cell0, hi.glo⟩,
    hr _ _ _ (RAV.inB (g := ⟨g.I, g.β, fun j => (toks[j]?).bind g.τ⟩) (g' := g') (m := k0) rfl rfl hβ (hv.retok toks) hin)⟩
  · show (g.β.take k0).take c.β0.length = c.β0
    rw [List.take_take, hk, Nat.min_self, ← hk]
    exact hi.βpre
  · change b ∈ (g.β.take k0).drop c.β0.length at hb
    rw [List.drop_take] at hb
    exact List.mem_of_mem_take hb
  · show (g.β.take k0).length = σr.length
    rw [← hsl.1, St.dem_eq, List.length_map, List.length_take, List.length_take, hi.βlen]
  · change (toks[t]?).bind g.τ = some b at ht
    cases htt : toks[t]? with
    | none => simp [htt] at ht
    | some s =>
      simp only [htt, Option.bind_some] at ht
      obtain ⟨h1, h2, h3⟩ := hi.τnew s b ht
      exact ⟨h1, h2, fun hb => h3 (hmem b hb)⟩
  · change (toks[t]?).bind g.τ = some b at h1
    change (toks[t']?).bind g.τ = some b at h2
    cases e1 : toks[t]? with
    | none => simp [e1] at h1
    | some s =>
      cases e2 : toks[t']? with
      | none => simp [e2] at h2
      | some s' =>
        simp only [e1, e2, Option.bind_some] at h1 h2
        have := hi.τinj s s' b h1 h2
        subst this
        exact nodup_get_inj hnd e1 e2
  · obtain ⟨bs, hbs, hle⟩ := hsl.2 id cs hs'
    rw [St.dem_eq, List.getElem?_map, Option.map_eq_some_iff] at hbs
    obtain ⟨cs0, hcs0, rfl⟩ := hbs
    rw [List.getElem?_take] at hcs0
    split at hcs0
    · rename_i hid
      change (g.β.take k0)[id]? = some b at hb
      rw [List.getElem?_take_of_lt hid] at hb
      obtain ⟨cur, e, hh, hc⟩ := hi.store id cs0 b hcs0 hb
      refine ⟨cur, e, hh, RCells.le hle ⟨by simpa using hc.1, fun i v a hv ha => ?_⟩⟩
      simp only [List.getElem?_map, Option.map_eq_some_iff] at ha
      obtain ⟨a, ha, rfl⟩ := ha
      refine RAV.pure (g := g) (g' := g') (m := k0) rfl hβ (hc.2 i v a hv ha) (inBL_get (hs id cs0 hid hcs0) i _ ?_)
      rw [AV.demL_eq, List.getElem?_map, ha]
      rfl
    · cases hcs0

/-- A new variable's address is handed back. -/
theorem fin_box {k0 j off : Nat} {cs0 : List AV} {σ σr : St} (hj : k0 ≤ j) (hcs : σ[j]? = some cs0) (hcin : AV.inB.inBL k0 (AV.demL all_ cs0) = true) (hs : ∀ (i : Nat) cs, i < k0 → σ[i]? = some cs → AV.inB.inBL k0 (AV.demL all_ cs) = true)
    (hσ : leS (St.dem all_ (σ.take k0) ++ [AV.demL all_ cs0]) σr) : Fin k0 (.box j off) σ (.box k0 off) σr := by
  intro c g w v hk hi hv
  cases hv with
  | box _ _ bj hbj =>
    have hjl : j < g.β.length := (List.getElem?_eq_some_iff.1 hbj).1
    let g' : G := { I := g.I, β := g.β.take k0 ++ [bj], τ := fun _ => .none }
    have hlt : (g.β.take k0).length = k0 := by simp; omega
    have hβ : ∀ (k b : Nat), k < k0 → g.β[k]? = some b → g'.β[k]? = some b := fun k b hk hb => by
      show (g.β.take k0 ++ [bj])[k]? = some b
      rw [List.getElem?_append_left (by rw [hlt]; exact hk), List.getElem?_take_of_lt hk]
      exact hb
    have hmem : ∀ b, b ∈ g.β.take k0 ++ [bj] → b ∈ g.β := fun b hb => by
      rcases List.mem_append.1 hb with h | h
      · exact List.mem_of_mem_take h
      · simp at h; subst h; exact List.mem_of_getElem? hbj
    have hsl := leS_get hσ
    have hcell : ∀ (cs1 : List AV) (cur : Array Value), AV.inB.inBL k0 (AV.demL all_ cs1) = true → RCells g w cur cs1 → RCells g' w cur (AV.demL all_ cs1) := by
      intro cs1 cur hin hc
      rw [AV.demL_eq]
      refine ⟨by simpa using hc.1, fun i v a hv ha => ?_⟩
      simp only [List.getElem?_map, Option.map_eq_some_iff] at ha
      obtain ⟨a, ha, rfl⟩ := ha
      refine RAV.pure (g := g) (g' := g') (m := k0) rfl hβ (hc.2 i v a hv ha) (inBL_get hin i _ ?_)
      rw [AV.demL_eq, List.getElem?_map, ha]
      rfl
    refine ⟨g', ⟨hi.os, hi.tape, hi.output, hi.size, hi.old, hi.Ile, hi.Iold, hi.Ilt, ?_, fun b hb => ?_, ?_, ?_, fun b hb => hi.βI b (hmem b hb), fun b hb => hi.βlt b (hmem b hb), fun t b ht => by simp [g'] at ht, fun t t' b h1 => by simp [g'] at h1, fun id cs b hs' hb => ?_, hi.cell0, hi.glo⟩,
      .box k0 off bj ?_⟩
    · show (g.β.take k0 ++ [bj]).take c.β0.length = c.β0
      rw [List.take_append_of_le_length (by rw [hlt, hk]; exact Nat.le_refl _), List.take_take, hk, Nat.min_self, ← hk]
      exact hi.βpre
    · change b ∈ (g.β.take k0 ++ [bj]).drop c.β0.length at hb
      rw [List.drop_append_of_le_length (by rw [hlt, hk]; exact Nat.le_refl _)] at hb
      rcases List.mem_append.1 hb with h | h
      · rw [List.drop_take] at h
        exact hi.βnew b (List.mem_of_mem_take h)
      · simp at h
        subst h
        refine hi.βnew b ?_
        have : (g.β.drop c.β0.length)[j - c.β0.length]? = some b := by rw [List.getElem?_drop, show c.β0.length + (j - c.β0.length) = j by omega]; exact hbj
        exact List.mem_of_getElem? this
    · show (g.β.take k0 ++ [bj]).Nodup
      refine List.nodup_append.2 ⟨(List.take_sublist _ _).nodup hi.βnd, by simp, fun x hx y hy => ?_⟩
      simp at hy
      subst hy
      rintro rfl
      obtain ⟨i, hix⟩ := List.getElem?_of_mem hx
      have hil := (List.getElem?_eq_some_iff.1 hix).1
      rw [List.getElem?_take_of_lt (by omega)] at hix
      have := nodup_get_inj hi.βnd hix hbj
      omega
    · show (g.β.take k0 ++ [bj]).length = σr.length
      rw [← hsl.1]
      have := hi.βlen
      simp [St.dem_eq]
      omega
    · obtain ⟨bs, hbs, hle⟩ := hsl.2 id cs hs'
      have hdl : (St.dem all_ (σ.take k0)).length = k0 := by have := hi.βlen; simp [St.dem_eq]; omega
      by_cases hid : id < k0
      · rw [List.getElem?_append_left (by rw [hdl]; exact hid), St.dem_eq, List.getElem?_map, List.getElem?_take_of_lt hid, Option.map_eq_some_iff] at hbs
        obtain ⟨cs1, hcs1, rfl⟩ := hbs
        change (g.β.take k0 ++ [bj])[id]? = some b at hb
        rw [List.getElem?_append_left (by rw [hlt]; exact hid), List.getElem?_take_of_lt hid] at hb
        obtain ⟨cur, e, hh, hc⟩ := hi.store id cs1 b hcs1 hb
        have := hcell cs1 cur (hs id cs1 hid hcs1) hc
        rw [AV.demL_eq] at this
        exact ⟨cur, e, hh, RCells.le hle this⟩
      · rw [List.getElem?_append_right (by rw [hdl]; omega), hdl] at hbs
        change (g.β.take k0 ++ [bj])[id]? = some b at hb
        rw [List.getElem?_append_right (by rw [hlt]; omega), hlt] at hb
        have h0 : id - k0 = 0 := by
          have := (List.getElem?_eq_some_iff.1 hb).1
          simp at this
          omega
        rw [h0] at hbs hb
        simp at hbs hb
        subst hbs
        subst hb
        obtain ⟨cur, e, hh, hc⟩ := hi.store j cs0 bj hcs hbj
        exact ⟨cur, e, hh, RCells.le hle (hcell cs0 cur hcin hc)⟩
    · show (g.β.take k0 ++ [bj])[k0]? = some bj
      rw [List.getElem?_append_right (by rw [hlt]; exact Nat.le_refl _), hlt]
      simp

end Go.Proofs.Ytlfggjfndmfblaa.Abs

namespace Go.Proofs.Ytlfggjfndmfblaa.Abs
open Go
set_option linter.unusedVariables false
set_option linter.unusedSimpArgs false

/-! ### A rule has one outcome -/
theorem aload_fun {ag : Bool} {n : Nat} {x : AV} {σ : St} {K : AV → Prop} : aload ag n x σ K → ∃ v, K v ∧ ∀ K' : AV → Prop, K' v → aload ag n x σ K' := by
  unfold aload
  repeat' split
  all_goals first | exact fun h => ⟨_, h, fun K' h' => h'⟩ | exact fun h => ⟨_, h.2, fun K' h' => ⟨h.1, h'⟩⟩ | exact fun h => h.elim

theorem abin_fun {P : Program} {op : BinOp} {t : TypeId} {x y : AV} {K : AV → Prop} : abin P op t x y K → ∃ v, K v ∧ ∀ K' : AV → Prop, K' v → abin P op t x y K' := by
  unfold abin
  repeat' split
  all_goals first | exact fun h => h.elim | exact fun h => ⟨_, h.2.2, fun K' h' => ⟨h.1, h.2.1, h'⟩⟩ | exact fun h => ⟨_, h.2, fun K' h' => ⟨h.1, h'⟩⟩ | exact fun h => ⟨_, h, fun K' h' => h'⟩

theorem alen_fun {k : Nat} {x : AV} {K : AV → Prop} : alen k x K → ∃ v, K v ∧ ∀ K' : AV → Prop, K' v → alen k x K' := by
  unfold alen
  repeat' split
  all_goals first | exact fun h => ⟨_, h.2, fun K' h' => ⟨h.1, h'⟩⟩ | exact fun h => h.elim

theorem abounds_fun {lo hi : Option AV} {n : Nat} {k : Nat → Nat → Prop} : abounds lo hi n k → ∃ l h, k l h ∧ ∀ k' : Nat → Nat → Prop, k' l h → abounds lo hi n k' := by
  unfold abounds
  repeat' split
  all_goals first | exact fun h => h.elim | exact fun h => ⟨_, _, h.2.2.2, fun K' h' => ⟨h.1, h.2.1, h.2.2.1, h'⟩⟩ | exact fun h => ⟨_, _, h.2.2, fun K' h' => ⟨h.1, h.2.1, h'⟩⟩ | exact fun h => ⟨_, _, h, fun K' h' => h'⟩

theorem aslice_fun {P : Program} {t : TypeId} {x : AV} {lo hi : Option AV} {K : AV → Prop} : aslice P t x lo hi K → ∃ v, K v ∧ ∀ K' : AV → Prop, K' v → aslice P t x lo hi K' := by
  unfold aslice
  repeat' split
  all_goals first | (intro h; obtain ⟨l, h', h1, h2⟩ := abounds_fun h.2; exact ⟨_, h1, fun K' hk => ⟨h.1, h2 _ hk⟩⟩) | exact fun h => h.elim

theorem get_fun {α : Type} {l : List α} {i : Int} {Q : α → Prop} (h0 : 0 ≤ i) (h1 : i < l.length) (h : ∀ x, l[i.toNat]? = some x → Q x) : ∃ x, Q x ∧ ∀ Q' : α → Prop, Q' x → ∀ y, l[i.toNat]? = some y → Q' y := by
  have hlt : i.toNat < l.length := by omega
  refine ⟨l[i.toNat], h _ (List.getElem?_eq_getElem hlt), fun Q' hq y hy => ?_⟩
  rw [List.getElem?_eq_getElem hlt] at hy
  cases hy
  exact hq

/-- What a quiet step owes. -/
def QQ (σ : St) (R : AV → Prop) : Option (Nat → Bool) → AV → St → Prop := fun dm v σ' => dm = .none ∧ σ' = σ ∧ R v

theorem aval0_quiet {P : Program} {o : Oper} {ev : Operand → AV} {σ : St} {R : AV → Prop} (h : aval0 P o ev σ (QQ σ R)) : ∃ v, aval0 P o ev σ (QE σ v) ∧ R v := by
  have one : ∀ {A : (AV → Prop) → Prop}, (∃ v, QQ σ R .none v σ ∧ ∀ K' : AV → Prop, K' v → A K') → ∃ v, A (fun v' => QE σ v .none v' σ) ∧ R v := by
    rintro A ⟨v, h1, h2⟩
    exact ⟨v, h2 _ ⟨rfl, rfl, rfl⟩, h1.2.2⟩
  obtain ⟨dst, op, ty, pos, after, guard⟩ := o
  cases op
  case call c =>
    obtain ⟨callee, args, argTypes⟩ := c
    cases callee with
    | builtin b =>
      cases b
      case len =>
        simp only [aval0] at h ⊢
        split at h
        · exact one (A := fun K => alen _ _ K) (alen_fun h)
        · exact h.elim
      case append =>
        exfalso
        simp only [aval0] at h
        split at h
        · have h' := aappend_mono (K' := fun dm _ _ => dm = .none) (fun dm v σ h => h.1) h
          unfold aappend at h'
          repeat' split at h'
          all_goals simp at h'
        · exact h.elim
      case max =>
        simp only [aval0] at h ⊢
        split at h
        · split at h
          · exact ⟨_, ⟨h.1, rfl, h.2.1⟩, h.2.2⟩
          · exact h.elim
        · exact h.elim
      case min =>
        simp only [aval0] at h ⊢
        split at h
        · split at h
          · exact ⟨_, ⟨h.1, rfl, h.2.1⟩, h.2.2⟩
          · exact h.elim
        · exact h.elim
      all_goals simp only [aval0] at h
    | _ => simp only [aval0] at h
  case slice t x lo hi mx =>
    cases mx with
    | none =>
      obtain ⟨h7, h⟩ := h
      obtain ⟨v, h1, h2⟩ := aslice_fun h
      exact ⟨v, ⟨h7, h2 _ ⟨rfl, rfl, rfl⟩⟩, h1.2.2⟩
    | some m => simp only [aval0] at h
  case makeFunc fn f cs =>
    cases fn <;> simp only [aval0] at h
    exact ⟨_, ⟨h.1, h.2.1, rfl, h.2.2.1⟩, h.2.2.2⟩
  case buildSlice t n parts =>
    simp only [aval0] at h ⊢
    split at h
    · obtain ⟨h1, h2, hs, h⟩ := h
      split at h
      · cases h.1
      · rename_i hrows
        split at h
        · rename_i l hl
          refine ⟨.ptrs l, ⟨h1, h2, hs, ?_⟩, h.2.2.2⟩
          split
          · rename_i rows hr; exact absurd hr (hrows rows)
          · exact ⟨h.1, rfl, rfl, rfl⟩
        · exact h.elim
    · exact h.elim
  case binOp op t x y t2 =>
    simp only [aval0] at h ⊢
    exact one (A := fun K => abin P op t _ _ K) (abin_fun h)
  case load t x =>
    simp only [aval0] at h ⊢
    split at h
    · exact one (A := fun K => aload _ _ _ σ K) (aload_fun h)
    · exact h.elim
  case pick x p q =>
    simp only [aval0] at h ⊢
    split at h
    · rename_i t ht
      split at h
      · exact ⟨_, ⟨h.1, rfl, h.2.1⟩, h.2.2⟩
      · cases t
        · exact ⟨_, ⟨(fun e => by cases e), fun _ => ⟨rfl, rfl, rfl⟩⟩, (h.2 rfl).2.2⟩
        · exact ⟨_, ⟨fun _ => ⟨rfl, rfl, rfl⟩, (fun e => by cases e)⟩, (h.1 rfl).2.2⟩
    · exact h.elim
  case indexAddr t x ix =>
    simp only [aval0] at h ⊢
    split at h
    · split at h
      · split at h
        · obtain ⟨h1, h2, h3, h⟩ := h
          obtain ⟨row, a, b⟩ := get_fun h2 h3 h
          exact ⟨_, ⟨h1, h2, h3, b _ ⟨rfl, rfl, rfl⟩⟩, a.2.2⟩
        · obtain ⟨h1, h2, h3, h⟩ := h
          obtain ⟨row, a, b⟩ := get_fun h2 h3 h
          exact ⟨_, ⟨h1, h2, h3, b _ ⟨rfl, rfl, rfl⟩⟩, a.2.2⟩
        · obtain ⟨h1, h2, h3, h⟩ := h
          obtain ⟨row, a, b⟩ := get_fun h2 h3 h
          exact ⟨_, ⟨h1, h2, h3, b _ ⟨rfl, rfl, rfl⟩⟩, a.2.2⟩
        · exact h.elim
      · exact h.elim
    · exact h.elim
  case index t x ix =>
    simp only [aval0] at h ⊢
    obtain ⟨h0, h⟩ := h
    split at h
    · obtain ⟨h2, h3, h⟩ := h
      obtain ⟨row, a, b⟩ := get_fun h2 h3 h
      exact ⟨_, ⟨h0, h2, h3, b _ ⟨rfl, rfl, rfl⟩⟩, a.2.2⟩
    · exact h.elim
  all_goals simp only [aval0] at h ⊢
  all_goals (repeat' split at h)
  all_goals first
    | exact h.elim
    | exact ⟨_, ⟨h.1, rfl, h.2.1⟩, h.2.2⟩
    | exact ⟨_, ⟨h.1, h.2.1, rfl, h.2.2.1⟩, h.2.2.2⟩
    | exact ⟨_, ⟨h.1, h.2.1, h.2.2.1, rfl, h.2.2.2.1⟩, h.2.2.2.2⟩
    | (obtain ⟨h1, h2, l, h3, h4⟩ := h; exact ⟨_, ⟨h1, h2, l, h3, h4.1, rfl, h4.2.1⟩, h4.2.2⟩)
    | exact h.2.elim
    | exact h.2.2.elim
    | exact h.2.2.2.elim
    | exact ⟨_, ⟨h.1, h.2.1, h.2.2.1, h.2.2.2.1, rfl, h.2.2.2.2.1⟩, h.2.2.2.2.2⟩
    | (rename_i hif; refine ⟨_, ?_, h.2.2.2⟩; rw [if_pos hif]; exact ⟨h.1, h.2.1, rfl, h.2.2.1⟩)
    | (rename_i hif _ _ _; refine ⟨_, ?_, h.2.2⟩; rw [if_neg hif]; exact ⟨h.1, rfl, h.2.1⟩)
    | (rename_i hif _ _ hx; refine ⟨_, ?_, h.2.2⟩; rw [if_neg hif]; simp only [hx]; exact ⟨h.1, rfl, h.2.1⟩)

theorem aval_quiet {P : Program} {o : Oper} {ev : Operand → AV} {σ : St} {R : AV → Prop} (h : aval P o ev σ (QQ σ R)) : ∃ v, aval P o ev σ (QE σ v) ∧ R v := by
  rcases h with h | ⟨v, h, h2⟩ | ⟨v, h, h2⟩ | ⟨dm, v, σ', h, h2⟩
  · obtain ⟨v, h1, h2⟩ := aval0_quiet h
    exact ⟨v, .inl h1, h2⟩
  · exact ⟨v, .inr (.inl ⟨v, h, rfl, rfl, rfl⟩), h2.2.2⟩
  · exact ⟨v, .inr (.inr (.inl ⟨v, h, rfl, rfl, rfl⟩)), h2.2.2⟩
  · exact ⟨v, .inr (.inr (.inr ⟨dm, v, σ', h, h2.1, rfl, h2.2.1⟩)), h2.2.2⟩
theorem aopM_mono {P : Program} {o : Oper} {fr : Fr} {σ : St} {K K' : Fr → St → Prop} (hk : ∀ fr σ, K fr σ → K' fr σ) : aopM P o fr σ K → aopM P o fr σ K' := by
  rintro (⟨fr1, σ1, hz, h | h⟩ | h)
  rotate_left 2
  · refine .inr ?_
    unfold acallB at h ⊢
    split at h
    · obtain ⟨fr1, σ1, k, caps, d, as, r, σr, M, h1, h2, h3, h4, h5, h6, h7⟩ := h
      exact ⟨fr1, σ1, k, caps, d, as, r, σr, M, h1, h2, h3, h4, h5, h6, hk _ _ h7⟩
    · exact h.elim
  · exact .inl ⟨fr1, σ1, hz, .inl (aop_mono hk h)⟩
  · refine .inl ⟨fr1, σ1, hz, .inr ?_⟩
    unfold amst at h ⊢
    split at h
    · obtain ⟨ag, n, t, sz, i, off, row, hs, vs, D, fr', h1, h2, h3, h4, h5, h6, h7, h8, h9⟩ := h
      exact ⟨ag, n, t, sz, i, off, row, hs, vs, D, fr', h1, h2, h3, h4, h5, h6, h7, h8, hk _ _ h9⟩
    · exact h.elim
theorem aops_mono {P : Program} {ops : List Oper} {K K' : Fr → St → Prop} (hk : ∀ fr σ, K fr σ → K' fr σ) : ∀ (l : List Oper) (fr : Fr) (σ : St), aops true P ops l fr σ K → aops true P ops l fr σ K'
  | [], fr, σ => hk fr σ
  | o :: l, fr, σ => aguard_mono (aopM_mono (fun fr σ => aops_mono hk l fr σ)) (aops_mono hk l _ σ)

theorem aqs_mono {P : Program} {ops : List Oper} {σ : St} {K K' : Fr → Prop} (hk : ∀ fr, K fr → K' fr) : ∀ (l : List Oper) (fr : Fr), aqs P ops l fr σ K → aqs P ops l fr σ K'
  | [], fr => hk fr
  | o :: l, fr => aguard_mono (fun ⟨v, h1, h2⟩ => ⟨v, h1, aqs_mono hk l _ h2⟩) (aqs_mono hk l _)

theorem awp_mono {P : Program} {V : List Nat} {k0 : Nat} : ∀ (c : Code) {Q Q' : Exit → Fr → St → Prop} {fr : Fr} {σ : St}, (∀ e fr σ, Q e fr σ → Q' e fr σ) → awp P V k0 c Q fr σ → awp P V k0 c Q' fr σ := by
  intro c
  induction c with
  | skip => exact fun hq h => hq _ _ _ h
  | exit id => exact fun hq h => hq _ _ _ h
  | ret => exact fun hq h => hq _ _ _ h
  | seq x y ihx ihy =>
    intro Q Q' fr σ hq h
    simp only [awp] at h ⊢
    refine ihx (fun e fr σ he => ?_) h
    cases e with
    | normal => obtain ⟨fr', σ', hw, h⟩ := he; exact ⟨fr', σ', hw, ihy hq h⟩
    | _ => exact hq _ _ _ he
  | cond t x y ihx ihy =>
    intro Q Q' fr σ hq
    simp only [awp]
    split
    · exact fun h => ⟨fun e => ihx hq (h.1 e), fun e => ihy hq (h.2 e)⟩
    · exact id
  | block id x ih =>
    intro Q Q' fr σ hq h
    simp only [awp] at h ⊢
    refine ih (fun e fr σ he => ?_) h
    cases e with
    | exit id' =>
      simp only at he ⊢
      split
      · rename_i e; simp only [e, if_true] at he; exact hq _ _ _ he
      · rename_i e; simp only [e, if_false] at he; exact hq _ _ _ he
    | _ => exact hq _ _ _ he
  | loop x ih =>
    intro Q Q' fr σ hq h
    simp only [awp] at h ⊢
    obtain ⟨k, h⟩ := h
    refine ⟨k, ?_⟩
    induction k generalizing fr σ with
    | zero =>
      simp only [loopU] at h ⊢
      obtain ⟨J, h0, h1⟩ := h
      refine ⟨J, h0, fun n fr σ hJ => ih (fun e fr σ he => ?_) (h1 n fr σ hJ)⟩
      cases e with
      | normal => exact he
      | _ => exact hq _ _ _ he
    | succ k ihk =>
      simp only [loopU] at h ⊢
      refine ih (fun e fr σ he => ?_) h
      cases e with
      | normal => obtain ⟨fr', σ', hw, he⟩ := he; exact ⟨fr', σ', hw, ihk he⟩
      | _ => exact hq _ _ _ he
  | region id ops draw =>
    intro Q Q' fr σ hq
    cases draw with
    | false => exact aops_mono (fun fr σ => hq _ _ _) _ fr σ
    | true =>
      simp only [awp]
      rintro (⟨pre, h1, h2⟩ | h2)
      · exact .inl ⟨pre, h1, aqs_mono (fun fr => aops_mono (fun fr σ => hq _ _ _) _ fr _) _ fr h2⟩
      · exact .inr (aplan_mono (fun fr σ => hq _ _ _) h2)
  | _ => intro Q Q' fr σ _ h; simp [awp] at h

/-- What comes later, not to be looked at yet. -/
def hold (p : Prop) : Prop := p
theorem hold_is {p : Prop} : hold p = p := propext Iff.rfl

def seqQ (K : Fr → St → Prop) (Q : Exit → Fr → St → Prop) : Exit → Fr → St → Prop := fun e fr σ => match e with | .normal => K fr σ | e => Q e fr σ
def blkQ (id : Nat) (Q : Exit → Fr → St → Prop) : Exit → Fr → St → Prop := fun e fr σ => match e with | .exit id' => if id' = id then Q .normal fr σ else Q (.exit id') fr σ | e => Q e fr σ
def finQ (P : Program) (rs : List ResultVar) (k0 : Nat) (r : AV) (σr : St) : Exit → Fr → St → Prop := fun e fr σ' => match e with
  | .ret => aresults P fr σ' rs fun vs => Fin k0 (rval vs) σ' r σr
  | .normal => aresults P fr σ' rs fun vs => Fin k0 (rval vs) σ' r σr
  | _ => False

section
variable {P : Program} {V : List Nat} {k0 : Nat} {Q : Exit → Fr → St → Prop} {fr : Fr} {σ : St} {K : Fr → St → Prop}
theorem w_seq {x y : Code} (h : awp P V k0 x (seqQ (awp P V k0 y Q) Q) fr σ) : awp P V k0 (.seq x y) Q fr σ := by
  refine awp_mono x (fun e fr σ he => ?_) h
  cases e with
  | normal => exact ⟨fr, σ, Weak.refl _ _ _, he⟩
  | _ => exact he
/-- Ways meet: what the first part leaves, told once. -/
theorem w_cut {x y : Code} (A : Fr → St → Prop) (h : awp P V k0 x (seqQ (fun fr σ => ∃ fr' σ', Weak k0 fr σ fr' σ' ∧ A fr' σ') Q) fr σ) (h2 : ∀ fr σ, A fr σ → awp P V k0 y Q fr σ) : awp P V k0 (.seq x y) Q fr σ := by
  refine awp_mono x (fun e fr σ he => ?_) h
  cases e with
  | normal => obtain ⟨fr', σ', hw, ha⟩ := he; exact ⟨fr', σ', hw, h2 _ _ ha⟩
  | _ => exact he
theorem w_skip (h : Q .normal fr σ) : awp P V k0 .skip Q fr σ := h
theorem w_ret (h : Q .ret fr σ) : awp P V k0 .ret Q fr σ := h
theorem w_exit {id : Nat} (h : Q (.exit id) fr σ) : awp P V k0 (.exit id) Q fr σ := h
theorem w_block {id : Nat} {c : Code} (h : awp P V k0 c (blkQ id Q) fr σ) : awp P V k0 (.block id c) Q fr σ := h
theorem w_region {id : Nat} {l : List Oper} (h : aops true P l l fr σ fun fr σ => hold (Q .normal (prune V fr) σ)) : awp P V k0 (.region id l.toArray false) Q fr σ := h
theorem w_draw (pre : Nat) {id : Nat} {l : List Oper} (hB : drawOk l.toArray pre = true) (h : aqs P l (l.take pre) fr σ fun fr' => aops true P l (l.drop pre) fr' σ fun fr σ => Q .normal (prune V fr) σ) : awp P V k0 (.region id l.toArray true) Q fr σ :=
  .inl ⟨pre, hB, h⟩
theorem w_plan (pl : List PI) {id : Nat} {l : List Oper} (hB : planOk l.toArray pl = true) (h : ad P l.toArray pl fr σ fun fr σ => hold (Q .normal (prune V fr) σ)) : awp P V k0 (.region id l.toArray true) Q fr σ :=
  .inr (.inl ⟨pl, hB, h⟩)
theorem w_two (i j : Nat) (pl pl' : List PI) {id : Nat} {l : List Oper} (hij : Nat.beq i j = false) (hB : planR (edge l.toArray i j) pl = true) (hB' : planR (edge l.toArray j i) pl' = true) (h : ad P l.toArray pl fr σ fun fr σ => hold (Q .normal (prune V fr) σ)) (h' : ad P l.toArray pl' fr σ fun fr σ => hold (Q .normal (prune V fr) σ)) : awp P V k0 (.region id l.toArray true) Q fr σ :=
  .inr (.inr ⟨i, j, pl, pl', fun e => by subst e; simp at hij, hB, hB', h, h'⟩)
theorem w_cond {c : Operand} {x y : Code} (b : Bool) (h : fr.ev c = .c (.bool b)) (h1 : b = true → awp P V k0 x Q fr σ) (h2 : b = false → awp P V k0 y Q fr σ) : awp P V k0 (.cond c x y) Q fr σ := by
  simp only [awp, h]
  exact ⟨h1, h2⟩
theorem w_loop {c : Code} (J : Nat → Fr → St → Prop) (n : Nat) {fr' : Fr} {σ' : St} (hw : Weak k0 fr σ fr' σ') (h0 : J n fr' σ') (h : ∀ n fr σ, J n fr σ → awp P V k0 c (seqQ (fun fr σ => ∃ m fr' σ', m < n ∧ Weak k0 fr σ fr' σ' ∧ J m fr' σ') Q) fr σ) : awp P V k0 (.loop c) Q fr σ :=
  ⟨0, J, ⟨n, fr', σ', hw, h0⟩, h⟩
/-- A loop of which at most k rounds are told one by one. -/
def LU (P : Program) (V : List Nat) (k0 : Nat) (c : Code) (Q : Exit → Fr → St → Prop) (k : Nat) (fr : Fr) (σ : St) : Prop :=
  loopU k0 (awp P V k0 c) (fun fr σ => ∃ J : Nat → Fr → St → Prop, (∃ n fr' σ', Weak k0 fr σ fr' σ' ∧ J n fr' σ') ∧ ∀ n fr σ, J n fr σ → awp P V k0 c (fun e fr σ => match e with | .normal => ∃ m fr' σ', m < n ∧ Weak k0 fr σ fr' σ' ∧ J m fr' σ' | e => Q e fr σ) fr σ) Q k fr σ
theorem w_unr (k : Nat) {c : Code} (h : LU P V k0 c Q k fr σ) : awp P V k0 (.loop c) Q fr σ := ⟨k, h⟩
theorem lu_s {k : Nat} {c : Code} (h : awp P V k0 c (seqQ (fun fr σ => LU P V k0 c Q k fr σ) Q) fr σ) : LU P V k0 c Q (k + 1) fr σ := by
  simp only [LU, loopU]
  refine awp_mono c (fun e fr σ he => ?_) h
  cases e with
  | normal => exact ⟨fr, σ, Weak.refl _ _ _, he⟩
  | _ => exact he
theorem q_seq_n : seqQ K Q .normal fr σ = K fr σ := propext Iff.rfl
theorem q_seq_r : seqQ K Q .ret fr σ = Q .ret fr σ := propext Iff.rfl
theorem q_seq_x (id : Nat) : seqQ K Q (.exit id) fr σ = Q (.exit id) fr σ := propext Iff.rfl
theorem q_blk_n (id : Nat) : blkQ id Q .normal fr σ = Q .normal fr σ := propext Iff.rfl
theorem q_blk_r (id : Nat) : blkQ id Q .ret fr σ = Q .ret fr σ := propext Iff.rfl
theorem q_blk_x (id id' : Nat) : blkQ id Q (.exit id') fr σ = if id' = id then Q .normal fr σ else Q (.exit id') fr σ := propext Iff.rfl
theorem q_fin_r {rs : List ResultVar} {r : AV} {σr : St} : finQ P rs k0 r σr .ret fr σ = aresults P fr σ rs fun vs => Fin k0 (rval vs) σ r σr := propext Iff.rfl
theorem q_fin_n {rs : List ResultVar} {r : AV} {σr : St} : finQ P rs k0 r σr .normal fr σ = aresults P fr σ rs fun vs => Fin k0 (rval vs) σ r σr := propext Iff.rfl
end

theorem acalls {P : Program} {f : FuncId} {fn : Func} {code : Code} {args : List AV} {σ : St} {r : AV} {σr : St} (V : List Nat) (hm : P.follows .mixedOrders = true) (hf : P.funcs[f]? = some fn) (hb : fn.body = some code) (hc : callable P f = true)
    (hok : codeOk (args.length + (fn.ntmps - args.length)) code = true) (h : awp P V σ.length code (finQ P fn.results.toList σ.length r σr) (mkFr 0 args) σ) : ACalls P f args σ r σr :=
  acalls_intro V hm hf hb hc hok h

/-! ### Knowing less, slot by slot -/
inductive Fr.leF : Fr → Fr → Prop
  | nil (fr : Fr) : Fr.leF fr []
  | cons {i : Nat} {a b : AV} {r s : Fr} (h : a.le b) (t : Fr.leF r s) : Fr.leF ((i, a) :: r) ((i, b) :: s)

theorem Fr.leF_get {fr fr' : Fr} (h : Fr.leF fr fr') (d : Nat) : (fr.get d).le (fr'.get d) := by
  induction h with
  | nil fr => exact AV.le_any _
  | cons h t ih =>
    simp only [Fr.get]
    split
    · exact h
    · exact ih

theorem Weak.frame {k0 : Nat} {fr fr' : Fr} {σ : St} (h : Fr.leF fr fr') : Weak k0 fr σ fr' σ := Weak.slots (Fr.leF_get h)
theorem Fr.leF_refl : ∀ fr : Fr, Fr.leF fr fr
  | [] => .nil _
  | (i, a) :: r => .cons (AV.le_refl a) (Fr.leF_refl r)

def Fr.inB (m : Nat) : Fr → Bool
  | [] => true
  | (_, a) :: r => a.inB m && Fr.inB m r
theorem Fr.inB_get {m : Nat} {fr : Fr} (h : fr.inB m = true) (d : Nat) : (fr.get d).inB m = true := by
  induction fr with
  | nil => rfl
  | cons x r ih =>
    obtain ⟨i, a⟩ := x
    simp only [Fr.inB, Bool.and_eq_true] at h
    simp only [Fr.get]
    split
    · exact h.1
    · exact ih h.2
def St.inB (m : Nat) : St → Bool
  | [] => true
  | cs :: r => AV.inB.inBL m cs && St.inB m r
theorem St.inB_get {m : Nat} {σ : St} (h : σ.inB m = true) (i : Nat) (cs : List AV) (hi : σ[i]? = some cs) : AV.inB.inBL m cs = true := by
  induction σ generalizing i with
  | nil => simp at hi
  | cons x r ih =>
    simp only [St.inB, Bool.and_eq_true] at h
    cases i with
    | zero => simp at hi; subst hi; exact h.1
    | succ i => simp at hi; exact ih h.2 i hi

/-- To forget: slots, then the variables from m on. -/
theorem Weak.forget {k0 : Nat} (m : Nat) {fr fr' : Fr} {σ : St} (h : Fr.leF fr fr') (hm : k0 ≤ m) (hf : fr'.inB m = true) (hs : St.inB m (σ.take m) = true) : Weak k0 fr σ fr' (σ.take m) :=
  (Weak.frame h).trans (Weak.take hm (fun d => Fr.inB_get hf d) (fun i cs hi hcs => St.inB_get hs i cs (by rw [List.getElem?_take_of_lt hi]; exact hcs)))

/-- The cells of a variable, told less. -/
theorem Weak.cells {k0 : Nat} {fr : Fr} {σ σ' : St} (h : leS σ σ') : Weak k0 fr σ fr σ' := by
  intro c g w tmps hk hi hf
  have hl := leS_get h
  exact ⟨g, ⟨hi.os, hi.tape, hi.output, hi.size, hi.old, hi.Ile, hi.Iold, hi.Ilt, hi.βpre, hi.βnew, hi.βnd, by rw [← hl.1]; exact hi.βlen, hi.βI, hi.βlt, hi.τnew, hi.τinj, fun id cs b hs hb => by
    obtain ⟨bs, hbs, hle⟩ := hl.2 id cs hs
    obtain ⟨cur, e, hh, hc⟩ := hi.store id bs b hbs hb
    exact ⟨cur, e, hh, RCells.le hle hc⟩, hi.cell0, hi.glo⟩, hf⟩

end Go.Proofs.Ytlfggjfndmfblaa.Abs

namespace Go.Proofs.Ytlfggjfndmfblaa.Abs
open Go
set_option linter.unusedVariables false
set_option linter.unusedSimpArgs false

def aqop (P : Program) (o : Oper) (fr : Fr) (σ : St) (K : AV → Prop) : Prop :=
  match o.op with
  | .call { callee := .value f, args, argTypes } => (match fr.ev f with
    | .fn k caps => ∃ as r, AV.leL (AV.lowL [] (args.toList.map fr.ev ++ caps)) as ∧ ACalls P k as [] r [] ∧ K (r.low [])
    | _ => False)
  | _ => aval P o fr.ev σ (QQ σ K)

def aqw (P : Program) (ops : List Oper) : List Oper → Fr → St → (Fr → Prop) → Prop
  | [], fr, σ, K => K fr
  | o :: r, fr, σ, K => aguard ops o fr.get (aqop P o fr σ fun v => aqw P ops r (fr.put o.dst v) σ K) (aqw P ops r (fr.put o.dst (.tup [])) σ K)

theorem aqop_sound {P : Program} {o : Oper} {fr : Fr} {σ : St} {K : AV → Prop} (h : aqop P o fr σ K) : ∃ v, AQ P o fr.ev σ v ∧ K v := by
  unfold aqop at h
  split at h
  · rename_i f args argTypes hop
    split at h
    · rename_i k caps hf
      obtain ⟨as, r, h1, h2, h3⟩ := h
      exact ⟨r.low [], by unfold AQ; simp only [hop, hf]; exact ⟨as, r, h1, h2, rfl⟩, h3⟩
    · exact h.elim
  · rename_i hno
    obtain ⟨v, h1, h2⟩ := aval_quiet h
    refine ⟨v, ?_, h2⟩
    unfold AQ
    split
    · rename_i f args argTypes hop
      exact absurd hop (hno _ _ _)
    · exact h1

theorem aqw_aqs {P : Program} {ops : List Oper} {σ : St} {K : Fr → Prop} : ∀ (l : List Oper) (fr : Fr), aqw P ops l fr σ K → aqs P ops l fr σ K
  | [], fr => id
  | o :: l, fr => aguard_mono (fun h => by obtain ⟨v, h1, h2⟩ := aqop_sound h; exact ⟨v, h1, aqw_aqs l _ h2⟩) (aqw_aqs l _)

section
variable {P : Program} {V : List Nat} {k0 : Nat} {Q : Exit → Fr → St → Prop} {fr : Fr} {σ : St}
theorem w_drawn (pre : Nat) {id : Nat} {l : List Oper} (hB : drawOk l.toArray pre = true) (h : aqw P l (l.take pre) fr σ fun fr' => aops true P l (l.drop pre) fr' σ fun fr σ => hold (Q .normal (prune V fr) σ)) : awp P V k0 (.region id l.toArray true) Q fr σ :=
  w_draw pre hB (aqw_aqs _ _ h)
end

theorem qq_none {σ : St} {R : AV → Prop} {v : AV} : QQ σ R .none v σ = R v := by simp [QQ]

/-- A call that is handed no variable. -/
theorem k_call {P : Program} {dst : Option Tmp} {f : FuncId} {caps args as : List AV} {fr : Fr} {σ : St} {r : AV} {K : Fr → St → Prop} (hc : ACalls P f as [] r [])
    (hl : AV.leL (AV.lowL [] (args ++ caps)) as) (h : K ((fr.dem fun t => t / 16 == dst.getD 0).put dst (r.lift [] σ.length (dst.getD 0))) (σ.dem fun t => t / 16 == dst.getD 0)) : acall P dst (.fn f caps) args fr σ K :=
  ⟨dst.getD 0, [], [], as, [], r, [], .nil, .nil, by simp, hl, by simp [St.sub, leS]; exact .nil, hc, by simpa [St.after, St.upd, endF_nil] using h⟩

theorem k_qcall {P : Program} {f : FuncId} {caps args as : List AV} {r : AV} {K : AV → Prop} (hc : ACalls P f as [] r []) (hl : AV.leL (AV.lowL [] (args ++ caps)) as) (h : K (r.low [])) :
    ∃ as r, AV.leL (AV.lowL [] (args ++ caps)) as ∧ ACalls P f as [] r [] ∧ K (r.low []) := ⟨as, r, hl, hc, h⟩

theorem le_self {a : AV} {as bs : List AV} (t : AV.leL as bs) : AV.leL (a :: as) (a :: bs) := .cons (AV.le_refl _) t
theorem le_own {t sz : Nat} {xs : List (List PV)} {as bs : List AV} (h : AV.leL as bs) : AV.leL (.own t sz xs :: as) (.c (.list sz xs) :: bs) := .cons (AV.le_own_list _ _ _) h
theorem le_nil {sz : Nat} {as bs : List AV} (h : AV.leL as bs) : AV.leL (.nil :: as) (.c (.list sz []) :: bs) := .cons (AV.le_nil_list _) h

theorem St.dem_get (f : Nat → Bool) : ∀ (σ : St) (i : Nat) (cs : List AV), σ[i]? = some cs → (σ.dem f)[i]? = some (AV.demL f cs)
  | [], i, cs, h => by simp at h
  | x :: r, 0, cs, h => by simp at h; subst h; rfl
  | x :: r, i + 1, cs, h => by simp at h; simpa [St.dem] using St.dem_get f r i cs h

theorem fin_pre {k0 : Nat} {σ σr : St} (h1 : St.dem all_ (σ.take k0) = σr) (h2 : St.inB k0 σr = true) : ∀ (i : Nat) cs, i < k0 → σ[i]? = some cs → AV.inB.inBL k0 (AV.demL all_ cs) = true := by
  intro i cs hi hcs
  have : (σ.take k0)[i]? = some cs := by rw [List.getElem?_take_of_lt hi]; exact hcs
  have h := St.dem_get all_ _ i cs this
  rw [h1] at h
  exact St.inB_get h2 i _ h

theorem leS_refl : ∀ σ : St, leS σ σ
  | [] => .nil
  | a :: r => .cons (AV.leL_refl a) (leS_refl r)

theorem fin_c {k0 : Nat} {p : PV} {σ σr : St} (h1 : St.dem all_ (σ.take k0) = σr) (h2 : St.inB k0 σr = true) : Fin k0 (.c p) σ (.c p) σr :=
  fin_main [] .nil rfl (fin_pre h1 h2) (AV.le_refl _) (h1 ▸ leS_refl _)
theorem fin_any {k0 : Nat} {a : AV} {σ σr : St} (h1 : St.dem all_ (σ.take k0) = σr) (h2 : St.inB k0 σr = true) (hin : (a.retok []).inB k0 = true) : Fin k0 a σ .any σr :=
  fin_main [] .nil hin (fin_pre h1 h2) (AV.le_any _) (h1 ▸ leS_refl _)
theorem fin_own {k0 t sz : Nat} {xs : List (List PV)} {σ σr : St} (h1 : St.dem all_ (σ.take k0) = σr) (h2 : St.inB k0 σr = true) : Fin k0 (.own t sz xs) σ (.own 0 sz xs) σr :=
  fin_main [t] (by simp) (by simp [AV.retok, AV.inB, List.idxOf?]) (fin_pre h1 h2) (by simp [AV.retok, List.idxOf?]; exact AV.le_refl _) (h1 ▸ leS_refl _)
theorem fin_nil {k0 sz : Nat} (h0 : 0 < sz) {σ σr : St} (h1 : St.dem all_ (σ.take k0) = σr) (h2 : St.inB k0 σr = true) : Fin k0 .nil σ (.own 0 sz []) σr :=
  fin_main [] .nil rfl (fin_pre h1 h2) (AV.le_nil_own 0 sz h0) (h1 ▸ leS_refl _)
theorem fin_list {k0 t sz : Nat} {xs : List (List PV)} {σ σr : St} (h1 : St.dem all_ (σ.take k0) = σr) (h2 : St.inB k0 σr = true) : Fin k0 (.own t sz xs) σ (.c (.list sz xs)) σr :=
  fin_main [] .nil rfl (fin_pre h1 h2) (AV.le_refl _) (h1 ▸ leS_refl _)

/-! ### Loops -/
def Fr.below (fr : Fr) : Fr → Prop
  | [] => True
  | (i, b) :: r => (fr.get i).le b ∧ Fr.below fr r

theorem Fr.below_get {fr : Fr} : ∀ {fr' : Fr}, Fr.below fr fr' → ∀ d, (fr.get d).le (fr'.get d)
  | [], _, d => AV.le_any _
  | (i, b) :: r, h, d => by
    simp only [Fr.get]
    split
    · rename_i e; rw [e]; exact h.1
    · exact Fr.below_get h.2 d

theorem weak_frame {k0 : Nat} {fr fr' : Fr} {σ : St} (h : Fr.below fr fr') : Weak k0 fr σ fr' σ := Weak.slots (Fr.below_get h)

/-- Slots told less, variables told less, variables from m on forgotten. -/
theorem weak_all {k0 : Nat} (m : Nat) {fr fr' : Fr} {σ σ' : St} (h : Fr.below fr fr') (hm : k0 ≤ m) (hf : fr'.inB m = true) (hs : leS (σ.take m) σ') (hb : St.inB m (σ.take m) = true) : Weak k0 fr σ fr' σ' :=
  ((weak_frame h).trans (Weak.take hm (fun d => Fr.inB_get hf d) (fun i cs hi hcs => St.inB_get hb i cs (by rw [List.getElem?_take_of_lt hi]; exact hcs)))).trans (Weak.cells hs)

theorem le_same {a : AV} : AV.le a a = True := eq_true (AV.le_refl a)
theorem le_any' {a : AV} : AV.le a .any = True := eq_true (AV.le_any a)
theorem le_ol {t sz : Nat} {xs : List (List PV)} : AV.le (.own t sz xs) (.c (.list sz xs)) = True := eq_true (AV.le_own_list _ _ _)
theorem le_nl {sz : Nat} : AV.le .nil (.c (.list sz [])) = True := eq_true (AV.le_nil_list _)
theorem le_int {k : IntKind} {m n : Int} (h : m = n) : AV.le (.c (.int k m)) (.c (.int k n)) := h ▸ AV.le_refl _
theorem le_c {p q : PV} (h : p = q) : AV.le (.c p) (.c q) := h ▸ AV.le_refl _
theorem le_o {t sz : Nat} {p q : List (List PV)} (h : p = q) : AV.le (.own t sz p) (.own t sz q) := h ▸ AV.le_refl _

theorem w_while {P : Program} {V : List Nat} {k0 : Nat} {Q : Exit → Fr → St → Prop} {fr : Fr} {σ : St} {c : Code} {α : Type} (F : α → Fr) (S : α → St) (I : α → Prop) (m : α → Nat) (i0 : α) (hI : I i0) (hw : Weak k0 fr σ (F i0) (S i0))
    (h : ∀ i, I i → awp P V k0 c (seqQ (fun fr σ => ∃ j, m j < m i ∧ I j ∧ Weak k0 fr σ (F j) (S j)) Q) (F i) (S i)) : awp P V k0 (.loop c) Q fr σ :=
  w_loop (fun n fr σ => ∃ i, n = m i ∧ I i ∧ fr = F i ∧ σ = S i) (m i0) hw ⟨i0, rfl, hI, rfl, rfl⟩ (fun n fr σ hJ => by
    obtain ⟨i, rfl, hi, rfl, rfl⟩ := hJ
    refine awp_mono c (fun e fr σ he => ?_) (h i hi)
    cases e with
    | normal => obtain ⟨j, h1, h2, h3⟩ := he; exact ⟨m j, F j, S j, h1, h3, j, rfl, h2, rfl, rfl⟩
    | _ => exact he)

theorem rval1 {v : AV} : rval [v] = v := rfl
theorem rval2 {v u : AV} : rval [v, u] = .tup [v, u] := rfl
theorem rval3 {v u t : AV} : rval [v, u, t] = .tup [v, u, t] := rfl
theorem rval4 {v u t s : AV} : rval [v, u, t, s] = .tup [v, u, t, s] := rfl
theorem not_decide_t {p : Prop} [Decidable p] (h : (!decide p) = true) : ¬ p := by simpa using h
theorem not_decide_f {p : Prop} [Decidable p] (h : (!decide p) = false) : p := by simpa using h

theorem map_at {α : Type} {f : α → List PV} {l : List α} {n : Nat} {R : List PV → Prop} : (∀ row, (l.map f)[n]? = some row → R row) = ∀ c, l[n]? = some c → R (f c) := by
  apply propext
  constructor
  · exact fun h c hc => h _ (by simp [hc])
  · intro h row hr
    rw [List.getElem?_map, Option.map_eq_some_iff] at hr
    obtain ⟨c, hc, rfl⟩ := hr
    exact h c hc
theorem map_at_int {α : Type} {f : α → List PV} {l : List α} {n : Nat} {R : List PV → Prop} : (∀ row, (l.map f)[((n : Int)).toNat]? = some row → R row) = ∀ c, l[n]? = some c → R (f c) := by
  rw [Int.toNat_natCast]; exact map_at
theorem str_at_int {l : List UInt8} {n : Nat} {R : UInt8 → Prop} : (∀ b, l[((n : Int)).toNat]? = some b → R b) = ∀ c, l[n]? = some c → R c := by
  rw [Int.toNat_natCast]

end Go.Proofs.Ytlfggjfndmfblaa.Abs

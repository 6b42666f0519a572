/- The code's judgement, and how a call's judgement is shown. -/
import Derived.Test.YtnhchphmmdgphaaAbsP
namespace Go.Proofs.Ytnhchphmmdgphaa.Abs
open Go
set_option linter.unusedVariables false
set_option linter.unusedSimpArgs false

def prune (V : List Nat) (fr : Fr) : Fr := match V with
  | [] => []
  | i :: V => (i, fr.get i) :: prune V fr

theorem prune_get (V : List Nat) (fr : Fr) (d : Nat) : (prune V fr).get d = if d ∈ V then fr.get d else .any := by
  induction V with
  | nil => rfl
  | cons t ts ih =>
    simp only [prune, Fr.get, ih, List.mem_cons]
    by_cases h : d = t
    · subst h; simp
    · simp [h]

theorem Sim.prune {c : Ctx} {N : Nat} {a : Act} {w : World} {fr : Fr} {σ : St} (V : List Nat) (h : Sim c N a w fr σ) : Sim c N a w (prune V fr) σ := by
  obtain ⟨g, hi, hf, hN, hd⟩ := h
  refine ⟨g, hi, fun d => ?_, hN, hd⟩
  rw [prune_get]
  split
  · exact hf d
  · exact .any

/-- To know less: of the slots, and of the variables behind the first k0. -/
def Weak (k0 : Nat) (fr : Fr) (σ : St) (fr' : Fr) (σ' : St) : Prop := ∀ c g w tmps, c.β0.length = k0 → Inv c g w σ → RFr g w tmps fr → ∃ g', Inv c g' w σ' ∧ RFr g' w tmps fr'

theorem Weak.refl (k0 : Nat) (fr : Fr) (σ : St) : Weak k0 fr σ fr σ := fun c g w tmps _ hi hf => ⟨g, hi, hf⟩
theorem Weak.trans {k0 : Nat} {fr fr' fr'' : Fr} {σ σ' σ'' : St} (h : Weak k0 fr σ fr' σ') (h' : Weak k0 fr' σ' fr'' σ'') : Weak k0 fr σ fr'' σ'' := fun c g w tmps hk hi hf => by
  obtain ⟨g1, hi1, hf1⟩ := h c g w tmps hk hi hf
  exact h' c g1 w tmps hk hi1 hf1
theorem Weak.slots {k0 : Nat} {fr fr' : Fr} {σ : St} (h : ∀ d, (fr.get d).le (fr'.get d)) : Weak k0 fr σ fr' σ := fun c g w tmps _ hi hf => ⟨g, hi, fun d => h d _ _ _ (hf d)⟩

/-- Does a value speak of none but the first m variables? -/
def AV.inB (m : Nat) : AV → Bool
  | .box id _ => decide (id < m)
  | .ptrs l => l.all fun p => decide (p.1 < m)
  | .pptr p => decide (p.1 < m)
  | .agg cs => inBL m cs
  | .tup cs => inBL m cs
  | .fn _ cs => inBL m cs
  | _ => true
where inBL (m : Nat) : List AV → Bool
  | [] => true
  | a :: as => AV.inB m a && inBL m as

theorem inBL_get {m : Nat} : ∀ {l : List AV}, AV.inB.inBL m l = true → ∀ (i : Nat) a, l[i]? = some a → a.inB m = true
  | [], _, i, a, h => by simp at h
  | x :: xs, h, i, a, hi => by
    simp only [AV.inB.inBL, Bool.and_eq_true] at h
    cases i with
    | zero => simp at hi; subst hi; exact h.1
    | succ i => simp at hi; exact inBL_get h.2 i a hi

theorem RAV.inB {g g' : G} {w : World} {v : Value} {a : AV} {m : Nat} (hI : g'.I = g.I) (hτ : g'.τ = g.τ) (hβ : ∀ (k b : Nat), k < m → g.β[k]? = some b → g'.β[k]? = some b) (h : RAV g w v a) : a.inB m = true → RAV g' w v a := by
  induction h with
  | c h => exact fun _ => .c (hI ▸ h)
  | nil => exact fun _ => .nil
  | own t sz xs h =>
    intro _
    obtain ⟨h0, hs, e, cells, ho, hv, hb⟩ := h
    exact .own _ sz xs ⟨h0, hs, e, cells, ho, fun i j x p hx hp => by rw [hI]; exact hv i j x p hx hp, fun b hb' => ⟨by rw [hτ]; exact (hb b hb').1, fun o => by rw [hI]; exact (hb b hb').2 o⟩⟩
  | agg vs cs h _ ih => exact fun hb => .agg vs cs h (fun i v a hv ha => ih i v a hv ha (inBL_get (by simpa [AV.inB] using hb) i a ha))
  | tup vs cs h _ ih => exact fun hb => .tup vs cs h (fun i v a hv ha => ih i v a hv ha (inBL_get (by simpa [AV.inB] using hb) i a ha))
  | box id off b h => exact fun hb => .box id off b (hβ _ _ (by simpa [AV.inB] using hb) h)
  | eptr b o off cs vs hc hv => exact fun _ => .eptr b o off cs vs (fun j hj => by rw [hI]; exact hc j hj) (fun j p hp => by rw [hI]; exact hv j p hp)
  | ptrs b o cap l hcap hc =>
    intro hb
    refine .ptrs b o cap l hcap (fun i p hp => ?_)
    obtain ⟨h1, bk, h2, h3⟩ := hc i p hp
    simp only [AV.inB, List.all_eq_true] at hb
    exact ⟨by rw [hI]; exact h1, bk, hβ _ _ (by simpa using hb p (List.mem_of_getElem? hp)) h2, h3⟩
  | pptr b o bk p hi hb hc => exact fun hbb => .pptr b o bk p (by rw [hI]; exact hi) (hβ _ _ (by simpa [AV.inB] using hbb) hb) hc
  | fn k vs cs h _ ih => exact fun hb => .fn k vs cs h (fun i v a hv ha => ih i v a hv ha (inBL_get (by simpa [AV.inB] using hb) i a ha))
  | nilptr => exact fun _ => .nilptr
  | any => exact fun _ => .any

/-- Variables that nobody speaks of are forgotten. -/
theorem Weak.take {k0 m : Nat} {fr : Fr} {σ : St} (hm : k0 ≤ m) (hf : ∀ d, (fr.get d).inB m = true) (hs : ∀ (i : Nat) cs, i < m → σ[i]? = some cs → AV.inB.inBL m cs = true) : Weak k0 fr σ fr (σ.take m) := by
  intro c g w tmps hk hi hfr
  let g' : G := { g with β := g.β.take m }
  have hβ : ∀ (k b : Nat), k < m → g.β[k]? = some b → g'.β[k]? = some b := fun k b hk hb => by show (g.β.take m)[k]? = some b; rw [List.getElem?_take_of_lt hk]; exact hb
  have hmem : ∀ b, b ∈ g.β.take m → b ∈ g.β := fun b hb => List.mem_of_mem_take hb
  refine ⟨g', ⟨hi.os, hi.tape, hi.output, hi.size, hi.old, hi.Ile, hi.Iold, hi.Ilt, ?_, fun b hb => hi.βnew b ?_, (List.take_sublist _ _).nodup hi.βnd, ?_, fun b hb => hi.βI b (hmem b hb), fun b hb => hi.βlt b (hmem b hb), fun t b ht => ?_, hi.τinj, fun id cs b hs' hb => ?_⟩,
    fun d => RAV.inB (g := g) (g' := g') rfl rfl hβ (hfr d) (hf d)⟩
  · show (g.β.take m).take c.β0.length = c.β0
    rw [List.take_take, hk, Nat.min_eq_left hm, ← hk]
    exact hi.βpre
  · change b ∈ (g.β.take m).drop c.β0.length at hb
    rw [List.drop_take] at hb
    exact List.mem_of_mem_take hb
  · show (g.β.take m).length = (σ.take m).length
    simp [hi.βlen]
  · obtain ⟨h1, h2, h3⟩ := hi.τnew t b ht
    exact ⟨h1, h2, fun hb => h3 (hmem b hb)⟩
  · rw [List.getElem?_take] at hs'
    split at hs'
    · rename_i hid
      change (g.β.take m)[id]? = some b at hb
      rw [List.getElem?_take_of_lt hid] at hb
      obtain ⟨cur, e, hh, hr⟩ := hi.store id cs b hs' hb
      exact ⟨cur, e, hh, hr.1, fun i v a hv ha => RAV.inB (g := g) (g' := g') rfl rfl hβ (hr.2 i v a hv ha) (inBL_get (hs id cs hid hs') i a ha)⟩
    · cases hs'

/-- Some rounds of a loop told one by one, then the rest. -/
def loopU (k0 : Nat) (body : (Exit → Fr → St → Prop) → Fr → St → Prop) (base : Fr → St → Prop) (Q : Exit → Fr → St → Prop) : Nat → Fr → St → Prop
  | 0, fr, σ => base fr σ
  | k + 1, fr, σ => body (fun e fr σ => match e with | .normal => ∃ fr' σ', Weak k0 fr σ fr' σ' ∧ loopU k0 body base Q k fr' σ' | e => Q e fr σ) fr σ

/-- THE JUDGEMENT ON CODE. V: the slots that are told on from region to region; k0: how many variables the call was handed. -/
def awp (P : Program) (V : List Nat) (k0 : Nat) : Code → (Exit → Fr → St → Prop) → Fr → St → Prop
  | .skip, Q, fr, σ => Q .normal fr σ
  | .seq x y, Q, fr, σ => awp P V k0 x (fun e fr σ => match e with | .normal => ∃ fr' σ', Weak k0 fr σ fr' σ' ∧ awp P V k0 y Q fr' σ' | e => Q e fr σ) fr σ
  | .cond c x y, Q, fr, σ => (match fr.ev c with | .c (.bool b) => (b = true → awp P V k0 x Q fr σ) ∧ (b = false → awp P V k0 y Q fr σ) | _ => False)
  | .block id c, Q, fr, σ => awp P V k0 c (fun e fr σ => match e with | .exit id' => if id' = id then Q .normal fr σ else Q (.exit id') fr σ | e => Q e fr σ) fr σ
  | .exit id, Q, fr, σ => Q (.exit id) fr σ
  | .ret, Q, fr, σ => Q .ret fr σ
  | .loop c, Q, fr, σ => ∃ k, loopU k0 (awp P V k0 c) (fun fr σ => ∃ J : Nat → Fr → St → Prop, (∃ n fr' σ', Weak k0 fr σ fr' σ' ∧ J n fr' σ') ∧ ∀ n fr σ, J n fr σ → awp P V k0 c (fun e fr σ => match e with | .normal => ∃ m fr' σ', m < n ∧ Weak k0 fr σ fr' σ' ∧ J m fr' σ' | e => Q e fr σ) fr σ) Q k fr σ
  | .region _ ops false, Q, fr, σ => aops P ops.toList ops.toList fr σ fun fr σ => Q .normal (prune V fr) σ
  | .region _ ops true, Q, fr, σ => (∃ pre, drawOk ops pre = true ∧ aqs P ops.toList (ops.toList.take pre) fr σ fun fr' => aops P ops.toList (ops.toList.drop pre) fr' σ fun fr σ => Q .normal (prune V fr) σ) ∨ ∃ pl, planOk ops pl = true ∧ ad P ops pl fr σ fun fr σ => Q .normal (prune V fr) σ
  | _, _, _, _ => False

def codeOk (N : Nat) : Code → Bool
  | .seq x y => codeOk N x && codeOk N y
  | .cond _ x y => codeOk N x && codeOk N y
  | .block _ c => codeOk N c
  | .loop c => codeOk N c
  | .region _ ops _ => ops.toList.all (opOk N)
  | _ => true

def LoopIn (P : Program) (c : Code) (Q : Exit → Act → World → Prop) (a : Act) (w : World) : Prop := ∀ b k cs, ∃ e a' w', Q e a' w' ∧ Arrives P (lone (b.at a (.code c :: .inLoop c :: k)) cs w) b k cs e a' w'
theorem wp_loop_in {P : Program} {Q : Exit → Act → World → Prop} {a : Act} {w : World} {c : Code} (h : LoopIn P c Q a w) : (Code.loop c).wp P Q a w := by
  intro b k cs
  obtain ⟨e, a', w', hq, harr⟩ := h b k cs
  exact ⟨e, a', w', hq, .of_steps (.one step_loop) harr⟩
theorem in_round {P : Program} {Q : Exit → Act → World → Prop} {a : Act} {w : World} {c : Code} (h : c.wp P (Exit.then (fun a w => LoopIn P c Q a w) Q) a w) : LoopIn P c Q a w := by
  intro b k cs
  obtain ⟨e, a₁, w₁, hq, harr⟩ := h b (.inLoop c :: k) cs
  cases e with
  | normal =>
    obtain ⟨e₂, a₂, w₂, hq₂, harr₂⟩ := hq b k cs
    exact ⟨e₂, a₂, w₂, hq₂, .of_steps (Steps.trans harr (.one step_inLoop)) harr₂⟩
  | exit id => exact ⟨_, a₁, w₁, hq, .pass (x := .inLoop c) rfl (fun _ _ => .inl (by simp)) harr⟩
  | goto l => exact ⟨_, a₁, w₁, hq, .pass (x := .inLoop c) rfl (fun _ _ => .inl (by simp)) harr⟩
  | ret => exact ⟨_, a₁, w₁, hq, .pass (x := .inLoop c) rfl (fun _ _ => .inl (by simp)) harr⟩
  | panic ch => exact ⟨_, a₁, w₁, hq, .pass (x := .inLoop c) rfl (fun _ _ => .inl (by simp)) harr⟩
  | outgrown => exact ⟨_, a₁, w₁, hq, .pass (x := .inLoop c) rfl (fun _ _ => .inl (by simp)) harr⟩
theorem in_n {P : Program} {Q : Exit → Act → World → Prop} {c : Code} (R : Nat → Act → World → Prop)
    (round : ∀ n a w, R n a w → c.wp P (Exit.then (fun a' w' => ∃ m, m < n ∧ R m a' w') Q) a w) : ∀ n a w, R n a w → LoopIn P c Q a w := by
  intro n
  induction n using Nat.strongRecOn with
  | _ n ih =>
    intro a w hI
    refine in_round (wp_mono (round n a w hI) fun e a' w' he => ?_)
    cases e with
    | normal => obtain ⟨m, hlt, hR⟩ := he; exact ih m hlt a' w' hR
    | _ => exact he

theorem awp_sound {P : Program} {V : List Nat} {c : Ctx} {N : Nat} (hm : P.follows .mixedOrders = true) : ∀ (code : Code) (Q : Exit → Fr → St → Prop) (fr : Fr) (σ : St) (a : Act) (w : World), codeOk N code = true → awp P V c.β0.length code Q fr σ → Sim c N a w fr σ →
    code.wp P (fun e a w => ∃ fr σ, Sim c N a w fr σ ∧ Q e fr σ) a w := by
  intro code
  induction code with
  | skip => exact fun Q fr σ a w _ h hs => wp_skip ⟨fr, σ, hs, h⟩
  | exit id => exact fun Q fr σ a w _ h hs => wp_exit ⟨fr, σ, hs, h⟩
  | ret => exact fun Q fr σ a w _ h hs => wp_ret ⟨fr, σ, hs, h⟩
  | seq x y ihx ihy =>
    intro Q fr σ a w hok h hs
    simp only [codeOk, Bool.and_eq_true] at hok
    simp only [awp] at h
    refine wp_seq (wp_mono (ihx _ fr σ a w hok.1 h hs) fun e a w => ?_)
    rintro ⟨fr', σ', hs', hq⟩
    cases e with
    | normal =>
      obtain ⟨fr2, σ2, hweak, hq⟩ := hq
      obtain ⟨g, hi, hf, hN, hd⟩ := hs'
      obtain ⟨g2, hi2, hf2⟩ := hweak c g w a.tmps rfl hi hf
      exact ihy Q fr2 σ2 a w hok.2 hq ⟨g2, hi2, hf2, hN, hd⟩
    | _ => exact ⟨fr', σ', hs', hq⟩
  | cond t x y ihx ihy =>
    intro Q fr σ a w hok h hs
    simp only [codeOk, Bool.and_eq_true] at hok
    simp only [awp] at h
    split at h
    · rename_i b hb
      have hs' := hs
      obtain ⟨g, hi, hf, hN, hd⟩ := hs
      have hv := ev_sound hf t
      rw [hb] at hv
      have hv := hv.c_inv
      generalize hvt : a.eval t = v at hv
      cases hv
      refine wp_cond_split hvt (fun hb => ?_) (fun hb => ?_)
      · exact ihx Q fr σ a w hok.1 (h.1 hb) hs'
      · exact ihy Q fr σ a w hok.2 (h.2 hb) hs'
    · exact h.elim
  | block id x ih =>
    intro Q fr σ a w hok h hs
    simp only [awp] at h
    refine wp_block (wp_mono (ih _ fr σ a w hok h hs) fun e a w => ?_)
    rintro ⟨fr', σ', hs', hq⟩
    cases e with
    | exit id' =>
      simp only [Exit.inBlock] at hq ⊢
      split
      · rename_i he; simp only [he, if_true] at hq; exact ⟨fr', σ', hs', hq⟩
      · rename_i he; simp only [he, if_false] at hq; exact ⟨fr', σ', hs', hq⟩
    | _ => exact ⟨fr', σ', hs', hq⟩
  | loop x ih =>
    intro Q fr σ a w hok h hs
    simp only [awp] at h
    obtain ⟨k, h⟩ := h
    refine wp_loop_in ?_
    induction k generalizing fr σ a w with
    | zero =>
      simp only [loopU] at h
      obtain ⟨J, ⟨n, fr0, σ0, hweak0, hJ⟩, hround⟩ := h
      obtain ⟨g0, hi0, hf0, hN0, hd0⟩ := hs
      obtain ⟨g1, hi1, hf1⟩ := hweak0 c g0 w a.tmps rfl hi0 hf0
      refine in_n (fun n a w => ∃ fr σ, J n fr σ ∧ Sim c N a w fr σ) (fun n a w hI => ?_) n a w ⟨fr0, σ0, hJ, g1, hi1, hf1, hN0, hd0⟩
      obtain ⟨fr1, σ1, hJ1, hs1⟩ := hI
      refine wp_mono (ih _ fr1 σ1 a w hok (hround _ fr1 σ1 hJ1) hs1) fun e a' w' => ?_
      rintro ⟨fr', σ', hs', hq⟩
      cases e with
      | normal =>
        obtain ⟨m, fr2, σ2, hlt, hweak, hJ2⟩ := hq
        obtain ⟨g, hi, hf, hN, hd⟩ := hs'
        obtain ⟨g2, hi2, hf2⟩ := hweak c g w' a'.tmps rfl hi hf
        exact ⟨m, hlt, fr2, σ2, hJ2, g2, hi2, hf2, hN, hd⟩
      | _ => exact ⟨fr', σ', hs', hq⟩
    | succ k ihk =>
      simp only [loopU] at h
      refine in_round (wp_mono (ih _ fr σ a w hok h hs) fun e a' w' => ?_)
      rintro ⟨fr', σ', hs', hq⟩
      cases e with
      | normal =>
        obtain ⟨fr2, σ2, hweak, hq⟩ := hq
        obtain ⟨g, hi, hf, hN, hd⟩ := hs'
        obtain ⟨g2, hi2, hf2⟩ := hweak c g w' a'.tmps rfl hi hf
        exact ihk fr2 σ2 a' w' ⟨g2, hi2, hf2, hN, hd⟩ hq
      | _ => exact ⟨fr', σ', hs', hq⟩
  | region id ops draw =>
    intro Q fr σ a w hok h hs
    have hok' : ∀ o ∈ ops.toList, opOk N o = true := fun o ho => List.all_eq_true.1 hok o ho
    cases draw with
    | false =>
      simp only [awp] at h
      exact wp_region_list (aops_sound (fun a w fr σ hk hs => ⟨_, σ, hs.prune V, hk⟩) ops.toList fr σ a w hok' h hs)
    | true =>
      simp only [awp] at h
      rcases h with ⟨pre, hB, h⟩ | ⟨pl, hB, h⟩
      · exact draw_sound hm hB hok' h hs (fun a w fr σ hk hs => ⟨_, σ, hs.prune V, hk⟩)
      · exact plan_sound hm hB hok' h hs (fun a w fr σ hk hs => ⟨_, σ, hs.prune V, hk⟩)
  | _ => exact fun Q fr σ a w _ h => by simp [awp] at h

end Go.Proofs.Ytnhchphmmdgphaa.Abs

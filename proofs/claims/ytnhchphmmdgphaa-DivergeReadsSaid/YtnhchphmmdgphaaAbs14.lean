/- Regions that draw their order: any order serves; the code's judgement; calls. -/
import Derived.Test.YtnhchphmmdgphaaAbs13
namespace Go.Proofs.Ytnhchphmmdgphaa.Abs
open Go
set_option linter.unusedVariables false
set_option linter.unusedSimpArgs false

theorem DC.set {ops : Array Oper} {listed : Array Bool} {i : Nat} (h : DC ops listed) (hr : i ∈ Region.ready .any ops listed) : DC ops (listed.setIfInBounds i true) := by
  intro k o ho hl e he hb
  by_cases hki : k = i
  · subst hki
    obtain ⟨_, oj, hoj, hall⟩ := mem_ready.1 hr
    rw [ho] at hoj
    cases hoj
    exact getD_set_true (hall e he hb)
  · rw [getD_set_ne false (Ne.symm hki)] at hl
    exact getD_set_true (h k o ho hl e he hb)

theorem getD_tf {listed : Array Bool} {i : Nat} (h : listed.getD i true = false) : listed.getD i false = false := by
  rcases Nat.lt_or_ge i listed.size with h' | h'
  · simp [h'] at h ⊢
    exact h
  · simp [Array.getElem?_eq_none h']

/-- A quiet operation that may come up now may be taken first. -/
theorem wpAnyA_first {P : Program} {ops : Array Oper} {σ : St} {pre : Nat} {QF : Array Bool → (Nat → AV) → Prop} (hQF : ∀ L F, QF L F → ∀ j, j < pre → L.getD j false = true) {i : Nat} {oi : Oper} {v : AV} (hi : ops[i]? = some oi) (hip : i < pre)
    (hw : ∀ j oj, ops[j]? = some oj → pre ≤ j → waitsB ops ops.size i j = true) :
    ∀ (fuel : Nat) (listed : Array Bool) (F : Nat → AV), DC ops listed →
      (∀ j oj, ops[j]? = some oj → j < pre → j ≠ i → listed.getD j true = false → (∀ e ∈ oj.after, Region.binds .any e = true → e.on ≠ i) → oi.apart ops oj = true) →
      i ∈ Region.ready .any ops listed → YA P ops σ oi v F → wpAnyA P ops σ pre QF fuel (listed.setIfInBounds i true) (putF F oi.dst v) → wpAnyA P ops σ pre QF (fuel + 1) listed F := by
  have suffix : ∀ (listed : Array Bool), DC ops listed → i ∈ Region.ready .any ops listed → ∀ j ∈ Region.ready .any ops listed, j < pre := by
    intro listed hdc hr j hj
    rcases Nat.lt_or_ge j pre with h | h
    · exact h
    · obtain ⟨_, oj, hoj, _⟩ := mem_ready.1 hj
      have h1 := waits_ready hdc _ i j (hw j oj hoj h) hj
      have h2 := getD_tf (mem_ready.1 hr).1
      rw [h1] at h2
      cases h2
  intro fuel
  induction fuel with
  | zero =>
    intro listed F hdc _ hr hy H
    refine ⟨fun h => (by rw [h] at hr; cases hr), fun j hj => ⟨suffix listed hdc hr j hj, ?_⟩⟩
    by_cases hji : j = i
    · subst hji
      simp only [qA, hi]
      exact ⟨v, hy, H⟩
    · exfalso
      have h1 := hQF _ _ H j (suffix listed hdc hr j hj)
      rw [getD_set_ne false (Ne.symm hji)] at h1
      have h2 := getD_tf (mem_ready.1 hj).1
      rw [h1] at h2
      cases h2
  | succ fuel ih =>
    intro listed F hdc hfree hr hy H
    refine ⟨fun h => (by rw [h] at hr; cases hr), fun j hj => ⟨suffix listed hdc hr j hj, ?_⟩⟩
    by_cases hji : j = i
    · subst hji
      simp only [qA, hi]
      exact ⟨v, hy, H⟩
    · obtain ⟨hjp, h1⟩ := H.2 j (ready_mono hj hji)
      obtain ⟨hjun, oj, hoj, hall⟩ := mem_ready.1 hj
      have hnot : ∀ e ∈ oj.after, Region.binds .any e = true → e.on ≠ i := fun e he hb heq => by
        have h1 := hall e he hb
        have h0 := getD_tf (mem_ready.1 hr).1
        rw [heq] at h1
        rw [h1] at h0
        cases h0
      obtain ⟨a1, a2, a3⟩ := Oper.apart_spec (hfree j oj hoj (suffix listed hdc hr j hj) hji hjun hnot)
      simp only [qA, hoj] at h1 ⊢
      obtain ⟨u, hu, hk⟩ := h1
      refine ⟨u, (YA.put a1).1 hu, ?_⟩
      have hfree' : ∀ k ok, ops[k]? = some ok → k < pre → k ≠ i → (listed.setIfInBounds j true).getD k true = false →
          (∀ e ∈ ok.after, Region.binds .any e = true → e.on ≠ i) → oi.apart ops ok = true := fun k ok hk hkp hki hun hno => by
        refine hfree k ok hk hkp hki ?_ hno
        by_cases hjk : j = k
        · subst hjk; exact hjun
        · rw [getD_set_ne true hjk] at hun; exact hun
      refine ih (listed.setIfInBounds j true) _ (hdc.set hj) hfree' (ready_mono hr (Ne.symm hji)) ((YA.put a3).2 hy) ?_
      rw [Array.setIfInBounds_comm _ _ hji, ← putF_comm F v u a2]
      exact hk

/-- The check on a region: its first 'pre' operations in the text's order, each free of the ones that need not wait for it; the rest wait for all of them and come one by one. -/
def lexA (ops : Array Oper) (pre : Nat) : Nat → Nat → Array Bool → Bool
  | 0, _, _ => true
  | n + 1, k, listed => (Region.ready .any ops listed).contains k && (match ops[k]? with
      | some ok => (List.range pre).all fun j => j == k || listed.getD j true || (match ops[j]? with
        | some oj => oj.after.any (fun e => Region.binds .any e && e.on == k) || ok.apart ops oj
        | _ => true)
      | _ => false) && lexA ops pre n (k + 1) (listed.setIfInBounds k true)

def lexS (ops : Array Oper) : Nat → Nat → Array Bool → Bool
  | 0, _, listed => Region.ready .any ops listed == []
  | n + 1, k, listed => (Region.ready .any ops listed == [k]) && lexS ops n (k + 1) (listed.setIfInBounds k true)

def listedTo (n k : Nat) : Array Bool := (List.range k).foldl (fun l i => l.setIfInBounds i true) (Array.replicate n false)

def drawOk (ops : Array Oper) (pre : Nat) : Bool :=
  decide (pre ≤ ops.size) && lexA ops pre pre 0 (Array.replicate ops.size false) && lexS ops (ops.size - pre) pre (listedTo ops.size pre) &&
  ((List.range ops.size).all fun j => decide (j < pre) || (List.range pre).all fun i => waitsB ops ops.size i j) && (List.range pre).all fun j => (listedTo ops.size pre).getD j false

theorem listedTo_succ (n k : Nat) : listedTo n (k + 1) = (listedTo n k).setIfInBounds k true := by
  simp [listedTo, List.range_succ]

/-- The quiet operations, told by the text's order. -/
def aqs (P : Program) (ops : List Oper) : List Oper → Fr → St → (Fr → Prop) → Prop
  | [], fr, σ, K => K fr
  | o :: r, fr, σ, K => aguard ops o fr.get (∃ v, AQ P o fr.ev σ v ∧ aqs P ops r (fr.put o.dst v) σ K) (aqs P ops r (fr.put o.dst (.tup [])) σ K)

theorem aqs_lex {P : Program} {ops : Array Oper} {σ : St} {pre : Nat} {QF : Array Bool → (Nat → AV) → Prop} {K : Fr → Prop} (hQF : ∀ L F, QF L F → ∀ j, j < pre → L.getD j false = true)
    (hw : ∀ i j oj, i < pre → ops[j]? = some oj → pre ≤ j → waitsB ops ops.size i j = true) (hK : ∀ fr, K fr → QF (listedTo ops.size pre) fr.get) :
    ∀ (l : List Oper) (k : Nat) (fr : Fr), k + l.length = pre → (∀ j, j < l.length → l[j]? = ops[k + j]?) → DC ops (listedTo ops.size k) → lexA ops pre l.length k (listedTo ops.size k) = true → aqs P ops.toList l fr σ K →
      wpAnyA P ops σ pre QF l.length (listedTo ops.size k) fr.get
  | [], k, fr, hkl, _, _, _, h => by
    have : k = pre := by simpa using hkl
    subst this
    exact hK fr h
  | o :: l, k, fr, hkl, hl, hdc, hB, h => by
    have h0 : ops[k]? = some o := by have := hl 0 (by simp); simpa using this.symm
    simp only [List.length_cons, lexA, h0, Bool.and_eq_true] at hB
    obtain ⟨⟨hr, hf⟩, hB'⟩ := hB
    have hr' : k ∈ Region.ready .any ops (listedTo ops.size k) := by simpa using hr
    simp only [aqs] at h
    -- the value that it yields
    obtain ⟨v, hy, hrest⟩ : ∃ v, YA P ops σ o v fr.get ∧ aqs P ops.toList l (fr.put o.dst v) σ K := by
      unfold YA
      rw [evF_get]
      unfold aguard at h ⊢
      split at h
      · rename_i hg
        exact h
      · rename_i j want hg
        split at h
        · rename_i p hp
          split at h
          · rename_i d hd
            split at h
            · rename_i b hb
              by_cases hbw : b = want
              · obtain ⟨v, h1, h2⟩ := h.1 hbw
                exact ⟨v, ⟨fun _ => h1, fun hn => absurd hbw hn⟩, h2⟩
              · exact ⟨.tup [], ⟨fun hn => absurd hn hbw, fun _ => rfl⟩, h.2 hbw⟩
            · exact ⟨.tup [], rfl, h⟩
            · exact h.elim
          · exact h.elim
        · exact h.elim
    have hfree : ∀ j oj, ops[j]? = some oj → j < pre → j ≠ k → (listedTo ops.size k).getD j true = false → (∀ e ∈ oj.after, Region.binds .any e = true → e.on ≠ k) → o.apart ops oj = true := by
      intro j oj hj hjp hjk hun hno
      have := List.all_eq_true.1 hf j (List.mem_range.2 hjp)
      simp only [Bool.or_eq_true, beq_iff_eq, hun, hj, Bool.false_eq_true, or_false, hjk, false_or] at this
      rcases this with h1 | h1
      · exfalso
        obtain ⟨e, he, hb⟩ := Array.any_eq_true'.1 h1
        simp only [Bool.and_eq_true, beq_iff_eq] at hb
        exact hno e he hb.1 hb.2
      · exact h1
    refine wpAnyA_first hQF h0 (by simp at hkl; omega) (fun j oj hj hp => hw k j oj (by simp at hkl; omega) hj hp) l.length _ _ hdc hfree hr' hy ?_
    rw [← listedTo_succ, ← get_put]
    refine aqs_lex hQF hw hK l (k + 1) _ (by simp at hkl; omega) (fun j hj => ?_) ?_ ?_ hrest
    · have := hl (j + 1) (by simp; omega)
      rw [List.getElem?_cons_succ] at this
      rw [this]
      congr 1
      omega
    · rw [listedTo_succ]
      exact hdc.set hr'
    · rw [listedTo_succ]
      exact hB'

theorem wpAny_of_A {P : Program} {c : Ctx} {N : Nat} {ops : Array Oper} {σ : St} {pre m : Nat} {QF : Array Bool → (Nat → AV) → Prop} {Q : Exit → Act → World → Prop} (hok : ∀ (i : Nat) o, ops[i]? = some o → opOk N o = true)
    (hQ : ∀ L F a w, QF L F → SimF c N a w F σ → wpAny P .any ops Q m L a w) : ∀ (n : Nat) (listed : Array Bool) (F : Nat → AV) (a : Act) (w : World), wpAnyA P ops σ pre QF n listed F → SimF c N a w F σ → wpAny P .any ops Q (n + m) listed a w
  | 0, listed, F, a, w, h, hs => by rw [Nat.zero_add]; exact hQ listed F a w h hs
  | n + 1, listed, F, a, w, h, hs => by
    rw [show n + 1 + m = (n + m) + 1 by omega]
    refine ⟨fun h0 => absurd h0 h.1, fun i hi => ?_⟩
    obtain ⟨_, hq⟩ := h.2 i hi
    unfold wpOp
    unfold qA at hq
    cases ho : ops[i]? with
    | none =>
      simp only [ho] at hq
      exact wpAny_of_A hok hQ n _ F a w hq hs
    | some o =>
      simp only [ho] at hq
      obtain ⟨v, hy, hk⟩ := hq
      have hs' := hs
      obtain ⟨g, hinv, hf, hN, hd⟩ := hs
      rcases aguard_sound hf hy with ⟨hw, hy⟩ | ⟨hw, rfl⟩
      · simp only [hw, if_true]
        exact .inl (quiet_wp (hok i o ho) hy hs' (fun a' w' hs2 => wpAny_of_A hok hQ n _ _ a' w' hk hs2))
      · simp only [hw, Bool.false_eq_true, if_false]
        exact wpAny_of_A hok hQ n _ _ _ w hk (SimF.put hinv hf hN hd (dst_lt (hok i o ho)) (.tup #[] [] rfl (fun i v a hv => by simp at hv)))

/-- What comes one by one. -/
theorem wpAny_seq {P : Program} {ops : Array Oper} {Q : Exit → Act → World → Prop} : ∀ (l : List Oper) (k : Nat) (listed : Array Bool) (a : Act) (w : World), (∀ j, l[j]? = ops[k + j]?) → lexS ops l.length k listed = true → wpList P ops Q l a w → wpAny P .any ops Q l.length listed a w
  | [], k, listed, a, w, _, hB, h => by
    simp only [List.length_nil, lexS, beq_iff_eq] at hB
    exact ⟨hB, h⟩
  | o :: l, k, listed, a, w, hl, hB, h => by
    have h0 : ops[k]? = some o := by simpa using (hl 0).symm
    simp only [List.length_cons, lexS, Bool.and_eq_true, beq_iff_eq] at hB
    obtain ⟨hr, hB'⟩ := hB
    refine ⟨fun e => (by rw [hr] at e; cases e), fun i hi => ?_⟩
    rw [hr] at hi
    simp only [List.mem_singleton] at hi
    subst hi
    have ih := fun a w => wpAny_seq (P := P) (Q := Q) l (i + 1) (listed.setIfInBounds i true) a w (fun j => by have := hl (j + 1); rw [List.getElem?_cons_succ] at this; rw [this]; congr 1; omega) hB'
    unfold wpOp
    simp only [h0]
    unfold wpList at h
    split
    · rename_i hw
      rw [if_pos hw] at h
      exact h.imp (Oper.wp_mono ih) id
    · rename_i hw
      rw [if_neg hw] at h
      exact ih _ _ h

theorem draw_sound {P : Program} {c : Ctx} {N : Nat} {ops : Array Oper} {id : Nat} {σ : St} {fr : Fr} {pre : Nat} {K : Fr → St → Prop} {Q : Exit → Act → World → Prop} (hm : P.follows .mixedOrders = true) (hB : drawOk ops pre = true) (hok : ∀ o ∈ ops.toList, opOk N o = true)
    (h : aqs P ops.toList (ops.toList.take pre) fr σ fun fr' => aops P ops.toList (ops.toList.drop pre) fr' σ K) {a : Act} {w : World} (hs : Sim c N a w fr σ) (hQ : ∀ a w fr σ, K fr σ → Sim c N a w fr σ → Q .normal a w) :
    (Code.region id ops true).wp P Q a w := by
  simp only [drawOk, Bool.and_eq_true, decide_eq_true_eq] at hB
  obtain ⟨⟨⟨⟨hpre, hlex⟩, hseq⟩, hwt⟩, hli⟩ := hB
  have hw : ∀ i j oj, i < pre → ops[j]? = some oj → pre ≤ j → waitsB ops ops.size i j = true := by
    intro i j oj hi hj hp
    have hjs : j < ops.size := (Array.getElem?_eq_some_iff.1 hj).1
    have := List.all_eq_true.1 hwt j (List.mem_range.2 hjs)
    simp only [Bool.or_eq_true, decide_eq_true_eq] at this
    rcases this with h | h
    · omega
    · exact List.all_eq_true.1 h i (List.mem_range.2 hi)
  have hl : (ops.toList.take pre).length = pre := by simp; omega
  let QF : Array Bool → (Nat → AV) → Prop := fun L F => L = listedTo ops.size pre ∧ ∃ fr', F = fr'.get ∧ aops P ops.toList (ops.toList.drop pre) fr' σ K
  have hA := aqs_lex (P := P) (ops := ops) (σ := σ) (pre := pre) (QF := QF) (K := fun fr' => aops P ops.toList (ops.toList.drop pre) fr' σ K)
    (fun L F hq j hj => by rw [hq.1]; exact List.all_eq_true.1 hli j (List.mem_range.2 hj)) hw (fun fr' hk => ⟨rfl, fr', rfl, hk⟩) (ops.toList.take pre) 0 fr (by rw [hl]; omega)
    (fun j hj => by rw [hl] at hj; rw [List.getElem?_take_of_lt hj]; simp)
    (fun k o ho hl => by simp [listedTo, Array.getElem?_replicate] at hl; split at hl <;> simp at hl) (by rw [hl]; exact hlex) h
  rw [hl] at hA
  obtain ⟨g, hi, hf, hN, hd⟩ := hs
  obtain ⟨hi', st⟩ := hi.drew
  refine wp_region_any hm ?_
  have := wpAny_of_A (P := P) (c := c) (N := N) (m := ops.size - pre) (Q := Q) (fun i o ho => hok o (by rw [← Array.getElem?_toList] at ho; exact List.mem_of_getElem? ho)) (fun L F a w hq hs => by
    obtain ⟨rfl, fr', rfl, hk⟩ := hq
    have hls : (ops.toList.drop pre).length = ops.size - pre := by simp
    rw [← hls]
    exact wpAny_seq (ops.toList.drop pre) pre _ a w (fun j => by rw [List.getElem?_drop]; simp) (by rw [hls]; exact hseq)
      (aops_sound hQ _ fr' σ a w (fun o ho => hok o (List.mem_of_mem_drop ho)) hk hs)) pre (listedTo ops.size 0) fr.get a { w with drawn := w.drawn + 1 } hA ⟨g, hi', fun d => (hf d).stp st, hN, hd⟩
  rwa [show pre + (ops.size - pre) = ops.size by omega] at this

end Go.Proofs.Ytnhchphmmdgphaa.Abs

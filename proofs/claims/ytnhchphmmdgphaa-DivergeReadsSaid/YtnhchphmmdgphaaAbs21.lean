/- From a law's data to plain values. -/
import Derived.Test.YtnhchphmmdgphaaAbs20
import Derived.ChangeShapes
import Derived.ChangeSlices
import Derived.ChangeArms
import Derived.ChangeOld
import Derived.DataReads
namespace Go.Proofs.Ytnhchphmmdgphaa.Abs
open Go
set_option linter.unusedVariables false
set_option linter.unusedSimpArgs false

def ShapedF (S : TypeId → List PV → Prop) : List TypeId → List PV → Prop
  | [], ps => ps = []
  | t :: ts, ps => ∃ p q, ps = p ++ q ∧ S t p ∧ ShapedF S ts q

/-- Plain values of this type's shape. -/
def Shaped (P : Program) : Nat → TypeId → List PV → Prop
  | 0, _, _ => False
  | n + 1, t, ps => match P.underlying t with
    | some .bool => ∃ b, ps = [.bool b]
    | some (.int k) => ∃ x, ps = [.int k x] ∧ (Lit.int k x).wf = true
    | some .string => ∃ s : List UInt8, ps = [.str s] ∧ s.length ≤ 140737488351232
    | some (.slice e) => ∃ xs, ps = [.list (P.cellsOf e) xs] ∧ (∀ x ∈ xs, Shaped P n e x) ∧ xs.length ≤ 9223372036854775807 ∧ xs.length * P.bytesOf e ≤ 140737488351232
    | some (.struct fs) => ShapedF (Shaped P n) (fs.toList.map (·.type)) ps
    | _ => False

def tilesB (P : Program) : Nat → List Field → Option Nat
  | o, [] => some o
  | o, f :: r => if f.offset = o then tilesB P (o + P.cellsOf f.type) r else none

def plainOk (P : Program) (L : List TypeId) : Bool := L.all fun t => match P.underlying t with
  | some .bool => true
  | some (.int _) => true
  | some .string => true
  | some (.slice e) => L.contains e && decide (0 < P.cellsOf e)
  | some (.struct fs) => fs.toList.all (fun f => L.contains f.type) && tilesB P 0 fs.toList == some (P.cellsOf t)
  | _ => false

def old (W : World) : Nat → Nat → Prop := fun b _ => b < W.heap.size

def RVs (W : World) (cs : List Value) (ps : List PV) : Prop := ps.length = cs.length ∧ ∀ (i : Nat) v p, cs[i]? = some v → ps[i]? = some p → RV (old W) W v p

theorem RVs.one {W : World} {v : Value} {p : PV} (h : RV (old W) W v p) : RVs W [v] [p] := ⟨rfl, fun i v' p' h1 h2 => by cases i with
  | zero => simp at h1 h2; subst h1; subst h2; exact h
  | succ i => simp at h1⟩
theorem RVs.app {W : World} {cs cs' : List Value} {ps ps' : List PV} (h : RVs W cs ps) (h' : RVs W cs' ps') : RVs W (cs ++ cs') (ps ++ ps') := by
  refine ⟨by simp [h.1, h'.1], fun i v p h1 h2 => ?_⟩
  by_cases hi : i < cs.length
  · rw [List.getElem?_append_left hi] at h1
    rw [List.getElem?_append_left (by rw [h.1]; exact hi)] at h2
    exact h.2 i v p h1 h2
  · rw [List.getElem?_append_right (by omega)] at h1
    rw [List.getElem?_append_right (by rw [h.1]; omega), h.1] at h2
    exact h'.2 _ v p h1 h2

theorem list_choice {α : Type} {R : Nat → α → Prop} : ∀ (n : Nat), (∀ i, i < n → ∃ x, R i x) → ∃ xs : List α, xs.length = n ∧ ∀ (i : Nat) x, xs[i]? = some x → R i x
  | 0, _ => ⟨[], rfl, fun i x h => by simp at h⟩
  | n + 1, h => by
    obtain ⟨xs, hl, hx⟩ := list_choice n (fun i hi => h i (by omega))
    obtain ⟨y, hy⟩ := h n (by omega)
    refine ⟨xs ++ [y], by simp [hl], fun i x hi => ?_⟩
    by_cases hin : i < n
    · rw [List.getElem?_append_left (by omega)] at hi
      exact hx i x hi
    · rw [List.getElem?_append_right (by omega)] at hi
      have : i = n := by
        have := (List.getElem?_eq_some_iff.1 hi).1
        simp at this; omega
      subst this
      simp [hl] at hi
      subst hi
      exact hy

theorem add_plain (b o n : Nat) : (⟨b, o, none⟩ : Addr).add n = ⟨b, o + n, none⟩ := by
  unfold Addr.add
  split
  · rename_i h; subst h; rfl
  · rfl
theorem cell_some {W : World} {a : Addr} {u : Value} (h : W.cell? a = some u) : a.spot = none ∧ a.block < W.heap.size := by
  unfold World.cell? at h
  split at h
  · rename_i c e y hb
    split at h
    · cases h
    · rename_i hs
      exact ⟨by simpa using hs, (Array.getElem?_eq_some_iff.1 hb).1⟩
  · cases h

theorem tiles_pv {P : Program} {W : World} {cs : List Value} {S : TypeId → List PV → Prop} : ∀ (l : List Field) (o : Nat), tilesB P o l = some cs.length →
    (∀ f ∈ l, ∃ ps, RVs W ((cs.drop f.offset).take (P.cellsOf f.type)) ps ∧ S f.type ps) → ∃ ps, RVs W (cs.drop o) ps ∧ ShapedF S (l.map (·.type)) ps
  | [], o, h, _ => by
    simp only [tilesB, Option.some.injEq] at h
    subst h
    exact ⟨[], ⟨by simp, fun i v p h1 => by simp at h1⟩, rfl⟩
  | f :: r, o, h, hf => by
    simp only [tilesB] at h
    split at h
    · rename_i ho
      obtain ⟨ps, h1, h2⟩ := hf f (by simp)
      obtain ⟨qs, h3, h4⟩ := tiles_pv r _ h (fun f' hf' => hf f' (by simp [hf']))
      refine ⟨ps ++ qs, ?_, ps, qs, rfl, h2, h4⟩
      have := h1.app h3
      rw [ho, ← List.drop_drop, List.take_append_drop] at this
      exact this
    · cases h

theorem weights_all {H : Type} {P : Program} {e : TypeId} {y : Nat} : ∀ {l : List (DataW H)} {d : DataW H}, d ∈ l → y ∈ d.weights P e → y ∈ DataW.weightsAll P e l
  | [], d, h, _ => by simp at h
  | d' :: r, d, h, hy => by
    simp only [DataW.weightsAll, List.mem_append]
    rcases List.mem_cons.1 h with rfl | h
    · exact .inl hy
    · exact .inr (weights_all h hy)
theorem weights_each {H : Type} {P : Program} {y : Nat} : ∀ {ts : List TypeId} {ds : List (DataW H)} {i : Nat} {t : TypeId} {d : DataW H}, ts[i]? = some t → ds[i]? = some d → y ∈ d.weights P t → y ∈ DataW.weightsEach P ts ds
  | [], ds, i, t, d, h, _, _ => by simp at h
  | t' :: ts, [], i, t, d, _, h, _ => by simp at h
  | t' :: ts, d' :: ds, 0, t, d, h1, h2, hy => by
    simp only [List.getElem?_cons_zero, Option.some.injEq] at h1 h2
    subst h1 h2
    simp only [DataW.weightsEach, List.mem_append]
    exact .inl hy
  | t' :: ts, d' :: ds, i + 1, t, d, h1, h2, hy => by
    simp only [List.getElem?_cons_succ] at h1 h2
    simp only [DataW.weightsEach, List.mem_append]
    exact .inr (weights_each h1 h2 hy)
theorem weights_at {H : Type} {P : Program} {ts : List TypeId} {ds : List (DataW H)} (h : (DataW.weightsEach P ts ds).all (· ≤ reachBytes) = true) (i : Nat) {t : TypeId} {d : DataW H} (h1 : ts[i]? = some t) (h2 : ds[i]? = some d) :
    ∀ y ∈ d.weights P t, y ≤ 140737488351232 := fun y hy => by
  have := List.all_eq_true.1 h y (weights_each h1 h2 hy)
  simp only [decide_eq_true_eq] at this
  exact this

theorem trod_pv {H : Type} {enc : TypeId × Value → H} {P : Program} {W : World} {spare : Nat → Bool} {held : Bool} {L : List TypeId} (hL : plainOk P L = true) : ∀ (fuel : Nat) (t : TypeId) (cs : List Value) (x : DataW H × List MemPlace), t ∈ L →
    DataW.trod enc P W 0 spare held fuel t cs = some x → (∀ y ∈ x.1.weights P t, y ≤ 140737488351232) → ∃ ps, RVs W cs ps ∧ Shaped P fuel t ps := by
  intro fuel
  induction fuel with
  | zero => intro t cs x _ h; simp [DataW.trod] at h
  | succ n ih =>
    intro t cs x ht h hwt
    have hp := List.all_eq_true.1 hL t ht
    split at hp
    · rename_i hu
      obtain ⟨b, rfl, _⟩ := DataW.trod_bool hu h
      exact ⟨[.bool b], .one (.bool b), by simp [Shaped, hu]⟩
    · rename_i k hu
      obtain ⟨m, rfl, _, hw⟩ := DataW.trod_int hu h
      exact ⟨[.int k m], .one (.int k m), by simp [Shaped, hu, hw]⟩
    · rename_i hu
      obtain ⟨s, rfl, rfl, hs⟩ := DataW.trod_string hu h
      have hs2 := hwt s.data.toList.length (by simp [DataW.weights])
      refine ⟨[.str s.data.toList], .one ?_, ?_⟩
      · have := RV.str (I := old W) (w := W) s.data.toList
        simpa using this
      · simp only [Shaped, hu]
        exact ⟨_, rfl, hs2⟩
    · rename_i e hu
      simp only [Bool.and_eq_true, decide_eq_true_eq, List.contains_iff_mem] at hp
      rcases DataW.trod_slice hu h with ⟨rfl, _⟩ | ⟨a, len, cap, elems, rest, m, hm, rfl, rfl, _, hlc, hcm, hel, hget, _⟩
      · refine ⟨[.list (P.cellsOf e) []], .one (.empty _ _ _), ?_⟩
        simp only [Shaped, hu]
        exact ⟨[], rfl, by simp, by simp, by simp⟩
      · obtain rfl : n = m := by omega
        have hwt2 : ∀ y ∈ (elems.length + rest.length) * P.bytesOf e :: (DataW.weightsAll P e (elems.map (·.1)) ++ DataW.weightsAll P e (rest.map (·.1))), y ≤ 140737488351232 := fun y hy => hwt y (by
          have : DataW.weights P t (DataW.slice (elems.map (·.1)) (rest.map (·.1))) = (elems.length + rest.length) * P.bytesOf e :: (DataW.weightsAll P e (elems.map (·.1)) ++ DataW.weightsAll P e (rest.map (·.1))) := by simp [DataW.weights, hu]
          simp only [this]
          exact hy)
        have hbytes := hwt2 _ (List.mem_cons_self ..)
        have key : ∀ i, i < len → ∃ ps, (∃ csi, W.cells? 0 (a.add (i * P.cellsOf e)) (P.cellsOf e) = some csi ∧ RVs W csi ps) ∧ Shaped P n e ps := by
          intro i hi
          have hg := hget i hi
          rw [List.getElem?_eq_getElem (by omega), Option.bind_eq_some_iff] at hg
          obtain ⟨csi, h1, h2⟩ := hg
          obtain ⟨ps, h3, h4⟩ := ih e csi _ hp.1 h2 (fun y hy => hwt2 y (List.mem_cons_of_mem _ (List.mem_append.2 (.inl (weights_all (List.mem_map_of_mem (List.getElem_mem _)) hy)))))
          exact ⟨ps, ⟨csi, h1, h3⟩, h4⟩
        obtain ⟨xs, hxl, hx⟩ := list_choice len key
        have hsh : ∀ x ∈ xs, Shaped P n e x := fun x hxm => by
          obtain ⟨i, hi⟩ := List.getElem?_of_mem hxm
          exact (hx i x hi).2
        have hsz : ∀ (i : Nat) x, xs[i]? = some x → x.length = P.cellsOf e ∧ ∀ j, j < P.cellsOf e → ∃ u p, W.cell? ((a.add (i * P.cellsOf e)).add j) = some u ∧ x[j]? = some p ∧ RV (old W) W u p := by
          intro i x hi
          obtain ⟨⟨csi, h1, h2⟩, _⟩ := hx i x hi
          obtain ⟨hb, hlen, hcell⟩ := World.cells?_some h1
          refine ⟨h2.1.trans hlen, fun j hj => ?_⟩
          have hjc : j < csi.length := by omega
          have hjx : j < x.length := by rw [h2.1]; exact hjc
          refine ⟨csi[j], x[j], ?_, List.getElem?_eq_getElem hjx, h2.2 j _ _ (List.getElem?_eq_getElem hjc) (List.getElem?_eq_getElem hjx)⟩
          have := hcell j hj
          rw [List.getElem?_eq_getElem hjc] at this
          exact this
        refine ⟨[.list (P.cellsOf e) xs], .one ?_, ?_⟩
        · by_cases h0 : len = 0
          · subst h0
            obtain rfl : xs = [] := List.eq_nil_of_length_eq_zero hxl
            exact .empty _ _ _
          · have hspot : a.spot = none ∧ a.block < W.heap.size := by
              have h00 : xs[0]? = some xs[0] := List.getElem?_eq_getElem (by omega)
              obtain ⟨u, p, h1, _⟩ := (hsz 0 _ h00).2 0 hp.2
              have e0 : (a.add (0 * P.cellsOf e)).add 0 = a := by simp [Addr.add]
              rw [e0] at h1
              exact cell_some h1
            obtain ⟨b, o, s⟩ := a
            obtain ⟨rfl, hbl⟩ := hspot
            rw [← hxl]
            refine .row b o cap (P.cellsOf e) xs (fun j => (W.cell? ⟨b, o + j, none⟩).getD undef) (fun x hxm => ?_) (by omega) (fun j hj => ⟨hbl, ?_⟩) (fun i j x p hi hj => ?_)
            · obtain ⟨i, hi⟩ := List.getElem?_of_mem hxm
              exact (hsz i x hi).1
            · have hi : j / P.cellsOf e < xs.length := by rw [Nat.div_lt_iff_lt_mul hp.2]; exact hj
              obtain ⟨u, p, h1, _⟩ := (hsz _ _ (List.getElem?_eq_getElem hi)).2 (j % P.cellsOf e) (Nat.mod_lt _ hp.2)
              have e2 : j / P.cellsOf e * P.cellsOf e + j % P.cellsOf e = j := by rw [Nat.mul_comm]; exact Nat.div_add_mod _ _
              rw [add_plain, add_plain, Nat.add_assoc, e2] at h1
              simp [h1]
            · have hjl : j < P.cellsOf e := by rw [← (hsz i x hi).1]; exact (List.getElem?_eq_some_iff.1 hj).1
              obtain ⟨u, p', h1, h2, h3⟩ := (hsz i x hi).2 j hjl
              rw [hj] at h2
              cases h2
              rw [add_plain, add_plain, Nat.add_assoc] at h1
              simpa [h1] using h3
        · simp only [Shaped, hu]
          exact ⟨xs, rfl, hsh, by rw [hxl]; unfold maxLen at hcm; omega, by rw [hxl]; exact Nat.le_trans (Nat.mul_le_mul_right _ (by omega)) hbytes⟩
    · rename_i fs hu
      simp only [Bool.and_eq_true, List.all_eq_true, List.contains_iff_mem, beq_iff_eq] at hp
      obtain ⟨xs, m, hm, rfl, hlen, hxl, hget⟩ := DataW.trod_struct hu h
      obtain rfl : n = m := by omega
      obtain ⟨ps, h1, h2⟩ := tiles_pv (S := Shaped P n) fs.toList 0 (hp.2.trans (by rw [hlen])) (fun f hf => by
        obtain ⟨i, hi⟩ := List.getElem?_of_mem hf
        have hi' : fs[i]? = some f := by simpa using hi
        have hil : i < xs.length := by rw [hxl]; exact (Array.getElem?_eq_some_iff.1 hi').1
        have hg := hget i f hi'
        rw [List.getElem?_eq_getElem hil] at hg
        refine ih f.type _ _ (hp.1 f hf) hg (fun y hy => hwt y ?_)
        have : DataW.weights P t (DataW.agg (xs.map (·.1))) = DataW.weightsEach P (fs.toList.map (·.type)) (xs.map (·.1)) := by simp [DataW.weights, hu]
        simp only [this]
        exact weights_each (i := i) (by rw [List.getElem?_map, hi]; rfl) (by rw [List.getElem?_map, List.getElem?_eq_getElem hil]; rfl) hy)
      exact ⟨ps, by simpa using h1, by simpa [Shaped, hu] using h2⟩
    · cases hp
end Go.Proofs.Ytnhchphmmdgphaa.Abs

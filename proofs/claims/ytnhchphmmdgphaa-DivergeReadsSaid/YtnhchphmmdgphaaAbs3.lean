/- The rules of the operations, their soundness: each operation's run gives what its rule tells. -/
import Derived.Test.YtnhchphmmdgphaaAbs2
namespace Go.Proofs.Ytnhchphmmdgphaa.Abs
open Go
set_option linter.unusedVariables false
set_option linter.unusedSimpArgs false

def G.era (g : G) : Option (Nat → Bool) → G
  | none => g
  | some f => g.dem f

/-- What a rule owes: the operation runs, and its value and its world are as told. -/
def ORes (P : Program) (c : Ctx) (o : Oper) (ev : Operand → Value) (w : World) (g : G) (K : Option (Nat → Bool) → AV → St → Prop) : Prop :=
  ∃ nx v w' dm av σ' g', (execOp ev o).run P w = .ok nx w' ∧ (nx = .value v ∨ (nx = .skip ∧ v = undef)) ∧ K dm av σ' ∧ Inv c g' w' σ' ∧ Stp (g.era dm) w g' w' ∧ RAV g' w' v av

theorem ORes.same {P : Program} {c : Ctx} {o : Oper} {ev : Operand → Value} {w : World} {g : G} {σ : St} {K : Option (Nat → Bool) → AV → St → Prop} {v : Value} {av : AV}
    (hi : Inv c g w σ) (hr : (execOp ev o).run P w = .ok (.value v) w) (hv : RAV g w v av) (hk : K none av σ) : ORes P c o ev w g K :=
  ⟨.value v, v, w, none, av, σ, g, hr, .inl rfl, hk, hi, Stp.refl g w, hv⟩

/-! ### Cells -/
theorem addr_add (b o n : Nat) : (⟨b, o, none⟩ : Addr).add n = ⟨b, o + n, none⟩ := by unfold Addr.add; split <;> simp_all

theorem cell_row {w : World} {b : Nat} {cur : Array Value} {e : TypeId} {fr : Nat × Nat} (h : w.heap[b]? = some (.cells cur e fr)) (j : Nat) : w.cell? ⟨b, j, none⟩ = cur[j]? := by
  simp [World.cell?, h]

theorem loadVar_one {P : Program} {w : World} {t : TypeId} {n : Nat} {a : Addr} {v : Value} (ht : tyVar P t = some (false, n)) (hc : w.cell? a = some v) : (loadVar t a).run P w = .ok v w := by
  simp [loadVar, (tyVar_spec ht w).1, hc]

theorem loadVar_agg {P : Program} {w : World} {t : TypeId} {n : Nat} {a : Addr} (vs : List Value) (ht : tyVar P t = some (true, n)) (hl : vs.length = n) (hc : ∀ j v, vs[j]? = some v → w.cell? (a.add j) = some v) :
    (loadVar t a).run P w = .ok (.agg vs.toArray) w := by
  subst hl
  simp [loadVar, (tyVar_spec ht w).1, (tyVar_spec ht w).2, run_loadCells_list w a vs hc]

theorem Inv.box {c : Ctx} {g : G} {w : World} {σ : St} (hi : Inv c g w σ) {id b : Nat} {cs : List AV} (hs : σ[id]? = some cs) (hb : g.β[id]? = some b) : RBox g w b cs := hi.store id cs b hs hb

/-! ### A new variable -/
theorem Inv.alloc {c : Ctx} {g : G} {w : World} {σ : St} (hi : Inv c g w σ) (cur : Array Value) (e : TypeId) (cs : List AV) (hc : RCells g w cur cs) :
    ∃ g', Inv c g' (w.alloc (.cells cur e)) (σ ++ [cs]) ∧ Stp g w g' (w.alloc (.cells cur e)) ∧ g'.β[σ.length]? = some w.heap.size := by
  have hcell : ∀ b o, b < w.heap.size → (w.alloc (.cells cur e)).cell? ⟨b, o, none⟩ = w.cell? ⟨b, o, none⟩ := fun b o h => World.cell?_alloc_lt w _ _ h
  have hheap : ∀ b, b < w.heap.size → (w.alloc (.cells cur e)).heap[b]? = w.heap[b]? := fun b h => Go.RowKit.Below.heap_alloc w _ b h
  let g' : G := { g with β := g.β ++ [w.heap.size] }
  have st : Stp g w g' (w.alloc (.cells cur e)) := by
    refine ⟨fun _ _ h => h, fun b o h => hcell b o (hi.Ilt b o h), fun id b h => ?_, fun t b h => ⟨h, hheap b (hi.τnew t b h).2.1, fun _ h => h⟩⟩
    show (g.β ++ [w.heap.size])[id]? = some b
    rw [List.getElem?_append_left (List.getElem?_eq_some_iff.1 h).1]
    exact h
  have hlen : c.β0.length ≤ g.β.length := by
    have := congrArg List.length hi.βpre
    simp at this
    omega
  refine ⟨g', ?_, st, ?_⟩
  · refine ⟨hi.os, hi.tape, hi.output, by have := hi.size; simp; omega, fun b hb hn => (hheap b (by have := hi.size; omega)).trans (hi.old b hb hn), hi.Ile, hi.Iold, fun b o h => by have := hi.Ilt b o h; simp; omega, ?_, ?_, ?_, ?_, ?_, ?_, ?_, hi.τinj, ?_⟩
    · show (g.β ++ [w.heap.size]).take c.β0.length = c.β0
      rw [List.take_append_of_le_length hlen]
      exact hi.βpre
    · intro b hb
      change b ∈ (g.β ++ [w.heap.size]).drop c.β0.length at hb
      rw [List.drop_append_of_le_length hlen] at hb
      rcases List.mem_append.1 hb with hb | hb
      · exact hi.βnew b hb
      · simp at hb
        have := hi.size
        omega
    · show (g.β ++ [w.heap.size]).Nodup
      refine List.nodup_append.2 ⟨hi.βnd, by simp, fun x hx y hy => ?_⟩
      simp at hy
      have := hi.βlt x hx
      omega
    · show (g.β ++ [w.heap.size]).length = _
      simp [hi.βlen]
    · intro b hb o h
      rcases List.mem_append.1 (show b ∈ g.β ++ [w.heap.size] from hb) with hb | hb
      · exact hi.βI b hb o h
      · simp at hb
        have := hi.Ilt b o h
        omega
    · intro b hb
      rcases List.mem_append.1 (show b ∈ g.β ++ [w.heap.size] from hb) with hb | hb
      · have := hi.βlt b hb
        simp
        omega
      · simp at hb
        simp
        omega
    · intro t b ht
      obtain ⟨h1, h2, h3⟩ := hi.τnew t b ht
      refine ⟨h1, by simp; omega, fun hb => ?_⟩
      rcases List.mem_append.1 (show b ∈ g.β ++ [w.heap.size] from hb) with hb | hb
      · exact h3 hb
      · simp at hb
        omega
    · intro id cs' b hs hb
      change (g.β ++ [w.heap.size])[id]? = some b at hb
      by_cases hid : id < σ.length
      · rw [List.getElem?_append_left hid] at hs
        rw [List.getElem?_append_left (by rw [hi.βlen]; exact hid)] at hb
        obtain ⟨cur', e', hh, hr⟩ := hi.store id cs' b hs hb
        exact ⟨cur', e', (hheap b (hi.βlt b (List.mem_of_getElem? hb))).trans hh, hr.stp st⟩
      · have h1 := (List.getElem?_eq_some_iff.1 hs).1
        simp at h1
        obtain rfl : id = σ.length := by omega
        rw [List.getElem?_append_right (Nat.le_refl _)] at hs
        rw [List.getElem?_append_right (by rw [hi.βlen]; exact Nat.le_refl _)] at hb
        simp [hi.βlen] at hs hb
        subst hs
        subst hb
        exact ⟨cur, e, heap_alloc_new w _, hc.stp st⟩
  · show (g.β ++ [w.heap.size])[σ.length]? = some w.heap.size
    rw [← hi.βlen]
    simp

/-! ### A store into a variable -/
theorem List.getElem?_set_some {α : Type} {l : List α} {i j : Nat} {x y : α} (h : (l.set i x)[j]? = some y) : (i = j ∧ x = y) ∨ (i ≠ j ∧ l[j]? = some y) := by
  rw [List.getElem?_set] at h
  by_cases hij : i = j
  · subst hij
    simp at h
    exact .inl ⟨rfl, h.2⟩
  · simp [hij] at h
    exact .inr ⟨hij, h⟩

theorem Inv.setRow {c : Ctx} {g : G} {w : World} {σ : St} (hi : Inv c g w σ) {id b : Nat} {cs cs' : List AV} {cur cur' : Array Value} {e : TypeId} (hs : σ[id]? = some cs) (hb : g.β[id]? = some b)
    (hh : w.heap[b]? = some (.cells cur e (0, 0))) (hc : RCells g w cur' cs') : Inv c g (w.setRow b cur') (σ.set id cs') ∧ Stp g w g (w.setRow b cur') := by
  have hmem : b ∈ g.β := List.mem_of_getElem? hb
  have hheap : ∀ k, k ≠ b → (w.setRow b cur').heap[k]? = w.heap[k]? := fun k hk => setRow_other w b k _ hk
  have hsize : (w.setRow b cur').heap.size = w.heap.size := by simp [World.setRow]
  have st : Stp g w g (w.setRow b cur') := by
    refine ⟨fun _ _ h => h, fun k o h => ?_, fun _ _ h => h, fun t k h => ⟨h, hheap k (fun e => (hi.τnew t k h).2.2 (e ▸ hmem)), fun _ h => h⟩⟩
    have hk : k ≠ b := fun e => hi.βI b hmem o (e ▸ h)
    simp [World.cell?, hheap k hk]
  refine ⟨⟨hi.os, hi.tape, hi.output, by rw [hsize]; exact hi.size, fun k hk hn => ?_, hi.Ile, hi.Iold, fun k o h => by rw [hsize]; exact hi.Ilt k o h, hi.βpre, hi.βnew, hi.βnd, by simp [hi.βlen], hi.βI, fun k hk => by rw [hsize]; exact hi.βlt k hk,
    fun t k h => by rw [hsize]; exact hi.τnew t k h, hi.τinj, fun id' cs2 b' hs' hb' => ?_⟩, st⟩
  · by_cases hkb : k = b
    · subst hkb
      exfalso
      -- a variable of the call's own lies at or above the start; one that was handed over lies in β0
      have hpre := hi.βpre
      by_cases hid : id < c.β0.length
      · apply hn
        rw [← hpre]
        have : (g.β.take c.β0.length)[id]? = some k := by rw [List.getElem?_take_of_lt hid]; exact hb
        exact List.mem_of_getElem? this
      · have : (g.β.drop c.β0.length)[id - c.β0.length]? = some k := by rw [List.getElem?_drop]; rw [show c.β0.length + (id - c.β0.length) = id by omega]; exact hb
        have := hi.βnew k (List.mem_of_getElem? this)
        omega
    · exact (hheap k hkb).trans (hi.old k hk hn)
  · rcases List.getElem?_set_some hs' with ⟨rfl, rfl⟩ | ⟨hne, hs'⟩
    · obtain rfl : b = b' := by rw [hb] at hb'; exact Option.some.inj hb'
      exact ⟨cur', e, setRow_heap w b cur cur' e _ hh, hc.stp st⟩
    · obtain ⟨cur2, e2, hh2, hr2⟩ := hi.store id' cs2 b' hs' hb'
      have hbb : b' ≠ b := by
        rintro rfl
        have h1 := List.getElem?_eq_some_iff.1 hb
        have h2 := List.getElem?_eq_some_iff.1 hb'
        exact hne ((List.getElem_inj hi.βnd).1 (h1.2.trans h2.2.symm))
      exact ⟨cur2, e2, (hheap b' hbb).trans hh2, hr2.stp st⟩

theorem RCells.splice {g : G} {w : World} {cur vs : Array Value} {cs as : List AV} (hc : RCells g w cur cs) (hv : RCells g w vs as) (off : Nat) (hfit : off + as.length ≤ cs.length) :
    RCells g w (cur.toList.take off ++ vs.toList ++ cur.toList.drop (off + vs.size)).toArray (cs.take off ++ as ++ cs.drop (off + as.length)) := by
  have h1 : cur.size = cs.length := hc.1
  have h2 : vs.size = as.length := hv.1
  refine ⟨by simp; omega, fun i v a hi ha => ?_⟩
  simp only [List.getElem?_toArray, List.append_assoc] at hi ha
  by_cases hlt : i < off
  · rw [List.getElem?_append_left (by simp; omega), List.getElem?_take_of_lt hlt] at hi
    rw [List.getElem?_append_left (by simp; omega), List.getElem?_take_of_lt hlt] at ha
    exact hc.2 i v a (by simpa using hi) ha
  · rw [List.getElem?_append_right (by simp; omega)] at hi ha
    simp only [List.length_take, Array.length_toList, show min off cur.size = off by omega, show min off cs.length = off by omega] at hi ha
    by_cases hlt2 : i - off < as.length
    · rw [List.getElem?_append_left (by simp; omega)] at hi
      rw [List.getElem?_append_left hlt2] at ha
      exact hv.2 _ v a (by simpa using hi) ha
    · rw [List.getElem?_append_right (by simp; omega), List.getElem?_drop] at hi
      rw [List.getElem?_append_right (by omega), List.getElem?_drop] at ha
      simp only [Array.length_toList] at hi
      rw [show off + vs.size + (i - off - vs.size) = i by omega] at hi
      rw [show off + as.length + (i - off - as.length) = i by omega] at ha
      exact hc.2 i v a (by simpa using hi) ha

theorem RCells.sub {g : G} {w : World} {cur : Array Value} {cs : List AV} (hc : RCells g w cur cs) (off n : Nat) : RCells g w (cur.extract off (off + n)) ((cs.drop off).take n) := by
  have h1 : cur.size = cs.length := hc.1
  refine ⟨by simp; omega, fun i v a hi ha => ?_⟩
  rw [List.getElem?_take] at ha
  split at ha
  · rw [List.getElem?_drop] at ha
    rw [Array.getElem?_extract] at hi
    split at hi
    · exact hc.2 _ v a hi ha
    · cases hi
  · cases ha

end Go.Proofs.Ytnhchphmmdgphaa.Abs

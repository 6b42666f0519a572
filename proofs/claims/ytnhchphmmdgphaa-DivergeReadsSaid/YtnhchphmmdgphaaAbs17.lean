/- Handing back. -/
import Derived.Test.YtnhchphmmdgphaaAbs16
namespace Go.Proofs.Ytnhchphmmdgphaa.Abs
open Go
set_option linter.unusedVariables false
set_option linter.unusedSimpArgs false

mutual
/-- The tokens under new numbers; what has none is told as plain data. -/
def AV.retok (toks : List Nat) : AV → AV
  | .own t sz xs => (match toks.idxOf? t with | some j => .own j sz xs | _ => .c (.list sz xs))
  | .agg cs => .agg (AV.retokL toks cs)
  | .tup cs => .tup (AV.retokL toks cs)
  | .fn f cs => .fn f (AV.retokL toks cs)
  | a => a
def AV.retokL (toks : List Nat) : List AV → List AV
  | [] => []
  | a :: as => AV.retok toks a :: AV.retokL toks as
end
theorem AV.retokL_eq (toks : List Nat) (l : List AV) : AV.retokL toks l = l.map (AV.retok toks) := by
  induction l with
  | nil => rfl
  | cons a l ih => simp [AV.retokL, ih]

theorem RAV.retok {g : G} {w : World} {v : Value} {a : AV} (toks : List Nat) (h : RAV g w v a) : RAV ⟨g.I, g.β, fun j => (toks[j]?).bind g.τ⟩ w v (a.retok toks) := by
  induction h with
  | c h => exact .c h
  | nil => exact .nil
  | own t sz xs h =>
    simp only [AV.retok]
    split
    · rename_i j hj
      obtain ⟨h0, hs, e, cells, ho, hv, hb⟩ := h
      have hjt : toks[j]? = some t := by
        rw [List.idxOf?, List.findIdx?_eq_some_iff_getElem] at hj
        obtain ⟨h1, h2, _⟩ := hj
        rw [List.getElem?_eq_getElem h1]
        simpa using h2
      exact .own j sz xs ⟨h0, hs, e, cells, ho, hv, fun b hb' => ⟨by simp [hjt, (hb b hb').1], (hb b hb').2⟩⟩
    · exact .c h.rv
  | agg vs cs h _ ih =>
    simp only [AV.retok, AV.retokL_eq]
    refine .agg vs _ (by simpa using h) (fun i v a hv ha => ?_)
    simp only [List.getElem?_map, Option.map_eq_some_iff] at ha
    obtain ⟨a, ha, rfl⟩ := ha
    exact ih i v a hv ha
  | tup vs cs h _ ih =>
    simp only [AV.retok, AV.retokL_eq]
    refine .tup vs _ (by simpa using h) (fun i v a hv ha => ?_)
    simp only [List.getElem?_map, Option.map_eq_some_iff] at ha
    obtain ⟨a, ha, rfl⟩ := ha
    exact ih i v a hv ha
  | box id off b h => exact .box id off b h
  | eptr b o off cs vs hc hv => exact .eptr b o off cs vs hc hv
  | ptrs b o cap l hcap hc => exact .ptrs b o cap l hcap hc
  | pptr b o bk p hi hb hc => exact .pptr b o bk p hi hb hc
  | fn k vs cs h _ ih =>
    simp only [AV.retok, AV.retokL_eq]
    refine .fn k vs _ (by simpa using h) (fun i v a hv ha => ?_)
    simp only [List.getElem?_map, Option.map_eq_some_iff] at ha
    obtain ⟨a, ha, rfl⟩ := ha
    exact ih i v a hv ha
  | nilptr => exact .nilptr
  | any => exact .any

def all_ : Nat → Bool := fun _ => true

/-- The store's cells, no token left, of the first variables alone. -/
theorem RAV.pure {g g' : G} {w : World} {v : Value} {a : AV} {m : Nat} (hI : g'.I = g.I) (hβ : ∀ (k b : Nat), k < m → g.β[k]? = some b → g'.β[k]? = some b) (h : RAV g w v a) (hin : (a.dem all_).inB m = true) : RAV g' w v (a.dem all_) := by
  have h1 := h.dem all_
  have h2 := RAV.inB (g := g.dem all_) (g' := ⟨g.I, g'.β, fun _ => .none⟩) (m := m) rfl (by funext t; simp [G.dem, all_]) hβ h1 hin
  have st : Stp ⟨g.I, g'.β, fun _ => .none⟩ w g' w := ⟨fun b o h => by rw [hI]; exact h, fun _ _ _ => rfl, fun _ _ h => h, fun t b h => by simp at h⟩
  exact h2.stp st

theorem fin_main {k0 : Nat} {rv r : AV} {σ σr : St} (toks : List Nat) (hnd : toks.Nodup) (hin : (rv.retok toks).inB k0 = true) (hs : ∀ (i : Nat) cs, i < k0 → σ[i]? = some cs → AV.inB.inBL k0 (AV.demL all_ cs) = true)
    (hr : (rv.retok toks).le r) (hσ : leS (St.dem all_ (σ.take k0)) σr) : Fin k0 rv σ r σr := by
  intro c g w v hk hi hv
  let g' : G := { I := g.I, β := g.β.take k0, τ := fun j => (toks[j]?).bind g.τ }
  have hβ : ∀ (k b : Nat), k < k0 → g.β[k]? = some b → g'.β[k]? = some b := fun k b hk hb => by show (g.β.take k0)[k]? = some b; rw [List.getElem?_take_of_lt hk]; exact hb
  have hmem : ∀ b, b ∈ g.β.take k0 → b ∈ g.β := fun b hb => List.mem_of_mem_take hb
  have hsl := leS_get hσ
  refine ⟨g', ⟨hi.os, hi.tape, hi.output, hi.size, hi.old, hi.Ile, hi.Iold, hi.Ilt, ?_, fun b hb => hi.βnew b ?_, (List.take_sublist _ _).nodup hi.βnd, ?_, fun b hb => hi.βI b (hmem b hb), fun b hb => hi.βlt b (hmem b hb), fun t b ht => ?_, fun t t' b h1 h2 => ?_, fun id cs b hs' hb => ?_⟩,
    hr _ _ _ (RAV.inB (g := ⟨g.I, g.β, fun j => (toks[j]?).bind g.τ⟩) (g' := g') (m := k0) rfl rfl hβ (hv.retok toks) hin)⟩
  · show (g.β.take k0).take c.β0.length = c.β0
    rw [List.take_take, hk, Nat.min_self, ← hk]
    exact hi.βpre
  · change b ∈ (g.β.take k0).drop c.β0.length at hb
    rw [List.drop_take] at hb
    exact List.mem_of_mem_take hb
  · show (g.β.take k0).length = σr.length
    rw [← hsl.1, St.dem_eq, List.length_map, List.length_take, List.length_take, hi.βlen]
  · change (toks[t]?).bind g.τ = some b at ht
    cases htt : toks[t]? with
    | none => simp [htt] at ht
    | some s =>
      simp only [htt, Option.bind_some] at ht
      obtain ⟨h1, h2, h3⟩ := hi.τnew s b ht
      exact ⟨h1, h2, fun hb => h3 (hmem b hb)⟩
  · change (toks[t]?).bind g.τ = some b at h1
    change (toks[t']?).bind g.τ = some b at h2
    cases e1 : toks[t]? with
    | none => simp [e1] at h1
    | some s =>
      cases e2 : toks[t']? with
      | none => simp [e2] at h2
      | some s' =>
        simp only [e1, e2, Option.bind_some] at h1 h2
        have := hi.τinj s s' b h1 h2
        subst this
        exact nodup_get_inj hnd e1 e2
  · obtain ⟨bs, hbs, hle⟩ := hsl.2 id cs hs'
    rw [St.dem_eq, List.getElem?_map, Option.map_eq_some_iff] at hbs
    obtain ⟨cs0, hcs0, rfl⟩ := hbs
    rw [List.getElem?_take] at hcs0
    split at hcs0
    · rename_i hid
      change (g.β.take k0)[id]? = some b at hb
      rw [List.getElem?_take_of_lt hid] at hb
      obtain ⟨cur, e, hh, hc⟩ := hi.store id cs0 b hcs0 hb
      refine ⟨cur, e, hh, RCells.le hle ⟨by simpa using hc.1, fun i v a hv ha => ?_⟩⟩
      simp only [List.getElem?_map, Option.map_eq_some_iff] at ha
      obtain ⟨a, ha, rfl⟩ := ha
      refine RAV.pure (g := g) (g' := g') (m := k0) rfl hβ (hc.2 i v a hv ha) (inBL_get (hs id cs0 hid hcs0) i _ ?_)
      rw [AV.demL_eq, List.getElem?_map, ha]
      rfl
    · cases hcs0

/-- A new variable's address is handed back. -/
theorem fin_box {k0 j off : Nat} {cs0 : List AV} {σ σr : St} (hj : k0 ≤ j) (hcs : σ[j]? = some cs0) (hcin : AV.inB.inBL k0 (AV.demL all_ cs0) = true) (hs : ∀ (i : Nat) cs, i < k0 → σ[i]? = some cs → AV.inB.inBL k0 (AV.demL all_ cs) = true)
    (hσ : leS (St.dem all_ (σ.take k0) ++ [AV.demL all_ cs0]) σr) : Fin k0 (.box j off) σ (.box k0 off) σr := by
  intro c g w v hk hi hv
  cases hv with
  | box _ _ bj hbj =>
    have hjl : j < g.β.length := (List.getElem?_eq_some_iff.1 hbj).1
    let g' : G := { I := g.I, β := g.β.take k0 ++ [bj], τ := fun _ => .none }
    have hlt : (g.β.take k0).length = k0 := by simp; omega
    have hβ : ∀ (k b : Nat), k < k0 → g.β[k]? = some b → g'.β[k]? = some b := fun k b hk hb => by
      show (g.β.take k0 ++ [bj])[k]? = some b
      rw [List.getElem?_append_left (by rw [hlt]; exact hk), List.getElem?_take_of_lt hk]
      exact hb
    have hmem : ∀ b, b ∈ g.β.take k0 ++ [bj] → b ∈ g.β := fun b hb => by
      rcases List.mem_append.1 hb with h | h
      · exact List.mem_of_mem_take h
      · simp at h; subst h; exact List.mem_of_getElem? hbj
    have hsl := leS_get hσ
    have hcell : ∀ (cs1 : List AV) (cur : Array Value), AV.inB.inBL k0 (AV.demL all_ cs1) = true → RCells g w cur cs1 → RCells g' w cur (AV.demL all_ cs1) := by
      intro cs1 cur hin hc
      rw [AV.demL_eq]
      refine ⟨by simpa using hc.1, fun i v a hv ha => ?_⟩
      simp only [List.getElem?_map, Option.map_eq_some_iff] at ha
      obtain ⟨a, ha, rfl⟩ := ha
      refine RAV.pure (g := g) (g' := g') (m := k0) rfl hβ (hc.2 i v a hv ha) (inBL_get hin i _ ?_)
      rw [AV.demL_eq, List.getElem?_map, ha]
      rfl
    refine ⟨g', ⟨hi.os, hi.tape, hi.output, hi.size, hi.old, hi.Ile, hi.Iold, hi.Ilt, ?_, fun b hb => ?_, ?_, ?_, fun b hb => hi.βI b (hmem b hb), fun b hb => hi.βlt b (hmem b hb), fun t b ht => by simp [g'] at ht, fun t t' b h1 => by simp [g'] at h1, fun id cs b hs' hb => ?_⟩,
      .box k0 off bj ?_⟩
    · show (g.β.take k0 ++ [bj]).take c.β0.length = c.β0
      rw [List.take_append_of_le_length (by rw [hlt, hk]; exact Nat.le_refl _), List.take_take, hk, Nat.min_self, ← hk]
      exact hi.βpre
    · change b ∈ (g.β.take k0 ++ [bj]).drop c.β0.length at hb
      rw [List.drop_append_of_le_length (by rw [hlt, hk]; exact Nat.le_refl _)] at hb
      rcases List.mem_append.1 hb with h | h
      · rw [List.drop_take] at h
        exact hi.βnew b (List.mem_of_mem_take h)
      · simp at h
        subst h
        refine hi.βnew b ?_
        have : (g.β.drop c.β0.length)[j - c.β0.length]? = some b := by rw [List.getElem?_drop, show c.β0.length + (j - c.β0.length) = j by omega]; exact hbj
        exact List.mem_of_getElem? this
    · show (g.β.take k0 ++ [bj]).Nodup
      refine List.nodup_append.2 ⟨(List.take_sublist _ _).nodup hi.βnd, by simp, fun x hx y hy => ?_⟩
      simp at hy
      subst hy
      rintro rfl
      obtain ⟨i, hix⟩ := List.getElem?_of_mem hx
      have hil := (List.getElem?_eq_some_iff.1 hix).1
      rw [List.getElem?_take_of_lt (by omega)] at hix
      have := nodup_get_inj hi.βnd hix hbj
      omega
    · show (g.β.take k0 ++ [bj]).length = σr.length
      rw [← hsl.1]
      have := hi.βlen
      simp [St.dem_eq]
      omega
    · obtain ⟨bs, hbs, hle⟩ := hsl.2 id cs hs'
      have hdl : (St.dem all_ (σ.take k0)).length = k0 := by have := hi.βlen; simp [St.dem_eq]; omega
      by_cases hid : id < k0
      · rw [List.getElem?_append_left (by rw [hdl]; exact hid), St.dem_eq, List.getElem?_map, List.getElem?_take_of_lt hid, Option.map_eq_some_iff] at hbs
        obtain ⟨cs1, hcs1, rfl⟩ := hbs
        change (g.β.take k0 ++ [bj])[id]? = some b at hb
        rw [List.getElem?_append_left (by rw [hlt]; exact hid), List.getElem?_take_of_lt hid] at hb
        obtain ⟨cur, e, hh, hc⟩ := hi.store id cs1 b hcs1 hb
        have := hcell cs1 cur (hs id cs1 hid hcs1) hc
        rw [AV.demL_eq] at this
        exact ⟨cur, e, hh, RCells.le hle this⟩
      · rw [List.getElem?_append_right (by rw [hdl]; omega), hdl] at hbs
        change (g.β.take k0 ++ [bj])[id]? = some b at hb
        rw [List.getElem?_append_right (by rw [hlt]; omega), hlt] at hb
        have h0 : id - k0 = 0 := by
          have := (List.getElem?_eq_some_iff.1 hb).1
          simp at this
          omega
        rw [h0] at hbs hb
        simp at hbs hb
        subst hbs
        subst hb
        obtain ⟨cur, e, hh, hc⟩ := hi.store j cs0 bj hcs hbj
        exact ⟨cur, e, hh, RCells.le hle (hcell cs0 cur hcin hc)⟩
    · show (g.β.take k0 ++ [bj])[k0]? = some bj
      rw [List.getElem?_append_right (by rw [hlt]; exact Nat.le_refl _), hlt]
      simp

end Go.Proofs.Ytnhchphmmdgphaa.Abs

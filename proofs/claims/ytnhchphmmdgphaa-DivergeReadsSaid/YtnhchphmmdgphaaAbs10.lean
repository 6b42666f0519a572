/- A call, as its caller sees it. -/
import Derived.Test.YtnhchphmmdgphaaAbs9
namespace Go.Proofs.Ytnhchphmmdgphaa.Abs
open Go
set_option linter.unusedVariables false
set_option linter.unusedSimpArgs false

theorem St.upd_length : ∀ (ids : List Nat) (σ r : St), (St.upd σ ids r).length = σ.length
  | [], σ, r => by cases r <;> rfl
  | i :: is, σ, [] => rfl
  | i :: is, σ, cs :: r => by simp only [St.upd]; rw [St.upd_length is]; simp

theorem St.upd_not : ∀ (ids : List Nat) (σ r : St) (k : Nat), k ∉ ids → (St.upd σ ids r)[k]? = σ[k]?
  | [], σ, r, k, _ => by cases r <;> rfl
  | i :: is, σ, [], k, _ => rfl
  | i :: is, σ, cs :: r, k, h => by
    simp only [List.mem_cons, not_or] at h
    simp only [St.upd]
    rw [St.upd_not is _ r k h.2, List.getElem?_set_ne (fun e => h.1 e.symm)]

theorem St.upd_mem : ∀ (ids : List Nat) (σ r : St) (k i : Nat) (cs : List AV), ids.Nodup → ids[k]? = some i → r[k]? = some cs → i < σ.length → (St.upd σ ids r)[i]? = some cs
  | [], σ, r, k, i, cs, _, h, _, _ => by simp at h
  | j :: is, σ, [], k, i, cs, _, _, h, _ => by simp at h
  | j :: is, σ, c0 :: r, k, i, cs, hnd, hi, hr, hlt => by
    simp only [St.upd]
    rw [List.nodup_cons] at hnd
    cases k with
    | zero =>
      simp at hi hr
      subst hi
      subst hr
      rw [St.upd_not is _ r j hnd.1]
      simp [hlt]
    | succ k =>
      simp at hi hr
      exact St.upd_mem is _ r k i cs hnd.2 hi hr (by simpa using hlt)

inductive leS : St → St → Prop
  | nil : leS [] []
  | cons {a b : List AV} {as bs : St} (h : AV.leL a b) (t : leS as bs) : leS (a :: as) (b :: bs)

theorem leS_get {s t : St} (h : leS s t) : s.length = t.length ∧ ∀ (i : Nat) cs, t[i]? = some cs → ∃ bs, s[i]? = some bs ∧ AV.leL bs cs := by
  induction h with
  | nil => exact ⟨rfl, by simp⟩
  | cons h t ih =>
    refine ⟨by simp [ih.1], fun i b hb => ?_⟩
    cases i with
    | zero => simp at hb; subst hb; exact ⟨_, rfl, h⟩
    | succ i => simp at hb; simpa using ih.2 i b hb

/-- The variables that are handed over, as the callee sees them. -/
def St.sub (σ : St) (ids : List Nat) : St := ids.map fun i => AV.lowL ids (σ.getD i [])
/-- The store behind the call. -/
def St.after (σ : St) (ids : List Nat) (d : Nat) (σr : St) : St :=
  St.upd (σ.dem (fun t => t / 16 == d)) ids (σr.map (AV.liftL ids σ.length d)) ++ (σr.drop ids.length).map (AV.liftL ids σ.length d)

theorem nodup_get_inj {l : List Nat} (h : l.Nodup) {i j b : Nat} (hi : l[i]? = some b) (hj : l[j]? = some b) : i = j := by
  have h1 := List.getElem?_eq_some_iff.1 hi
  have h2 := List.getElem?_eq_some_iff.1 hj
  exact (List.getElem_inj h).1 (h1.2.trans h2.2.symm)

theorem call_sound {P : Program} {c : Ctx} {g : G} {w : World} {σ : St} (hi : Inv c g w σ) {f : FuncId} {vs : Array Value} {args as : List AV} {ids : List Nat} {σc σr : St} {r : AV} (d : Nat)
    (hnd : ids.Nodup) (hlt : ∀ i ∈ ids, i < σ.length) (hargs : RCells g w vs args) (hle : AV.leL (AV.lowL ids args) as) (hst : leS (σ.sub ids) σc) (hc : ACalls P f as σc r σr) :
    Calls P f vs w fun e w' => ∃ v g'', e = .returned v ∧ Inv c g'' w' (σ.after ids d σr) ∧ Stp (g.dem (fun t => t / 16 == d)) w g'' w' ∧ RAV g'' w' v (r.lift ids σ.length d) := by
  have hβlen := hi.βlen
  let βc : List Nat := ids.map fun i => g.β.getD i 0
  have hβc : ∀ (k i : Nat), ids[k]? = some i → ∃ b, g.β[i]? = some b ∧ βc[k]? = some b := by
    intro k i hk
    have hil : i < g.β.length := by rw [hβlen]; exact hlt i (List.mem_of_getElem? hk)
    refine ⟨g.β[i], List.getElem?_eq_getElem hil, ?_⟩
    simp [βc, hk, List.getD_eq_getElem?_getD, List.getElem?_eq_getElem hil]
  have hβc' : ∀ (k b : Nat), βc[k]? = some b → ∃ i, ids[k]? = some i ∧ g.β[i]? = some b := by
    intro k b hb
    simp only [βc, List.getElem?_map, Option.map_eq_some_iff] at hb
    obtain ⟨i, hik, rfl⟩ := hb
    have hil : i < g.β.length := by rw [hβlen]; exact hlt i (List.mem_of_getElem? hik)
    exact ⟨i, hik, by simp [List.getD_eq_getElem?_getD, List.getElem?_eq_getElem hil]⟩
  have hβcm : ∀ b ∈ βc, b ∈ g.β := by
    intro b hb
    obtain ⟨k, hk⟩ := List.getElem?_of_mem hb
    obtain ⟨i, _, h⟩ := hβc' k b hk
    exact List.mem_of_getElem? h
  have hβcl : βc.length = ids.length := by simp [βc]
  have hlow : ∀ (k id b : Nat), ids[k]? = some id → g.β[id]? = some b → βc[k]? = some b := by
    intro k id b hk hb
    obtain ⟨b', h1, h2⟩ := hβc k id hk
    rw [h1] at hb
    cases hb
    exact h2
  obtain ⟨_, hcall⟩ := hc
  have hsl := leS_get hst
  have := hcall w g.I βc vs hi.Ilt (by
      refine List.pairwise_iff_getElem.2 (fun i j hil hjl hij e => ?_)
      obtain ⟨x, hx1, hx2⟩ := hβc' i _ (List.getElem?_eq_getElem hil)
      obtain ⟨y, hy1, hy2⟩ := hβc' j _ (List.getElem?_eq_getElem hjl)
      rw [← e] at hy2
      have hxy := nodup_get_inj hi.βnd hx2 hy2
      subst hxy
      have := nodup_get_inj hnd hx1 hy1
      omega)
    (fun b hb => hi.βlt b (hβcm b hb)) (fun b hb => hi.βI b (hβcm b hb)) (by rw [hβcl, ← hsl.1]; simp [St.sub])
    (fun id cs b hs hb => by
      obtain ⟨bs, hbs, hleb⟩ := hsl.2 id cs hs
      obtain ⟨i, hi1, hi2⟩ := hβc' id b hb
      simp only [St.sub, List.getElem?_map, hi1, Option.map_some, Option.some.injEq] at hbs
      have hil : i < σ.length := hlt i (List.mem_of_getElem? hi1)
      obtain ⟨cur, e, hh, hr⟩ := hi.store i σ[i] b (List.getElem?_eq_getElem hil) hi2
      rw [List.getD_eq_getElem?_getD, List.getElem?_eq_getElem hil, Option.getD_some] at hbs
      subst hbs
      exact ⟨cur, e, hh, RCells.le hleb (hr.low ids βc hlow)⟩)
    (RCells.le hle (hargs.low ids βc hlow))
  refine this.mono fun e w' => ?_
  rintro ⟨v, g', he, hi', hv⟩
  -- the blocks that are not handed over
  have hheap : ∀ b, b < w.heap.size → b ∉ βc → w'.heap[b]? = w.heap[b]? := hi'.old
  have hsz : w.heap.size ≤ w'.heap.size := hi'.size
  have hpre : ∀ (k : Nat), k < ids.length → g'.β[k]? = βc[k]? := by
    intro k hk
    have := hi'.βpre
    simp only [hβcl] at this
    rw [← this, List.getElem?_take_of_lt hk]
  let g'' : G := { I := g'.I, β := g.β ++ g'.β.drop ids.length, τ := fun t => if t / 16 == d then g'.τ (t % 16) else g.τ t }
  have hτnot : ∀ t b, g.τ t = some b → b ∉ βc := fun t b ht hb => (hi.τnew t b ht).2.2 (hβcm b hb)
  have hInot : ∀ b o, g.I b o → b ∉ βc := fun b o h hb => hi.βI b (hβcm b hb) o h
  have st : Stp (g.dem fun t => t / 16 == d) w g'' w' := by
    refine ⟨fun b o h => hi'.Ile b o h, fun b o h => ?_, fun id b h => ?_, fun t b htb => ?_⟩
    · simp [World.cell?, hheap b (hi.Ilt b o h) (hInot b o h)]
    · have h' : g.β[id]? = some b := h
      show (g.β ++ g'.β.drop ids.length)[id]? = some b
      rw [List.getElem?_append_left (List.getElem?_eq_some_iff.1 h').1]
      exact h'
    · simp only [G.dem] at htb
      split at htb
      · cases htb
      · rename_i hft
        have hbl := (hi.τnew t b htb).2.1
        refine ⟨?_, hheap b hbl (hτnot t b htb), fun o h => hi'.Iold b o h hbl⟩
        show (if (t / 16 == d) = true then g'.τ (t % 16) else g.τ t) = some b
        rw [if_neg hft]
        exact htb
  have hnewge : ∀ b ∈ g'.β.drop ids.length, w.heap.size ≤ b := by
    have := hi'.βnew
    simpa [hβcl] using this
  have hβ1 : ∀ (k i b : Nat), ids[k]? = some i → g'.β[k]? = some b → g''.β[i]? = some b := by
    intro k i b hk hb
    have hkl := (List.getElem?_eq_some_iff.1 hk).1
    rw [hpre k hkl] at hb
    obtain ⟨j, hj1, hj2⟩ := hβc' k b hb
    rw [hk] at hj1
    cases hj1
    show (g.β ++ g'.β.drop ids.length)[i]? = some b
    rw [List.getElem?_append_left (List.getElem?_eq_some_iff.1 hj2).1]
    exact hj2
  have hβ2 : ∀ (k b : Nat), ids[k]? = none → g'.β[k]? = some b → g''.β[σ.length + (k - ids.length)]? = some b := by
    intro k b hk hb
    have hkl : ids.length ≤ k := by simpa using hk
    show (g.β ++ g'.β.drop ids.length)[σ.length + (k - ids.length)]? = some b
    rw [List.getElem?_append_right (by omega), List.getElem?_drop, hβlen]
    rw [show ids.length + (σ.length + (k - ids.length) - σ.length) = k by omega]
    exact hb
  have hτ : ∀ (t b : Nat), t < 16 → g'.τ t = some b → g''.τ (16 * d + t) = some b := by
    intro t b ht hb
    show (if ((16 * d + t) / 16 == d) = true then g'.τ ((16 * d + t) % 16) else g.τ _) = some b
    rw [show (16 * d + t) / 16 = d by omega, show (16 * d + t) % 16 = t by omega]
    simpa using hb
  have hlift : ∀ {v : Value} {a : AV}, RAV g' w' v a → RAV g'' w' v (a.lift ids σ.length d) := fun h => RAV.lift (g1 := g') (g2 := g'') ids σ.length d rfl hβ1 hβ2 hτ h
  have hliftC : ∀ {vs : Array Value} {cs : List AV}, RCells g' w' vs cs → RCells g'' w' vs (AV.liftL ids σ.length d cs) := by
    intro vs cs h
    rw [AV.liftL_eq]
    refine ⟨by simpa using h.1, fun i v a hv ha => ?_⟩
    simp only [List.getElem?_map, Option.map_eq_some_iff] at ha
    obtain ⟨a, ha, rfl⟩ := ha
    exact hlift (h.2 i v a hv ha)
  have hσrl : g'.β.length = σr.length := hi'.βlen
  have hidl : ids.length ≤ g'.β.length := by
    have := congrArg List.length hi'.βpre
    simp [hβcl] at this
    omega
  have hupl : (St.upd (σ.dem (fun t => t / 16 == d)) ids (σr.map (AV.liftL ids σ.length d))).length = σ.length := by rw [St.upd_length, St.dem_eq, List.length_map]
  refine ⟨v, g'', he, ⟨hi'.os.trans hi.os, hi'.tape.trans hi.tape, hi'.output.trans hi.output, Nat.le_trans hi.size hsz, fun b hb hn => ?_, fun b o h => hi'.Ile b o (hi.Ile b o h), fun b o h hb => hi.Iold b o (hi'.Iold b o h (Nat.lt_of_lt_of_le hb hi.size)) hb, hi'.Ilt, ?_, ?_, ?_, ?_, fun b hb o h => ?_, fun b hb => ?_, fun t b htb => ?_, fun t t' b h1 h2 => ?_, fun id cs b hs hb => ?_⟩, st, hlift hv⟩
  · have hbw : b < w.heap.size := Nat.lt_of_lt_of_le hb hi.size
    have hbc : b ∉ βc := by
      intro hbc
      have hmem := hβcm b hbc
      rw [← List.take_append_drop c.β0.length g.β] at hmem
      rcases List.mem_append.1 hmem with h | h
      · rw [hi.βpre] at h
        exact hn h
      · have := hi.βnew b h
        omega
    rw [hheap b hbw hbc]
    exact hi.old b hb hn
  · have hlen : c.β0.length ≤ g.β.length := by
      have := congrArg List.length hi.βpre
      simp at this
      omega
    show (g.β ++ g'.β.drop ids.length).take c.β0.length = c.β0
    rw [List.take_append_of_le_length hlen]
    exact hi.βpre
  · intro b hb
    have hlen : c.β0.length ≤ g.β.length := by
      have := congrArg List.length hi.βpre
      simp at this
      omega
    change b ∈ (g.β ++ g'.β.drop ids.length).drop c.β0.length at hb
    rw [List.drop_append_of_le_length hlen] at hb
    rcases List.mem_append.1 hb with h | h
    · exact hi.βnew b h
    · have := hnewge b h
      have := hi.size
      omega
  · show (g.β ++ g'.β.drop ids.length).Nodup
    refine List.nodup_append.2 ⟨hi.βnd, (List.drop_sublist _ _).nodup hi'.βnd, fun x hx y hy => ?_⟩
    have := hi.βlt x hx
    have := hnewge y hy
    omega
  · show (g.β ++ g'.β.drop ids.length).length = _
    simp only [St.after, List.length_append, hupl, List.length_map, List.length_drop]
    omega
  · rcases List.mem_append.1 (show b ∈ g.β ++ g'.β.drop ids.length from hb) with hb | hb
    · exact hi.βI b hb o (hi'.Iold b o h (hi.βlt b hb))
    · exact hi'.βI b (List.mem_of_mem_drop hb) o h
  · rcases List.mem_append.1 (show b ∈ g.β ++ g'.β.drop ids.length from hb) with hb | hb
    · exact Nat.lt_of_lt_of_le (hi.βlt b hb) hsz
    · exact hi'.βlt b (List.mem_of_mem_drop hb)
  · change (if (t / 16 == d) = true then g'.τ (t % 16) else g.τ t) = some b at htb
    have hnot : ∀ b, b ∈ g.β ++ g'.β.drop ids.length → b ∈ g.β ∨ b ∈ g'.β.drop ids.length := fun b => List.mem_append.1
    split at htb
    · obtain ⟨h1, h2, h3⟩ := hi'.τnew _ b htb
      refine ⟨Nat.le_trans hi.size h1, h2, fun hb => ?_⟩
      rcases hnot b hb with hb | hb
      · have := hi.βlt b hb
        have : w.heap.size ≤ b := h1
        omega
      · exact h3 (List.mem_of_mem_drop hb)
    · obtain ⟨h1, h2, h3⟩ := hi.τnew t b htb
      refine ⟨h1, Nat.lt_of_lt_of_le h2 hsz, fun hb => ?_⟩
      rcases hnot b hb with hb | hb
      · exact h3 hb
      · have := hnewge b hb
        omega
  · change (if (t / 16 == d) = true then g'.τ (t % 16) else g.τ t) = some b at h1
    change (if (t' / 16 == d) = true then g'.τ (t' % 16) else g.τ t') = some b at h2
    split at h1
    · rename_i e1
      split at h2
      · rename_i e2
        have := hi'.τinj _ _ b h1 h2
        simp at e1 e2
        omega
      · have a1 : w.heap.size ≤ b := (hi'.τnew _ b h1).1
        have := (hi.τnew _ b h2).2.1
        omega
    · split at h2
      · have a1 : w.heap.size ≤ b := (hi'.τnew _ b h2).1
        have := (hi.τnew _ b h1).2.1
        omega
      · exact hi.τinj t t' b h1 h2
  · change (g.β ++ g'.β.drop ids.length)[id]? = some b at hb
    by_cases hid : id < σ.length
    · rw [List.getElem?_append_left (by rw [hβlen]; exact hid)] at hb
      rw [St.after, List.getElem?_append_left (by rw [hupl]; exact hid)] at hs
      by_cases hmem : id ∈ ids
      · obtain ⟨k, hk⟩ := List.getElem?_of_mem hmem
        have hkl := (List.getElem?_eq_some_iff.1 hk).1
        have hkr : k < σr.length := by omega
        rw [St.upd_mem ids _ _ k id (AV.liftL ids σ.length d σr[k]) hnd hk (by simp [List.getElem?_eq_getElem hkr]) (by rw [St.dem_eq, List.length_map]; exact hid)] at hs
        cases hs
        have hbk : g'.β[k]? = some b := by
          rw [hpre k hkl]
          exact hlow k id b hk hb
        obtain ⟨cur, e, hh, hr⟩ := hi'.store k σr[k] b (List.getElem?_eq_getElem hkr) hbk
        exact ⟨cur, e, hh, hliftC hr⟩
      · rw [St.upd_not ids _ _ id hmem] at hs
        obtain ⟨cur, e, hh, hr⟩ := (hi.dem fun t => t / 16 == d).store id cs b hs hb
        have hbc : b ∉ βc := by
          intro hbc
          obtain ⟨k, hk⟩ := List.getElem?_of_mem hbc
          obtain ⟨i, hi1, hi2⟩ := hβc' k b hk
          have := nodup_get_inj hi.βnd hb hi2
          subst this
          exact hmem (List.mem_of_getElem? hi1)
        exact ⟨cur, e, (hheap b (hi.βlt b (List.mem_of_getElem? hb)) hbc).trans hh, hr.stp st⟩
    · rw [List.getElem?_append_right (by omega), List.getElem?_drop, hβlen] at hb
      rw [St.after, List.getElem?_append_right (by rw [hupl]; omega), hupl, List.getElem?_map, List.getElem?_drop, Option.map_eq_some_iff] at hs
      obtain ⟨cs0, hs, rfl⟩ := hs
      obtain ⟨cur, e, hh, hr⟩ := hi'.store _ cs0 b hs hb
      exact ⟨cur, e, hh, hliftC hr⟩

end Go.Proofs.Ytnhchphmmdgphaa.Abs

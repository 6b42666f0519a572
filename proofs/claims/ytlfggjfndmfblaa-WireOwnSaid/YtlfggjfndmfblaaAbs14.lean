/- A call, as its caller sees it. A store into a row's element; a row that is stored into no more. Regions: operations in a row, and operations whose order is drawn. Regions that draw their order: quiet operations first, in whatever order; what waits for all of them behind. Regions that draw their order: soundness. Regions that draw their order: any order serves; the code's judgement; calls. -/
import Derived.Test.YtlfggjfndmfblaaAbs9
import Derived.Deep.Quiet
namespace Go.Proofs.Ytlfggjfndmfblaa.Abs
open Go
set_option linter.unusedVariables false
set_option linter.unusedSimpArgs false

theorem St.upd_length : ∀ (ids : List Nat) (σ r : St), (St.upd σ ids r).length = σ.length
  | [], σ, r => by cases r <;> rfl
  | i :: is, σ, [] => rfl
  | i :: is, σ, cs :: r => by simp only [St.upd]; rw [St.upd_length is]; simp

theorem St.upd_not : ∀ (ids : List Nat) (σ r : St) (k : Nat), k ∉ ids → (St.upd σ ids r)[k]? = σ[k]?
  | [], σ, r, k, _ => by cases r <;> rfl
  | i :: is, σ, [], k, _ => rfl
  | i :: is, σ, cs :: r, k, h => by
    simp only [List.mem_cons, not_or] at h
    simp only [St.upd]
    rw [St.upd_not is _ r k h.2, List.getElem?_set_ne (fun e => h.1 e.symm)]

theorem St.upd_mem : ∀ (ids : List Nat) (σ r : St) (k i : Nat) (cs : List AV), ids.Nodup → ids[k]? = some i → r[k]? = some cs → i < σ.length → (St.upd σ ids r)[i]? = some cs
  | [], σ, r, k, i, cs, _, h, _, _ => by simp at h
  | j :: is, σ, [], k, i, cs, _, _, h, _ => by simp at h
  | j :: is, σ, c0 :: r, k, i, cs, hnd, hi, hr, hlt => by
    simp only [St.upd]
    rw [List.nodup_cons] at hnd
    cases k with
    | zero =>
      simp at hi hr
      subst hi
      subst hr
      rw [St.upd_not is _ r j hnd.1]
      simp [hlt]
    | succ k =>
      simp at hi hr
      exact St.upd_mem is _ r k i cs hnd.2 hi hr (by simpa using hlt)

inductive leS : St → St → Prop
  | nil : leS [] []
  | cons {a b : List AV} {as bs : St} (h : AV.leL a b) (t : leS as bs) : leS (a :: as) (b :: bs)

theorem leS_get {s t : St} (h : leS s t) : s.length = t.length ∧ ∀ (i : Nat) cs, t[i]? = some cs → ∃ bs, s[i]? = some bs ∧ AV.leL bs cs := by
  induction h with
  | nil => exact ⟨rfl, by simp⟩
  | cons h t ih =>
    refine ⟨by simp [ih.1], fun i b hb => ?_⟩
    cases i with
    | zero => simp at hb; subst hb; exact ⟨_, rfl, h⟩
    | succ i => simp at hb; simpa using ih.2 i b hb

/-- The variables that are handed over, as the callee sees them. -/
def St.sub (σ : St) (ids : List Nat) (lt : List Nat := []) : St := ids.map fun i => AV.lowTL lt ids (σ.getD i [])
/-- The store behind the call. -/
def St.after (σ : St) (ids : List Nat) (d : Nat) (σr : St) (lt : List Nat := []) : St :=
  St.upd (σ.dem (endF lt d)) ids (σr.map (AV.liftL ids σ.length d)) ++ (σr.drop ids.length).map (AV.liftL ids σ.length d)

theorem nodup_get_inj {l : List Nat} (h : l.Nodup) {i j b : Nat} (hi : l[i]? = some b) (hj : l[j]? = some b) : i = j := by
  have h1 := List.getElem?_eq_some_iff.1 hi
  have h2 := List.getElem?_eq_some_iff.1 hj
  exact (List.getElem_inj h).1 (h1.2.trans h2.2.symm)

theorem call_sound {P : Program} {c : Ctx} {g : G} {w : World} {σ : St} (hi : Inv c g w σ) {f : FuncId} {vs : Array Value} {args as : List AV} {ids lt : List Nat} {σc σr : St} {r : AV} (d : Nat)
    (hnd : ids.Nodup) (hltn : lt.Nodup) (hlt : ∀ i ∈ ids, i < σ.length) (hargs : RCells g w vs args) (hle : AV.leL (AV.lowTL lt ids args) as) (hst : leS (σ.sub ids lt) σc) (hc : ACalls P f as σc r σr) :
    Calls P f vs w fun e w' => ∃ v g'', e = .returned v ∧ Inv c g'' w' (σ.after ids d σr lt) ∧ Stp (g.dem (endF lt d)) w g'' w' ∧ RAV g'' w' v (r.lift ids σ.length d) := by
  have hβlen := hi.βlen
  let βc : List Nat := ids.map fun i => g.β.getD i 0
  have hβc : ∀ (k i : Nat), ids[k]? = some i → ∃ b, g.β[i]? = some b ∧ βc[k]? = some b := by
    intro k i hk
    have hil : i < g.β.length := by rw [hβlen]; exact hlt i (List.mem_of_getElem? hk)
    refine ⟨g.β[i], List.getElem?_eq_getElem hil, ?_⟩
    simp [βc, hk, List.getD_eq_getElem?_getD, List.getElem?_eq_getElem hil]
  have hβc' : ∀ (k b : Nat), βc[k]? = some b → ∃ i, ids[k]? = some i ∧ g.β[i]? = some b := by
    intro k b hb
    simp only [βc, List.getElem?_map, Option.map_eq_some_iff] at hb
    obtain ⟨i, hik, rfl⟩ := hb
    have hil : i < g.β.length := by rw [hβlen]; exact hlt i (List.mem_of_getElem? hik)
    exact ⟨i, hik, by simp [List.getD_eq_getElem?_getD, List.getElem?_eq_getElem hil]⟩
  have hβcm : ∀ b ∈ βc, b ∈ g.β := by
    intro b hb
    obtain ⟨k, hk⟩ := List.getElem?_of_mem hb
    obtain ⟨i, _, h⟩ := hβc' k b hk
    exact List.mem_of_getElem? h
  have hβcl : βc.length = ids.length := by simp [βc]
  have hlow : ∀ (k id b : Nat), ids[k]? = some id → g.β[id]? = some b → βc[k]? = some b := by
    intro k id b hk hb
    obtain ⟨b', h1, h2⟩ := hβc k id hk
    rw [h1] at hb
    cases hb
    exact h2
  obtain ⟨_, hcall⟩ := hc
  have hsl := leS_get hst
  have hlent : ∀ t b, lent lt g t = some b → ∃ s, (1600000 ≤ t ∧ lt[t - 1600000]? = some s) ∧ g.τ s = some b := by
    intro t b h
    unfold lent at h
    split at h
    · rename_i ht
      cases htt : lt[t - 1600000]? with
      | none => simp [htt] at h
      | some s => simp only [htt, Option.bind_some] at h; exact ⟨s, ⟨ht, rfl⟩, h⟩
    · cases h
  have := hcall w g.I βc (lent lt g) vs hi.Ilt (by
      refine List.pairwise_iff_getElem.2 (fun i j hil hjl hij e => ?_)
      obtain ⟨x, hx1, hx2⟩ := hβc' i _ (List.getElem?_eq_getElem hil)
      obtain ⟨y, hy1, hy2⟩ := hβc' j _ (List.getElem?_eq_getElem hjl)
      rw [← e] at hy2
      have hxy := nodup_get_inj hi.βnd hx2 hy2
      subst hxy
      have := nodup_get_inj hnd hx1 hy1
      omega)
    (fun b hb => hi.βlt b (hβcm b hb)) (fun b hb => hi.βI b (hβcm b hb))
    (fun t b h => by
      obtain ⟨s, _, hs⟩ := hlent t b h
      obtain ⟨_, h2, h3⟩ := hi.τnew s b hs
      exact ⟨h2, fun hb => h3 (hβcm b hb)⟩)
    (fun t t' b h h' => by
      obtain ⟨s, h1, h2⟩ := hlent t b h
      obtain ⟨s', h1', h2'⟩ := hlent t' b h'
      have := hi.τinj s s' b h2 h2'
      subst this
      have := nodup_get_inj hltn h1.2 h1'.2
      omega)
    (by rw [hβcl, ← hsl.1]; simp [St.sub])
    (fun id cs b hs hb => by
      obtain ⟨bs, hbs, hleb⟩ := hsl.2 id cs hs
      obtain ⟨i, hi1, hi2⟩ := hβc' id b hb
      simp only [St.sub, List.getElem?_map, hi1, Option.map_some, Option.some.injEq] at hbs
      have hil : i < σ.length := hlt i (List.mem_of_getElem? hi1)
      obtain ⟨cur, e, hh, hr⟩ := hi.store i σ[i] b (List.getElem?_eq_getElem hil) hi2
      rw [List.getD_eq_getElem?_getD, List.getElem?_eq_getElem hil, Option.getD_some] at hbs
      subst hbs
      exact ⟨cur, e, hh, RCells.le hleb (hr.lowT lt ids βc hlow)⟩)
    (RCells.le hle (hargs.lowT lt ids βc hlow)) hi.now
  refine this.mono fun e w' => ?_
  rintro ⟨v, g', he, hi', hv⟩
  -- the blocks that are not handed over
  have hheap : ∀ b, b < w.heap.size → b ∉ βc → (¬ ∃ t, lent lt g t = some b) → w'.heap[b]? = w.heap[b]? := hi'.old
  have hsz : w.heap.size ≤ w'.heap.size := hi'.size
  have hpre : ∀ (k : Nat), k < ids.length → g'.β[k]? = βc[k]? := by
    intro k hk
    have := hi'.βpre
    simp only [hβcl] at this
    rw [← this, List.getElem?_take_of_lt hk]
  let g'' : G := { I := g'.I, β := g.β ++ g'.β.drop ids.length, τ := fun t => if t / 16 == d then g'.τ (t % 16) else if lt.contains t then none else g.τ t }
  have hτnot : ∀ t b, g.τ t = some b → b ∉ βc := fun t b ht hb => (hi.τnew t b ht).2.2 (hβcm b hb)
  have hInot : ∀ b o, g.I b o → b ∉ βc := fun b o h hb => hi.βI b (hβcm b hb) o h
  have hrest : ∀ t b, endF lt d t = false → g.τ t = some b → ¬ ∃ t, lent lt g t = some b := by
    rintro t b hf ht ⟨j, hj⟩
    obtain ⟨s, h1, h2⟩ := hlent j b hj
    have := hi.τinj t s b ht h2
    subst this
    unfold endF at hf
    simp only [Bool.or_eq_false_iff] at hf
    have : lt.contains t = true := by simpa using List.mem_of_getElem? h1.2
    rw [this] at hf
    cases hf.1
  have hlβ : ∀ b, (∃ t, lent lt g t = some b) → b ∉ g.β ∧ (c.w0.heap.size ≤ b ∨ c.O0 b) := by
    rintro b ⟨j, hj⟩
    obtain ⟨s, _, h2⟩ := hlent j b hj
    exact ⟨(hi.τnew s b h2).2.2, (hi.τnew s b h2).1⟩
  have st : Stp (g.dem (endF lt d)) w g'' w' := by
    refine ⟨fun b o h => hi'.Ile b o h, fun b o h => hi'.cell0 b o h, fun id b h => ?_, fun t b htb => ?_⟩
    · have h' : g.β[id]? = some b := h
      show (g.β ++ g'.β.drop ids.length)[id]? = some b
      rw [List.getElem?_append_left (List.getElem?_eq_some_iff.1 h').1]
      exact h'
    · simp only [G.dem] at htb
      split at htb
      · cases htb
      · rename_i hft
        have hft : endF lt d t = false := by simpa using hft
        have hbl := (hi.τnew t b htb).2.1
        have hno := hrest t b hft htb
        refine ⟨?_, hheap b hbl (hτnot t b htb) hno, fun o h => hi'.Iold b o h hbl hno⟩
        show (if (t / 16 == d) = true then g'.τ (t % 16) else if lt.contains t then none else g.τ t) = some b
        unfold endF at hft
        simp only [Bool.or_eq_false_iff] at hft
        rw [if_neg (by rw [hft.2]; simp), if_neg (by rw [hft.1]; simp)]
        exact htb
  have hnewge : ∀ b ∈ g'.β.drop ids.length, w.heap.size ≤ b := by
    have := hi'.βnew
    simpa [hβcl] using this
  have hβ1 : ∀ (k i b : Nat), ids[k]? = some i → g'.β[k]? = some b → g''.β[i]? = some b := by
    intro k i b hk hb
    have hkl := (List.getElem?_eq_some_iff.1 hk).1
    rw [hpre k hkl] at hb
    obtain ⟨j, hj1, hj2⟩ := hβc' k b hb
    rw [hk] at hj1
    cases hj1
    show (g.β ++ g'.β.drop ids.length)[i]? = some b
    rw [List.getElem?_append_left (List.getElem?_eq_some_iff.1 hj2).1]
    exact hj2
  have hβ2 : ∀ (k b : Nat), ids[k]? = none → g'.β[k]? = some b → g''.β[σ.length + (k - ids.length)]? = some b := by
    intro k b hk hb
    have hkl : ids.length ≤ k := by simpa using hk
    show (g.β ++ g'.β.drop ids.length)[σ.length + (k - ids.length)]? = some b
    rw [List.getElem?_append_right (by omega), List.getElem?_drop, hβlen]
    rw [show ids.length + (σ.length + (k - ids.length) - σ.length) = k by omega]
    exact hb
  have hτ : ∀ (t b : Nat), t < 16 → g'.τ t = some b → g''.τ (16 * d + t) = some b := by
    intro t b ht hb
    show (if ((16 * d + t) / 16 == d) = true then g'.τ ((16 * d + t) % 16) else if lt.contains (16 * d + t) then none else g.τ _) = some b
    rw [show (16 * d + t) / 16 = d by omega, show (16 * d + t) % 16 = t by omega]
    simpa using hb
  have hlift : ∀ {v : Value} {a : AV}, RAV g' w' v a → RAV g'' w' v (a.lift ids σ.length d) := fun h => RAV.lift (g1 := g') (g2 := g'') ids σ.length d rfl hβ1 hβ2 hτ h
  have hliftC : ∀ {vs : Array Value} {cs : List AV}, RCells g' w' vs cs → RCells g'' w' vs (AV.liftL ids σ.length d cs) := by
    intro vs cs h
    rw [AV.liftL_eq]
    refine ⟨by simpa using h.1, fun i v a hv ha => ?_⟩
    simp only [List.getElem?_map, Option.map_eq_some_iff] at ha
    obtain ⟨a, ha, rfl⟩ := ha
    exact hlift (h.2 i v a hv ha)
  have hσrl : g'.β.length = σr.length := hi'.βlen
  have hidl : ids.length ≤ g'.β.length := by
    have := congrArg List.length hi'.βpre
    simp [hβcl] at this
    omega
  have hupl : (St.upd (σ.dem (endF lt d)) ids (σr.map (AV.liftL ids σ.length d))).length = σ.length := by rw [St.upd_length, St.dem_eq, List.length_map]
  have hold : ∀ b, b < c.w0.heap.size → ¬ c.O0 b → ¬ ∃ t, lent lt g t = some b := fun b hb ho hx => by
    rcases (hlβ b hx).2 with h | h
    · omega
    · exact ho h
  refine ⟨v, g'', he, ⟨hi'.os.trans hi.os, hi'.tape.trans hi.tape, hi'.output.trans hi.output, Nat.le_trans hi.size hsz, fun b hb hn ho => ?_, fun b o h => hi'.Ile b o (hi.Ile b o h), fun b o h hb ho => hi.Iold b o (hi'.Iold b o h (Nat.lt_of_lt_of_le hb hi.size) (hold b hb ho)) hb ho, hi'.Ilt, ?_, ?_, ?_, ?_, fun b hb o h => ?_, fun b hb => ?_, fun t b htb => ?_, fun t t' b h1 h2 => ?_, fun id cs b hs hb => ?_, fun b o h => (st.cell b o (hi.Ile b o h)).trans (hi.cell0 b o h), hi.glo⟩, st, hlift hv⟩
  · have hbw : b < w.heap.size := Nat.lt_of_lt_of_le hb hi.size
    have hbc : b ∉ βc := by
      intro hbc
      have hmem := hβcm b hbc
      rw [← List.take_append_drop c.β0.length g.β] at hmem
      rcases List.mem_append.1 hmem with h | h
      · rw [hi.βpre] at h
        exact hn h
      · have := hi.βnew b h
        omega
    rw [hheap b hbw hbc (hold b hb ho)]
    exact hi.old b hb hn ho
  · have hlen : c.β0.length ≤ g.β.length := by
      have := congrArg List.length hi.βpre
      simp at this
      omega
    show (g.β ++ g'.β.drop ids.length).take c.β0.length = c.β0
    rw [List.take_append_of_le_length hlen]
    exact hi.βpre
  · intro b hb
    have hlen : c.β0.length ≤ g.β.length := by
      have := congrArg List.length hi.βpre
      simp at this
      omega
    change b ∈ (g.β ++ g'.β.drop ids.length).drop c.β0.length at hb
    rw [List.drop_append_of_le_length hlen] at hb
    rcases List.mem_append.1 hb with h | h
    · exact hi.βnew b h
    · have := hnewge b h
      have := hi.size
      omega
  · show (g.β ++ g'.β.drop ids.length).Nodup
    refine List.nodup_append.2 ⟨hi.βnd, (List.drop_sublist _ _).nodup hi'.βnd, fun x hx y hy => ?_⟩
    have := hi.βlt x hx
    have := hnewge y hy
    omega
  · show (g.β ++ g'.β.drop ids.length).length = _
    simp only [St.after, List.length_append, hupl, List.length_map, List.length_drop]
    omega
  · rcases List.mem_append.1 (show b ∈ g.β ++ g'.β.drop ids.length from hb) with hb | hb
    · exact hi.βI b hb o (hi'.Iold b o h (hi.βlt b hb) (fun hx => (hlβ b hx).1 hb))
    · exact hi'.βI b (List.mem_of_mem_drop hb) o h
  · rcases List.mem_append.1 (show b ∈ g.β ++ g'.β.drop ids.length from hb) with hb | hb
    · exact Nat.lt_of_lt_of_le (hi.βlt b hb) hsz
    · exact hi'.βlt b (List.mem_of_mem_drop hb)
  · change (if (t / 16 == d) = true then g'.τ (t % 16) else if lt.contains t then none else g.τ t) = some b at htb
    have hnot : ∀ b, b ∈ g.β ++ g'.β.drop ids.length → b ∈ g.β ∨ b ∈ g'.β.drop ids.length := fun b => List.mem_append.1
    split at htb
    · obtain ⟨h1, h2, h3⟩ := hi'.τnew _ b htb
      rcases h1 with h1 | h1
      · have h1 : w.heap.size ≤ b := h1
        refine ⟨.inl (Nat.le_trans hi.size h1), h2, fun hb => ?_⟩
        rcases hnot b hb with hb | hb
        · have := hi.βlt b hb
          omega
        · exact h3 (List.mem_of_mem_drop hb)
      · have h1 : ∃ t, lent lt g t = some b := h1
        refine ⟨(hlβ b h1).2, h2, fun hb => ?_⟩
        rcases hnot b hb with hb | hb
        · exact (hlβ b h1).1 hb
        · exact h3 (List.mem_of_mem_drop hb)
    · split at htb
      · cases htb
      · obtain ⟨h1, h2, h3⟩ := hi.τnew t b htb
        refine ⟨h1, Nat.lt_of_lt_of_le h2 hsz, fun hb => ?_⟩
        rcases hnot b hb with hb | hb
        · exact h3 hb
        · have := hnewge b hb
          omega
  · change (if (t / 16 == d) = true then g'.τ (t % 16) else if lt.contains t then none else g.τ t) = some b at h1
    change (if (t' / 16 == d) = true then g'.τ (t' % 16) else if lt.contains t' then none else g.τ t') = some b at h2
    have cross : ∀ s s', (s' / 16 == d) ≠ true → lt.contains s' ≠ true → g'.τ (s % 16) = some b → g.τ s' = some b → False := by
      intro s s' hs' hc' h1 h2
      have hf : endF lt d s' = false := by unfold endF; simp only [Bool.or_eq_false_iff]; exact ⟨by simpa using hc', by simpa using hs'⟩
      rcases (hi'.τnew _ b h1).1 with a1 | a1
      · have a1 : w.heap.size ≤ b := a1
        have := (hi.τnew _ b h2).2.1
        omega
      · exact hrest s' b hf h2 a1
    split at h1
    · rename_i e1
      split at h2
      · rename_i e2
        have := hi'.τinj _ _ b h1 h2
        simp at e1 e2
        omega
      · rename_i e2
        split at h2
        · cases h2
        · rename_i e3
          exact (cross t t' e2 e3 h1 h2).elim
    · rename_i e1
      split at h1
      · cases h1
      · rename_i e4
        split at h2
        · exact (cross t' t e1 e4 h2 h1).elim
        · split at h2
          · cases h2
          · exact hi.τinj t t' b h1 h2
  · change (g.β ++ g'.β.drop ids.length)[id]? = some b at hb
    by_cases hid : id < σ.length
    · rw [List.getElem?_append_left (by rw [hβlen]; exact hid)] at hb
      rw [St.after, List.getElem?_append_left (by rw [hupl]; exact hid)] at hs
      by_cases hmem : id ∈ ids
      · obtain ⟨k, hk⟩ := List.getElem?_of_mem hmem
        have hkl := (List.getElem?_eq_some_iff.1 hk).1
        have hkr : k < σr.length := by omega
        rw [St.upd_mem ids _ _ k id (AV.liftL ids σ.length d σr[k]) hnd hk (by simp [List.getElem?_eq_getElem hkr]) (by rw [St.dem_eq, List.length_map]; exact hid)] at hs
        cases hs
        have hbk : g'.β[k]? = some b := by
          rw [hpre k hkl]
          exact hlow k id b hk hb
        obtain ⟨cur, e, hh, hr⟩ := hi'.store k σr[k] b (List.getElem?_eq_getElem hkr) hbk
        exact ⟨cur, e, hh, hliftC hr⟩
      · rw [St.upd_not ids _ _ id hmem] at hs
        obtain ⟨cur, e, hh, hr⟩ := (hi.dem (endF lt d)).store id cs b hs hb
        have hbc : b ∉ βc := by
          intro hbc
          obtain ⟨k, hk⟩ := List.getElem?_of_mem hbc
          obtain ⟨i, hi1, hi2⟩ := hβc' k b hk
          have := nodup_get_inj hi.βnd hb hi2
          subst this
          exact hmem (List.mem_of_getElem? hi1)
        exact ⟨cur, e, (hheap b (hi.βlt b (List.mem_of_getElem? hb)) hbc (fun hx => (hlβ b hx).1 (List.mem_of_getElem? hb))).trans hh, hr.stp st⟩
    · rw [List.getElem?_append_right (by omega), List.getElem?_drop, hβlen] at hb
      rw [St.after, List.getElem?_append_right (by rw [hupl]; omega), hupl, List.getElem?_map, List.getElem?_drop, Option.map_eq_some_iff] at hs
      obtain ⟨cs0, hs, rfl⟩ := hs
      obtain ⟨cur, e, hh, hr⟩ := hi'.store _ cs0 b hs hb
      exact ⟨cur, e, hh, hliftC hr⟩

end Go.Proofs.Ytlfggjfndmfblaa.Abs

namespace Go.Proofs.Ytlfggjfndmfblaa.Abs
open Go
set_option linter.unusedVariables false
set_option linter.unusedSimpArgs false

/-! ### A store -/
mutual
/-- What is known behind a store into the row of token t: its element i is this row now. -/
def AV.setM (t sz i : Nat) (row : List PV) : AV → AV
  | .mrow t' sz' xs => if t' == t then (if sz' == sz then .mrow t' sz' (xs.set i row) else .any) else .mrow t' sz' xs
  | .mptr t' sz' j off r => if t' == t then .any else .mptr t' sz' j off r
  | .own t' sz' xs => if t' == t then .any else .own t' sz' xs
  | .agg cs => .agg (AV.setML t sz i row cs)
  | .tup cs => .tup (AV.setML t sz i row cs)
  | .fn f cs => .fn f (AV.setML t sz i row cs)
  | a => a
def AV.setML (t sz i : Nat) (row : List PV) : List AV → List AV
  | [] => []
  | a :: as => AV.setM t sz i row a :: AV.setML t sz i row as
end
theorem AV.setML_eq (t sz i : Nat) (row : List PV) (l : List AV) : AV.setML t sz i row l = l.map (AV.setM t sz i row) := by
  induction l with
  | nil => rfl
  | cons a l ih => simp [AV.setML, ih]
def Fr.setM (t sz i : Nat) (row : List PV) : Fr → Fr
  | [] => []
  | (d, a) :: r => (d, a.setM t sz i row) :: Fr.setM t sz i row r
def St.setM (t sz i : Nat) (row : List PV) : St → St
  | [] => []
  | cs :: r => AV.setML t sz i row cs :: St.setM t sz i row r
theorem Fr.get_setM (t sz i : Nat) (row : List PV) (fr : Fr) (d : Nat) : (fr.setM t sz i row).get d = (fr.get d).setM t sz i row := by
  induction fr with
  | nil => rfl
  | cons x r ih =>
    obtain ⟨k, a⟩ := x
    simp only [Fr.setM, Fr.get]
    split
    · rfl
    · exact ih
theorem St.setM_eq (t sz i : Nat) (row : List PV) (σ : St) : σ.setM t sz i row = σ.map (·.map (AV.setM t sz i row)) := by
  induction σ with
  | nil => rfl
  | cons x r ih => simp [St.setM, AV.setML_eq, ih]

/-- A store, told: w' is w but for block b, whose cells are cur' now. -/
structure Put (g : G) (w : World) (t sz i b : Nat) (e : TypeId) (cur cur' : Array Value) (off n : Nat) (row : List PV) : Prop where
  τ : g.τ t = some b
  I : ∀ o, ¬ g.I b o
  heap : w.heap[b]? = some (.cells cur e (0, 0))
  size : cur'.size = cur.size
  fit : off + n ≤ sz
  room : i * sz + sz ≤ cur.size
  len : row.length = sz
  same : ∀ k, (k < i * sz + off ∨ i * sz + off + n ≤ k) → cur'[k]? = cur[k]?
  row : ∀ (j : Nat) (p : PV), row[j]? = some p → ∃ u, cur'[i * sz + j]? = some u ∧ RV g.I w u p

theorem Put.cell {g : G} {w : World} {t sz i b : Nat} {e : TypeId} {cur cur' : Array Value} {off n : Nat} {row : List PV} (p : Put g w t sz i b e cur cur' off n row) : ∀ k o, g.I k o → (w.setRow b cur').cell? ⟨k, o, none⟩ = w.cell? ⟨k, o, none⟩ := fun k o h => by
  have hk : k ≠ b := fun e => p.I o (e ▸ h)
  simp [World.cell?, setRow_other w b k _ hk]

theorem ownsRow_same {w w' : World} {base size n : Nat} {e : TypeId} {v : Value} {xs : List Value} (h : w.ownsRow base e size v n xs) (hh : ∀ b, v.ownBlock = some b → w'.heap[b]? = w.heap[b]?) : w'.ownsRow base e size v n xs := ownsRow_heap h hh

theorem RAV.setM {g : G} {w : World} {t sz i b : Nat} {e : TypeId} {cur cur' : Array Value} {off n : Nat} {row : List PV} (p : Put g w t sz i b e cur cur' off n row) (hinj : ∀ t t' b, g.τ t = some b → g.τ t' = some b → t = t') {v : Value} {a : AV} (h : RAV g w v a) :
    RAV g (w.setRow b cur') v (a.setM t sz i row) := by
  have hcell := p.cell
  have hRV : ∀ {u q}, RV g.I w u q → RV g.I (w.setRow b cur') u q := fun h => h.mono (fun _ _ h => h) hcell
  have hne : ∀ t' b', (t' == t) = false → g.τ t' = some b' → b' ≠ b := by
    rintro t' b' ht h1 rfl
    have := hinj t' t b' h1 p.τ
    subst this
    simp at ht
  induction h with
  | c h => exact .c (hRV h)
  | nil => exact .nil
  | own t' sz' xs h =>
    simp only [AV.setM]
    split
    · exact .any
    · rename_i ht
      obtain ⟨h0, hs, e', cells, ho, hv, hb⟩ := h
      refine .own t' sz' xs ⟨h0, hs, e', cells, ownsRow_heap ho (fun b' hb' => setRow_other w b b' _ (hne t' b' (by simpa using ht) (hb b' hb').1)), fun k j x q hx hq => ?_, hb⟩
      obtain ⟨u, hu, hr⟩ := hv k j x q hx hq
      exact ⟨u, hu, hRV hr⟩
  | mrow t' sz' xs h =>
    obtain ⟨h0, hs, e', cells, ho, hv, hb⟩ := h
    simp only [AV.setM]
    split
    · rename_i ht
      have ht : t' = t := by simpa using ht
      subst ht
      split
      · rename_i hsz
        have hsz : sz' = sz := by simpa using hsz
        subst hsz
        have hs' : ∀ x ∈ xs.set i row, x.length = sz' := fun x hx => by
          rcases List.mem_or_eq_of_mem_set hx with h | h
          · exact hs x h
          · rw [h]; exact p.len
        rcases ho.2 with ⟨rfl, hn⟩ | ⟨b', cap, cur0, rfl, hbs, hg, hnc, hcm, hcs, htake⟩
        · have hx : xs = [] := List.eq_nil_of_length_eq_zero hn
          subst hx
          exact .mrow _ _ _ ⟨h0, by simp, e', [], World.ownsRow_nil _ 0 e' sz', by simp, by simp [Value.ownBlock]⟩
        · obtain ⟨hτ, hI⟩ := hb b' rfl
          obtain rfl : b' = b := by have := p.τ; rw [hτ] at this; exact Option.some.inj this
          have hh := p.heap
          rw [hg] at hh
          simp only [Option.some.injEq, Obj.cells.injEq] at hh
          obtain ⟨rfl, rfl, _⟩ := hh
          have hlen : (cur'.toList.take (xs.length * sz')).length = xs.length * sz' := by
            have h1 : cur'.toList.length = cap * sz' := by have := p.size; simp; omega
            rw [List.length_take, h1]
            exact Nat.min_eq_left (Nat.mul_le_mul_right _ hnc)
          refine .mrow _ _ _ ⟨h0, hs', e', cur'.toList.take (xs.length * sz'), ⟨by rw [List.length_set]; exact hlen, .inr ⟨b', cap, cur', by rw [List.length_set], hbs, setRow_heap w b' cur0 cur' e' _ hg, by rw [List.length_set]; exact hnc, hcm, by rw [p.size]; exact hcs, by rw [List.length_set]⟩⟩, fun k j x q hx hq => ?_, hb⟩
          have hk := (List.getElem?_eq_some_iff.1 hx).1
          rw [List.length_set] at hk
          have hj := (List.getElem?_eq_some_iff.1 hq).1
          rw [hs' x (List.mem_of_getElem? hx)] at hj
          have hkm : k * sz' + sz' ≤ xs.length * sz' := by
            have : (k + 1) * sz' ≤ xs.length * sz' := Nat.mul_le_mul_right _ hk
            rwa [Nat.add_mul, Nat.one_mul] at this
          have hlook : (cur'.toList.take (xs.length * sz'))[k * sz' + j]? = cur'[k * sz' + j]? := by
            rw [List.getElem?_take_of_lt (by omega), Array.getElem?_toList]
          rw [hlook]
          by_cases hki : i = k
          · subst hki
            rw [List.getElem?_set_self hk] at hx
            cases hx
            obtain ⟨u, hu, hr⟩ := p.row j q hq
            exact ⟨u, hu, hRV hr⟩
          · rw [List.getElem?_set_ne hki] at hx
            obtain ⟨u, hu, hr⟩ := hv k j x q hx hq
            refine ⟨u, ?_, hRV hr⟩
            rw [p.same]
            · rw [← htake, List.getElem?_take_of_lt (by omega), Array.getElem?_toList] at hu
              exact hu
            · have := p.fit
              rcases Nat.lt_or_gt_of_ne hki with hlt | hlt
              · right
                have : (i + 1) * sz' ≤ k * sz' := Nat.mul_le_mul_right _ hlt
                rw [Nat.add_mul, Nat.one_mul] at this
                omega
              · left
                have : (k + 1) * sz' ≤ i * sz' := Nat.mul_le_mul_right _ hlt
                rw [Nat.add_mul, Nat.one_mul] at this
                omega
      · exact .any
    · rename_i ht
      refine .mrow t' sz' xs ⟨h0, hs, e', cells, ownsRow_heap ho (fun b' hb' => setRow_other w b b' _ (hne t' b' (by simpa using ht) (hb b' hb').1)), fun k j x q hx hq => ?_, hb⟩
      obtain ⟨u, hu, hr⟩ := hv k j x q hx hq
      exact ⟨u, hu, hRV hr⟩
  | mptr t' sz' j off' r h =>
    simp only [AV.setM]
    split
    · exact .any
    · rename_i ht
      obtain ⟨b', cur0, e', hv, hτ, hI, hl, hc, hh, hr⟩ := h
      refine .mptr _ _ _ _ _ ⟨b', cur0, e', hv, hτ, hI, hl, hc, by rw [setRow_other w b b' _ (hne t' b' (by simpa using ht) hτ)]; exact hh, fun k q hq => ?_⟩
      obtain ⟨u, hu, hr⟩ := hr k q hq
      exact ⟨u, hu, hRV hr⟩
  | agg vs cs h _ ih =>
    simp only [AV.setM, AV.setML_eq]
    refine .agg vs _ (by simpa using h) (fun i v a hv ha => ?_)
    simp only [List.getElem?_map, Option.map_eq_some_iff] at ha
    obtain ⟨a, ha, rfl⟩ := ha
    exact ih i v a hv ha
  | tup vs cs h _ ih =>
    simp only [AV.setM, AV.setML_eq]
    refine .tup vs _ (by simpa using h) (fun i v a hv ha => ?_)
    simp only [List.getElem?_map, Option.map_eq_some_iff] at ha
    obtain ⟨a, ha, rfl⟩ := ha
    exact ih i v a hv ha
  | fn k vs cs h _ ih =>
    simp only [AV.setM, AV.setML_eq]
    refine .fn k vs _ (by simpa using h) (fun i v a hv ha => ?_)
    simp only [List.getElem?_map, Option.map_eq_some_iff] at ha
    obtain ⟨a, ha, rfl⟩ := ha
    exact ih i v a hv ha
  | box id off b h => exact .box id off b h
  | eptr b' o off cs vs hc hv => exact .eptr b' o off cs vs (fun j hj => ⟨(hc j hj).1, (hcell _ _ (hc j hj).1).trans (hc j hj).2⟩) (fun j q hq => hRV (hv j q hq))
  | ptrs b' o cap l hcap hc =>
    refine .ptrs b' o cap l hcap (fun k q hq => ?_)
    obtain ⟨h1, bk, h2, h3⟩ := hc k q hq
    exact ⟨h1, bk, h2, (hcell _ _ h1).trans h3⟩
  | view id off n b cap h hn => exact .view id off n b cap h hn
  | pptr b' o bk q hi hb hc => exact .pptr b' o bk q hi hb ((hcell _ _ hi).trans hc)
  | nilptr => exact .nilptr
  | any => exact .any

theorem Inv.setM {c : Ctx} {g : G} {w : World} {σ : St} (hi : Inv c g w σ) {t sz i b : Nat} {e : TypeId} {cur cur' : Array Value} {off n : Nat} {row : List PV} (p : Put g w t sz i b e cur cur' off n row) : Inv c g (w.setRow b cur') (σ.setM t sz i row) := by
  have hheap : ∀ k, k ≠ b → (w.setRow b cur').heap[k]? = w.heap[k]? := fun k hk => setRow_other w b k _ hk
  have hsize : (w.setRow b cur').heap.size = w.heap.size := by simp [World.setRow]
  obtain ⟨h1, h2, h3⟩ := hi.τnew t b p.τ
  refine ⟨hi.os, hi.tape, hi.output, by rw [hsize]; exact hi.size, fun k hk hn ho => ?_, hi.Ile, hi.Iold, fun k o h => by rw [hsize]; exact hi.Ilt k o h, hi.βpre, hi.βnew, hi.βnd, by rw [St.setM_eq, List.length_map]; exact hi.βlen, hi.βI, fun k hk => by rw [hsize]; exact hi.βlt k hk,
    fun t k h => by rw [hsize]; exact hi.τnew t k h, hi.τinj, fun id cs b' hs hb => ?_, fun k o h => (p.cell k o (hi.Ile k o h)).trans (hi.cell0 k o h), hi.glo⟩
  · have : k ≠ b := by
      rintro rfl
      rcases h1 with h1 | h1
      · omega
      · exact ho h1
    exact (hheap k this).trans (hi.old k hk hn ho)
  · rw [St.setM_eq, List.getElem?_map, Option.map_eq_some_iff] at hs
    obtain ⟨cs, hs, rfl⟩ := hs
    obtain ⟨cur0, e0, hh, hr⟩ := hi.store id cs b' hs hb
    have hbb : b' ≠ b := by
      rintro rfl
      exact h3 (List.mem_of_getElem? hb)
    refine ⟨cur0, e0, (hheap b' hbb).trans hh, by simpa using hr.1, fun k v a hv ha => ?_⟩
    simp only [List.getElem?_map, Option.map_eq_some_iff] at ha
    obtain ⟨a, ha, rfl⟩ := ha
    exact (hr.2 k v a hv ha).setM p hi.τinj

/-- Slots that hold pointers to the element that is stored to: they know what it holds now. -/
def Fr.keepM (fr : Fr) (t sz i : Nat) (row row' : List PV) : List (Nat × Nat) → Fr → Prop
  | [], fr' => fr' = fr.setM t sz i row'
  | (d, off) :: D, fr' => fr.get d = .mptr t sz i off row ∧ ∃ fr'', fr' = (d, .mptr t sz i off row') :: fr'' ∧ Fr.keepM fr t sz i row row' D fr''

/-- A store through a pointer to a row's element. -/
def amst (P : Program) (o : Oper) (fr : Fr) (σ : St) (K : Fr → St → Prop) : Prop :=
  match o.op with
  | .store ty x y => ∃ ag n t sz i off row hs vs D fr', o.dst = .none ∧ tyVar P ty = some (ag, n) ∧ fr.ev x = .mptr t sz i off row ∧ (fr.ev y).solid = true ∧ AV.pvhs? hs (fr.ev y).cells = some vs ∧ vs.length = n ∧ off + n ≤ sz ∧
      Fr.keepM fr t sz i row (row.take off ++ (vs ++ row.drop (off + n))) D fr' ∧ K fr' (σ.setM t sz i (row.take off ++ (vs ++ row.drop (off + n))))
  | _ => False

theorem pvhs_get' : ∀ {hs : List Nat} {l : List AV} {ps : List PV}, AV.pvhs? hs l = some ps → ∀ (i : Nat) (p : PV), ps[i]? = some p → ∃ a h, l[i]? = some a ∧ a.pvh? h = some p
  | hs, [], ps, h, i, p, hp => by simp [AV.pvhs?] at h; subst h; simp at hp
  | hs, a :: as, ps, h, i, p, hp => by
    simp only [AV.pvhs?] at h
    split at h
    · rename_i q hq
      split at h
      · rename_i qs hqs
        simp only [Option.some.injEq] at h
        subst h
        cases i with
        | zero => simp at hp; subst hp; exact ⟨a, _, rfl, hq⟩
        | succ i => simp at hp; exact pvhs_get' hqs i p hp
      · cases h
    · cases h

theorem keepM_get {fr : Fr} {t sz i : Nat} {row row' : List PV} : ∀ {D : List (Nat × Nat)} {fr' : Fr}, Fr.keepM fr t sz i row row' D fr' → ∀ d, fr'.get d = (fr.get d).setM t sz i row' ∨ ∃ off, fr.get d = .mptr t sz i off row ∧ fr'.get d = .mptr t sz i off row'
  | [], fr', h, d => by
    simp only [Fr.keepM] at h
    subst h
    exact .inl (Fr.get_setM _ _ _ _ _ _)
  | (d0, off) :: D, fr', h, d => by
    obtain ⟨h1, fr'', rfl, h2⟩ := h
    simp only [Fr.get]
    split
    · rename_i hd
      subst hd
      exact .inr ⟨off, h1, rfl⟩
    · exact keepM_get h2 d

theorem amst_sound {P : Program} {c : Ctx} {o : Oper} {a : Act} {w : World} {fr : Fr} {σ : St} {K : Fr → St → Prop} {g : G} (h : amst P o fr σ K) (hi : Inv c g w σ) (hf : RFr g w a.tmps fr) :
    ∃ w' fr' σ', (execOp a.eval o).run P w = .ok .skip w' ∧ o.dst = .none ∧ K fr' σ' ∧ Inv c g w' σ' ∧ RFr g w' a.tmps fr' := by
  obtain ⟨dst, op, ty, pos, after, guard⟩ := o
  cases op
  case store t0 x y =>
    obtain ⟨ag, n, t, sz, i, off, row, hs, vs, D, fr', hd, ht, hx0, hsol, hvs, hl, hfit, hkeep, hk⟩ := h
    have hx := ev_sound hf x
    rw [hx0] at hx
    obtain ⟨b, cur, e, hvx, hτ, hI, hrl, hroom, hh, hr⟩ := hx.mptr_inv
    obtain ⟨hv, h1⟩ := (ev_sound hf y).cells hsol
    have hpl := pvhs_length hvs
    have hvl : (a.eval y).cells.size = n := by rw [hv.1, ← hpl, hl]
    generalize hu : (a.eval y).cells = us at hv h1 hvl
    have hcur' : ∀ k : Nat, ((cur.toList.take (i * sz + off) ++ us.toList ++ cur.toList.drop (i * sz + off + us.toList.length)).toArray)[k]? = if k < i * sz + off then cur[k]? else if k < i * sz + off + n then us[k - (i * sz + off)]? else cur[k]? := by
      intro k
      rw [List.getElem?_toArray, List.append_assoc]
      by_cases hk1 : k < i * sz + off
      · rw [if_pos hk1, List.getElem?_append_left (by simp; omega), List.getElem?_take_of_lt hk1, Array.getElem?_toList]
      · rw [if_neg hk1, List.getElem?_append_right (by simp; omega)]
        simp only [List.length_take, Array.length_toList, show min (i * sz + off) cur.size = i * sz + off by omega]
        by_cases hk2 : k < i * sz + off + n
        · rw [if_pos hk2, List.getElem?_append_left (by simp; omega), Array.getElem?_toList]
        · rw [if_neg hk2, List.getElem?_append_right (by simp; omega), List.getElem?_drop]
          simp only [Array.length_toList]
          rw [show i * sz + off + us.size + (k - (i * sz + off) - us.size) = k by omega, Array.getElem?_toList]
    have hp : Put g w t sz i b e cur (cur.toList.take (i * sz + off) ++ us.toList ++ cur.toList.drop (i * sz + off + us.toList.length)).toArray off n (row.take off ++ (vs ++ row.drop (off + n))) := by
      refine ⟨hτ, hI, hh, by simp; omega, hfit, hroom, by simp; omega, fun k hk => ?_, fun j p hp => ?_⟩
      · rw [hcur']
        split
        · rfl
        · split
          · omega
          · rfl
      · have hj := (List.getElem?_eq_some_iff.1 hp).1
        simp only [List.length_append, List.length_take, List.length_drop] at hj
        rw [hcur']
        by_cases hj1 : j < off
        · rw [List.getElem?_append_left (by simp; omega), List.getElem?_take_of_lt hj1] at hp
          rw [if_pos (by omega)]
          exact hr j p hp
        · rw [List.getElem?_append_right (by simp; omega)] at hp
          simp only [List.length_take, show min off row.length = off by omega] at hp
          rw [if_neg (by omega)]
          by_cases hj2 : j < off + n
          · rw [List.getElem?_append_left (by omega)] at hp
            rw [if_pos (by omega)]
            obtain ⟨a', h', ha', hp'⟩ := pvhs_get' hvs _ p hp
            have hlt : j - off < us.size := by omega
            have := hv.2 (j - off) us[j - off] a' (Array.getElem?_eq_getElem hlt) ha'
            exact ⟨us[j - off], by rw [show i * sz + j - (i * sz + off) = j - off by omega]; exact Array.getElem?_eq_getElem hlt, this.pvh hp'⟩
          · rw [List.getElem?_append_right (by omega), List.getElem?_drop] at hp
            rw [if_neg (by omega)]
            rw [show off + n + (j - off - vs.length) = j by omega] at hp
            exact hr j p hp
    refine ⟨_, fr', _, ?_, hd, hk, hi.setM hp, fun d => ?_⟩
    · have hst := run_storeCells_at P b (i * sz + off) e us.toList 0 cur w hh (by simp; omega) h1
      simp only [Nat.add_zero] at hst
      simp [execOp, Instr.storeAt, Instr.sureAddr, hvx, storeVar, (tyVar_spec ht w).2, hu, hvl, hst]
    · rcases keepM_get hkeep d with h | ⟨off', h2, h3⟩
      · rw [h]
        exact (hf d).setM hp hi.τinj
      · rw [h3]
        have := hf d
        rw [h2] at this
        obtain ⟨b', cur0, e', hv', hτ', hI', hrl', hroom', hh', hr'⟩ := this.mptr_inv
        obtain rfl : b = b' := by rw [hτ] at hτ'; exact Option.some.inj hτ'
        refine .mptr _ _ _ _ _ ⟨b, _, e, hv', hτ, hI, hp.len, by rw [hp.size]; exact hroom, setRow_heap w b cur _ e _ hh, fun j p hpj => ?_⟩
        obtain ⟨u, hu', hru⟩ := hp.row j p hpj
        exact ⟨u, hu', hru.mono (fun _ _ h => h) hp.cell⟩
  all_goals exact (by simp only [amst] at h)

/-! ### A row that is stored into no more -/
mutual
/-- The row of token t, told as settled; sz, xs: what it holds. -/
def AV.frz (t sz : Nat) (xs : List (List PV)) : AV → AV
  | .mrow t' sz' xs' => if t' == t then .own t sz xs else .mrow t' sz' xs'
  | .mptr t' sz' i off row => if t' == t then .any else .mptr t' sz' i off row
  | .own t' sz' xs' => if t' == t then .c (.list sz' xs') else .own t' sz' xs'
  | .agg cs => .agg (AV.frzL t sz xs cs)
  | .tup cs => .tup (AV.frzL t sz xs cs)
  | .fn f cs => .fn f (AV.frzL t sz xs cs)
  | a => a
def AV.frzL (t sz : Nat) (xs : List (List PV)) : List AV → List AV
  | [] => []
  | a :: as => AV.frz t sz xs a :: AV.frzL t sz xs as
/-- The same, each told by what it knew itself. -/
def AV.fro (t : Nat) : AV → AV
  | .mrow t' sz' xs' => if t' == t then .own t sz' xs' else .mrow t' sz' xs'
  | .mptr t' sz' i off row => if t' == t then .any else .mptr t' sz' i off row
  | .own t' sz' xs' => if t' == t then .c (.list sz' xs') else .own t' sz' xs'
  | .agg cs => .agg (AV.froL t cs)
  | .tup cs => .tup (AV.froL t cs)
  | .fn f cs => .fn f (AV.froL t cs)
  | a => a
def AV.froL (t : Nat) : List AV → List AV
  | [] => []
  | a :: as => AV.fro t a :: AV.froL t as
end
theorem AV.frzL_eq (t sz : Nat) (xs : List (List PV)) (l : List AV) : AV.frzL t sz xs l = l.map (AV.frz t sz xs) := by
  induction l with
  | nil => rfl
  | cons a l ih => simp [AV.frzL, ih]
theorem AV.froL_eq (t : Nat) (l : List AV) : AV.froL t l = l.map (AV.fro t) := by
  induction l with
  | nil => rfl
  | cons a l ih => simp [AV.froL, ih]
def Fr.frz (t sz : Nat) (xs : List (List PV)) : Fr → Fr
  | [] => []
  | (d, a) :: r => (d, a.frz t sz xs) :: Fr.frz t sz xs r
def Fr.fro (t : Nat) : Fr → Fr
  | [] => []
  | (d, a) :: r => (d, a.fro t) :: Fr.fro t r
def St.frz (t sz : Nat) (xs : List (List PV)) : St → St
  | [] => []
  | cs :: r => AV.frzL t sz xs cs :: St.frz t sz xs r
def St.fro (t : Nat) : St → St
  | [] => []
  | cs :: r => AV.froL t cs :: St.fro t r
theorem Fr.get_frz (t sz : Nat) (xs : List (List PV)) (fr : Fr) (d : Nat) : (fr.frz t sz xs).get d = (fr.get d).frz t sz xs := by
  induction fr with
  | nil => rfl
  | cons x r ih =>
    obtain ⟨k, a⟩ := x
    simp only [Fr.frz, Fr.get]
    split
    · rfl
    · exact ih
theorem Fr.get_fro (t : Nat) (fr : Fr) (d : Nat) : (fr.fro t).get d = (fr.get d).fro t := by
  induction fr with
  | nil => rfl
  | cons x r ih =>
    obtain ⟨k, a⟩ := x
    simp only [Fr.fro, Fr.get]
    split
    · rfl
    · exact ih
theorem St.frz_eq (t sz : Nat) (xs : List (List PV)) (σ : St) : σ.frz t sz xs = σ.map (·.map (AV.frz t sz xs)) := by
  induction σ with
  | nil => rfl
  | cons x r ih => simp [St.frz, AV.frzL_eq, ih]
theorem St.fro_eq (t : Nat) (σ : St) : σ.fro t = σ.map (·.map (AV.fro t)) := by
  induction σ with
  | nil => rfl
  | cons x r ih => simp [St.fro, AV.froL_eq, ih]

theorem map_eq_get {α β : Type} {f h : α → β} {l : List α} (e : l.map f = l.map h) {i : Nat} {a : α} (ha : l[i]? = some a) : f a = h a := by
  have : (l.map f)[i]? = (l.map h)[i]? := by rw [e]
  simpa [ha] using this

def G.frz (g : G) (t N : Nat) : G := { g with I := fun b o => g.I b o ∨ (g.τ t = some b ∧ o < N) }

theorem RAV.frz {g : G} {w : World} (t sz : Nat) (xs : List (List PV)) (hinj : ∀ t t' b, g.τ t = some b → g.τ t' = some b → t = t') {v : Value} {a : AV} (h : RAV g w v a) :
    a.frz t sz xs = a.fro t → RAV (g.frz t (xs.length * sz)) w v (a.frz t sz xs) := by
  have hRV : ∀ {u q}, RV g.I w u q → RV (g.frz t (xs.length * sz)).I w u q := fun h => h.mono (fun _ _ h => .inl h) (fun _ _ _ => rfl)
  have hne : ∀ {t' b'}, (t' == t) = false → g.τ t' = some b' → ∀ o, (g.frz t (xs.length * sz)).I b' o → g.I b' o := by
    rintro t' b' ht h1 o (h2 | ⟨h2, _⟩)
    · exact h2
    · have := hinj t' t b' h1 h2
      subst this
      simp at ht
  induction h with
  | c h => exact fun _ => .c (hRV h)
  | nil => exact fun _ => .nil
  | own t' sz' xs' h =>
    intro he
    simp only [AV.frz]
    split
    · exact .c (hRV h.rv)
    · rename_i ht
      obtain ⟨h0, hs, e', cells, ho, hv, hb⟩ := h
      refine .own t' sz' xs' ⟨h0, hs, e', cells, ho, fun k j x q hx hq => ?_, fun b hb' => ⟨(hb b hb').1, fun o => ⟨fun h => ((hb b hb').2 o).1 (hne (by simpa using ht) (hb b hb').1 o h), fun h => .inl (((hb b hb').2 o).2 h)⟩⟩⟩
      obtain ⟨u, hu, hr⟩ := hv k j x q hx hq
      exact ⟨u, hu, hRV hr⟩
  | mrow t' sz' xs' h =>
    intro he
    obtain ⟨h0, hs, e', cells, ho, hv, hb⟩ := h
    simp only [AV.frz, AV.fro] at he ⊢
    split
    · rename_i ht
      rw [if_pos ht, if_pos ht] at he
      simp only [AV.own.injEq, true_and] at he
      obtain ⟨rfl, rfl⟩ := he
      have ht : t' = t := by simpa using ht
      subst ht
      refine .own t' sz xs ⟨h0, hs, e', cells, ho, fun k j x q hx hq => ?_, fun b hb' => ⟨(hb b hb').1, fun o => ⟨?_, fun h => .inr ⟨(hb b hb').1, h⟩⟩⟩⟩
      · obtain ⟨u, hu, hr⟩ := hv k j x q hx hq
        exact ⟨u, hu, hRV hr⟩
      · rintro (h | ⟨_, h⟩)
        · exact absurd h ((hb b hb').2 o)
        · exact h
    · rename_i ht
      refine .mrow t' sz' xs' ⟨h0, hs, e', cells, ho, fun k j x q hx hq => ?_, fun b hb' => ⟨(hb b hb').1, fun o h => (hb b hb').2 o (hne (by simpa using ht) (hb b hb').1 o h)⟩⟩
      obtain ⟨u, hu, hr⟩ := hv k j x q hx hq
      exact ⟨u, hu, hRV hr⟩
  | mptr t' sz' j off' r h =>
    intro he
    simp only [AV.frz]
    split
    · exact .any
    · rename_i ht
      obtain ⟨b', cur0, e', hv, hτ, hI, hl, hc, hh, hr⟩ := h
      refine .mptr _ _ _ _ _ ⟨b', cur0, e', hv, hτ, fun o h => hI o (hne (by simpa using ht) hτ o h), hl, hc, hh, fun k q hq => ?_⟩
      obtain ⟨u, hu, hr⟩ := hr k q hq
      exact ⟨u, hu, hRV hr⟩
  | agg vs cs h _ ih =>
    intro he
    simp only [AV.frz, AV.fro, AV.frzL_eq, AV.froL_eq, AV.agg.injEq] at he ⊢
    refine .agg vs _ (by simpa using h) (fun i v a hv ha => ?_)
    simp only [List.getElem?_map, Option.map_eq_some_iff] at ha
    obtain ⟨a, ha, rfl⟩ := ha
    exact ih i v a hv ha (map_eq_get he ha)
  | tup vs cs h _ ih =>
    intro he
    simp only [AV.frz, AV.fro, AV.frzL_eq, AV.froL_eq, AV.tup.injEq] at he ⊢
    refine .tup vs _ (by simpa using h) (fun i v a hv ha => ?_)
    simp only [List.getElem?_map, Option.map_eq_some_iff] at ha
    obtain ⟨a, ha, rfl⟩ := ha
    exact ih i v a hv ha (map_eq_get he ha)
  | fn k vs cs h _ ih =>
    intro he
    simp only [AV.frz, AV.fro, AV.frzL_eq, AV.froL_eq, AV.fn.injEq, true_and] at he ⊢
    refine .fn k vs _ (by simpa using h) (fun i v a hv ha => ?_)
    simp only [List.getElem?_map, Option.map_eq_some_iff] at ha
    obtain ⟨a, ha, rfl⟩ := ha
    exact ih i v a hv ha (map_eq_get he ha)
  | box id off b h => exact fun _ => .box id off b h
  | eptr b' o off cs vs hc hv => exact fun _ => .eptr b' o off cs vs (fun j hj => ⟨.inl (hc j hj).1, (hc j hj).2⟩) (fun j q hq => hRV (hv j q hq))
  | ptrs b' o cap l hcap hc =>
    intro _
    refine .ptrs b' o cap l hcap (fun k q hq => ?_)
    obtain ⟨h1, bk, h2, h3⟩ := hc k q hq
    exact ⟨.inl h1, bk, h2, h3⟩
  | view id off n b cap h hn => exact fun _ => .view id off n b cap h hn
  | pptr b' o bk q hi hb hc => exact fun _ => .pptr b' o bk q (.inl hi) hb hc
  | nilptr => exact fun _ => .nilptr
  | any => exact fun _ => .any

theorem frz_sound {c : Ctx} {g : G} {w : World} {σ : St} {tmps : Array Value} {fr : Fr} (t sz : Nat) (xs : List (List PV)) (hfr : fr.frz t sz xs = fr.fro t) (hσ : σ.frz t sz xs = σ.fro t) (hi : Inv c g w σ) (hf : RFr g w tmps fr) :
    ∃ g', Inv c g' w (σ.frz t sz xs) ∧ RFr g' w tmps (fr.frz t sz xs) := by
  refine ⟨g.frz t (xs.length * sz), ⟨hi.os, hi.tape, hi.output, hi.size, hi.old, fun b o h => .inl (hi.Ile b o h), fun b o h hb ho => ?_, fun b o h => ?_, hi.βpre, hi.βnew, hi.βnd, ?_, fun b hb o h => ?_, hi.βlt, hi.τnew, hi.τinj, fun id cs b hs hb => ?_, hi.cell0, hi.glo⟩, fun d => ?_⟩
  · rcases h with h | ⟨h, _⟩
    · exact hi.Iold b o h hb ho
    · rcases (hi.τnew t b h).1 with h1 | h1
      · omega
      · exact absurd h1 ho
  · rcases h with h | ⟨h, _⟩
    · exact hi.Ilt b o h
    · exact (hi.τnew t b h).2.1
  · rw [St.frz_eq, List.length_map]; exact hi.βlen
  · rcases h with h | ⟨h, _⟩
    · exact hi.βI b hb o h
    · exact (hi.τnew t b h).2.2 hb
  · rw [St.frz_eq, St.fro_eq] at hσ
    rw [St.frz_eq, List.getElem?_map, Option.map_eq_some_iff] at hs
    obtain ⟨cs, hs, rfl⟩ := hs
    have he := map_eq_get hσ hs
    obtain ⟨cur0, e0, hh, hr⟩ := hi.store id cs b hs hb
    refine ⟨cur0, e0, hh, by simpa using hr.1, fun k v a hv ha => ?_⟩
    simp only [List.getElem?_map, Option.map_eq_some_iff] at ha
    obtain ⟨a, ha, rfl⟩ := ha
    exact (hr.2 k v a hv ha).frz t sz xs hi.τinj (map_eq_get he ha)
  · rw [Fr.get_frz]
    refine (hf d).frz t sz xs hi.τinj ?_
    rw [← Fr.get_frz, hfr, Fr.get_fro]

/-- Rows whose stores have ended. -/
inductive FrzS : Fr → St → Fr → St → Prop
  | refl (fr : Fr) (σ : St) : FrzS fr σ fr σ
  | step {fr : Fr} {σ : St} {fr' : Fr} {σ' : St} (t sz : Nat) (xs : List (List PV)) (h1 : fr.frz t sz xs = fr.fro t) (h2 : σ.frz t sz xs = σ.fro t) (h : FrzS (fr.frz t sz xs) (σ.frz t sz xs) fr' σ') : FrzS fr σ fr' σ'
theorem frzS_sound {c : Ctx} {w : World} {tmps : Array Value} {fr fr' : Fr} {σ σ' : St} (h : FrzS fr σ fr' σ') : ∀ {g : G}, Inv c g w σ → RFr g w tmps fr → ∃ g', Inv c g' w σ' ∧ RFr g' w tmps fr' := by
  induction h with
  | refl fr σ => exact fun {g} hi hf => ⟨g, hi, hf⟩
  | step t sz xs h1 h2 _ ih =>
    intro g hi hf
    obtain ⟨g1, hi1, hf1⟩ := frz_sound t sz xs h1 h2 hi hf
    exact ih hi1 hf1

/-! ### A call that is lent a row as data, and gives back nothing that could hold it -/
def PV.flat : PV → Bool
  | .list _ _ => false
  | _ => true
theorem RV.flat {I I' : Nat → Nat → Prop} {w w' : World} {v : Value} {p : PV} (hp : p.flat = true) (h : RV I w v p) : RV I' w' v p := by
  cases h with
  | bool b => exact .bool b
  | int k n => exact .int k n
  | str s => exact .str s
  | empty A cap sz => cases hp
  | row b o cap sz xs vs hs hcap hc hv => cases hp
mutual
/-- Numbers, strings and rows of such alone. -/
def AV.lite : AV → Prop
  | .c p => p.flat = true
  | .own _ _ xs => ∀ x ∈ xs, ∀ p ∈ x, p.flat = true
  | .agg cs => AV.liteL cs
  | .tup cs => AV.liteL cs
  | .box .. => True
  | .nil => True
  | .nilptr => True
  | .any => True
  | _ => False
def AV.liteL : List AV → Prop
  | [] => True
  | a :: as => a.lite ∧ AV.liteL as
end
theorem liteL_get : ∀ {l : List AV}, AV.liteL l → ∀ (i : Nat) (a : AV), l[i]? = some a → a.lite
  | [], _, i, a, h => by simp at h
  | x :: l, hl, i, a, h => by
    simp only [AV.liteL] at hl
    cases i with
    | zero => simp at h; subst h; exact hl.1
    | succ i => simp at h; exact liteL_get hl.2 i a h
def St.lite : St → Prop
  | [] => True
  | cs :: r => AV.liteL cs ∧ St.lite r
theorem stlite_get : ∀ {σ : St}, σ.lite → ∀ (i : Nat) (cs : List AV), σ[i]? = some cs → AV.liteL cs
  | [], _, i, a, h => by simp at h
  | x :: l, hl, i, a, h => by
    simp only [St.lite] at hl
    cases i with
    | zero => simp at h; subst h; exact hl.1
    | succ i => simp at h; exact stlite_get hl.2 i a h
mutual
/-- What such a call gave back, as we see it; the rows of M may be stored into. -/
def AV.liftM (M : List Nat) (n d : Nat) : AV → AV
  | .own t sz xs => if t < 16 then (if M.contains t then .mrow (16 * d + t) sz xs else .own (16 * d + t) sz xs) else .any
  | .agg cs => .agg (AV.liftML M n d cs)
  | .tup cs => .tup (AV.liftML M n d cs)
  | .box k off => .box (n + k) off
  | .c p => .c p
  | .nil => .nil
  | .nilptr => .nilptr
  | _ => .any
def AV.liftML (M : List Nat) (n d : Nat) : List AV → List AV
  | [] => []
  | a :: as => AV.liftM M n d a :: AV.liftML M n d as
end
theorem AV.liftML_eq (M : List Nat) (n d : Nat) (l : List AV) : AV.liftML M n d l = l.map (AV.liftM M n d) := by
  induction l with
  | nil => rfl
  | cons a l ih => simp [AV.liftML, ih]

theorem RAV.liftM {g1 g2 : G} {w : World} {v : Value} {a : AV} (M : List Nat) (n d : Nat) (hβ : ∀ (k b : Nat), g1.β[k]? = some b → g2.β[n + k]? = some b) (hτ : ∀ (t b : Nat), t < 16 → g1.τ t = some b → g2.τ (16 * d + t) = some b)
    (hM : ∀ t b, t < 16 → M.contains t = true → g1.τ t = some b → ∀ o, ¬ g2.I b o) (hO : ∀ t b, t < 16 → M.contains t = false → g1.τ t = some b → ∀ o, g2.I b o ↔ g1.I b o) (h : RAV g1 w v a) : a.lite → RAV g2 w v (a.liftM M n d) := by
  induction h with
  | c h => exact fun hl => .c (h.flat hl)
  | nil => exact fun _ => .nil
  | own t sz xs h =>
    intro hl
    simp only [AV.lite] at hl
    obtain ⟨h0, hs, e, cells, ho, hv, hb⟩ := h
    have hv' : ∀ (i j : Nat) (x : List PV) (p : PV), xs[i]? = some x → x[j]? = some p → ∃ u, cells[i * sz + j]? = some u ∧ RV g2.I w u p := fun i j x p hx hp => by
      obtain ⟨u, hu, hr⟩ := hv i j x p hx hp
      exact ⟨u, hu, hr.flat (hl x (List.mem_of_getElem? hx) p (List.mem_of_getElem? hp))⟩
    simp only [AV.liftM]
    split
    · rename_i ht
      split
      · rename_i hm
        exact .mrow _ sz xs ⟨h0, hs, e, cells, ho, hv', fun b hb' => ⟨hτ t b ht (hb b hb').1, hM t b ht hm (hb b hb').1⟩⟩
      · rename_i hm
        exact .own _ sz xs ⟨h0, hs, e, cells, ho, hv', fun b hb' => ⟨hτ t b ht (hb b hb').1, fun o => (hO t b ht (by simpa using hm) (hb b hb').1 o).trans ((hb b hb').2 o)⟩⟩
    · exact .any
  | agg vs cs h _ ih =>
    intro hl
    simp only [AV.liftM, AV.liftML_eq]
    refine .agg vs _ (by simpa using h) (fun i v a hv ha => ?_)
    simp only [List.getElem?_map, Option.map_eq_some_iff] at ha
    obtain ⟨a, ha, rfl⟩ := ha
    exact ih i v a hv ha (liteL_get hl i a ha)
  | tup vs cs h _ ih =>
    intro hl
    simp only [AV.liftM, AV.liftML_eq]
    refine .tup vs _ (by simpa using h) (fun i v a hv ha => ?_)
    simp only [List.getElem?_map, Option.map_eq_some_iff] at ha
    obtain ⟨a, ha, rfl⟩ := ha
    exact ih i v a hv ha (liteL_get hl i a ha)
  | box k off b h => exact fun _ => .box _ off b (hβ k b h)
  | nilptr => exact fun _ => .nilptr
  | any => exact fun _ => .any
  | _ => exact fun hl => hl.elim

theorem callB_sound {P : Program} {c : Ctx} {g : G} {w : World} {σ : St} (hi : Inv c g w σ) {I1 : Nat → Nat → Prop} (hI1 : ∀ b o, I1 b o → b < w.heap.size) (hglo : Glo I1 w) {f : FuncId} {vs : Array Value} {as : List AV} {σr : St} {r : AV} (M : List Nat) (d : Nat)
    (hargs : RCells ⟨I1, [], fun _ => none⟩ w vs as) (hc : ACalls P f as [] r σr) (hlr : r.lite) (hls : σr.lite) :
    Calls P f vs w fun e w' => ∃ v g'', e = .returned v ∧ Inv c g'' w' (σ.dem (endF [] d) ++ σr.map (AV.liftML M σ.length d)) ∧ Stp (g.dem (endF [] d)) w g'' w' ∧ RAV g'' w' v (r.liftM M σ.length d) := by
  obtain ⟨_, hcall⟩ := hc
  have := hcall w I1 [] (fun _ => none) vs hI1 List.nodup_nil (by simp) (by simp) (by simp) (by simp) rfl (fun id cs b hs hb => by simp at hs) hargs hglo
  refine this.mono fun e w' => ?_
  rintro ⟨v, g', he, hi', hv⟩
  have hno : ∀ b : Nat, ¬ ∃ t : Nat, (fun _ => none : Nat → Option Nat) t = some b := fun b h => by obtain ⟨t, h⟩ := h; cases h
  have hheap : ∀ b, b < w.heap.size → w'.heap[b]? = w.heap[b]? := fun b hb => hi'.old b hb (by simp) (hno b)
  have hsz : w.heap.size ≤ w'.heap.size := hi'.size
  have hτge : ∀ t b, g'.τ t = some b → w.heap.size ≤ b := fun t b h => by
    rcases (hi'.τnew t b h).1 with h1 | h1
    · exact h1
    · exact absurd h1 (hno b)
  have hβge : ∀ b ∈ g'.β, w.heap.size ≤ b := fun b hb => hi'.βnew b (by simpa using hb)
  have hβlen : g.β.length = σ.length := hi.βlen
  let g'' : G := { I := fun b o => g.I b o ∨ ∃ t, t < 16 ∧ M.contains t = false ∧ g'.τ t = some b ∧ g'.I b o, β := g.β ++ g'.β, τ := fun t => if t / 16 == d then g'.τ (t % 16) else g.τ t }
  have st : Stp (g.dem (endF [] d)) w g'' w' := by
    refine ⟨fun b o h => .inl h, fun b o h => by simp [World.cell?, hheap b (hi.Ilt b o h)], fun id b h => ?_, fun t b htb => ?_⟩
    · show (g.β ++ g'.β)[id]? = some b
      have h' : g.β[id]? = some b := h
      rw [List.getElem?_append_left (List.getElem?_eq_some_iff.1 h').1]
      exact h'
    · simp only [G.dem, endF_nil] at htb
      split at htb
      · cases htb
      · rename_i hft
        refine ⟨?_, hheap b (hi.τnew t b htb).2.1, fun o h => ?_⟩
        · show (if t / 16 == d then g'.τ (t % 16) else g.τ t) = some b
          rw [if_neg hft]
          exact htb
        · rcases h with h | ⟨t2, _, _, h2, _⟩
          · exact h
          · have := hτge t2 b h2
            have := (hi.τnew t b htb).2.1
            omega
  have hlen : c.β0.length ≤ g.β.length := by
    have := congrArg List.length hi.βpre
    simp at this
    omega
  have hlift : ∀ {v a}, RAV g' w' v a → a.lite → RAV g'' w' v (a.liftM M σ.length d) := fun h hl => by
    refine RAV.liftM M σ.length d (fun k b hb => ?_) (fun t b ht hb => ?_) (fun t b ht hm hb o h => ?_) (fun t b ht hm hb o => ?_) h hl
    · show (g.β ++ g'.β)[σ.length + k]? = some b
      rw [List.getElem?_append_right (by omega), hβlen]
      simpa using hb
    · show (if (16 * d + t) / 16 == d then g'.τ ((16 * d + t) % 16) else g.τ (16 * d + t)) = some b
      have h1 : (16 * d + t) / 16 = d := by omega
      have h2 : (16 * d + t) % 16 = t := by omega
      rw [h1, h2]
      simpa using hb
    · rcases h with h | ⟨t2, _, hm2, h2, _⟩
      · have := hi.Ilt b o h
        have := hτge t b hb
        omega
      · have := hi'.τinj t t2 b hb h2
        subst this
        rw [hm] at hm2
        cases hm2
    · constructor
      · rintro (h | ⟨t2, _, _, _, h⟩)
        · have := hi.Ilt b o h
          have := hτge t b hb
          omega
        · exact h
      · exact fun h => .inr ⟨t, ht, hm, hb, h⟩
  refine ⟨v, g'', he, ⟨hi'.os.trans hi.os, hi'.tape.trans hi.tape, hi'.output.trans hi.output, Nat.le_trans hi.size hsz, fun b hb hn ho => (hheap b (Nat.lt_of_lt_of_le hb hi.size)).trans (hi.old b hb hn ho), fun b o h => .inl (hi.Ile b o h), fun b o h hb ho => ?_, fun b o h => ?_, ?_, fun b hb => ?_, ?_, ?_, fun b hb o h => ?_,
      fun b hb => ?_, fun t b htb => ?_, fun t t' b h1 h2 => ?_, fun id cs b hs hb => ?_, fun b o h => (st.cell b o (hi.Ile b o h)).trans (hi.cell0 b o h), hi.glo⟩, st, hlift hv hlr⟩
  · rcases h with h | ⟨t, _, _, h, _⟩
    · exact hi.Iold b o h hb ho
    · have := hτge t b h
      have := hi.size
      omega
  · rcases h with h | ⟨t, _, _, h, _⟩
    · exact Nat.lt_of_lt_of_le (hi.Ilt b o h) hsz
    · exact (hi'.τnew t b h).2.1
  · show (g.β ++ g'.β).take c.β0.length = c.β0
    rw [List.take_append_of_le_length hlen]
    exact hi.βpre
  · change b ∈ (g.β ++ g'.β).drop c.β0.length at hb
    rw [List.drop_append_of_le_length hlen] at hb
    rcases List.mem_append.1 hb with hb | hb
    · exact hi.βnew b hb
    · exact Nat.le_trans hi.size (hβge b hb)
  · show (g.β ++ g'.β).Nodup
    refine List.nodup_append.2 ⟨hi.βnd, hi'.βnd, fun x hx y hy => ?_⟩
    have := hi.βlt x hx
    have := hβge y hy
    omega
  · show (g.β ++ g'.β).length = _
    rw [List.length_append, List.length_append, St.dem_eq, List.length_map, List.length_map, hi.βlen, hi'.βlen]
  · rcases List.mem_append.1 (show b ∈ g.β ++ g'.β from hb) with hb | hb
    · rcases h with h | ⟨t, _, _, h, _⟩
      · exact hi.βI b hb o h
      · have := hτge t b h
        have := hi.βlt b hb
        omega
    · rcases h with h | ⟨t, _, _, h, _⟩
      · have := hi.Ilt b o h
        have := hβge b hb
        omega
      · exact (hi'.τnew t b h).2.2 hb
  · rcases List.mem_append.1 (show b ∈ g.β ++ g'.β from hb) with hb | hb
    · exact Nat.lt_of_lt_of_le (hi.βlt b hb) hsz
    · exact hi'.βlt b hb
  · change (if t / 16 == d then g'.τ (t % 16) else g.τ t) = some b at htb
    split at htb
    · have h1 := hτge _ b htb
      refine ⟨.inl (Nat.le_trans hi.size h1), (hi'.τnew _ b htb).2.1, fun hb => ?_⟩
      rcases List.mem_append.1 (show b ∈ g.β ++ g'.β from hb) with hb | hb
      · have := hi.βlt b hb
        omega
      · exact (hi'.τnew _ b htb).2.2 hb
    · obtain ⟨h1, h2, h3⟩ := hi.τnew t b htb
      refine ⟨h1, Nat.lt_of_lt_of_le h2 hsz, fun hb => ?_⟩
      rcases List.mem_append.1 (show b ∈ g.β ++ g'.β from hb) with hb | hb
      · exact h3 hb
      · have := hβge b hb
        omega
  · change (if t / 16 == d then g'.τ (t % 16) else g.τ t) = some b at h1
    change (if t' / 16 == d then g'.τ (t' % 16) else g.τ t') = some b at h2
    split at h1
    · rename_i e1
      split at h2
      · rename_i e2
        have := hi'.τinj _ _ b h1 h2
        simp only [beq_iff_eq] at e1 e2
        omega
      · have := hτge _ b h1
        have := (hi.τnew t' b h2).2.1
        omega
    · split at h2
      · have := hτge _ b h2
        have := (hi.τnew t b h1).2.1
        omega
      · exact hi.τinj t t' b h1 h2
  · change (g.β ++ g'.β)[id]? = some b at hb
    have hdl : (σ.dem (endF [] d)).length = σ.length := by rw [St.dem_eq, List.length_map]
    by_cases hid : id < σ.length
    · rw [List.getElem?_append_left (by rw [hdl]; exact hid)] at hs
      rw [List.getElem?_append_left (by omega)] at hb
      obtain ⟨cur, e0, hh, hr⟩ := (hi.dem (endF [] d)).store id cs b hs hb
      exact ⟨cur, e0, (hheap b (hi.βlt b (List.mem_of_getElem? hb))).trans hh, hr.stp st⟩
    · rw [List.getElem?_append_right (by rw [hdl]; omega), hdl, List.getElem?_map, Option.map_eq_some_iff] at hs
      rw [List.getElem?_append_right (by omega), hβlen] at hb
      obtain ⟨cs0, hs, rfl⟩ := hs
      obtain ⟨cur, e0, hh, hr⟩ := hi'.store _ cs0 b hs hb
      have hl := stlite_get hls _ cs0 hs
      refine ⟨cur, e0, hh, by rw [AV.liftML_eq]; simpa using hr.1, fun k v a hv ha => ?_⟩
      rw [AV.liftML_eq, List.getElem?_map, Option.map_eq_some_iff] at ha
      obtain ⟨a, ha, rfl⟩ := ha
      exact hlift (hr.2 k v a hv ha) (liteL_get hl k a ha)

end Go.Proofs.Ytlfggjfndmfblaa.Abs

namespace Go.Proofs.Ytlfggjfndmfblaa.Abs
open Go
set_option linter.unusedVariables false
set_option linter.unusedSimpArgs false

def Fr.demo (fr : Fr) : Option (Nat → Bool) → Fr
  | .none => fr
  | some f => fr.dem f

def acall (P : Program) (dst : Option Tmp) (fv : AV) (args : List AV) (fr : Fr) (σ : St) (K : Fr → St → Prop) : Prop :=
  match fv with
  | .fn f caps => ∃ d ids lt as σc r σr, List.Nodup ids ∧ List.Nodup lt ∧ (∀ i ∈ ids, i < σ.length) ∧ AV.leL (AV.lowTL lt ids (args ++ caps)) as ∧ leS (σ.sub ids lt) σc ∧ ACalls P f as σc r σr ∧
      K ((fr.dem (endF lt d)).put dst (r.lift ids σ.length d)) (σ.after ids d σr lt)
  | _ => False

/-- A slice against nil: it may be nil only if it is empty. -/
def anil (P : Program) (neg : Bool) (t : TypeId) (x y : AV) (K : AV → Prop) : Prop :=
  match x, y with
  | .c (.list _ xs), .nil => tyIs P t = 3 ∧ ∀ b : Bool, (b = true → xs = []) → K (.c (.bool (b != neg)))
  | .own _ _ xs, .nil => tyIs P t = 3 ∧ ∀ b : Bool, (b = true → xs = []) → K (.c (.bool (b != neg)))
  | .nil, .nil => tyIs P t = 3 ∧ K (.c (.bool (true != neg)))
  | _, _ => False

def isNilCmp (o : Oper) : Option (Bool × TypeId × Operand × Operand) :=
  match o.op with
  | .binOp .eql t x (.const (.slice .none 0 0)) _ => some (false, t, x, .const (.slice .none 0 0))
  | .binOp .neq t x (.const (.slice .none 0 0)) _ => some (true, t, x, .const (.slice .none 0 0))
  | _ => .none

def aop (P : Program) (o : Oper) (fr : Fr) (σ : St) (K : Fr → St → Prop) : Prop :=
  match o.op with
  | .call { callee := .value f, args, argTypes } => acall P o.dst (fr.ev f) (args.toList.map fr.ev) fr σ K
  | _ => (match isNilCmp o with
    | some (neg, t, x, y) => anil P neg t (fr.ev x) (fr.ev y) fun v => K (fr.put o.dst v) σ
    | _ => aval P o fr.ev σ fun dm v σ' => K ((fr.demo dm).put o.dst v) σ')

/-- A call that is lent rows as data (those whose stores end in fr1), and gives back nothing that could hold them. -/
def acallB (P : Program) (o : Oper) (fr : Fr) (σ : St) (K : Fr → St → Prop) : Prop :=
  match o.op with
  | .call { callee := .value f, args, argTypes } => ∃ fr1 σ1 k caps d as r σr M, FrzS fr σ fr1 σ1 ∧ fr1.ev f = .fn k caps ∧ AV.leL (AV.lowL [] (args.toList.map fr1.ev ++ caps)) as ∧ ACalls P k as [] r σr ∧ r.lite ∧ σr.lite ∧
      K ((fr.dem (endF [] d)).put o.dst (r.liftM M σ.length d)) (σ.dem (endF [] d) ++ σr.map (AV.liftML M σ.length d))
  | _ => False
/-- In a region without draws: an operation behind the end of some rows' stores; a store to a row's element. -/
def aopM (P : Program) (o : Oper) (fr : Fr) (σ : St) (K : Fr → St → Prop) : Prop :=
  (∃ fr1 σ1, FrzS fr σ fr1 σ1 ∧ (aop P o fr1 σ1 K ∨ amst P o fr1 σ1 K)) ∨ acallB P o fr σ K
theorem aopM_of {P : Program} {o : Oper} {fr : Fr} {σ : St} {K : Fr → St → Prop} (h : aop P o fr σ K) : aopM P o fr σ K := .inl ⟨fr, σ, .refl fr σ, .inl h⟩
theorem aopM_mst {P : Program} {o : Oper} {fr : Fr} {σ : St} {K : Fr → St → Prop} (h : amst P o fr σ K) : aopM P o fr σ K := .inl ⟨fr, σ, .refl fr σ, .inr h⟩
theorem aopM_frz {P : Program} {o : Oper} {fr : Fr} {σ : St} {K : Fr → St → Prop} (t sz : Nat) (xs : List (List PV)) (h1 : fr.frz t sz xs = fr.fro t) (h2 : σ.frz t sz xs = σ.fro t) (h : aop P o (fr.frz t sz xs) (σ.frz t sz xs) K) : aopM P o fr σ K :=
  .inl ⟨_, _, .step t sz xs h1 h2 (.refl _ _), .inl h⟩

def aguard (ops : List Oper) (o : Oper) (get : Nat → AV) (yes no : Prop) : Prop :=
  match o.guard with
  | .none => yes
  | some (j, want) => (match ops[j]? with
    | some p => (match p.dst with
      | some d => (match get d with
        | .c (.bool b) => (b = want → yes) ∧ (b ≠ want → no)
        | .tup [] => no
        | _ => False)
      | _ => False)
    | _ => False)

/-- mo: in a region without draws. -/
def aopG (mo : Bool) (P : Program) (o : Oper) (fr : Fr) (σ : St) (K : Fr → St → Prop) : Prop := match mo with | true => aopM P o fr σ K | false => aop P o fr σ K
theorem aopG_of {mo : Bool} {P : Program} {o : Oper} {fr : Fr} {σ : St} {K : Fr → St → Prop} (h : aop P o fr σ K) : aopG mo P o fr σ K := by
  cases mo
  · exact h
  · exact aopM_of h

def aops (mo : Bool) (P : Program) (ops : List Oper) : List Oper → Fr → St → (Fr → St → Prop) → Prop
  | [], fr, σ, K => K fr σ
  | o :: r, fr, σ, K => aguard ops o fr.get (aopG mo P o fr σ fun fr' σ' => aops mo P ops r fr' σ' K) (aops mo P ops r (fr.put o.dst (.tup [])) σ K)

def opOk (N : Nat) (o : Oper) : Bool :=
  match o.dst with
  | some d => decide (d < N)
  | _ => (match o.op with | .store .. => true | .call { callee := .value _, .. } => true | _ => false)

def Sim (c : Ctx) (N : Nat) (a : Act) (w : World) (fr : Fr) (σ : St) : Prop := ∃ g, Inv c g w σ ∧ RFr g w a.tmps fr ∧ a.tmps.size = N ∧ a.defers = []

theorem Act.put_eq (a : Act) (h : a.defers = []) (dst : Option Tmp) (v : Value) : (a.put dst v).tmps = (Act.put ⟨a.tmps, []⟩ dst v).tmps ∧ (a.put dst v).defers = [] ∧ (a.put dst v).tmps.size = a.tmps.size := by
  cases dst <;> simp [Act.put, h]

theorem Sim.put {c : Ctx} {N : Nat} {a : Act} {w : World} {fr : Fr} {σ : St} {g : G} (hi : Inv c g w σ) (hf : RFr g w a.tmps fr) (hN : a.tmps.size = N) (hd : a.defers = []) {dst : Option Tmp} {v : Value} {av : AV}
    (hdst : ∀ d, dst = some d → d < N) (hv : RAV g w v av) : Sim c N (a.put dst v) w (fr.put dst av) σ := by
  obtain ⟨h1, h2, h3⟩ := Act.put_eq a hd dst v
  refine ⟨g, hi, ?_, h3.trans hN, h2⟩
  rw [h1]
  exact hf.put (fun d hd' => by rw [hN]; exact hdst d hd') hv

theorem undef_get {tmps : Array Value} {d : Nat} {b : Bool} (h : tmps.getD d undef = .bool b) : tmps[d]? = some (.bool b) := by
  rw [Array.getD_eq_getD_getElem?] at h
  cases hd : tmps[d]? with
  | none => rw [hd] at h; simp [undef] at h
  | some v => rw [hd] at h; simpa using h

theorem aguard_sound {ops : Array Oper} {o : Oper} {g : G} {w : World} {tmps : Array Value} {get : Nat → AV} {yes no : Prop} (hf : ∀ d, RAV g w (tmps.getD d undef) (get d)) (h : aguard ops.toList o get yes no) :
    (Region.wanted o (yielded ops tmps) = true ∧ yes) ∨ (Region.wanted o (yielded ops tmps) = false ∧ no) := by
  unfold aguard at h
  split at h
  · rename_i hg
    exact .inl ⟨by simp [Region.wanted, hg], h⟩
  · rename_i j want hg
    split at h
    · rename_i p hp
      split at h
      · rename_i d hd
        split at h
        · rename_i b hb
          have hv := hf d
          rw [hb] at hv
          have hv := hv.c_inv
          generalize hvd : tmps.getD d undef = v at hv
          cases hv
          have hy : yielded ops tmps j = some b := by
            rw [Array.getElem?_toList] at hp
            simp [yielded, hp, hd, undef_get hvd]
          by_cases hbw : b = want
          · exact .inl ⟨by simp [Region.wanted, hg, hy, hbw], h.1 hbw⟩
          · exact .inr ⟨by simp [Region.wanted, hg, hy, hbw], h.2 hbw⟩
        · rename_i hb
          have hv := hf d
          rw [hb] at hv
          generalize hvd : tmps.getD d undef = v at hv
          cases hv with
          | tup vs _ hsz _ =>
            have hy : yielded ops tmps j = none := by
              rw [Array.getElem?_toList] at hp
              rw [Array.getD_eq_getD_getElem?] at hvd
              simp only [yielded, hp, Option.bind_some, hd]
              cases hd2 : tmps[d]? with
              | none => simp [hd2]
              | some u => rw [hd2] at hvd; simp at hvd; subst hvd; simp [hd2]
            exact .inr ⟨by simp [Region.wanted, hg, hy], h⟩
        · exact h.elim
      · exact h.elim
    · exact h.elim

theorem exec_call {P : Program} {w : World} {dst : Option Tmp} {ty : TypeId} {pos : String} {after : Array Edge} {guard : Option (Nat × Bool)} {f : Operand} {args : Array Operand} {argTypes : Array TypeId} {ev : Operand → Value} {k : FuncId} {vs : Array Value}
    (hf : ev f = .func (.func k) #[] vs) (hc : callable P k = true) : (execOp ev ⟨dst, .call { callee := .value f, args, argTypes }, ty, pos, after, guard⟩).run P w = .ok (.enter k (args.map ev ++ vs)) w := by
  unfold callable at hc
  split at hc
  · rename_i fn hfn
    simp only [Bool.and_eq_true, bne_iff_ne, ne_eq] at hc
    obtain ⟨b, hb⟩ := Option.isSome_iff_exists.1 hc.2
    have hn : (fn.name == "runtime.NumGoroutine") = false := by simpa using hc.1
    have e1 : execOp ev ⟨dst, .call { callee := .value f, args, argTypes }, ty, pos, after, guard⟩ = callFunc k (args.map ev ++ vs) := by
      simp only [execOp, resolve, hf, Deferred.ofValue, pure_bind, invoke, Array.empty_append]
    rw [e1]
    simp [callFunc, hfn, hc.1, hb]
  · cases hc

theorem dst_lt {N : Nat} {o : Oper} (h : opOk N o = true) : ∀ d, o.dst = some d → d < N := by
  intro d hd
  simp only [opOk, hd, decide_eq_true_eq] at h
  exact h

theorem args_cells {g : G} {w : World} {a : Act} {fr : Fr} (hf : RFr g w a.tmps fr) (args : Array Operand) : RCells g w (args.map a.eval) (args.toList.map fr.ev) := by
  refine ⟨by simp, fun i v av hv hav => ?_⟩
  rw [Array.getElem?_map, Option.map_eq_some_iff] at hv
  obtain ⟨x, hx, rfl⟩ := hv
  rw [List.getElem?_map, Array.getElem?_toList, hx] at hav
  simp at hav
  subst hav
  exact ev_sound hf x

theorem RCells.app {g : G} {w : World} {vs us : Array Value} {as bs : List AV} (h1 : RCells g w vs as) (h2 : RCells g w us bs) : RCells g w (vs ++ us) (as ++ bs) := by
  refine ⟨by simp [h1.1, h2.1], fun i v a hv ha => ?_⟩
  by_cases hi : i < as.length
  · rw [List.getElem?_append_left hi] at ha
    rw [Array.getElem?_append_left (by rw [h1.1]; exact hi)] at hv
    exact h1.2 i v a hv ha
  · rw [List.getElem?_append_right (by omega)] at ha
    rw [Array.getElem?_append_right (by rw [h1.1]; omega), h1.1] at hv
    exact h2.2 _ v a hv ha

theorem isNilCmp_spec {o : Oper} {neg : Bool} {t : TypeId} {x y : Operand} (h : isNilCmp o = some (neg, t, x, y)) : y = .const (.slice .none 0 0) ∧ ∃ t2, o.op = .binOp (if neg then .neq else .eql) t x y t2 := by
  unfold isNilCmp at h
  split at h
  · rename_i hop
    simp only [Option.some.injEq, Prod.mk.injEq] at h
    obtain ⟨rfl, rfl, rfl, rfl⟩ := h
    exact ⟨rfl, _, hop⟩
  · rename_i hop
    simp only [Option.some.injEq, Prod.mk.injEq] at h
    obtain ⟨rfl, rfl, rfl, rfl⟩ := h
    exact ⟨rfl, _, hop⟩
  · cases h

theorem equal_slice_nil {P : Program} {t e : TypeId} (h : P.underlying t = some (.slice e)) (A : Option Addr) (n cap : Nat) (w : World) : (Op.equal t (.slice A n cap) (.slice .none 0 0)).run P w = .ok A.isNone w := by
  have H : ∀ d, (Op.equalIn (d + 1) t (.slice A n cap) (.slice .none 0 0)).run P w = .ok A.isNone w := fun d => by cases A <;> simp [Op.equalIn, run_underlying h]
  exact H 9999

theorem anil_sound {P : Program} {neg : Bool} {t t2 : TypeId} {x y : Operand} {g : G} {w : World} {a : Act} {fr : Fr} {K : AV → Prop} {dst : Option Tmp} {ty : TypeId} {pos : String} {after : Array Edge} {guard : Option (Nat × Bool)}
    (hf : RFr g w a.tmps fr) (hy : y = .const (.slice .none 0 0)) (h : anil P neg t (fr.ev x) (fr.ev y) K) :
    ∃ b, (execOp a.eval ⟨dst, .binOp (if neg then .neq else .eql) t x y t2, ty, pos, after, guard⟩).run P w = .ok (.value (.bool b)) w ∧ K (.c (.bool b)) := by
  subst hy
  have hx := ev_sound hf x
  have key : ∀ (A : Option Addr) (n cap : Nat), a.eval x = .slice A n cap → tyIs P t = 3 → (execOp a.eval ⟨dst, .binOp (if neg then .neq else .eql) t x (.const (.slice .none 0 0)) t2, ty, pos, after, guard⟩).run P w = .ok (.value (.bool (A.isNone != neg))) w := by
    intro A n cap hv h3
    obtain ⟨e, he⟩ := tyIs3 h3
    have heq := equal_slice_nil (P := P) he A n cap w
    have he2 : a.eval (.const (.slice .none 0 0)) = .slice .none 0 0 := rfl
    cases neg
    · simp [execOp, hv, he2, eqGuard, binOp, heq]
    · simp [execOp, hv, he2, eqGuard, binOp, heq]
  have hye : fr.ev (.const (.slice .none 0 0)) = .nil := rfl
  rw [hye] at h
  unfold anil at h
  split at h
  · rename_i sz xs hx0 _
    rw [hx0] at hx
    obtain ⟨h3, h⟩ := h
    have hx := hx.c_inv
    generalize hv : a.eval x = v at hx
    cases hx with
    | empty A cap sz => exact ⟨_, key A 0 cap hv h3, h A.isNone (fun _ => rfl)⟩
    | row b o cap sz xs vs hs hcap hc hvv => exact ⟨_, key _ _ cap hv h3, h false (fun h => by cases h)⟩
  · rename_i t0 sz xs hx0 _
    rw [hx0] at hx
    obtain ⟨h3, h⟩ := h
    obtain ⟨_, _, e, cells, ho, _⟩ := hx.own_inv
    rcases ho.2 with ⟨hv, hn⟩ | ⟨b, cap, cur, hv, _⟩
    · exact ⟨_, key .none 0 0 hv h3, h true (fun _ => List.eq_nil_of_length_eq_zero hn)⟩
    · exact ⟨_, key _ _ cap hv h3, h false (fun h => by cases h)⟩
  · rename_i hx0 _
    rw [hx0] at hx
    obtain ⟨h3, h⟩ := h
    generalize hv : a.eval x = v at hx
    cases hx
    exact ⟨_, key .none 0 0 hv h3, h⟩
  · exact h.elim

/-- One operation, from a state as told to a state as told. -/
theorem aop_sound {P : Program} {c : Ctx} {N : Nat} {o : Oper} {a : Act} {w : World} {fr : Fr} {σ : St} {K : Fr → St → Prop} {next : Act → World → Prop} {Q : Exit → Act → World → Prop} (hok : opOk N o = true)
    (h : aop P o fr σ K) (hs : Sim c N a w fr σ) (hn : ∀ a' w' fr' σ', K fr' σ' → Sim c N a' w' fr' σ' → next a' w') : o.wp P a w next Q := by
  obtain ⟨g, hi, hf, hN, hd⟩ := hs
  have hval : ∀ (h : aval P o fr.ev σ fun dm v σ' => K ((fr.demo dm).put o.dst v) σ') (hst : o.dst.isSome = true ∨ ∃ t x y, o.op = .store t x y), o.wp P a w next Q := by
    intro h hst
    obtain ⟨nx, v, w', dm, av, σ', g', hr, hnx, hk, hi', st, hv⟩ := aval_sound hst hi hf h
    have hf' : RFr g' w' a.tmps (fr.demo dm) := by
      cases dm with
      | none => exact hf.stp st
      | some f => exact (hf.dem f).stp st
    unfold Oper.wp Oper.upon
    rw [hr]
    rcases hnx with rfl | ⟨rfl, rfl⟩
    · exact hn _ _ _ _ hk (Sim.put hi' hf' hN hd (dst_lt hok) hv)
    · exact hn _ _ _ _ hk (Sim.put hi' hf' hN hd (dst_lt hok) hv)
  have hdst : (∀ f args ts, o.op ≠ .call { callee := .value f, args := args, argTypes := ts }) → o.dst.isSome = true ∨ ∃ t x y, o.op = .store t x y := by
    intro hnc
    unfold opOk at hok
    split at hok
    · rename_i d hd'
      exact .inl (by simp [hd'])
    · split at hok
      · rename_i t x y hop
        exact .inr ⟨t, x, y, hop⟩
      · rename_i f args ts hop
        exact absurd hop (hnc f args ts)
      · cases hok
  unfold aop at h
  split at h
  · rename_i f args argTypes hop
    obtain ⟨dst, op, ty, pos, after, guard⟩ := o
    simp only at hop
    subst hop
    unfold acall at h
    split at h
    · rename_i k caps hfv
      obtain ⟨d, ids, lt, as, σc, r, σr, hnd, hltn, hlt, hle, hst, hc, hk⟩ := h
      have hfe := ev_sound hf f
      rw [hfv] at hfe
      generalize hve : a.eval f = vf at hfe
      cases hfe with
      | fn _ vs _ hl ha =>
        have hx := exec_call (P := P) (w := w) (dst := dst) (ty := ty) (pos := pos) (after := after) (guard := guard) (args := args) (argTypes := argTypes) hve hc.1
        unfold Oper.wp Oper.upon
        rw [hx]
        have hcs := call_sound hi d hnd hltn hlt ((args_cells hf args).app ⟨hl, ha⟩) hle hst hc
        refine hcs.mono fun e w' => ?_
        rintro ⟨v, g'', rfl, hi', st, hv⟩
        exact hn _ _ _ _ hk (Sim.put hi' ((hf.dem _).stp st) hN hd (dst_lt hok) hv)
    · exact h.elim
  · rename_i hnc
    split at h
    · rename_i neg t x y hnil
      obtain ⟨hy, t2, hop⟩ := isNilCmp_spec hnil
      obtain ⟨dst, op, ty, pos, after, guard⟩ := o
      simp only at hop
      subst hop
      obtain ⟨b, hr, hk⟩ := anil_sound (dst := dst) (ty := ty) (pos := pos) (after := after) (guard := guard) (t2 := t2) hf hy h
      unfold Oper.wp Oper.upon
      rw [hr]
      exact hn _ _ _ _ hk (Sim.put hi hf hN hd (dst_lt hok) (.c (.bool b)))
    · exact hval h (hdst (fun f args ts hop => hnc f args ts hop))

theorem aopM_sound {P : Program} {c : Ctx} {N : Nat} {o : Oper} {a : Act} {w : World} {fr : Fr} {σ : St} {K : Fr → St → Prop} {next : Act → World → Prop} {Q : Exit → Act → World → Prop} (hok : opOk N o = true)
    (h : aopM P o fr σ K) (hs : Sim c N a w fr σ) (hn : ∀ a' w' fr' σ', K fr' σ' → Sim c N a' w' fr' σ' → next a' w') : o.wp P a w next Q := by
  rcases h with ⟨fr1, σ1, hz, h⟩ | h
  rotate_left
  · obtain ⟨dst, op, ty, pos, after, guard⟩ := o
    cases op
    case call cl =>
      obtain ⟨callee, args, argTypes⟩ := cl
      cases callee with
      | value f =>
        obtain ⟨fr1, σ1, k, caps, d, as, r, σr, M, hz, hfv, hle, hc, hlr, hls, hk⟩ := h
        obtain ⟨g, hi, hf, hN, hd⟩ := hs
        obtain ⟨g1, hi1, hf1⟩ := frzS_sound hz hi hf
        have hfe := ev_sound hf1 f
        rw [hfv] at hfe
        generalize hve : a.eval f = vf at hfe
        cases hfe with
        | fn _ vs _ hl ha =>
          have hx := exec_call (P := P) (w := w) (dst := dst) (ty := ty) (pos := pos) (after := after) (guard := guard) (args := args) (argTypes := argTypes) hve hc.1
          unfold Oper.wp Oper.upon
          rw [hx]
          refine (callB_sound hi hi1.Ilt hi1.now M d (RCells.le hle (((args_cells hf1 args).app ⟨hl, ha⟩).low [] [] (by simp))) hc hlr hls).mono fun e w' => ?_
          rintro ⟨v, g'', rfl, hi', st, hv⟩
          exact hn _ _ _ _ hk (Sim.put hi' ((hf.dem _).stp st) hN hd (dst_lt hok) hv)
      | _ => exact h.elim
    all_goals exact h.elim
  obtain ⟨g0, hi0, hf0, hN, hd⟩ := hs
  obtain ⟨g, hi, hf⟩ := frzS_sound hz hi0 hf0
  rcases h with h | h
  · exact aop_sound hok h ⟨g, hi, hf, hN, hd⟩ hn
  · obtain ⟨w', fr', σ', hr, hdst, hk, hi', hf'⟩ := amst_sound h hi hf
    unfold Oper.wp Oper.upon
    rw [hr]
    refine hn _ _ _ _ hk ⟨g, hi', ?_, ?_, ?_⟩
    · rw [hdst]; exact hf'
    · rw [hdst]; exact hN
    · rw [hdst]; exact hd

theorem aops_sound {P : Program} {c : Ctx} {N : Nat} {ops : Array Oper} {Q : Exit → Act → World → Prop} {K : Fr → St → Prop} (hQ : ∀ a w fr σ, K fr σ → Sim c N a w fr σ → Q .normal a w) :
    ∀ (l : List Oper) (fr : Fr) (σ : St) (a : Act) (w : World), (∀ o ∈ l, opOk N o = true) → aops true P ops.toList l fr σ K → Sim c N a w fr σ → wpList P ops Q l a w
  | [], fr, σ, a, w, _, h, hs => hQ a w fr σ h hs
  | o :: l, fr, σ, a, w, hok, h, hs => by
    simp only [aops] at h
    have hs' := hs
    obtain ⟨g, hi, hf, hN, hd⟩ := hs
    unfold wpList
    rcases aguard_sound (fun d => hf d) h with ⟨hw, h⟩ | ⟨hw, h⟩
    · rw [if_pos hw]
      exact .inl (aopM_sound (hok o (by simp)) h hs' (fun a' w' fr' σ' hk hs2 => aops_sound hQ l fr' σ' a' w' (fun x hx => hok x (by simp [hx])) hk hs2))
    · rw [if_neg (by simp [hw])]
      exact aops_sound hQ l _ σ _ w (fun x hx => hok x (by simp [hx])) h (Sim.put hi hf hN hd (dst_lt (hok o (by simp))) (.tup #[] [] rfl (fun i v a hv => by simp at hv)))

end Go.Proofs.Ytlfggjfndmfblaa.Abs

namespace Go.Proofs.Ytlfggjfndmfblaa.Abs
open Go
set_option linter.unusedVariables false
set_option linter.unusedSimpArgs false

def QE (σ : St) (v : AV) : Option (Nat → Bool) → AV → St → Prop := fun dm v' σ' => dm = .none ∧ v' = v ∧ σ' = σ

/-- A quiet operation: it yields this value, and nothing that is known changes. -/
def AQ (P : Program) (o : Oper) (ev : Operand → AV) (σ : St) (v : AV) : Prop :=
  match o.op with
  | .call { callee := .value f, args, argTypes } => (match ev f with
    | .fn k caps => ∃ as r, AV.leL (AV.lowL [] (args.toList.map ev ++ caps)) as ∧ ACalls P k as [] r [] ∧ v = r.low []
    | _ => False)
  | _ => aval P o ev σ (QE σ v)

def evF (F : Nat → AV) : Operand → AV
  | .tmp t => F t
  | .const v => AV.ofValue v
  | .func f => .fn f []
  | .global _ => .any

theorem evF_get (fr : Fr) : evF fr.get = fr.ev := by funext x; cases x <;> rfl

def putF (F : Nat → AV) (dst : Option Tmp) (v : AV) : Nat → AV := match dst with | some d => fun i => if i = d then v else F i | _ => F

theorem get_put (fr : Fr) (dst : Option Tmp) (v : AV) : (fr.put dst v).get = putF fr.get dst v := by
  funext i
  cases dst <;> rfl

theorem putF_comm (F : Nat → AV) {x y : Option Tmp} (v u : AV) (h : ∀ d, x = some d → y ≠ some d) : putF (putF F x v) y u = putF (putF F y u) x v := by
  cases x with
  | none => rfl
  | some d =>
    cases y with
    | none => rfl
    | some e =>
      have hne : d ≠ e := fun he => h d rfl (he ▸ rfl)
      funext i
      simp only [putF]
      by_cases h1 : i = e
      · subst h1
        simp [Ne.symm hne]
      · simp [h1]

theorem evF_put {F : Nat → AV} {dst : Option Tmp} {v : AV} {x : Operand} (h : ∀ d, dst = some d → x ≠ .tmp d) : evF (putF F dst v) x = evF F x := by
  cases dst with
  | none => rfl
  | some d =>
    cases x with
    | tmp t =>
      have : t ≠ d := fun e => h d rfl (e ▸ rfl)
      simp [evF, putF, this]
    | _ => rfl

/-! ### A rule looks at its operands alone -/
theorem afill_congr {P : Program} {t : TypeId} {ev ev' : Operand → AV} : ∀ (parts : List (Nat × Operand)) (cs : List AV), (∀ x ∈ parts.map (·.2), ev x = ev' x) → afill P t ev cs parts = afill P t ev' cs parts
  | [], cs, _ => rfl
  | (i, x) :: r, cs, h => by
    have hx : ev x = ev' x := h x (by simp)
    have ih := fun cs => afill_congr (P := P) (t := t) r cs (fun y hy => h y (by simp only [List.map_cons, List.mem_cons]; exact .inr hy))
    simp only [afill, hx, ih]
theorem arows_congr {hs : List Nat} {sz : Nat} {ev ev' : Operand → AV} : ∀ (parts : List (Nat × Operand)) (k : Nat), (∀ x ∈ parts.map (·.2), ev x = ev' x) → arows hs sz ev k parts = arows hs sz ev' k parts
  | [], k, _ => rfl
  | (i, x) :: r, k, h => by
    have hx : ev x = ev' x := h x (by simp)
    have ih := fun k => arows_congr (hs := hs) (sz := sz) r k (fun y hy => h y (by simp only [List.map_cons, List.mem_cons]; exact .inr hy))
    simp only [arows, hx, ih]
theorem aptrs_congr {ev ev' : Operand → AV} : ∀ (parts : List (Nat × Operand)) (k : Nat), (∀ x ∈ parts.map (·.2), ev x = ev' x) → aptrs ev k parts = aptrs ev' k parts
  | [], k, _ => rfl
  | (i, x) :: r, k, h => by
    have hx : ev x = ev' x := h x (by simp)
    have ih := fun k => aptrs_congr r k (fun y hy => h y (by simp only [List.map_cons, List.mem_cons]; exact .inr hy))
    simp only [aptrs, hx, ih]

theorem opt_map_congr {ev ev' : Operand → AV} {o : Option Operand} (h : ∀ x ∈ o.toList, ev x = ev' x) : o.map ev = o.map ev' := by
  cases o with
  | none => rfl
  | some x => simp [h x (by simp)]

theorem aval0_congr {P : Program} {o : Oper} {ev ev' : Operand → AV} {σ : St} {K : Option (Nat → Bool) → AV → St → Prop} (h : ∀ x ∈ o.op.operands, ev x = ev' x) : aval0 P o ev σ K = aval0 P o ev' σ K := by
  obtain ⟨dst, op, ty, pos, after, guard⟩ := o
  cases op <;> simp only [Op.operands] at h
  case move x => simp only [aval0, h x (by simp)]
  case assign x => simp only [aval0, h x (by simp)]
  case pick x a b => simp only [aval0, h x (by simp), h a (by simp), h b (by simp)]
  case alloc e => rfl
  case box e x => simp only [aval0, h x (by simp)]
  case build t parts => simp only [aval0, afill_congr (P := P) (t := t) parts.toList _ (fun x hx => h x (by simpa using hx))]
  case buildSlice t n parts =>
    have hp : ∀ x ∈ parts.toList.map (·.2), ev x = ev' x := fun x hx => h x (by simpa using hx)
    simp only [aval0, aptrs_congr parts.toList 0 hp]
    have : ∀ hs sz, arows hs sz ev 0 parts.toList = arows hs sz ev' 0 parts.toList := fun hs sz => arows_congr parts.toList 0 hp
    simp only [this]
  case load t x => simp only [aval0, h x (by simp)]
  case store t x y => simp only [aval0, h x (by simp), h y (by simp)]
  case nilCheck x => simp only [aval0, h x (by simp)]
  case binOp op t x y t2 => simp only [aval0, h x (by simp), h y (by simp)]
  case unOp op t x => simp only [aval0, h x (by simp)]
  case convert s d x => simp only [aval0, h x (by simp)]
  case makeFunc fn first captured =>
    have hc : captured.toList.map ev = captured.toList.map ev' := List.map_congr_left fun x hx => h x (by simp at hx; simp [hx])
    cases fn <;> simp only [aval0, hc]
  case slice t x lo hi mx =>
    have h1 : lo.map ev = lo.map ev' := opt_map_congr fun y hy => h y (by simp at hy; simp [hy])
    have h2 : hi.map ev = hi.map ev' := opt_map_congr fun y hy => h y (by simp at hy; simp [hy])
    cases mx <;> simp only [aval0, h x (by simp), h1, h2]
  case fieldAddr t x f => simp only [aval0, h x (by simp)]
  case field t x f => simp only [aval0, h x (by simp)]
  case indexAddr t x ix => simp only [aval0, h x (by simp), h ix (by simp)]
  case index t x ix => simp only [aval0, h x (by simp), h ix (by simp)]
  case extract x i => simp only [aval0, h x (by simp)]
  case call c =>
    obtain ⟨callee, args, argTypes⟩ := c
    cases callee with
    | builtin b =>
      have h' : ∀ x ∈ args.toList, ev x = ev' x := fun x hx => h x (by simp [Call.operands]; simpa using hx)
      cases b
      case len =>
        simp only [aval0]
        split
        · rename_i x t h1 h2
          rw [h' x (by simp [h1])]
        · rfl
      case append =>
        simp only [aval0]
        split
        · rename_i s x t tx h1 h2
          rw [h' s (by simp [h1]), h' x (by simp [h1])]
        · rfl
      case max =>
        simp only [aval0]
        split
        · rename_i x y h1
          rw [h' x (by simp [h1]), h' y (by simp [h1])]
        · rfl
      case min =>
        simp only [aval0]
        split
        · rename_i x y h1
          rw [h' x (by simp [h1]), h' y (by simp [h1])]
        · rfl
      all_goals rfl
    | _ => rfl
  all_goals rfl

theorem axv_congr {P : Program} {o : Oper} {ev ev' : Operand → AV} {v : AV} (h : ∀ x ∈ o.op.operands, ev x = ev' x) : axv P o ev v = axv P o ev' v := by
  obtain ⟨dst, op, ty, pos, after, guard⟩ := o
  cases op <;> simp only [Op.operands] at h
  case index t x ix => simp only [axv, h x (by simp), h ix (by simp)]
  case indexAddr t x ix => simp only [axv, h x (by simp), h ix (by simp)]
  case build t parts =>
    have hp : ∀ x ∈ parts.toList.map (·.2), ev x = ev' x := fun x hx => h x (by simpa using hx)
    have : ∀ hs sz, arows hs sz ev 0 parts.toList = arows hs sz ev' 0 parts.toList := fun hs sz => arows_congr parts.toList 0 hp
    simp only [axv, this]
  case binOp op t x y t2 => simp only [axv, h x (by simp), h y (by simp)]
  case sliceToArrayPointer t x => simp only [axv, h x (by simp)]
  all_goals rfl
theorem avv_imp {P : Program} {o : Oper} {ev ev' : Operand → AV} {v : AV} (h : ∀ x ∈ o.op.operands, ev x = ev' x) : avv P o ev v → avv P o ev' v := by
  obtain ⟨dst, op, ty, pos, after, guard⟩ := o
  cases op <;> simp only [Op.operands] at h
  case slice t x lo hi mx =>
    cases lo <;> cases hi <;> cases mx <;> first | exact id | (simp only [avv]; rw [h x (by simp)]; exact id)
  case indexAddr t x ix => simp only [avv, h x (by simp), h ix (by simp)]; exact id
  case fieldAddr t x f => simp only [avv, h x (by simp)]; exact id
  case nilCheck x => simp only [avv, h x (by simp)]; exact id
  case load t x => simp only [avv, h x (by simp)]; exact id
  case unOp op t x => cases op <;> first | exact id | (simp only [avv, h x (by simp)]; exact id)
  case call c =>
    obtain ⟨callee, args, argTypes⟩ := c
    cases callee with
    | builtin b =>
      have h' : ∀ x ∈ args.toList, ev x = ev' x := fun x hx => h x (by simp [Call.operands]; simpa using hx)
      cases b
      case len =>
        rintro ⟨x, t, n, h1, h2, h3, h4, h5⟩
        exact ⟨x, t, n, h1, h2, h3, h4, by rw [← h' x (by simp [h1])]; exact h5⟩
      all_goals exact id
    | _ => exact id
  all_goals exact id
theorem axg_imp {P : Program} {o : Oper} {ev ev' : Operand → AV} {σ σ' : St} {dm : Option (Nat → Bool)} {v : AV} (h : ∀ x ∈ o.op.operands, ev x = ev' x) : axg P o ev σ dm v σ' → axg P o ev' σ dm v σ' := by
  obtain ⟨dst, op, ty, pos, after, guard⟩ := o
  cases op <;> simp only [Op.operands] at h
  case makeSlice t l c => simp only [axg, h l (by simp), h c (by simp)]; exact id
  case call c =>
    obtain ⟨callee, args, argTypes⟩ := c
    cases callee with
    | builtin b =>
      have h' : ∀ x ∈ args.toList, ev x = ev' x := fun x hx => h x (by simp [Call.operands]; simpa using hx)
      cases b
      case append =>
        rintro ⟨s, x, t, tx, e, sz, by_, f, xs, ys, h1, h2, h3⟩
        refine ⟨s, x, t, tx, e, sz, by_, f, xs, ys, h1, h2, ?_⟩
        rw [← h' x (by simp [h1]), ← h' s (by simp [h1])]
        exact h3
      all_goals exact id
    | _ => exact id
  all_goals exact id
theorem avv_congr {P : Program} {o : Oper} {ev ev' : Operand → AV} {v : AV} (h : ∀ x ∈ o.op.operands, ev x = ev' x) : avv P o ev v = avv P o ev' v := propext ⟨avv_imp h, avv_imp fun x hx => (h x hx).symm⟩
theorem axg_congr {P : Program} {o : Oper} {ev ev' : Operand → AV} {σ σ' : St} {dm : Option (Nat → Bool)} {v : AV} (h : ∀ x ∈ o.op.operands, ev x = ev' x) : axg P o ev σ dm v σ' = axg P o ev' σ dm v σ' := propext ⟨axg_imp h, axg_imp fun x hx => (h x hx).symm⟩
theorem aval_congr {P : Program} {o : Oper} {ev ev' : Operand → AV} {σ : St} {K : Option (Nat → Bool) → AV → St → Prop} (h : ∀ x ∈ o.op.operands, ev x = ev' x) : aval P o ev σ K = aval P o ev' σ K := by
  unfold aval
  rw [aval0_congr h]
  simp only [axv_congr h, avv_congr h, axg_congr h]

theorem AQ_congr {P : Program} {o : Oper} {ev ev' : Operand → AV} {σ : St} {v : AV} (h : ∀ x ∈ o.op.operands, ev x = ev' x) : AQ P o ev σ v = AQ P o ev' σ v := by
  unfold AQ
  split
  · rename_i f args ts hop
    rw [hop] at h
    have hf : ev f = ev' f := h f (by simp [Op.operands, Call.operands])
    have ha : args.toList.map ev = args.toList.map ev' := List.map_congr_left fun x hx => h x (by simp at hx; simp [Op.operands, Call.operands, hx])
    rw [hf, ha]
  · exact aval_congr h

end Go.Proofs.Ytlfggjfndmfblaa.Abs

namespace Go.Proofs.Ytlfggjfndmfblaa.Abs
open Go
set_option linter.unusedVariables false
set_option linter.unusedSimpArgs false

def SimF (c : Ctx) (N : Nat) (a : Act) (w : World) (F : Nat → AV) (σ : St) : Prop := ∃ g, Inv c g w σ ∧ (∀ d, RAV g w (a.tmps.getD d undef) (F d)) ∧ a.tmps.size = N ∧ a.defers = []

theorem SimF.of {c : Ctx} {N : Nat} {a : Act} {w : World} {fr : Fr} {σ : St} (h : Sim c N a w fr σ) : SimF c N a w fr.get σ := h
theorem Sim.of {c : Ctx} {N : Nat} {a : Act} {w : World} {fr : Fr} {σ : St} (h : SimF c N a w fr.get σ) : Sim c N a w fr σ := h

theorem SimF.put {c : Ctx} {N : Nat} {a : Act} {w : World} {F : Nat → AV} {σ : St} {g : G} (hi : Inv c g w σ) (hf : ∀ d, RAV g w (a.tmps.getD d undef) (F d)) (hN : a.tmps.size = N) (hd : a.defers = []) {dst : Option Tmp} {v : Value} {av : AV}
    (hdst : ∀ d, dst = some d → d < N) (hv : RAV g w v av) : SimF c N (a.put dst v) w (putF F dst av) σ := by
  obtain ⟨h1, h2, h3⟩ := Act.put_eq a hd dst v
  refine ⟨g, hi, ?_, h3.trans hN, h2⟩
  rw [h1]
  cases dst with
  | none => exact hf
  | some d =>
    intro k
    have hlt : d < a.tmps.size := by rw [hN]; exact hdst d rfl
    simp only [Act.put, putF]
    split
    · rename_i e
      subst e
      simpa [Array.getD_eq_getD_getElem?, Array.getElem?_setIfInBounds_self_of_lt hlt] using hv
    · rename_i e
      have := hf k
      simpa [Array.getD_eq_getD_getElem?, Array.getElem?_setIfInBounds_ne (Ne.symm e)] using this

theorem evF_sound {g : G} {w : World} {a : Act} {F : Nat → AV} (h : ∀ d, RAV g w (a.tmps.getD d undef) (F d)) (x : Operand) : RAV g w (a.eval x) (evF F x) := by
  cases x with
  | tmp t => exact h t
  | const v => exact RAV.ofValue g w v
  | func f => exact .fn f #[] [] rfl (fun i v a hv => by simp at hv)
  | global n => exact .any

/-- A draw. -/
theorem Inv.drew {c : Ctx} {g : G} {w : World} {σ : St} (hi : Inv c g w σ) : Inv c g { w with drawn := w.drawn + 1 } σ ∧ Stp g w g { w with drawn := w.drawn + 1 } := by
  have st : Stp g w g { w with drawn := w.drawn + 1 } := ⟨fun _ _ h => h, fun _ _ _ => rfl, fun _ _ h => h, fun _ _ h => ⟨h, rfl, fun _ h => h⟩⟩
  exact ⟨⟨hi.os, hi.tape, hi.output, hi.size, hi.old, hi.Ile, hi.Iold, hi.Ilt, hi.βpre, hi.βnew, hi.βnd, hi.βlen, hi.βI, hi.βlt, hi.τnew, hi.τinj, fun id cs b hs hb => by
    obtain ⟨cur, e, hh, hr⟩ := hi.store id cs b hs hb
    exact ⟨cur, e, hh, hr.stp st⟩, hi.cell0, hi.glo⟩, st⟩

/-- A frame that tells these slots. -/
def frOf (F : Nat → AV) : List Nat → Fr
  | [] => []
  | t :: ts => (t, F t) :: frOf F ts

theorem frOf_get (F : Nat → AV) (l : List Nat) (d : Nat) : (frOf F l).get d = if d ∈ l then F d else .any := by
  induction l with
  | nil => rfl
  | cons t ts ih =>
    simp only [frOf, Fr.get, ih, List.mem_cons]
    by_cases h : d = t
    · subst h; simp
    · simp [h]

def tmpsOf (o : Oper) : List Nat := o.op.operands.toList.filterMap fun | .tmp t => some t | _ => none

theorem frOf_ev (F : Nat → AV) (o : Oper) : ∀ x ∈ o.op.operands, (frOf F (tmpsOf o)).ev x = evF F x := by
  intro x hx
  cases x with
  | tmp t =>
    have : t ∈ tmpsOf o := List.mem_filterMap.2 ⟨.tmp t, by simpa using hx, rfl⟩
    simp [Fr.ev, evF, frOf_get, this]
  | _ => rfl

theorem call_quiet {P : Program} {c : Ctx} {g : G} {w : World} {σ : St} (hi : Inv c g w σ) {f : FuncId} {vs : Array Value} {args as : List AV} {r : AV}
    (hargs : RCells g w vs args) (hle : AV.leL (AV.lowL [] args) as) (hc : ACalls P f as [] r []) :
    Calls P f vs w fun e w' => ∃ v g'', e = .returned v ∧ Inv c g'' w' σ ∧ Stp g w g'' w' ∧ RAV g'' w' v (r.low []) := by
  obtain ⟨_, hcall⟩ := hc
  have := hcall w g.I [] (fun _ => none) vs hi.Ilt List.nodup_nil (by simp) (by simp) (by simp) (by simp) rfl (fun id cs b hs hb => by simp at hs) (RCells.le hle (hargs.low [] [] (by simp))) hi.now
  refine this.mono fun e w' => ?_
  rintro ⟨v, g', he, hi', hv⟩
  have hno : ∀ b : Nat, ¬ ∃ t : Nat, (fun _ => none : Nat → Option Nat) t = some b := fun b h => by obtain ⟨t, h⟩ := h; cases h
  have hheap : ∀ b, b < w.heap.size → w'.heap[b]? = w.heap[b]? := fun b hb => hi'.old b hb (by simp) (hno b)
  have hsz : w.heap.size ≤ w'.heap.size := hi'.size
  let g'' : G := { I := g'.I, β := g.β, τ := g.τ }
  have st : Stp g w g'' w' := ⟨fun b o h => hi'.Ile b o h, fun b o h => by simp [World.cell?, hheap b (hi.Ilt b o h)], fun _ _ h => h, fun t b htb => ⟨htb, hheap b (hi.τnew t b htb).2.1, fun o h => hi'.Iold b o h (hi.τnew t b htb).2.1 (hno b)⟩⟩
  refine ⟨v, g'', he, ⟨hi'.os.trans hi.os, hi'.tape.trans hi.tape, hi'.output.trans hi.output, Nat.le_trans hi.size hsz, fun b hb hn ho => (hheap b (Nat.lt_of_lt_of_le hb hi.size)).trans (hi.old b hb hn ho), fun b o h => hi'.Ile b o (hi.Ile b o h), fun b o h hb ho => hi.Iold b o (hi'.Iold b o h (Nat.lt_of_lt_of_le hb hi.size) (hno b)) hb ho, hi'.Ilt, hi.βpre, hi.βnew, hi.βnd, hi.βlen,
    fun b hb o h => hi.βI b hb o (hi'.Iold b o h (hi.βlt b hb) (hno b)), fun b hb => Nat.lt_of_lt_of_le (hi.βlt b hb) hsz, fun t b htb => ?_, hi.τinj, fun id cs b hs hb => ?_, fun b o h => (st.cell b o (hi.Ile b o h)).trans (hi.cell0 b o h), hi.glo⟩, st, ?_⟩
  · obtain ⟨h1, h2, h3⟩ := hi.τnew t b htb
    exact ⟨h1, Nat.lt_of_lt_of_le h2 hsz, h3⟩
  · obtain ⟨cur, e, hh, hr⟩ := hi.store id cs b hs hb
    exact ⟨cur, e, (hheap b (hi.βlt b (List.mem_of_getElem? hb))).trans hh, hr.stp st⟩
  · have hlow := hv.low [] [] (by simp)
    have st2 : Stp ⟨g'.I, [], fun _ => .none⟩ w' g'' w' := ⟨fun b o h => h, fun _ _ _ => rfl, fun id b h => by simp at h, fun t b h => by simp at h⟩
    exact hlow.stp st2

theorem quiet_wp {P : Program} {c : Ctx} {N : Nat} {o : Oper} {a : Act} {w : World} {F : Nat → AV} {σ : St} {v : AV} {next : Act → World → Prop} {Q : Exit → Act → World → Prop} (hok : opOk N o = true)
    (h : AQ P o (evF F) σ v) (hs : SimF c N a w F σ) (hn : ∀ a' w', SimF c N a' w' (putF F o.dst v) σ → next a' w') : o.wp P a w next Q := by
  obtain ⟨g, hi, hf, hN, hd⟩ := hs
  obtain ⟨dst, op, ty, pos, after, guard⟩ := o
  by_cases hcall : ∃ f args ts, op = .call { callee := .value f, args := args, argTypes := ts }
  · obtain ⟨f, args, ts, rfl⟩ := hcall
    simp only [AQ] at h
    split at h
    · rename_i k caps hfv
      obtain ⟨as, r, hle, hc, rfl⟩ := h
      have hfe := evF_sound hf f
      rw [hfv] at hfe
      generalize hve : a.eval f = vf at hfe
      cases hfe with
      | fn _ vs _ hl ha =>
        have hx := exec_call (P := P) (w := w) (dst := dst) (ty := ty) (pos := pos) (after := after) (guard := guard) (args := args) (argTypes := ts) hve hc.1
        have hargs : RCells g w (args.map a.eval) (args.toList.map (evF F)) := by
          refine ⟨by simp, fun i v av hv hav => ?_⟩
          rw [Array.getElem?_map, Option.map_eq_some_iff] at hv
          obtain ⟨x, hx, rfl⟩ := hv
          rw [List.getElem?_map, Array.getElem?_toList, hx] at hav
          simp at hav
          subst hav
          exact evF_sound hf x
        unfold Oper.wp Oper.upon
        rw [hx]
        refine (call_quiet hi (hargs.app ⟨hl, ha⟩) hle hc).mono fun e w' => ?_
        rintro ⟨v, g'', rfl, hi', st, hv⟩
        exact hn _ _ (SimF.put hi' (fun d => (hf d).stp st) hN hd (dst_lt hok) hv)
    · exact h.elim
  · have h' : aval P ⟨dst, op, ty, pos, after, guard⟩ (frOf F (tmpsOf ⟨dst, op, ty, pos, after, guard⟩)).ev σ (QE σ v) := by
      rw [aval_congr (frOf_ev F ⟨dst, op, ty, pos, after, guard⟩)]
      unfold AQ at h
      split at h
      · rename_i f args ts hop
        exact absurd ⟨f, args, ts, hop⟩ hcall
      · exact h
    have hfr : RFr g w a.tmps (frOf F (tmpsOf ⟨dst, op, ty, pos, after, guard⟩)) := by
      intro d
      rw [frOf_get]
      split
      · exact hf d
      · exact .any
    have hst : (⟨dst, op, ty, pos, after, guard⟩ : Oper).dst.isSome = true ∨ ∃ t x y, (⟨dst, op, ty, pos, after, guard⟩ : Oper).op = .store t x y := by
      unfold opOk at hok
      split at hok
      · rename_i d hd'
        exact .inl (by simp only at hd'; simp [hd'])
      · split at hok
        · rename_i t x y hop
          exact .inr ⟨t, x, y, hop⟩
        · rename_i f args ts hop
          exact absurd ⟨f, args, ts, hop⟩ hcall
        · cases hok
    obtain ⟨nx, u, w', dm, av, σ', g', hr, hnx, ⟨rfl, rfl, rfl⟩, hi', st, hv⟩ := aval_sound hst hi hfr h'
    unfold Oper.wp Oper.upon
    rw [hr]
    rcases hnx with rfl | ⟨rfl, rfl⟩
    · exact hn _ _ (SimF.put hi' (fun d => (hf d).stp st) hN hd (dst_lt hok) hv)
    · exact hn _ _ (SimF.put hi' (fun d => (hf d).stp st) hN hd (dst_lt hok) hv)

/-! ### One operation, whatever has come before it -/
def YA (P : Program) (ops : Array Oper) (σ : St) (o : Oper) (v : AV) (F : Nat → AV) : Prop := aguard ops.toList o F (AQ P o (evF F) σ v) (v = .tup [])

theorem YA.put {P : Program} {ops : Array Oper} {σ : St} {o : Oper} {v : AV} {F : Nat → AV} {dst : Option Tmp} {u : AV} (h : ∀ d, dst = some d → d ∉ o.looksAt ops) : YA P ops σ o v (putF F dst u) ↔ YA P ops σ o v F := by
  have hq : AQ P o (evF (putF F dst u)) σ v = AQ P o (evF F) σ v := AQ_congr fun x hx => evF_put fun d hd e => by
    refine h d hd ?_
    subst e
    unfold Oper.looksAt
    exact List.mem_append_left _ (List.mem_filterMap.2 ⟨.tmp d, by simpa using hx, rfl⟩)
  unfold YA aguard
  rw [hq]
  cases hg : o.guard with
  | none => exact Iff.rfl
  | some p =>
    obtain ⟨j, want⟩ := p
    simp only
    cases hp : ops.toList[j]? with
    | none => exact Iff.rfl
    | some q =>
      simp only
      cases hd : q.dst with
      | none => exact Iff.rfl
      | some d =>
        simp only
        have hne : putF F dst u d = F d := by
          cases dst with
          | none => rfl
          | some e =>
            have : d ≠ e := by
              rintro rfl
              refine h d rfl ?_
              unfold Oper.looksAt
              rw [Array.getElem?_toList] at hp
              exact List.mem_append_right _ (by simp [hg, hp, hd])
            simp [putF, this]
        rw [hne]

section
variable (P : Program) (ops : Array Oper) (σ : St) (pre : Nat) (QF : Array Bool → (Nat → AV) → Prop)

def qA (i : Nat) (K : (Nat → AV) → Prop) (F : Nat → AV) : Prop :=
  match ops[i]? with
  | some o => ∃ v, YA P ops σ o v F ∧ K (putF F o.dst v)
  | _ => K F

def wpAnyA : Nat → Array Bool → (Nat → AV) → Prop
  | 0, listed, F => QF listed F
  | n + 1, listed, F => Region.ready .any ops listed ≠ [] ∧ ∀ i ∈ Region.ready .any ops listed, i < pre ∧ qA P ops σ i (wpAnyA n (listed.setIfInBounds i true)) F
end

def DC (ops : Array Oper) (listed : Array Bool) : Prop := ∀ (k : Nat) (o : Oper), ops[k]? = some o → listed.getD k false = true → ∀ e ∈ o.after, Region.binds .any e = true → listed.getD e.on false = true

def waitsB (ops : Array Oper) : Nat → Nat → Nat → Bool
  | 0, _, _ => false
  | n + 1, i, j => match ops[j]? with
    | some o => o.after.any fun e => Region.binds .any e && (e.on == i || waitsB ops n i e.on)
    | _ => false

theorem waits_listed {ops : Array Oper} {listed : Array Bool} (hdc : DC ops listed) : ∀ (n i j : Nat), waitsB ops n i j = true → listed.getD j false = true → listed.getD i false = true
  | 0, i, j, h, _ => by simp [waitsB] at h
  | n + 1, i, j, h, hl => by
    simp only [waitsB] at h
    split at h
    · rename_i o ho
      obtain ⟨e, he, hb⟩ := Array.any_eq_true'.1 h
      simp only [Bool.and_eq_true, Bool.or_eq_true, beq_iff_eq] at hb
      have hle := hdc j o ho hl e he hb.1
      rcases hb.2 with h1 | h1
      · rw [← h1]; exact hle
      · exact waits_listed hdc n i e.on h1 hle
    · cases h

theorem waits_ready {ops : Array Oper} {listed : Array Bool} (hdc : DC ops listed) (n i j : Nat) (h : waitsB ops n i j = true) (hr : j ∈ Region.ready .any ops listed) : listed.getD i false = true := by
  obtain ⟨_, oj, hoj, hall⟩ := mem_ready.1 hr
  cases n with
  | zero => simp [waitsB] at h
  | succ n =>
    simp only [waitsB, hoj] at h
    obtain ⟨e, he, hb⟩ := Array.any_eq_true'.1 h
    simp only [Bool.and_eq_true, Bool.or_eq_true, beq_iff_eq] at hb
    have hle := hall e he hb.1
    rcases hb.2 with h1 | h1
    · rw [← h1]; exact hle
    · exact waits_listed hdc n i e.on h1 hle

end Go.Proofs.Ytlfggjfndmfblaa.Abs

namespace Go.Proofs.Ytlfggjfndmfblaa.Abs
open Go
set_option linter.unusedVariables false
set_option linter.unusedSimpArgs false

theorem DC.set {ops : Array Oper} {listed : Array Bool} {i : Nat} (h : DC ops listed) (hr : i ∈ Region.ready .any ops listed) : DC ops (listed.setIfInBounds i true) := by
  intro k o ho hl e he hb
  by_cases hki : k = i
  · subst hki
    obtain ⟨_, oj, hoj, hall⟩ := mem_ready.1 hr
    rw [ho] at hoj
    cases hoj
    exact getD_set_true (hall e he hb)
  · rw [getD_set_ne false (Ne.symm hki)] at hl
    exact getD_set_true (h k o ho hl e he hb)

theorem getD_tf {listed : Array Bool} {i : Nat} (h : listed.getD i true = false) : listed.getD i false = false := by
  rcases Nat.lt_or_ge i listed.size with h' | h'
  · simp [h'] at h ⊢
    exact h
  · simp [Array.getElem?_eq_none h']

/-- A quiet operation that may come up now may be taken first. -/
theorem wpAnyA_first {P : Program} {ops : Array Oper} {σ : St} {pre : Nat} {QF : Array Bool → (Nat → AV) → Prop} (hQF : ∀ L F, QF L F → ∀ j, j < pre → L.getD j false = true) {i : Nat} {oi : Oper} {v : AV} (hi : ops[i]? = some oi) (hip : i < pre)
    (hw : ∀ j oj, ops[j]? = some oj → pre ≤ j → waitsB ops ops.size i j = true) :
    ∀ (fuel : Nat) (listed : Array Bool) (F : Nat → AV), DC ops listed →
      (∀ j oj, ops[j]? = some oj → j < pre → j ≠ i → listed.getD j true = false → (∀ e ∈ oj.after, Region.binds .any e = true → e.on ≠ i) → oi.apart ops oj = true) →
      i ∈ Region.ready .any ops listed → YA P ops σ oi v F → wpAnyA P ops σ pre QF fuel (listed.setIfInBounds i true) (putF F oi.dst v) → wpAnyA P ops σ pre QF (fuel + 1) listed F := by
  have suffix : ∀ (listed : Array Bool), DC ops listed → i ∈ Region.ready .any ops listed → ∀ j ∈ Region.ready .any ops listed, j < pre := by
    intro listed hdc hr j hj
    rcases Nat.lt_or_ge j pre with h | h
    · exact h
    · obtain ⟨_, oj, hoj, _⟩ := mem_ready.1 hj
      have h1 := waits_ready hdc _ i j (hw j oj hoj h) hj
      have h2 := getD_tf (mem_ready.1 hr).1
      rw [h1] at h2
      cases h2
  intro fuel
  induction fuel with
  | zero =>
    intro listed F hdc _ hr hy H
    refine ⟨fun h => (by rw [h] at hr; cases hr), fun j hj => ⟨suffix listed hdc hr j hj, ?_⟩⟩
    by_cases hji : j = i
    · subst hji
      simp only [qA, hi]
      exact ⟨v, hy, H⟩
    · exfalso
      have h1 := hQF _ _ H j (suffix listed hdc hr j hj)
      rw [getD_set_ne false (Ne.symm hji)] at h1
      have h2 := getD_tf (mem_ready.1 hj).1
      rw [h1] at h2
      cases h2
  | succ fuel ih =>
    intro listed F hdc hfree hr hy H
    refine ⟨fun h => (by rw [h] at hr; cases hr), fun j hj => ⟨suffix listed hdc hr j hj, ?_⟩⟩
    by_cases hji : j = i
    · subst hji
      simp only [qA, hi]
      exact ⟨v, hy, H⟩
    · obtain ⟨hjp, h1⟩ := H.2 j (ready_mono hj hji)
      obtain ⟨hjun, oj, hoj, hall⟩ := mem_ready.1 hj
      have hnot : ∀ e ∈ oj.after, Region.binds .any e = true → e.on ≠ i := fun e he hb heq => by
        have h1 := hall e he hb
        have h0 := getD_tf (mem_ready.1 hr).1
        rw [heq] at h1
        rw [h1] at h0
        cases h0
      obtain ⟨a1, a2, a3⟩ := Oper.apart_spec (hfree j oj hoj (suffix listed hdc hr j hj) hji hjun hnot)
      simp only [qA, hoj] at h1 ⊢
      obtain ⟨u, hu, hk⟩ := h1
      refine ⟨u, (YA.put a1).1 hu, ?_⟩
      have hfree' : ∀ k ok, ops[k]? = some ok → k < pre → k ≠ i → (listed.setIfInBounds j true).getD k true = false →
          (∀ e ∈ ok.after, Region.binds .any e = true → e.on ≠ i) → oi.apart ops ok = true := fun k ok hk hkp hki hun hno => by
        refine hfree k ok hk hkp hki ?_ hno
        by_cases hjk : j = k
        · subst hjk; exact hjun
        · rw [getD_set_ne true hjk] at hun; exact hun
      refine ih (listed.setIfInBounds j true) _ (hdc.set hj) hfree' (ready_mono hr (Ne.symm hji)) ((YA.put a3).2 hy) ?_
      rw [Array.setIfInBounds_comm _ _ hji, ← putF_comm F v u a2]
      exact hk

/-- The check on a region: its first 'pre' operations in the text's order, each free of the ones that need not wait for it; the rest wait for all of them and come one by one. -/
def lexA (ops : Array Oper) (pre : Nat) : Nat → Nat → Array Bool → Bool
  | 0, _, _ => true
  | n + 1, k, listed => (Region.ready .any ops listed).contains k && (match ops[k]? with
      | some ok => (List.range pre).all fun j => j == k || listed.getD j true || (match ops[j]? with
        | some oj => oj.after.any (fun e => Region.binds .any e && e.on == k) || ok.apart ops oj
        | _ => true)
      | _ => false) && lexA ops pre n (k + 1) (listed.setIfInBounds k true)

def lexS (ops : Array Oper) : Nat → Nat → Array Bool → Bool
  | 0, _, listed => Region.ready .any ops listed == []
  | n + 1, k, listed => (Region.ready .any ops listed == [k]) && lexS ops n (k + 1) (listed.setIfInBounds k true)

def listedTo (n k : Nat) : Array Bool := (List.range k).foldl (fun l i => l.setIfInBounds i true) (Array.replicate n false)

def drawOk (ops : Array Oper) (pre : Nat) : Bool :=
  decide (pre ≤ ops.size) && lexA ops pre pre 0 (Array.replicate ops.size false) && lexS ops (ops.size - pre) pre (listedTo ops.size pre) &&
  ((List.range ops.size).all fun j => decide (j < pre) || (List.range pre).all fun i => waitsB ops ops.size i j) && (List.range pre).all fun j => (listedTo ops.size pre).getD j false

theorem listedTo_succ (n k : Nat) : listedTo n (k + 1) = (listedTo n k).setIfInBounds k true := by
  simp [listedTo, List.range_succ]

/-- The quiet operations, told by the text's order. -/
def aqs (P : Program) (ops : List Oper) : List Oper → Fr → St → (Fr → Prop) → Prop
  | [], fr, σ, K => K fr
  | o :: r, fr, σ, K => aguard ops o fr.get (∃ v, AQ P o fr.ev σ v ∧ aqs P ops r (fr.put o.dst v) σ K) (aqs P ops r (fr.put o.dst (.tup [])) σ K)

theorem aqs_lex {P : Program} {ops : Array Oper} {σ : St} {pre : Nat} {QF : Array Bool → (Nat → AV) → Prop} {K : Fr → Prop} (hQF : ∀ L F, QF L F → ∀ j, j < pre → L.getD j false = true)
    (hw : ∀ i j oj, i < pre → ops[j]? = some oj → pre ≤ j → waitsB ops ops.size i j = true) (hK : ∀ fr, K fr → QF (listedTo ops.size pre) fr.get) :
    ∀ (l : List Oper) (k : Nat) (fr : Fr), k + l.length = pre → (∀ j, j < l.length → l[j]? = ops[k + j]?) → DC ops (listedTo ops.size k) → lexA ops pre l.length k (listedTo ops.size k) = true → aqs P ops.toList l fr σ K →
      wpAnyA P ops σ pre QF l.length (listedTo ops.size k) fr.get
  | [], k, fr, hkl, _, _, _, h => by
    have : k = pre := by simpa using hkl
    subst this
    exact hK fr h
  | o :: l, k, fr, hkl, hl, hdc, hB, h => by
    have h0 : ops[k]? = some o := by have := hl 0 (by simp); simpa using this.symm
    simp only [List.length_cons, lexA, h0, Bool.and_eq_true] at hB
    obtain ⟨⟨hr, hf⟩, hB'⟩ := hB
    have hr' : k ∈ Region.ready .any ops (listedTo ops.size k) := by simpa using hr
    simp only [aqs] at h
    -- the value that it yields
    obtain ⟨v, hy, hrest⟩ : ∃ v, YA P ops σ o v fr.get ∧ aqs P ops.toList l (fr.put o.dst v) σ K := by
      unfold YA
      rw [evF_get]
      unfold aguard at h ⊢
      split at h
      · rename_i hg
        exact h
      · rename_i j want hg
        split at h
        · rename_i p hp
          split at h
          · rename_i d hd
            split at h
            · rename_i b hb
              by_cases hbw : b = want
              · obtain ⟨v, h1, h2⟩ := h.1 hbw
                exact ⟨v, ⟨fun _ => h1, fun hn => absurd hbw hn⟩, h2⟩
              · exact ⟨.tup [], ⟨fun hn => absurd hn hbw, fun _ => rfl⟩, h.2 hbw⟩
            · exact ⟨.tup [], rfl, h⟩
            · exact h.elim
          · exact h.elim
        · exact h.elim
    have hfree : ∀ j oj, ops[j]? = some oj → j < pre → j ≠ k → (listedTo ops.size k).getD j true = false → (∀ e ∈ oj.after, Region.binds .any e = true → e.on ≠ k) → o.apart ops oj = true := by
      intro j oj hj hjp hjk hun hno
      have := List.all_eq_true.1 hf j (List.mem_range.2 hjp)
      simp only [Bool.or_eq_true, beq_iff_eq, hun, hj, Bool.false_eq_true, or_false, hjk, false_or] at this
      rcases this with h1 | h1
      · exfalso
        obtain ⟨e, he, hb⟩ := Array.any_eq_true'.1 h1
        simp only [Bool.and_eq_true, beq_iff_eq] at hb
        exact hno e he hb.1 hb.2
      · exact h1
    refine wpAnyA_first hQF h0 (by simp at hkl; omega) (fun j oj hj hp => hw k j oj (by simp at hkl; omega) hj hp) l.length _ _ hdc hfree hr' hy ?_
    rw [← listedTo_succ, ← get_put]
    refine aqs_lex hQF hw hK l (k + 1) _ (by simp at hkl; omega) (fun j hj => ?_) ?_ ?_ hrest
    · have := hl (j + 1) (by simp; omega)
      rw [List.getElem?_cons_succ] at this
      rw [this]
      congr 1
      omega
    · rw [listedTo_succ]
      exact hdc.set hr'
    · rw [listedTo_succ]
      exact hB'

theorem wpAny_of_A {P : Program} {c : Ctx} {N : Nat} {ops : Array Oper} {σ : St} {pre m : Nat} {QF : Array Bool → (Nat → AV) → Prop} {Q : Exit → Act → World → Prop} (hok : ∀ (i : Nat) o, ops[i]? = some o → opOk N o = true)
    (hQ : ∀ L F a w, QF L F → SimF c N a w F σ → wpAny P .any ops Q m L a w) : ∀ (n : Nat) (listed : Array Bool) (F : Nat → AV) (a : Act) (w : World), wpAnyA P ops σ pre QF n listed F → SimF c N a w F σ → wpAny P .any ops Q (n + m) listed a w
  | 0, listed, F, a, w, h, hs => by rw [Nat.zero_add]; exact hQ listed F a w h hs
  | n + 1, listed, F, a, w, h, hs => by
    rw [show n + 1 + m = (n + m) + 1 by omega]
    refine ⟨fun h0 => absurd h0 h.1, fun i hi => ?_⟩
    obtain ⟨_, hq⟩ := h.2 i hi
    unfold wpOp
    unfold qA at hq
    cases ho : ops[i]? with
    | none =>
      simp only [ho] at hq
      exact wpAny_of_A hok hQ n _ F a w hq hs
    | some o =>
      simp only [ho] at hq
      obtain ⟨v, hy, hk⟩ := hq
      have hs' := hs
      obtain ⟨g, hinv, hf, hN, hd⟩ := hs
      rcases aguard_sound hf hy with ⟨hw, hy⟩ | ⟨hw, rfl⟩
      · simp only [hw, if_true]
        exact .inl (quiet_wp (hok i o ho) hy hs' (fun a' w' hs2 => wpAny_of_A hok hQ n _ _ a' w' hk hs2))
      · simp only [hw, Bool.false_eq_true, if_false]
        exact wpAny_of_A hok hQ n _ _ _ w hk (SimF.put hinv hf hN hd (dst_lt (hok i o ho)) (.tup #[] [] rfl (fun i v a hv => by simp at hv)))

/-- What comes one by one. -/
theorem wpAny_seq {P : Program} {ops : Array Oper} {Q : Exit → Act → World → Prop} : ∀ (l : List Oper) (k : Nat) (listed : Array Bool) (a : Act) (w : World), (∀ j, l[j]? = ops[k + j]?) → lexS ops l.length k listed = true → wpList P ops Q l a w → wpAny P .any ops Q l.length listed a w
  | [], k, listed, a, w, _, hB, h => by
    simp only [List.length_nil, lexS, beq_iff_eq] at hB
    exact ⟨hB, h⟩
  | o :: l, k, listed, a, w, hl, hB, h => by
    have h0 : ops[k]? = some o := by simpa using (hl 0).symm
    simp only [List.length_cons, lexS, Bool.and_eq_true, beq_iff_eq] at hB
    obtain ⟨hr, hB'⟩ := hB
    refine ⟨fun e => (by rw [hr] at e; cases e), fun i hi => ?_⟩
    rw [hr] at hi
    simp only [List.mem_singleton] at hi
    subst hi
    have ih := fun a w => wpAny_seq (P := P) (Q := Q) l (i + 1) (listed.setIfInBounds i true) a w (fun j => by have := hl (j + 1); rw [List.getElem?_cons_succ] at this; rw [this]; congr 1; omega) hB'
    unfold wpOp
    simp only [h0]
    unfold wpList at h
    split
    · rename_i hw
      rw [if_pos hw] at h
      exact h.imp (Oper.wp_mono ih) id
    · rename_i hw
      rw [if_neg hw] at h
      exact ih _ _ h

theorem draw_sound {P : Program} {c : Ctx} {N : Nat} {ops : Array Oper} {id : Nat} {σ : St} {fr : Fr} {pre : Nat} {K : Fr → St → Prop} {Q : Exit → Act → World → Prop} (hm : P.follows .mixedOrders = true) (hB : drawOk ops pre = true) (hok : ∀ o ∈ ops.toList, opOk N o = true)
    (h : aqs P ops.toList (ops.toList.take pre) fr σ fun fr' => aops true P ops.toList (ops.toList.drop pre) fr' σ K) {a : Act} {w : World} (hs : Sim c N a w fr σ) (hQ : ∀ a w fr σ, K fr σ → Sim c N a w fr σ → Q .normal a w) :
    (Code.region id ops true).wp P Q a w := by
  simp only [drawOk, Bool.and_eq_true, decide_eq_true_eq] at hB
  obtain ⟨⟨⟨⟨hpre, hlex⟩, hseq⟩, hwt⟩, hli⟩ := hB
  have hw : ∀ i j oj, i < pre → ops[j]? = some oj → pre ≤ j → waitsB ops ops.size i j = true := by
    intro i j oj hi hj hp
    have hjs : j < ops.size := (Array.getElem?_eq_some_iff.1 hj).1
    have := List.all_eq_true.1 hwt j (List.mem_range.2 hjs)
    simp only [Bool.or_eq_true, decide_eq_true_eq] at this
    rcases this with h | h
    · omega
    · exact List.all_eq_true.1 h i (List.mem_range.2 hi)
  have hl : (ops.toList.take pre).length = pre := by simp; omega
  let QF : Array Bool → (Nat → AV) → Prop := fun L F => L = listedTo ops.size pre ∧ ∃ fr', F = fr'.get ∧ aops true P ops.toList (ops.toList.drop pre) fr' σ K
  have hA := aqs_lex (P := P) (ops := ops) (σ := σ) (pre := pre) (QF := QF) (K := fun fr' => aops true P ops.toList (ops.toList.drop pre) fr' σ K)
    (fun L F hq j hj => by rw [hq.1]; exact List.all_eq_true.1 hli j (List.mem_range.2 hj)) hw (fun fr' hk => ⟨rfl, fr', rfl, hk⟩) (ops.toList.take pre) 0 fr (by rw [hl]; omega)
    (fun j hj => by rw [hl] at hj; rw [List.getElem?_take_of_lt hj]; simp)
    (fun k o ho hl => by simp [listedTo, Array.getElem?_replicate] at hl; split at hl <;> simp at hl) (by rw [hl]; exact hlex) h
  rw [hl] at hA
  obtain ⟨g, hi, hf, hN, hd⟩ := hs
  obtain ⟨hi', st⟩ := hi.drew
  refine wp_region_any hm ?_
  have := wpAny_of_A (P := P) (c := c) (N := N) (m := ops.size - pre) (Q := Q) (fun i o ho => hok o (by rw [← Array.getElem?_toList] at ho; exact List.mem_of_getElem? ho)) (fun L F a w hq hs => by
    obtain ⟨rfl, fr', rfl, hk⟩ := hq
    have hls : (ops.toList.drop pre).length = ops.size - pre := by simp
    rw [← hls]
    exact wpAny_seq (ops.toList.drop pre) pre _ a w (fun j => by rw [List.getElem?_drop]; simp) (by rw [hls]; exact hseq)
      (aops_sound hQ _ fr' σ a w (fun o ho => hok o (List.mem_of_mem_drop ho)) hk hs)) pre (listedTo ops.size 0) fr.get a { w with drawn := w.drawn + 1 } hA ⟨g, hi', fun d => (hf d).stp st, hN, hd⟩
  rwa [show pre + (ops.size - pre) = ops.size by omega] at this

end Go.Proofs.Ytlfggjfndmfblaa.Abs

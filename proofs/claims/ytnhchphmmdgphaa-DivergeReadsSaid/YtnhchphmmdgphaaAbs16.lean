/- How a call's judgement is shown: enter, walk, hand back. -/
import Derived.Test.YtnhchphmmdgphaaAbs15
namespace Go.Proofs.Ytnhchphmmdgphaa.Abs
open Go
set_option linter.unusedVariables false
set_option linter.unusedSimpArgs false

/-- What is known when the body has ended, told to the caller. -/
def Fin (k0 : Nat) (rv : AV) (σ : St) (r : AV) (σr : St) : Prop := ∀ c g w v, c.β0.length = k0 → Inv c g w σ → RAV g w v rv → ∃ g', Inv c g' w σr ∧ RAV g' w v r

def aresults (P : Program) (fr : Fr) (σ : St) : List ResultVar → (List AV → Prop) → Prop
  | [], K => K []
  | .tmp t :: rs, K => aresults P fr σ rs fun vs => K (fr.get t :: vs)
  | .cell a t :: rs, K => (match tyVar P t with
    | some (ag, n) => (match fr.get a with
      | .box id off => aload ag n (.box id off) σ fun v => aresults P fr σ rs fun vs => K (v :: vs)
      | _ => False)
    | _ => False)

def rval : List AV → AV
  | [v] => v
  | vs => .tup vs

def resOne (tmps : Array Value) : ResultVar → Sem Value
  | .tmp t => pure (tmps.getD t undef)
  | .cell b t => do loadVar t (← asAddr (tmps.getD b undef))

theorem results_eq (fn : Func) (tmps : Array Value) : results fn tmps = (do
    let vs ← fn.results.mapM (resOne tmps)
    pure (if h : vs.size = 1 then vs[0] else .tuple vs)) := by
  unfold results
  congr 1

theorem aresults_sound {P : Program} {c : Ctx} {g : G} {w : World} {a : Act} {fr : Fr} {σ : St} (hi : Inv c g w σ) (hf : RFr g w a.tmps fr) : ∀ (rs : List ResultVar) (K : List AV → Prop), aresults P fr σ rs K →
    ∃ vs avs, (rs.mapM (resOne a.tmps)).run P w = .ok vs w ∧ RCells g w vs.toArray avs ∧ K avs
  | [], K, h => ⟨[], [], by simp, ⟨rfl, by simp⟩, h⟩
  | .tmp t :: rs, K, h => by
    obtain ⟨vs, avs, hr, hc, hk⟩ := aresults_sound hi hf rs _ h
    refine ⟨a.tmps.getD t undef :: vs, fr.get t :: avs, by simp only [List.mapM_cons, resOne, pure_bind, Sem.run_bind, hr, Result.andThen_ok, Sem.run_pure], ?_, hk⟩
    have h1 : RCells g w #[a.tmps.getD t undef] [fr.get t] := ⟨rfl, fun i v x hv hx => by
      cases i with
      | zero => simp at hv hx; subst hv; subst hx; have := hf t; simpa [Array.getD_eq_getD_getElem?] using this
      | succ i => simp at hv⟩
    have := h1.app hc
    simpa using this
  | .cell b t :: rs, K, h => by
    simp only [aresults] at h
    split at h
    · rename_i ag n ht
      split at h
      · rename_i id off hb
        have hbx := hf b
        rw [hb] at hbx
        obtain ⟨v, av, hrun, hv, hk1⟩ := aload_sound hi ht hbx h
        obtain ⟨vs, avs, hr, hc, hk⟩ := aresults_sound hi hf rs _ hk1
        generalize hvb : a.tmps.getD b undef = vb at hbx hrun
        cases hbx with
        | box _ _ bk hbk =>
          refine ⟨v :: vs, av :: avs, ?_, ?_, hk⟩
          · have hl : (loadVar t ⟨bk, off, none⟩).run P w = .ok v w := by simpa [Instr.loadAt, Instr.sureAddr] using hrun
            have h1 : (resOne a.tmps (.cell b t)).run P w = .ok v w := by simp only [resOne, hvb, asAddr, pure_bind, hl]
            simp only [List.mapM_cons, Sem.run_bind, h1, Result.andThen_ok, hr, Sem.run_pure]
          · have h1 : RCells g w #[v] [av] := ⟨rfl, fun i u x hu hx => by
              cases i with
              | zero => simp at hu hx; subst hu; subst hx; exact hv
              | succ i => simp at hu⟩
            have := h1.app hc
            simpa using this
      · exact h.elim
    · exact h.elim

def mkFr : Nat → List AV → Fr
  | _, [] => []
  | k, a :: as => (k, a) :: mkFr (k + 1) as

theorem mkFr_get : ∀ (as : List AV) (k d : Nat), (mkFr k as).get d = if k ≤ d ∧ d < k + as.length then as.getD (d - k) .any else .any
  | [], k, d => by simp [mkFr, Fr.get]
  | a :: as, k, d => by
    simp only [mkFr, Fr.get, mkFr_get as]
    by_cases h : d = k
    · subst h; simp
    · simp only [h, if_false, List.length_cons]
      by_cases h2 : k + 1 ≤ d ∧ d < k + 1 + as.length
      · rw [if_pos h2, if_pos (by omega)]
        rw [show d - k = (d - (k + 1)) + 1 by omega]
        simp
      · rw [if_neg h2, if_neg (by omega)]

/-- THE WAY IN: the body's judgement gives the call's. -/
theorem acalls_intro {P : Program} {f : FuncId} {fn : Func} {code : Code} {args : List AV} {σ : St} {r : AV} {σr : St} (V : List Nat) (hm : P.follows .mixedOrders = true) (hf : P.funcs[f]? = some fn) (hb : fn.body = some code) (hc : callable P f = true)
    (hok : codeOk (args.length + (fn.ntmps - args.length)) code = true)
    (h : awp P V σ.length code (fun e fr σ' => match e with
      | .ret => aresults P fr σ' fn.results.toList fun vs => Fin σ.length (rval vs) σ' r σr
      | .normal => aresults P fr σ' fn.results.toList fun vs => Fin σ.length (rval vs) σ' r σr
      | _ => False) (mkFr 0 args) σ) : ACalls P f args σ r σr := by
  refine ⟨hc, fun w I β vs hI hnd hlt hβI hlen hst hargs => ?_⟩
  have hsz : vs.size = args.length := hargs.1
  let g : G := ⟨I, β, fun _ => .none⟩
  have inv : Inv ⟨w, I, β⟩ g w σ := ⟨rfl, rfl, rfl, Nat.le_refl _, fun _ _ _ => rfl, fun _ _ h => h, fun _ _ h _ => h, hI, by simp [g], by simp [g], hnd, hlen, hβI, hlt, fun t b ht => by simp [g] at ht, fun t t' b ht => by simp [g] at ht, fun id cs b hs hb => hst id cs b hs hb⟩
  have hfr : RFr g w (vs ++ Array.replicate (fn.ntmps - vs.size) undef) (mkFr 0 args) := by
    intro d
    rw [mkFr_get]
    split
    · rename_i hd
      have hd' : d < args.length := by omega
      have h1 := hargs.2 d vs[d] args[d] (Array.getElem?_eq_getElem (by omega)) (List.getElem?_eq_getElem hd')
      have e1 : (vs ++ Array.replicate (fn.ntmps - vs.size) undef).getD d undef = vs[d]'(by omega) := by
        rw [Array.getD_eq_getD_getElem?, Array.getElem?_append_left (by omega), Array.getElem?_eq_getElem (by omega)]
        rfl
      rw [e1, Nat.sub_zero, List.getD_eq_getElem?_getD, List.getElem?_eq_getElem hd']
      exact h1
    · exact .any
  have hsim : Sim ⟨w, I, β⟩ (args.length + (fn.ntmps - args.length)) { tmps := vs ++ Array.replicate (fn.ntmps - vs.size) undef, defers := [] } w (mkFr 0 args) σ :=
    ⟨g, inv, hfr, by simp [hsz], rfl⟩
  rw [← hlen] at h
  have h' := h
  refine calls_of_wp hf hb (wp_mono (awp_sound (c := ⟨w, I, β⟩) hm code _ _ _ _ _ hok h' hsim) fun e a w' => ?_)
  rintro ⟨fr, σ', ⟨g', hi', hf', _, hd'⟩, hq⟩
  have fin : ∀ (_ : aresults P fr σ' fn.results.toList fun vs => Fin β.length (rval vs) σ' r σr), a.defers = [] ∧ ∃ v, (results fn a.tmps).run P w' = .ok v w' ∧ ∃ v' g', Ending.returned v = .returned v' ∧ Inv ⟨w, I, β⟩ g' w' σr ∧ RAV g' w' v' r := by
    intro hq
    obtain ⟨us, avs, hr, hcl, hk⟩ := aresults_sound hi' hf' _ _ hq
    refine ⟨hd', if h : us.toArray.size = 1 then us.toArray[0] else .tuple us.toArray, ?_, ?_⟩
    · rw [results_eq]
      simp only [Sem.run_bind, Array.mapM_eq_mapM_toList, Sem.run_map, hr, Result.andThen_ok, Sem.run_pure]
    · have hrv : RAV g' w' (if h : us.toArray.size = 1 then us.toArray[0] else .tuple us.toArray) (rval avs) := by
        have hl : us.length = avs.length := by simpa using hcl.1
        rcases avs with _ | ⟨x, _ | ⟨y, rest⟩⟩
        · have h1 : ¬ us.toArray.size = 1 := by simpa using (by simp [hl] : ¬ us.length = 1)
          rw [dif_neg h1]
          exact .tup _ [] hcl.1 hcl.2
        · have h1 : us.toArray.size = 1 := by simpa using hl
          rw [dif_pos h1]
          exact hcl.2 0 _ x (by simp) rfl
        · have h1 : ¬ us.toArray.size = 1 := by
            intro h1
            have h2 : us.length = 1 := by simpa using h1
            rw [h2] at hl
            simp at hl
          rw [dif_neg h1]
          exact .tup _ (x :: y :: rest) hcl.1 hcl.2
      obtain ⟨g2, hi2, hr2⟩ := hk ⟨w, I, β⟩ g' w' _ rfl hi' hrv
      exact ⟨_, g2, rfl, hi2, hr2⟩
  cases e with
  | normal => exact fin hq
  | ret => exact fin hq
  | exit id => exact hq.elim
  | goto l => exact hq.elim
  | panic ch => exact hq.elim
  | outgrown => exact hq.elim

end Go.Proofs.Ytnhchphmmdgphaa.Abs

/- Regions that draw their order: soundness. -/
import Derived.Test.YtnhchphmmdgphaaAbs12
namespace Go.Proofs.Ytnhchphmmdgphaa.Abs
open Go
set_option linter.unusedVariables false
set_option linter.unusedSimpArgs false

def SimF (c : Ctx) (N : Nat) (a : Act) (w : World) (F : Nat → AV) (σ : St) : Prop := ∃ g, Inv c g w σ ∧ (∀ d, RAV g w (a.tmps.getD d undef) (F d)) ∧ a.tmps.size = N ∧ a.defers = []

theorem SimF.of {c : Ctx} {N : Nat} {a : Act} {w : World} {fr : Fr} {σ : St} (h : Sim c N a w fr σ) : SimF c N a w fr.get σ := h
theorem Sim.of {c : Ctx} {N : Nat} {a : Act} {w : World} {fr : Fr} {σ : St} (h : SimF c N a w fr.get σ) : Sim c N a w fr σ := h

theorem SimF.put {c : Ctx} {N : Nat} {a : Act} {w : World} {F : Nat → AV} {σ : St} {g : G} (hi : Inv c g w σ) (hf : ∀ d, RAV g w (a.tmps.getD d undef) (F d)) (hN : a.tmps.size = N) (hd : a.defers = []) {dst : Option Tmp} {v : Value} {av : AV}
    (hdst : ∀ d, dst = some d → d < N) (hv : RAV g w v av) : SimF c N (a.put dst v) w (putF F dst av) σ := by
  obtain ⟨h1, h2, h3⟩ := Act.put_eq a hd dst v
  refine ⟨g, hi, ?_, h3.trans hN, h2⟩
  rw [h1]
  cases dst with
  | none => exact hf
  | some d =>
    intro k
    have hlt : d < a.tmps.size := by rw [hN]; exact hdst d rfl
    simp only [Act.put, putF]
    split
    · rename_i e
      subst e
      simpa [Array.getD_eq_getD_getElem?, Array.getElem?_setIfInBounds_self_of_lt hlt] using hv
    · rename_i e
      have := hf k
      simpa [Array.getD_eq_getD_getElem?, Array.getElem?_setIfInBounds_ne (Ne.symm e)] using this

theorem evF_sound {g : G} {w : World} {a : Act} {F : Nat → AV} (h : ∀ d, RAV g w (a.tmps.getD d undef) (F d)) (x : Operand) : RAV g w (a.eval x) (evF F x) := by
  cases x with
  | tmp t => exact h t
  | const v => exact RAV.ofValue g w v
  | func f => exact .fn f #[] [] rfl (fun i v a hv => by simp at hv)
  | global n => exact .any

/-- A draw. -/
theorem Inv.drew {c : Ctx} {g : G} {w : World} {σ : St} (hi : Inv c g w σ) : Inv c g { w with drawn := w.drawn + 1 } σ ∧ Stp g w g { w with drawn := w.drawn + 1 } := by
  have st : Stp g w g { w with drawn := w.drawn + 1 } := ⟨fun _ _ h => h, fun _ _ _ => rfl, fun _ _ h => h, fun _ _ h => ⟨h, rfl, fun _ h => h⟩⟩
  exact ⟨⟨hi.os, hi.tape, hi.output, hi.size, hi.old, hi.Ile, hi.Iold, hi.Ilt, hi.βpre, hi.βnew, hi.βnd, hi.βlen, hi.βI, hi.βlt, hi.τnew, hi.τinj, fun id cs b hs hb => by
    obtain ⟨cur, e, hh, hr⟩ := hi.store id cs b hs hb
    exact ⟨cur, e, hh, hr.stp st⟩⟩, st⟩

/-- A frame that tells these slots. -/
def frOf (F : Nat → AV) : List Nat → Fr
  | [] => []
  | t :: ts => (t, F t) :: frOf F ts

theorem frOf_get (F : Nat → AV) (l : List Nat) (d : Nat) : (frOf F l).get d = if d ∈ l then F d else .any := by
  induction l with
  | nil => rfl
  | cons t ts ih =>
    simp only [frOf, Fr.get, ih, List.mem_cons]
    by_cases h : d = t
    · subst h; simp
    · simp [h]

def tmpsOf (o : Oper) : List Nat := o.op.operands.toList.filterMap fun | .tmp t => some t | _ => none

theorem frOf_ev (F : Nat → AV) (o : Oper) : ∀ x ∈ o.op.operands, (frOf F (tmpsOf o)).ev x = evF F x := by
  intro x hx
  cases x with
  | tmp t =>
    have : t ∈ tmpsOf o := List.mem_filterMap.2 ⟨.tmp t, by simpa using hx, rfl⟩
    simp [Fr.ev, evF, frOf_get, this]
  | _ => rfl

theorem call_quiet {P : Program} {c : Ctx} {g : G} {w : World} {σ : St} (hi : Inv c g w σ) {f : FuncId} {vs : Array Value} {args as : List AV} {r : AV}
    (hargs : RCells g w vs args) (hle : AV.leL (AV.lowL [] args) as) (hc : ACalls P f as [] r []) :
    Calls P f vs w fun e w' => ∃ v g'', e = .returned v ∧ Inv c g'' w' σ ∧ Stp g w g'' w' ∧ RAV g'' w' v (r.low []) := by
  obtain ⟨_, hcall⟩ := hc
  have := hcall w g.I [] vs hi.Ilt List.nodup_nil (by simp) (by simp) rfl (fun id cs b hs hb => by simp at hs) (RCells.le hle (hargs.low [] [] (by simp)))
  refine this.mono fun e w' => ?_
  rintro ⟨v, g', he, hi', hv⟩
  have hheap : ∀ b, b < w.heap.size → w'.heap[b]? = w.heap[b]? := fun b hb => hi'.old b hb (by simp)
  have hsz : w.heap.size ≤ w'.heap.size := hi'.size
  let g'' : G := { I := g'.I, β := g.β, τ := g.τ }
  have st : Stp g w g'' w' := ⟨fun b o h => hi'.Ile b o h, fun b o h => by simp [World.cell?, hheap b (hi.Ilt b o h)], fun _ _ h => h, fun t b htb => ⟨htb, hheap b (hi.τnew t b htb).2.1, fun o h => hi'.Iold b o h (hi.τnew t b htb).2.1⟩⟩
  refine ⟨v, g'', he, ⟨hi'.os.trans hi.os, hi'.tape.trans hi.tape, hi'.output.trans hi.output, Nat.le_trans hi.size hsz, fun b hb hn => (hheap b (Nat.lt_of_lt_of_le hb hi.size)).trans (hi.old b hb hn), fun b o h => hi'.Ile b o (hi.Ile b o h), fun b o h hb => hi.Iold b o (hi'.Iold b o h (Nat.lt_of_lt_of_le hb hi.size)) hb, hi'.Ilt, hi.βpre, hi.βnew, hi.βnd, hi.βlen,
    fun b hb o h => hi.βI b hb o (hi'.Iold b o h (hi.βlt b hb)), fun b hb => Nat.lt_of_lt_of_le (hi.βlt b hb) hsz, fun t b htb => ?_, hi.τinj, fun id cs b hs hb => ?_⟩, st, ?_⟩
  · obtain ⟨h1, h2, h3⟩ := hi.τnew t b htb
    exact ⟨h1, Nat.lt_of_lt_of_le h2 hsz, h3⟩
  · obtain ⟨cur, e, hh, hr⟩ := hi.store id cs b hs hb
    exact ⟨cur, e, (hheap b (hi.βlt b (List.mem_of_getElem? hb))).trans hh, hr.stp st⟩
  · have hlow := hv.low [] [] (by simp)
    have st2 : Stp ⟨g'.I, [], fun _ => .none⟩ w' g'' w' := ⟨fun b o h => h, fun _ _ _ => rfl, fun id b h => by simp at h, fun t b h => by simp at h⟩
    exact hlow.stp st2

theorem quiet_wp {P : Program} {c : Ctx} {N : Nat} {o : Oper} {a : Act} {w : World} {F : Nat → AV} {σ : St} {v : AV} {next : Act → World → Prop} {Q : Exit → Act → World → Prop} (hok : opOk N o = true)
    (h : AQ P o (evF F) σ v) (hs : SimF c N a w F σ) (hn : ∀ a' w', SimF c N a' w' (putF F o.dst v) σ → next a' w') : o.wp P a w next Q := by
  obtain ⟨g, hi, hf, hN, hd⟩ := hs
  obtain ⟨dst, op, ty, pos, after, guard⟩ := o
  by_cases hcall : ∃ f args ts, op = .call { callee := .value f, args := args, argTypes := ts }
  · obtain ⟨f, args, ts, rfl⟩ := hcall
    simp only [AQ] at h
    split at h
    · rename_i k caps hfv
      obtain ⟨as, r, hle, hc, rfl⟩ := h
      have hfe := evF_sound hf f
      rw [hfv] at hfe
      generalize hve : a.eval f = vf at hfe
      cases hfe with
      | fn _ vs _ hl ha =>
        have hx := exec_call (P := P) (w := w) (dst := dst) (ty := ty) (pos := pos) (after := after) (guard := guard) (args := args) (argTypes := ts) hve hc.1
        have hargs : RCells g w (args.map a.eval) (args.toList.map (evF F)) := by
          refine ⟨by simp, fun i v av hv hav => ?_⟩
          rw [Array.getElem?_map, Option.map_eq_some_iff] at hv
          obtain ⟨x, hx, rfl⟩ := hv
          rw [List.getElem?_map, Array.getElem?_toList, hx] at hav
          simp at hav
          subst hav
          exact evF_sound hf x
        unfold Oper.wp Oper.upon
        rw [hx]
        refine (call_quiet hi (hargs.app ⟨hl, ha⟩) hle hc).mono fun e w' => ?_
        rintro ⟨v, g'', rfl, hi', st, hv⟩
        exact hn _ _ (SimF.put hi' (fun d => (hf d).stp st) hN hd (dst_lt hok) hv)
    · exact h.elim
  · have h' : aval P ⟨dst, op, ty, pos, after, guard⟩ (frOf F (tmpsOf ⟨dst, op, ty, pos, after, guard⟩)).ev σ (QE σ v) := by
      rw [aval_congr (frOf_ev F ⟨dst, op, ty, pos, after, guard⟩)]
      unfold AQ at h
      split at h
      · rename_i f args ts hop
        exact absurd ⟨f, args, ts, hop⟩ hcall
      · exact h
    have hfr : RFr g w a.tmps (frOf F (tmpsOf ⟨dst, op, ty, pos, after, guard⟩)) := by
      intro d
      rw [frOf_get]
      split
      · exact hf d
      · exact .any
    have hst : (⟨dst, op, ty, pos, after, guard⟩ : Oper).dst.isSome = true ∨ ∃ t x y, (⟨dst, op, ty, pos, after, guard⟩ : Oper).op = .store t x y := by
      unfold opOk at hok
      split at hok
      · rename_i d hd'
        exact .inl (by simp only at hd'; simp [hd'])
      · split at hok
        · rename_i t x y hop
          exact .inr ⟨t, x, y, hop⟩
        · rename_i f args ts hop
          exact absurd ⟨f, args, ts, hop⟩ hcall
        · cases hok
    obtain ⟨nx, u, w', dm, av, σ', g', hr, hnx, ⟨rfl, rfl, rfl⟩, hi', st, hv⟩ := aval_sound hst hi hfr h'
    unfold Oper.wp Oper.upon
    rw [hr]
    rcases hnx with rfl | ⟨rfl, rfl⟩
    · exact hn _ _ (SimF.put hi' (fun d => (hf d).stp st) hN hd (dst_lt hok) hv)
    · exact hn _ _ (SimF.put hi' (fun d => (hf d).stp st) hN hd (dst_lt hok) hv)

/-! ### One operation, whatever has come before it -/
def YA (P : Program) (ops : Array Oper) (σ : St) (o : Oper) (v : AV) (F : Nat → AV) : Prop := aguard ops.toList o F (AQ P o (evF F) σ v) (v = .tup [])

theorem YA.put {P : Program} {ops : Array Oper} {σ : St} {o : Oper} {v : AV} {F : Nat → AV} {dst : Option Tmp} {u : AV} (h : ∀ d, dst = some d → d ∉ o.looksAt ops) : YA P ops σ o v (putF F dst u) ↔ YA P ops σ o v F := by
  have hq : AQ P o (evF (putF F dst u)) σ v = AQ P o (evF F) σ v := AQ_congr fun x hx => evF_put fun d hd e => by
    refine h d hd ?_
    subst e
    unfold Oper.looksAt
    exact List.mem_append_left _ (List.mem_filterMap.2 ⟨.tmp d, by simpa using hx, rfl⟩)
  unfold YA aguard
  rw [hq]
  cases hg : o.guard with
  | none => exact Iff.rfl
  | some p =>
    obtain ⟨j, want⟩ := p
    simp only
    cases hp : ops.toList[j]? with
    | none => exact Iff.rfl
    | some q =>
      simp only
      cases hd : q.dst with
      | none => exact Iff.rfl
      | some d =>
        simp only
        have hne : putF F dst u d = F d := by
          cases dst with
          | none => rfl
          | some e =>
            have : d ≠ e := by
              rintro rfl
              refine h d rfl ?_
              unfold Oper.looksAt
              rw [Array.getElem?_toList] at hp
              exact List.mem_append_right _ (by simp [hg, hp, hd])
            simp [putF, this]
        rw [hne]

section
variable (P : Program) (ops : Array Oper) (σ : St) (pre : Nat) (QF : Array Bool → (Nat → AV) → Prop)

def qA (i : Nat) (K : (Nat → AV) → Prop) (F : Nat → AV) : Prop :=
  match ops[i]? with
  | some o => ∃ v, YA P ops σ o v F ∧ K (putF F o.dst v)
  | _ => K F

def wpAnyA : Nat → Array Bool → (Nat → AV) → Prop
  | 0, listed, F => QF listed F
  | n + 1, listed, F => Region.ready .any ops listed ≠ [] ∧ ∀ i ∈ Region.ready .any ops listed, i < pre ∧ qA P ops σ i (wpAnyA n (listed.setIfInBounds i true)) F
end

def DC (ops : Array Oper) (listed : Array Bool) : Prop := ∀ (k : Nat) (o : Oper), ops[k]? = some o → listed.getD k false = true → ∀ e ∈ o.after, Region.binds .any e = true → listed.getD e.on false = true

def waitsB (ops : Array Oper) : Nat → Nat → Nat → Bool
  | 0, _, _ => false
  | n + 1, i, j => match ops[j]? with
    | some o => o.after.any fun e => Region.binds .any e && (e.on == i || waitsB ops n i e.on)
    | _ => false

theorem waits_listed {ops : Array Oper} {listed : Array Bool} (hdc : DC ops listed) : ∀ (n i j : Nat), waitsB ops n i j = true → listed.getD j false = true → listed.getD i false = true
  | 0, i, j, h, _ => by simp [waitsB] at h
  | n + 1, i, j, h, hl => by
    simp only [waitsB] at h
    split at h
    · rename_i o ho
      obtain ⟨e, he, hb⟩ := Array.any_eq_true'.1 h
      simp only [Bool.and_eq_true, Bool.or_eq_true, beq_iff_eq] at hb
      have hle := hdc j o ho hl e he hb.1
      rcases hb.2 with h1 | h1
      · rw [← h1]; exact hle
      · exact waits_listed hdc n i e.on h1 hle
    · cases h

theorem waits_ready {ops : Array Oper} {listed : Array Bool} (hdc : DC ops listed) (n i j : Nat) (h : waitsB ops n i j = true) (hr : j ∈ Region.ready .any ops listed) : listed.getD i false = true := by
  obtain ⟨_, oj, hoj, hall⟩ := mem_ready.1 hr
  cases n with
  | zero => simp [waitsB] at h
  | succ n =>
    simp only [waitsB, hoj] at h
    obtain ⟨e, he, hb⟩ := Array.any_eq_true'.1 h
    simp only [Bool.and_eq_true, Bool.or_eq_true, beq_iff_eq] at hb
    have hle := hall e he hb.1
    rcases hb.2 with h1 | h1
    · rw [← h1]; exact hle
    · exact waits_listed hdc n i e.on h1 hle

end Go.Proofs.Ytnhchphmmdgphaa.Abs

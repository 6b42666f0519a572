/- Regions: operations in a row, and operations whose order is drawn. -/
import Derived.Test.YtnhchphmmdgphaaAbs10
import Derived.Deep.Quiet
namespace Go.Proofs.Ytnhchphmmdgphaa.Abs
open Go
set_option linter.unusedVariables false
set_option linter.unusedSimpArgs false

def Fr.demo (fr : Fr) : Option (Nat → Bool) → Fr
  | .none => fr
  | some f => fr.dem f

def acall (P : Program) (dst : Option Tmp) (fv : AV) (args : List AV) (fr : Fr) (σ : St) (K : Fr → St → Prop) : Prop :=
  match fv with
  | .fn f caps => ∃ ids as σc r σr, List.Nodup ids ∧ (∀ i ∈ ids, i < σ.length) ∧ AV.leL (AV.lowL ids (args ++ caps)) as ∧ leS (σ.sub ids) σc ∧ ACalls P f as σc r σr ∧
      K ((fr.dem fun t => t / 16 == dst.getD 0).put dst (r.lift ids σ.length (dst.getD 0))) (σ.after ids (dst.getD 0) σr)
  | _ => False

/-- A slice against nil: it may be nil only if it is empty. -/
def anil (P : Program) (neg : Bool) (t : TypeId) (x y : AV) (K : AV → Prop) : Prop :=
  match x, y with
  | .c (.list _ xs), .nil => tyIs P t = 3 ∧ ∀ b : Bool, (b = true → xs = []) → K (.c (.bool (b != neg)))
  | .own _ _ xs, .nil => tyIs P t = 3 ∧ ∀ b : Bool, (b = true → xs = []) → K (.c (.bool (b != neg)))
  | .nil, .nil => tyIs P t = 3 ∧ K (.c (.bool (true != neg)))
  | _, _ => False

def isNilCmp (o : Oper) : Option (Bool × TypeId × Operand × Operand) :=
  match o.op with
  | .binOp .eql t x (.const (.slice .none 0 0)) _ => some (false, t, x, .const (.slice .none 0 0))
  | .binOp .neq t x (.const (.slice .none 0 0)) _ => some (true, t, x, .const (.slice .none 0 0))
  | _ => .none

def aop (P : Program) (o : Oper) (fr : Fr) (σ : St) (K : Fr → St → Prop) : Prop :=
  match o.op with
  | .call { callee := .value f, args, argTypes } => acall P o.dst (fr.ev f) (args.toList.map fr.ev) fr σ K
  | _ => (match isNilCmp o with
    | some (neg, t, x, y) => anil P neg t (fr.ev x) (fr.ev y) fun v => K (fr.put o.dst v) σ
    | _ => aval P o fr.ev σ fun dm v σ' => K ((fr.demo dm).put o.dst v) σ')

def aguard (ops : List Oper) (o : Oper) (get : Nat → AV) (yes no : Prop) : Prop :=
  match o.guard with
  | .none => yes
  | some (j, want) => (match ops[j]? with
    | some p => (match p.dst with
      | some d => (match get d with
        | .c (.bool b) => (b = want → yes) ∧ (b ≠ want → no)
        | .tup [] => no
        | _ => False)
      | _ => False)
    | _ => False)

def aops (P : Program) (ops : List Oper) : List Oper → Fr → St → (Fr → St → Prop) → Prop
  | [], fr, σ, K => K fr σ
  | o :: r, fr, σ, K => aguard ops o fr.get (aop P o fr σ fun fr' σ' => aops P ops r fr' σ' K) (aops P ops r (fr.put o.dst (.tup [])) σ K)

def opOk (N : Nat) (o : Oper) : Bool :=
  match o.dst with
  | some d => decide (d < N)
  | _ => (match o.op with | .store .. => true | .call { callee := .value _, .. } => true | _ => false)

def Sim (c : Ctx) (N : Nat) (a : Act) (w : World) (fr : Fr) (σ : St) : Prop := ∃ g, Inv c g w σ ∧ RFr g w a.tmps fr ∧ a.tmps.size = N ∧ a.defers = []

theorem Act.put_eq (a : Act) (h : a.defers = []) (dst : Option Tmp) (v : Value) : (a.put dst v).tmps = (Act.put ⟨a.tmps, []⟩ dst v).tmps ∧ (a.put dst v).defers = [] ∧ (a.put dst v).tmps.size = a.tmps.size := by
  cases dst <;> simp [Act.put, h]

theorem Sim.put {c : Ctx} {N : Nat} {a : Act} {w : World} {fr : Fr} {σ : St} {g : G} (hi : Inv c g w σ) (hf : RFr g w a.tmps fr) (hN : a.tmps.size = N) (hd : a.defers = []) {dst : Option Tmp} {v : Value} {av : AV}
    (hdst : ∀ d, dst = some d → d < N) (hv : RAV g w v av) : Sim c N (a.put dst v) w (fr.put dst av) σ := by
  obtain ⟨h1, h2, h3⟩ := Act.put_eq a hd dst v
  refine ⟨g, hi, ?_, h3.trans hN, h2⟩
  rw [h1]
  exact hf.put (fun d hd' => by rw [hN]; exact hdst d hd') hv

theorem undef_get {tmps : Array Value} {d : Nat} {b : Bool} (h : tmps.getD d undef = .bool b) : tmps[d]? = some (.bool b) := by
  rw [Array.getD_eq_getD_getElem?] at h
  cases hd : tmps[d]? with
  | none => rw [hd] at h; simp [undef] at h
  | some v => rw [hd] at h; simpa using h

theorem aguard_sound {ops : Array Oper} {o : Oper} {g : G} {w : World} {tmps : Array Value} {get : Nat → AV} {yes no : Prop} (hf : ∀ d, RAV g w (tmps.getD d undef) (get d)) (h : aguard ops.toList o get yes no) :
    (Region.wanted o (yielded ops tmps) = true ∧ yes) ∨ (Region.wanted o (yielded ops tmps) = false ∧ no) := by
  unfold aguard at h
  split at h
  · rename_i hg
    exact .inl ⟨by simp [Region.wanted, hg], h⟩
  · rename_i j want hg
    split at h
    · rename_i p hp
      split at h
      · rename_i d hd
        split at h
        · rename_i b hb
          have hv := hf d
          rw [hb] at hv
          have hv := hv.c_inv
          generalize hvd : tmps.getD d undef = v at hv
          cases hv
          have hy : yielded ops tmps j = some b := by
            rw [Array.getElem?_toList] at hp
            simp [yielded, hp, hd, undef_get hvd]
          by_cases hbw : b = want
          · exact .inl ⟨by simp [Region.wanted, hg, hy, hbw], h.1 hbw⟩
          · exact .inr ⟨by simp [Region.wanted, hg, hy, hbw], h.2 hbw⟩
        · rename_i hb
          have hv := hf d
          rw [hb] at hv
          generalize hvd : tmps.getD d undef = v at hv
          cases hv with
          | tup vs _ hsz _ =>
            have hy : yielded ops tmps j = none := by
              rw [Array.getElem?_toList] at hp
              rw [Array.getD_eq_getD_getElem?] at hvd
              simp only [yielded, hp, Option.bind_some, hd]
              cases hd2 : tmps[d]? with
              | none => simp [hd2]
              | some u => rw [hd2] at hvd; simp at hvd; subst hvd; simp [hd2]
            exact .inr ⟨by simp [Region.wanted, hg, hy], h⟩
        · exact h.elim
      · exact h.elim
    · exact h.elim

theorem exec_call {P : Program} {w : World} {dst : Option Tmp} {ty : TypeId} {pos : String} {after : Array Edge} {guard : Option (Nat × Bool)} {f : Operand} {args : Array Operand} {argTypes : Array TypeId} {ev : Operand → Value} {k : FuncId} {vs : Array Value}
    (hf : ev f = .func (.func k) #[] vs) (hc : callable P k = true) : (execOp ev ⟨dst, .call { callee := .value f, args, argTypes }, ty, pos, after, guard⟩).run P w = .ok (.enter k (args.map ev ++ vs)) w := by
  unfold callable at hc
  split at hc
  · rename_i fn hfn
    simp only [Bool.and_eq_true, bne_iff_ne, ne_eq] at hc
    obtain ⟨b, hb⟩ := Option.isSome_iff_exists.1 hc.2
    have hn : (fn.name == "runtime.NumGoroutine") = false := by simpa using hc.1
    have e1 : execOp ev ⟨dst, .call { callee := .value f, args, argTypes }, ty, pos, after, guard⟩ = callFunc k (args.map ev ++ vs) := by
      simp only [execOp, resolve, hf, Deferred.ofValue, pure_bind, invoke, Array.empty_append]
    rw [e1]
    simp [callFunc, hfn, hc.1, hb]
  · cases hc

theorem dst_lt {N : Nat} {o : Oper} (h : opOk N o = true) : ∀ d, o.dst = some d → d < N := by
  intro d hd
  simp only [opOk, hd, decide_eq_true_eq] at h
  exact h

theorem args_cells {g : G} {w : World} {a : Act} {fr : Fr} (hf : RFr g w a.tmps fr) (args : Array Operand) : RCells g w (args.map a.eval) (args.toList.map fr.ev) := by
  refine ⟨by simp, fun i v av hv hav => ?_⟩
  rw [Array.getElem?_map, Option.map_eq_some_iff] at hv
  obtain ⟨x, hx, rfl⟩ := hv
  rw [List.getElem?_map, Array.getElem?_toList, hx] at hav
  simp at hav
  subst hav
  exact ev_sound hf x

theorem RCells.app {g : G} {w : World} {vs us : Array Value} {as bs : List AV} (h1 : RCells g w vs as) (h2 : RCells g w us bs) : RCells g w (vs ++ us) (as ++ bs) := by
  refine ⟨by simp [h1.1, h2.1], fun i v a hv ha => ?_⟩
  by_cases hi : i < as.length
  · rw [List.getElem?_append_left hi] at ha
    rw [Array.getElem?_append_left (by rw [h1.1]; exact hi)] at hv
    exact h1.2 i v a hv ha
  · rw [List.getElem?_append_right (by omega)] at ha
    rw [Array.getElem?_append_right (by rw [h1.1]; omega), h1.1] at hv
    exact h2.2 _ v a hv ha

theorem isNilCmp_spec {o : Oper} {neg : Bool} {t : TypeId} {x y : Operand} (h : isNilCmp o = some (neg, t, x, y)) : y = .const (.slice .none 0 0) ∧ ∃ t2, o.op = .binOp (if neg then .neq else .eql) t x y t2 := by
  unfold isNilCmp at h
  split at h
  · rename_i hop
    simp only [Option.some.injEq, Prod.mk.injEq] at h
    obtain ⟨rfl, rfl, rfl, rfl⟩ := h
    exact ⟨rfl, _, hop⟩
  · rename_i hop
    simp only [Option.some.injEq, Prod.mk.injEq] at h
    obtain ⟨rfl, rfl, rfl, rfl⟩ := h
    exact ⟨rfl, _, hop⟩
  · cases h

theorem equal_slice_nil {P : Program} {t e : TypeId} (h : P.underlying t = some (.slice e)) (A : Option Addr) (n cap : Nat) (w : World) : (Op.equal t (.slice A n cap) (.slice .none 0 0)).run P w = .ok A.isNone w := by
  have H : ∀ d, (Op.equalIn (d + 1) t (.slice A n cap) (.slice .none 0 0)).run P w = .ok A.isNone w := fun d => by cases A <;> simp [Op.equalIn, run_underlying h]
  exact H 9999

theorem anil_sound {P : Program} {neg : Bool} {t t2 : TypeId} {x y : Operand} {g : G} {w : World} {a : Act} {fr : Fr} {K : AV → Prop} {dst : Option Tmp} {ty : TypeId} {pos : String} {after : Array Edge} {guard : Option (Nat × Bool)}
    (hf : RFr g w a.tmps fr) (hy : y = .const (.slice .none 0 0)) (h : anil P neg t (fr.ev x) (fr.ev y) K) :
    ∃ b, (execOp a.eval ⟨dst, .binOp (if neg then .neq else .eql) t x y t2, ty, pos, after, guard⟩).run P w = .ok (.value (.bool b)) w ∧ K (.c (.bool b)) := by
  subst hy
  have hx := ev_sound hf x
  have key : ∀ (A : Option Addr) (n cap : Nat), a.eval x = .slice A n cap → tyIs P t = 3 → (execOp a.eval ⟨dst, .binOp (if neg then .neq else .eql) t x (.const (.slice .none 0 0)) t2, ty, pos, after, guard⟩).run P w = .ok (.value (.bool (A.isNone != neg))) w := by
    intro A n cap hv h3
    obtain ⟨e, he⟩ := tyIs3 h3
    have heq := equal_slice_nil (P := P) he A n cap w
    have he2 : a.eval (.const (.slice .none 0 0)) = .slice .none 0 0 := rfl
    cases neg
    · simp [execOp, hv, he2, eqGuard, binOp, heq]
    · simp [execOp, hv, he2, eqGuard, binOp, heq]
  have hye : fr.ev (.const (.slice .none 0 0)) = .nil := rfl
  rw [hye] at h
  unfold anil at h
  split at h
  · rename_i sz xs hx0 _
    rw [hx0] at hx
    obtain ⟨h3, h⟩ := h
    have hx := hx.c_inv
    generalize hv : a.eval x = v at hx
    cases hx with
    | empty A cap sz => exact ⟨_, key A 0 cap hv h3, h A.isNone (fun _ => rfl)⟩
    | row b o cap sz xs vs hs hcap hc hvv => exact ⟨_, key _ _ cap hv h3, h false (fun h => by cases h)⟩
  · rename_i t0 sz xs hx0 _
    rw [hx0] at hx
    obtain ⟨h3, h⟩ := h
    obtain ⟨_, _, e, cells, ho, _⟩ := hx.own_inv
    rcases ho.2 with ⟨hv, hn⟩ | ⟨b, cap, cur, hv, _⟩
    · exact ⟨_, key .none 0 0 hv h3, h true (fun _ => List.eq_nil_of_length_eq_zero hn)⟩
    · exact ⟨_, key _ _ cap hv h3, h false (fun h => by cases h)⟩
  · rename_i hx0 _
    rw [hx0] at hx
    obtain ⟨h3, h⟩ := h
    generalize hv : a.eval x = v at hx
    cases hx
    exact ⟨_, key .none 0 0 hv h3, h⟩
  · exact h.elim

/-- One operation, from a state as told to a state as told. -/
theorem aop_sound {P : Program} {c : Ctx} {N : Nat} {o : Oper} {a : Act} {w : World} {fr : Fr} {σ : St} {K : Fr → St → Prop} {next : Act → World → Prop} {Q : Exit → Act → World → Prop} (hok : opOk N o = true)
    (h : aop P o fr σ K) (hs : Sim c N a w fr σ) (hn : ∀ a' w' fr' σ', K fr' σ' → Sim c N a' w' fr' σ' → next a' w') : o.wp P a w next Q := by
  obtain ⟨g, hi, hf, hN, hd⟩ := hs
  have hval : ∀ (h : aval P o fr.ev σ fun dm v σ' => K ((fr.demo dm).put o.dst v) σ') (hst : o.dst.isSome = true ∨ ∃ t x y, o.op = .store t x y), o.wp P a w next Q := by
    intro h hst
    obtain ⟨nx, v, w', dm, av, σ', g', hr, hnx, hk, hi', st, hv⟩ := aval_sound hst hi hf h
    have hf' : RFr g' w' a.tmps (fr.demo dm) := by
      cases dm with
      | none => exact hf.stp st
      | some f => exact (hf.dem f).stp st
    unfold Oper.wp Oper.upon
    rw [hr]
    rcases hnx with rfl | ⟨rfl, rfl⟩
    · exact hn _ _ _ _ hk (Sim.put hi' hf' hN hd (dst_lt hok) hv)
    · exact hn _ _ _ _ hk (Sim.put hi' hf' hN hd (dst_lt hok) hv)
  have hdst : (∀ f args ts, o.op ≠ .call { callee := .value f, args := args, argTypes := ts }) → o.dst.isSome = true ∨ ∃ t x y, o.op = .store t x y := by
    intro hnc
    unfold opOk at hok
    split at hok
    · rename_i d hd'
      exact .inl (by simp [hd'])
    · split at hok
      · rename_i t x y hop
        exact .inr ⟨t, x, y, hop⟩
      · rename_i f args ts hop
        exact absurd hop (hnc f args ts)
      · cases hok
  unfold aop at h
  split at h
  · rename_i f args argTypes hop
    obtain ⟨dst, op, ty, pos, after, guard⟩ := o
    simp only at hop
    subst hop
    unfold acall at h
    split at h
    · rename_i k caps hfv
      obtain ⟨ids, as, σc, r, σr, hnd, hlt, hle, hst, hc, hk⟩ := h
      have hfe := ev_sound hf f
      rw [hfv] at hfe
      generalize hve : a.eval f = vf at hfe
      cases hfe with
      | fn _ vs _ hl ha =>
        have hx := exec_call (P := P) (w := w) (dst := dst) (ty := ty) (pos := pos) (after := after) (guard := guard) (args := args) (argTypes := argTypes) hve hc.1
        unfold Oper.wp Oper.upon
        rw [hx]
        have hcs := call_sound hi (dst.getD 0) hnd hlt ((args_cells hf args).app ⟨hl, ha⟩) hle hst hc
        refine hcs.mono fun e w' => ?_
        rintro ⟨v, g'', rfl, hi', st, hv⟩
        exact hn _ _ _ _ hk (Sim.put hi' ((hf.dem _).stp st) hN hd (dst_lt hok) hv)
    · exact h.elim
  · rename_i hnc
    split at h
    · rename_i neg t x y hnil
      obtain ⟨hy, t2, hop⟩ := isNilCmp_spec hnil
      obtain ⟨dst, op, ty, pos, after, guard⟩ := o
      simp only at hop
      subst hop
      obtain ⟨b, hr, hk⟩ := anil_sound (dst := dst) (ty := ty) (pos := pos) (after := after) (guard := guard) (t2 := t2) hf hy h
      unfold Oper.wp Oper.upon
      rw [hr]
      exact hn _ _ _ _ hk (Sim.put hi hf hN hd (dst_lt hok) (.c (.bool b)))
    · exact hval h (hdst (fun f args ts hop => hnc f args ts hop))

theorem aops_sound {P : Program} {c : Ctx} {N : Nat} {ops : Array Oper} {Q : Exit → Act → World → Prop} {K : Fr → St → Prop} (hQ : ∀ a w fr σ, K fr σ → Sim c N a w fr σ → Q .normal a w) :
    ∀ (l : List Oper) (fr : Fr) (σ : St) (a : Act) (w : World), (∀ o ∈ l, opOk N o = true) → aops P ops.toList l fr σ K → Sim c N a w fr σ → wpList P ops Q l a w
  | [], fr, σ, a, w, _, h, hs => hQ a w fr σ h hs
  | o :: l, fr, σ, a, w, hok, h, hs => by
    simp only [aops] at h
    have hs' := hs
    obtain ⟨g, hi, hf, hN, hd⟩ := hs
    unfold wpList
    rcases aguard_sound (fun d => hf d) h with ⟨hw, h⟩ | ⟨hw, h⟩
    · rw [if_pos hw]
      exact .inl (aop_sound (hok o (by simp)) h hs' (fun a' w' fr' σ' hk hs2 => aops_sound hQ l fr' σ' a' w' (fun x hx => hok x (by simp [hx])) hk hs2))
    · rw [if_neg (by simp [hw])]
      exact aops_sound hQ l _ σ _ w (fun x hx => hok x (by simp [hx])) h (Sim.put hi hf hN hd (dst_lt (hok o (by simp))) (.tup #[] [] rfl (fun i v a hv => by simp at hv)))

end Go.Proofs.Ytnhchphmmdgphaa.Abs

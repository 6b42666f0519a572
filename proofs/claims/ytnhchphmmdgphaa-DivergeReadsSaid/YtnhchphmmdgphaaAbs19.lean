/- Lemmas for walks: drawn regions step by step, calls in the common cases, hand-backs. -/
import Derived.Test.YtnhchphmmdgphaaAbs18
import Derived.IntWalk
namespace Go.Proofs.Ytnhchphmmdgphaa.Abs
open Go
set_option linter.unusedVariables false
set_option linter.unusedSimpArgs false

def aqop (P : Program) (o : Oper) (fr : Fr) (σ : St) (K : AV → Prop) : Prop :=
  match o.op with
  | .call { callee := .value f, args, argTypes } => (match fr.ev f with
    | .fn k caps => ∃ as r, AV.leL (AV.lowL [] (args.toList.map fr.ev ++ caps)) as ∧ ACalls P k as [] r [] ∧ K (r.low [])
    | _ => False)
  | _ => aval P o fr.ev σ (QQ σ K)

def aqw (P : Program) (ops : List Oper) : List Oper → Fr → St → (Fr → Prop) → Prop
  | [], fr, σ, K => K fr
  | o :: r, fr, σ, K => aguard ops o fr.get (aqop P o fr σ fun v => aqw P ops r (fr.put o.dst v) σ K) (aqw P ops r (fr.put o.dst (.tup [])) σ K)

theorem aqop_sound {P : Program} {o : Oper} {fr : Fr} {σ : St} {K : AV → Prop} (h : aqop P o fr σ K) : ∃ v, AQ P o fr.ev σ v ∧ K v := by
  unfold aqop at h
  split at h
  · rename_i f args argTypes hop
    split at h
    · rename_i k caps hf
      obtain ⟨as, r, h1, h2, h3⟩ := h
      exact ⟨r.low [], by unfold AQ; simp only [hop, hf]; exact ⟨as, r, h1, h2, rfl⟩, h3⟩
    · exact h.elim
  · rename_i hno
    obtain ⟨v, h1, h2⟩ := aval_quiet h
    refine ⟨v, ?_, h2⟩
    unfold AQ
    split
    · rename_i f args argTypes hop
      exact absurd hop (hno _ _ _)
    · exact h1

theorem aqw_aqs {P : Program} {ops : List Oper} {σ : St} {K : Fr → Prop} : ∀ (l : List Oper) (fr : Fr), aqw P ops l fr σ K → aqs P ops l fr σ K
  | [], fr => id
  | o :: l, fr => aguard_mono (fun h => by obtain ⟨v, h1, h2⟩ := aqop_sound h; exact ⟨v, h1, aqw_aqs l _ h2⟩) (aqw_aqs l _)

section
variable {P : Program} {V : List Nat} {k0 : Nat} {Q : Exit → Fr → St → Prop} {fr : Fr} {σ : St}
theorem w_drawn (pre : Nat) {id : Nat} {l : List Oper} (hB : drawOk l.toArray pre = true) (h : aqw P l (l.take pre) fr σ fun fr' => aops P l (l.drop pre) fr' σ fun fr σ => hold (Q .normal (prune V fr) σ)) : awp P V k0 (.region id l.toArray true) Q fr σ :=
  w_draw pre hB (aqw_aqs _ _ h)
end

theorem qq_none {σ : St} {R : AV → Prop} {v : AV} : QQ σ R .none v σ = R v := by simp [QQ]

/-- A call that is handed no variable. -/
theorem k_call {P : Program} {dst : Option Tmp} {f : FuncId} {caps args as : List AV} {fr : Fr} {σ : St} {r : AV} {K : Fr → St → Prop} (hc : ACalls P f as [] r [])
    (hl : AV.leL (AV.lowL [] (args ++ caps)) as) (h : K ((fr.dem fun t => t / 16 == dst.getD 0).put dst (r.lift [] σ.length (dst.getD 0))) (σ.dem fun t => t / 16 == dst.getD 0)) : acall P dst (.fn f caps) args fr σ K :=
  ⟨[], as, [], r, [], .nil, by simp, hl, by simp [St.sub, leS]; exact .nil, hc, by simpa [St.after, St.upd] using h⟩

theorem k_qcall {P : Program} {f : FuncId} {caps args as : List AV} {r : AV} {K : AV → Prop} (hc : ACalls P f as [] r []) (hl : AV.leL (AV.lowL [] (args ++ caps)) as) (h : K (r.low [])) :
    ∃ as r, AV.leL (AV.lowL [] (args ++ caps)) as ∧ ACalls P f as [] r [] ∧ K (r.low []) := ⟨as, r, hl, hc, h⟩

theorem le_self {a : AV} {as bs : List AV} (t : AV.leL as bs) : AV.leL (a :: as) (a :: bs) := .cons (AV.le_refl _) t
theorem le_own {t sz : Nat} {xs : List (List PV)} {as bs : List AV} (h : AV.leL as bs) : AV.leL (.own t sz xs :: as) (.c (.list sz xs) :: bs) := .cons (AV.le_own_list _ _ _) h
theorem le_nil {sz : Nat} {as bs : List AV} (h : AV.leL as bs) : AV.leL (.nil :: as) (.c (.list sz []) :: bs) := .cons (AV.le_nil_list _) h

theorem St.dem_get (f : Nat → Bool) : ∀ (σ : St) (i : Nat) (cs : List AV), σ[i]? = some cs → (σ.dem f)[i]? = some (AV.demL f cs)
  | [], i, cs, h => by simp at h
  | x :: r, 0, cs, h => by simp at h; subst h; rfl
  | x :: r, i + 1, cs, h => by simp at h; simpa [St.dem] using St.dem_get f r i cs h

theorem fin_pre {k0 : Nat} {σ σr : St} (h1 : St.dem all_ (σ.take k0) = σr) (h2 : St.inB k0 σr = true) : ∀ (i : Nat) cs, i < k0 → σ[i]? = some cs → AV.inB.inBL k0 (AV.demL all_ cs) = true := by
  intro i cs hi hcs
  have : (σ.take k0)[i]? = some cs := by rw [List.getElem?_take_of_lt hi]; exact hcs
  have h := St.dem_get all_ _ i cs this
  rw [h1] at h
  exact St.inB_get h2 i _ h

theorem leS_refl : ∀ σ : St, leS σ σ
  | [] => .nil
  | a :: r => .cons (AV.leL_refl a) (leS_refl r)

theorem fin_c {k0 : Nat} {p : PV} {σ σr : St} (h1 : St.dem all_ (σ.take k0) = σr) (h2 : St.inB k0 σr = true) : Fin k0 (.c p) σ (.c p) σr :=
  fin_main [] .nil rfl (fin_pre h1 h2) (AV.le_refl _) (h1 ▸ leS_refl _)
theorem fin_any {k0 : Nat} {a : AV} {σ σr : St} (h1 : St.dem all_ (σ.take k0) = σr) (h2 : St.inB k0 σr = true) (hin : (a.retok []).inB k0 = true) : Fin k0 a σ .any σr :=
  fin_main [] .nil hin (fin_pre h1 h2) (AV.le_any _) (h1 ▸ leS_refl _)
theorem fin_own {k0 t sz : Nat} {xs : List (List PV)} {σ σr : St} (h1 : St.dem all_ (σ.take k0) = σr) (h2 : St.inB k0 σr = true) : Fin k0 (.own t sz xs) σ (.own 0 sz xs) σr :=
  fin_main [t] (by simp) (by simp [AV.retok, AV.inB, List.idxOf?]) (fin_pre h1 h2) (by simp [AV.retok, List.idxOf?]; exact AV.le_refl _) (h1 ▸ leS_refl _)
theorem fin_nil {k0 sz : Nat} (h0 : 0 < sz) {σ σr : St} (h1 : St.dem all_ (σ.take k0) = σr) (h2 : St.inB k0 σr = true) : Fin k0 .nil σ (.own 0 sz []) σr :=
  fin_main [] .nil rfl (fin_pre h1 h2) (AV.le_nil_own 0 sz h0) (h1 ▸ leS_refl _)
theorem fin_list {k0 t sz : Nat} {xs : List (List PV)} {σ σr : St} (h1 : St.dem all_ (σ.take k0) = σr) (h2 : St.inB k0 σr = true) : Fin k0 (.own t sz xs) σ (.c (.list sz xs)) σr :=
  fin_main [] .nil rfl (fin_pre h1 h2) (AV.le_refl _) (h1 ▸ leS_refl _)

/-! ### Loops -/
def Fr.below (fr : Fr) : Fr → Prop
  | [] => True
  | (i, b) :: r => (fr.get i).le b ∧ Fr.below fr r

theorem Fr.below_get {fr : Fr} : ∀ {fr' : Fr}, Fr.below fr fr' → ∀ d, (fr.get d).le (fr'.get d)
  | [], _, d => AV.le_any _
  | (i, b) :: r, h, d => by
    simp only [Fr.get]
    split
    · rename_i e; rw [e]; exact h.1
    · exact Fr.below_get h.2 d

theorem weak_frame {k0 : Nat} {fr fr' : Fr} {σ : St} (h : Fr.below fr fr') : Weak k0 fr σ fr' σ := Weak.slots (Fr.below_get h)

/-- Slots told less, variables told less, variables from m on forgotten. -/
theorem weak_all {k0 : Nat} (m : Nat) {fr fr' : Fr} {σ σ' : St} (h : Fr.below fr fr') (hm : k0 ≤ m) (hf : fr'.inB m = true) (hs : leS (σ.take m) σ') (hb : St.inB m (σ.take m) = true) : Weak k0 fr σ fr' σ' :=
  ((weak_frame h).trans (Weak.take hm (fun d => Fr.inB_get hf d) (fun i cs hi hcs => St.inB_get hb i cs (by rw [List.getElem?_take_of_lt hi]; exact hcs)))).trans (Weak.cells hs)

theorem le_same {a : AV} : AV.le a a = True := eq_true (AV.le_refl a)
theorem le_any' {a : AV} : AV.le a .any = True := eq_true (AV.le_any a)
theorem le_ol {t sz : Nat} {xs : List (List PV)} : AV.le (.own t sz xs) (.c (.list sz xs)) = True := eq_true (AV.le_own_list _ _ _)
theorem le_nl {sz : Nat} : AV.le .nil (.c (.list sz [])) = True := eq_true (AV.le_nil_list _)
theorem le_int {k : IntKind} {m n : Int} (h : m = n) : AV.le (.c (.int k m)) (.c (.int k n)) := h ▸ AV.le_refl _
theorem le_c {p q : PV} (h : p = q) : AV.le (.c p) (.c q) := h ▸ AV.le_refl _
theorem le_o {t sz : Nat} {p q : List (List PV)} (h : p = q) : AV.le (.own t sz p) (.own t sz q) := h ▸ AV.le_refl _

theorem w_while {P : Program} {V : List Nat} {k0 : Nat} {Q : Exit → Fr → St → Prop} {fr : Fr} {σ : St} {c : Code} {α : Type} (F : α → Fr) (S : α → St) (I : α → Prop) (m : α → Nat) (i0 : α) (hI : I i0) (hw : Weak k0 fr σ (F i0) (S i0))
    (h : ∀ i, I i → awp P V k0 c (seqQ (fun fr σ => ∃ j, m j < m i ∧ I j ∧ Weak k0 fr σ (F j) (S j)) Q) (F i) (S i)) : awp P V k0 (.loop c) Q fr σ :=
  w_loop (fun n fr σ => ∃ i, n = m i ∧ I i ∧ fr = F i ∧ σ = S i) (m i0) hw ⟨i0, rfl, hI, rfl, rfl⟩ (fun n fr σ hJ => by
    obtain ⟨i, rfl, hi, rfl, rfl⟩ := hJ
    refine awp_mono c (fun e fr σ he => ?_) (h i hi)
    cases e with
    | normal => obtain ⟨j, h1, h2, h3⟩ := he; exact ⟨m j, F j, S j, h1, h3, j, rfl, h2, rfl, rfl⟩
    | _ => exact he)

theorem rval1 {v : AV} : rval [v] = v := rfl
theorem rval2 {v u : AV} : rval [v, u] = .tup [v, u] := rfl
theorem rval3 {v u t : AV} : rval [v, u, t] = .tup [v, u, t] := rfl
theorem rval4 {v u t s : AV} : rval [v, u, t, s] = .tup [v, u, t, s] := rfl
theorem not_decide_t {p : Prop} [Decidable p] (h : (!decide p) = true) : ¬ p := by simpa using h
theorem not_decide_f {p : Prop} [Decidable p] (h : (!decide p) = false) : p := by simpa using h

theorem map_at {α : Type} {f : α → List PV} {l : List α} {n : Nat} {R : List PV → Prop} : (∀ row, (l.map f)[n]? = some row → R row) = ∀ c, l[n]? = some c → R (f c) := by
  apply propext
  constructor
  · exact fun h c hc => h _ (by simp [hc])
  · intro h row hr
    rw [List.getElem?_map, Option.map_eq_some_iff] at hr
    obtain ⟨c, hc, rfl⟩ := hr
    exact h c hc
theorem map_at_int {α : Type} {f : α → List PV} {l : List α} {n : Nat} {R : List PV → Prop} : (∀ row, (l.map f)[((n : Int)).toNat]? = some row → R row) = ∀ c, l[n]? = some c → R (f c) := by
  rw [Int.toNat_natCast]; exact map_at
theorem str_at_int {l : List UInt8} {n : Nat} {R : UInt8 → Prop} : (∀ b, l[((n : Int)).toNat]? = some b → R b) = ∀ c, l[n]? = some c → R c := by
  rw [Int.toNat_natCast]

end Go.Proofs.Ytnhchphmmdgphaa.Abs

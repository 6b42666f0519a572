/- Tokens renamed: what a loop needs whose slices grow. -/
import Derived.Test.YtnhchphmmdgphaaAbs19
namespace Go.Proofs.Ytnhchphmmdgphaa.Abs
open Go
set_option linter.unusedVariables false
set_option linter.unusedSimpArgs false

def Fr.retok (toks : List Nat) : Fr → Fr
  | [] => []
  | (i, a) :: r => (i, a.retok toks) :: Fr.retok toks r
def St.retok (toks : List Nat) : St → St
  | [] => []
  | cs :: r => AV.retokL toks cs :: St.retok toks r
theorem St.retok_eq (toks : List Nat) (σ : St) : σ.retok toks = σ.map (AV.retokL toks) := by
  induction σ with
  | nil => rfl
  | cons a l ih => simp [St.retok, ih]
theorem Fr.get_retok (toks : List Nat) (fr : Fr) (d : Nat) : (fr.retok toks).get d = (fr.get d).retok toks := by
  induction fr with
  | nil => rfl
  | cons x r ih =>
    obtain ⟨i, a⟩ := x
    simp only [Fr.retok, Fr.get]
    split
    · rfl
    · exact ih

theorem Weak.retok {k0 : Nat} {fr : Fr} {σ : St} (toks : List Nat) (hnd : toks.Nodup) : Weak k0 fr σ (fr.retok toks) (σ.retok toks) := by
  intro c g w tmps hk hi hf
  refine ⟨⟨g.I, g.β, fun j => (toks[j]?).bind g.τ⟩, ⟨hi.os, hi.tape, hi.output, hi.size, hi.old, hi.Ile, hi.Iold, hi.Ilt, hi.βpre, hi.βnew, hi.βnd, ?_, hi.βI, hi.βlt, fun t b ht => ?_, fun t t' b h1 h2 => ?_, fun id cs b hs' hb => ?_⟩, fun d => ?_⟩
  · rw [St.retok_eq, List.length_map]; exact hi.βlen
  · change (toks[t]?).bind g.τ = some b at ht
    cases htt : toks[t]? with
    | none => simp [htt] at ht
    | some s =>
      simp only [htt, Option.bind_some] at ht
      exact hi.τnew s b ht
  · change (toks[t]?).bind g.τ = some b at h1
    change (toks[t']?).bind g.τ = some b at h2
    cases e1 : toks[t]? with
    | none => simp [e1] at h1
    | some s =>
      cases e2 : toks[t']? with
      | none => simp [e2] at h2
      | some s' =>
        simp only [e1, e2, Option.bind_some] at h1 h2
        have := hi.τinj s s' b h1 h2
        subst this
        exact nodup_get_inj hnd e1 e2
  · rw [St.retok_eq, List.getElem?_map, Option.map_eq_some_iff] at hs'
    obtain ⟨cs0, hcs0, rfl⟩ := hs'
    obtain ⟨cur, e, hh, hc⟩ := hi.store id cs0 b hcs0 hb
    refine ⟨cur, e, hh, by simpa [AV.retokL_eq] using hc.1, fun i v a hv ha => ?_⟩
    simp only [AV.retokL_eq, List.getElem?_map, Option.map_eq_some_iff] at ha
    obtain ⟨a, ha, rfl⟩ := ha
    exact (hc.2 i v a hv ha).retok toks
  · rw [Fr.get_retok]; exact (hf d).retok toks

/-- Slots told less, tokens renamed. -/
theorem weak_tok {k0 : Nat} (toks : List Nat) (hnd : toks.Nodup) {fr fr' : Fr} {σ σ' : St} (h : Fr.below (fr.retok toks) fr') (hs : σ.retok toks = σ') : Weak k0 fr σ fr' σ' :=
  hs ▸ (Weak.retok toks hnd).trans (weak_frame h)

theorem weak_tok_all {k0 : Nat} (toks : List Nat) (hnd : toks.Nodup) (m : Nat) {fr fr' : Fr} {σ σ' : St} (h : Fr.below (fr.retok toks) fr') (hm : k0 ≤ m) (hf : fr'.inB m = true) (hs : leS ((σ.retok toks).take m) σ') (hb : St.inB m ((σ.retok toks).take m) = true) : Weak k0 fr σ fr' σ' :=
  (Weak.retok toks hnd).trans (weak_all m h hm hf hs hb)

/-! ### Guards -/
def gnow (ops : List Oper) (j : Nat) (fr : Fr) : Option Bool := match ops[j]? with
  | some p => (match p.dst with
    | some d => (match fr.get d with
      | .c (.bool b) => some b
      | _ => none)
    | _ => none)
  | _ => none

def gskip (ops : List Oper) (j : Nat) (fr : Fr) : Bool := match ops[j]? with
  | some p => (match p.dst with
    | some d => (match fr.get d with
      | .tup [] => true
      | _ => false)
    | _ => false)
  | _ => false

theorem gskip_guard {ops : List Oper} {o : Oper} {j : Nat} {w : Bool} {fr : Fr} {yes no : Prop} (hg : o.guard = some (j, w)) (h : gskip ops j fr = true) : aguard ops o fr.get yes no = no := by
  unfold gskip at h
  unfold aguard
  rw [hg]
  simp only
  split at h
  · rename_i p hp
    simp only [hp]
    split at h
    · rename_i d hd
      simp only [hd]
      split at h
      · rename_i hb
        simp only [hb]
      · cases h
    · cases h
  · cases h

theorem gnow_guard {ops : List Oper} {o : Oper} {j : Nat} {w b : Bool} {fr : Fr} {yes no : Prop} (hg : o.guard = some (j, w)) (h : gnow ops j fr = some b) : aguard ops o fr.get yes no = ((b = w → yes) ∧ (b ≠ w → no)) := by
  unfold gnow at h
  unfold aguard
  rw [hg]
  simp only
  split at h
  · rename_i p hp
    simp only [hp]
    split at h
    · rename_i d hd
      simp only [hd]
      split at h
      · rename_i b' hb
        cases h
        simp only [hb]
      · cases h
    · cases h
  · cases h

section
variable {P : Program} {ops r : List Oper} {d : Option Tmp} {op : Op} {ty : TypeId} {pos : String} {af : Array Edge} {j : Nat} {fr : Fr} {σ : St} {K : Fr → St → Prop} {Kq : Fr → Prop}
theorem aops_nil : aops P ops [] fr σ K = K fr σ := propext Iff.rfl
theorem aops_none : aops P ops (⟨d, op, ty, pos, af, none⟩ :: r) fr σ K = aop P ⟨d, op, ty, pos, af, none⟩ fr σ fun fr σ => aops P ops r fr σ K := propext Iff.rfl
theorem aops_yes {w : Bool} (h : gnow ops j fr = some w) : aops P ops (⟨d, op, ty, pos, af, some (j, w)⟩ :: r) fr σ K = aop P ⟨d, op, ty, pos, af, some (j, w)⟩ fr σ fun fr σ => aops P ops r fr σ K := by
  show aguard _ _ _ _ _ = _
  rw [gnow_guard rfl h]
  simp
theorem aops_no {w : Bool} (h : gnow ops j fr = some (!w)) : aops P ops (⟨d, op, ty, pos, af, some (j, w)⟩ :: r) fr σ K = aops P ops r (fr.put d (.tup [])) σ K := by
  show aguard _ _ _ _ _ = _
  rw [gnow_guard rfl h]
  simp
theorem aops_skip {w : Bool} (h : gskip ops j fr = true) : aops P ops (⟨d, op, ty, pos, af, some (j, w)⟩ :: r) fr σ K = aops P ops r (fr.put d (.tup [])) σ K := by
  show aguard _ _ _ _ _ = _
  rw [gskip_guard rfl h]
theorem aqw_skip {w : Bool} (h : gskip ops j fr = true) : aqw P ops (⟨d, op, ty, pos, af, some (j, w)⟩ :: r) fr σ Kq = aqw P ops r (fr.put d (.tup [])) σ Kq := by
  show aguard _ _ _ _ _ = _
  rw [gskip_guard rfl h]
theorem aqw_nil : aqw P ops [] fr σ Kq = Kq fr := propext Iff.rfl
theorem aqw_none : aqw P ops (⟨d, op, ty, pos, af, none⟩ :: r) fr σ Kq = aqop P ⟨d, op, ty, pos, af, none⟩ fr σ fun v => aqw P ops r (fr.put d v) σ Kq := propext Iff.rfl
theorem aqw_yes {w : Bool} (h : gnow ops j fr = some w) : aqw P ops (⟨d, op, ty, pos, af, some (j, w)⟩ :: r) fr σ Kq = aqop P ⟨d, op, ty, pos, af, some (j, w)⟩ fr σ fun v => aqw P ops r (fr.put d v) σ Kq := by
  show aguard _ _ _ _ _ = _
  rw [gnow_guard rfl h]
  simp
theorem aqw_no {w : Bool} (h : gnow ops j fr = some (!w)) : aqw P ops (⟨d, op, ty, pos, af, some (j, w)⟩ :: r) fr σ Kq = aqw P ops r (fr.put d (.tup [])) σ Kq := by
  show aguard _ _ _ _ _ = _
  rw [gnow_guard rfl h]
  simp
/-- Which way a guard goes. -/
theorem aops_split {w : Bool} (b : Bool) (hg : gnow ops j fr = some b) (h1 : b = true → aops P ops (⟨d, op, ty, pos, af, some (j, w)⟩ :: r) fr σ K) (h2 : b = false → aops P ops (⟨d, op, ty, pos, af, some (j, w)⟩ :: r) fr σ K) : aops P ops (⟨d, op, ty, pos, af, some (j, w)⟩ :: r) fr σ K := by
  cases b
  · exact h2 rfl
  · exact h1 rfl
theorem aqw_split {w : Bool} (b : Bool) (hg : gnow ops j fr = some b) (h1 : b = true → aqw P ops (⟨d, op, ty, pos, af, some (j, w)⟩ :: r) fr σ Kq) (h2 : b = false → aqw P ops (⟨d, op, ty, pos, af, some (j, w)⟩ :: r) fr σ Kq) : aqw P ops (⟨d, op, ty, pos, af, some (j, w)⟩ :: r) fr σ Kq := by
  cases b
  · exact h2 rfl
  · exact h1 rfl
end

/-- A call that is handed no variable and gives new ones. -/
theorem k_new {P : Program} {dst : Option Tmp} {f : FuncId} {caps args bs : List AV} {fr : Fr} {σ σr : St} {r : AV} {K : Fr → St → Prop} (hc : ACalls P f bs [] r σr)
    (hl : AV.leL (AV.lowL [] (args ++ caps)) bs) (h : K ((fr.dem fun t => t / 16 == dst.getD 0).put dst (r.lift [] σ.length (dst.getD 0))) ((σ.dem fun t => t / 16 == dst.getD 0) ++ σr.map (AV.liftL [] σ.length (dst.getD 0)))) : acall P dst (.fn f caps) args fr σ K :=
  ⟨[], bs, [], r, σr, .nil, by simp, hl, by simp [St.sub]; exact .nil, hc, by simpa [St.after, St.upd] using h⟩

/-- Ways meet at one frame. -/
theorem w_seq_to {P : Program} {V : List Nat} {k0 : Nat} {Q : Exit → Fr → St → Prop} {fr : Fr} {σ : St} {x y : Code} (fr1 : Fr) (σ1 : St) (h : awp P V k0 x (seqQ (fun fr σ => Weak k0 fr σ fr1 σ1) Q) fr σ) (h2 : awp P V k0 y Q fr1 σ1) : awp P V k0 (.seq x y) Q fr σ :=
  w_cut (fun fr σ => fr = fr1 ∧ σ = σ1) (awp_mono x (fun e fr σ he => by
    cases e with
    | normal => exact ⟨fr1, σ1, he, rfl, rfl⟩
    | _ => exact he) h) (fun fr σ he => by obtain ⟨rfl, rfl⟩ := he; exact h2)

end Go.Proofs.Ytnhchphmmdgphaa.Abs

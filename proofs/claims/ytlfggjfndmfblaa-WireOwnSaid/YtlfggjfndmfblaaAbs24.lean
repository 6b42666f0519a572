/- Tokens renamed: what a loop needs whose slices grow. From a law's data to plain values. A law's row: its arguments, and what is left behind. The printed walks' steps: each operation's rule, its outcome told in typed lists. The printed walks' steps: operations that grow memory, calls, ways that meet, loops, hand-backs. -/
import Derived.Test.YtlfggjfndmfblaaAbs19
import Derived.ChangeShapes
import Derived.ChangeSlices
import Derived.ChangeArms
import Derived.ChangeOld
import Derived.DataReads
import Derived.OpenShut
import Derived.WideShapes
import Derived.Below
import Derived.Test.YtlfggjfndmfblaaPk1
namespace Go.Proofs.Ytlfggjfndmfblaa.Abs
open Go
set_option linter.unusedVariables false
set_option linter.unusedSimpArgs false
variable {mo : Bool}

def Fr.retok (toks : List Nat) : Fr → Fr
  | [] => []
  | (i, a) :: r => (i, a.retok toks) :: Fr.retok toks r
def St.retok (toks : List Nat) : St → St
  | [] => []
  | cs :: r => AV.retokL toks cs :: St.retok toks r
theorem St.retok_eq (toks : List Nat) (σ : St) : σ.retok toks = σ.map (AV.retokL toks) := by
  induction σ with
  | nil => rfl
  | cons a l ih => simp [St.retok, ih]
theorem Fr.get_retok (toks : List Nat) (fr : Fr) (d : Nat) : (fr.retok toks).get d = (fr.get d).retok toks := by
  induction fr with
  | nil => rfl
  | cons x r ih =>
    obtain ⟨i, a⟩ := x
    simp only [Fr.retok, Fr.get]
    split
    · rfl
    · exact ih

theorem Weak.retok {k0 : Nat} {fr : Fr} {σ : St} (toks : List Nat) (hnd : toks.Nodup) : Weak k0 fr σ (fr.retok toks) (σ.retok toks) := by
  intro c g w tmps hk hi hf
  refine ⟨⟨g.I, g.β, fun j => (toks[j]?).bind g.τ⟩, ⟨hi.os, hi.tape, hi.output, hi.size, hi.old, hi.Ile, hi.Iold, hi.Ilt, hi.βpre, hi.βnew, hi.βnd, ?_, hi.βI, hi.βlt, fun t b ht => ?_, fun t t' b h1 h2 => ?_, fun id cs b hs' hb => ?_, hi.cell0, hi.glo⟩, fun d => ?_⟩
  · rw [St.retok_eq, List.length_map]; exact hi.βlen
  · change (toks[t]?).bind g.τ = some b at ht
    cases htt : toks[t]? with
    | none => simp [htt] at ht
    | some s =>
      simp only [htt, Option.bind_some] at ht
      exact hi.τnew s b ht
  · change (toks[t]?).bind g.τ = some b at h1
    change (toks[t']?).bind g.τ = some b at h2
    cases e1 : toks[t]? with
    | none => simp [e1] at h1
    | some s =>
      cases e2 : toks[t']? with
      | none => simp [e2] at h2
      | some s' =>
        simp only [e1, e2, Option.bind_some] at h1 h2
        have := hi.τinj s s' b h1 h2
        subst this
        exact nodup_get_inj hnd e1 e2
  · rw [St.retok_eq, List.getElem?_map, Option.map_eq_some_iff] at hs'
    obtain ⟨cs0, hcs0, rfl⟩ := hs'
    obtain ⟨cur, e, hh, hc⟩ := hi.store id cs0 b hcs0 hb
    refine ⟨cur, e, hh, by simpa [AV.retokL_eq] using hc.1, fun i v a hv ha => ?_⟩
    simp only [AV.retokL_eq, List.getElem?_map, Option.map_eq_some_iff] at ha
    obtain ⟨a, ha, rfl⟩ := ha
    exact (hc.2 i v a hv ha).retok toks
  · rw [Fr.get_retok]; exact (hf d).retok toks

/-- Slots told less, tokens renamed. -/
theorem weak_tok {k0 : Nat} (toks : List Nat) (hnd : toks.Nodup) {fr fr' : Fr} {σ σ' : St} (h : Fr.below (fr.retok toks) fr') (hs : σ.retok toks = σ') : Weak k0 fr σ fr' σ' :=
  hs ▸ (Weak.retok toks hnd).trans (weak_frame h)

theorem weak_tok_all {k0 : Nat} (toks : List Nat) (hnd : toks.Nodup) (m : Nat) {fr fr' : Fr} {σ σ' : St} (h : Fr.below (fr.retok toks) fr') (hm : k0 ≤ m) (hf : fr'.inB m = true) (hs : leS ((σ.retok toks).take m) σ') (hb : St.inB m ((σ.retok toks).take m) = true) : Weak k0 fr σ fr' σ' :=
  (Weak.retok toks hnd).trans (weak_all m h hm hf hs hb)

/-! ### Guards -/
def gnow (ops : List Oper) (j : Nat) (fr : Fr) : Option Bool := match ops[j]? with
  | some p => (match p.dst with
    | some d => (match fr.get d with
      | .c (.bool b) => some b
      | _ => none)
    | _ => none)
  | _ => none

def gskip (ops : List Oper) (j : Nat) (fr : Fr) : Bool := match ops[j]? with
  | some p => (match p.dst with
    | some d => (match fr.get d with
      | .tup [] => true
      | _ => false)
    | _ => false)
  | _ => false

theorem gskip_guard {ops : List Oper} {o : Oper} {j : Nat} {w : Bool} {fr : Fr} {yes no : Prop} (hg : o.guard = some (j, w)) (h : gskip ops j fr = true) : aguard ops o fr.get yes no = no := by
  unfold gskip at h
  unfold aguard
  rw [hg]
  simp only
  split at h
  · rename_i p hp
    simp only [hp]
    split at h
    · rename_i d hd
      simp only [hd]
      split at h
      · rename_i hb
        simp only [hb]
      · cases h
    · cases h
  · cases h

theorem gnow_guard {ops : List Oper} {o : Oper} {j : Nat} {w b : Bool} {fr : Fr} {yes no : Prop} (hg : o.guard = some (j, w)) (h : gnow ops j fr = some b) : aguard ops o fr.get yes no = ((b = w → yes) ∧ (b ≠ w → no)) := by
  unfold gnow at h
  unfold aguard
  rw [hg]
  simp only
  split at h
  · rename_i p hp
    simp only [hp]
    split at h
    · rename_i d hd
      simp only [hd]
      split at h
      · rename_i b' hb
        cases h
        simp only [hb]
      · cases h
    · cases h
  · cases h

section
variable {P : Program} {ops r : List Oper} {d : Option Tmp} {op : Op} {ty : TypeId} {pos : String} {af : Array Edge} {j : Nat} {fr : Fr} {σ : St} {K : Fr → St → Prop} {Kq : Fr → Prop}
theorem aops_nil : aops mo P ops [] fr σ K = K fr σ := propext Iff.rfl
theorem aops_none (h : aop P ⟨d, op, ty, pos, af, none⟩ fr σ fun fr σ => aops mo P ops r fr σ K) : aops mo P ops (⟨d, op, ty, pos, af, none⟩ :: r) fr σ K := aopG_of h
theorem aops_M (h : aopM P ⟨d, op, ty, pos, af, none⟩ fr σ fun fr σ => aops true P ops r fr σ K) : aops true P ops (⟨d, op, ty, pos, af, none⟩ :: r) fr σ K := h
theorem aops_no {w : Bool} (h : gnow ops j fr = some (!w)) : aops mo P ops (⟨d, op, ty, pos, af, some (j, w)⟩ :: r) fr σ K = aops mo P ops r (fr.put d (.tup [])) σ K := by
  show aguard _ _ _ _ _ = _
  rw [gnow_guard rfl h]
  simp
theorem aops_skip {w : Bool} (h : gskip ops j fr = true) : aops mo P ops (⟨d, op, ty, pos, af, some (j, w)⟩ :: r) fr σ K = aops mo P ops r (fr.put d (.tup [])) σ K := by
  show aguard _ _ _ _ _ = _
  rw [gskip_guard rfl h]
theorem aqw_skip {w : Bool} (h : gskip ops j fr = true) : aqw P ops (⟨d, op, ty, pos, af, some (j, w)⟩ :: r) fr σ Kq = aqw P ops r (fr.put d (.tup [])) σ Kq := by
  show aguard _ _ _ _ _ = _
  rw [gskip_guard rfl h]
theorem aqw_nil : aqw P ops [] fr σ Kq = Kq fr := propext Iff.rfl
theorem aqw_none : aqw P ops (⟨d, op, ty, pos, af, none⟩ :: r) fr σ Kq = aqop P ⟨d, op, ty, pos, af, none⟩ fr σ fun v => aqw P ops r (fr.put d v) σ Kq := propext Iff.rfl
theorem aqw_yes {w : Bool} (h : gnow ops j fr = some w) : aqw P ops (⟨d, op, ty, pos, af, some (j, w)⟩ :: r) fr σ Kq = aqop P ⟨d, op, ty, pos, af, some (j, w)⟩ fr σ fun v => aqw P ops r (fr.put d v) σ Kq := by
  show aguard _ _ _ _ _ = _
  rw [gnow_guard rfl h]
  simp
theorem aqw_no {w : Bool} (h : gnow ops j fr = some (!w)) : aqw P ops (⟨d, op, ty, pos, af, some (j, w)⟩ :: r) fr σ Kq = aqw P ops r (fr.put d (.tup [])) σ Kq := by
  show aguard _ _ _ _ _ = _
  rw [gnow_guard rfl h]
  simp
/-- Which way a guard goes. -/
theorem aops_split {w : Bool} (b : Bool) (hg : gnow ops j fr = some b) (h1 : b = true → aops mo P ops (⟨d, op, ty, pos, af, some (j, w)⟩ :: r) fr σ K) (h2 : b = false → aops mo P ops (⟨d, op, ty, pos, af, some (j, w)⟩ :: r) fr σ K) : aops mo P ops (⟨d, op, ty, pos, af, some (j, w)⟩ :: r) fr σ K := by
  cases b
  · exact h2 rfl
  · exact h1 rfl
theorem aqw_split {w : Bool} (b : Bool) (hg : gnow ops j fr = some b) (h1 : b = true → aqw P ops (⟨d, op, ty, pos, af, some (j, w)⟩ :: r) fr σ Kq) (h2 : b = false → aqw P ops (⟨d, op, ty, pos, af, some (j, w)⟩ :: r) fr σ Kq) : aqw P ops (⟨d, op, ty, pos, af, some (j, w)⟩ :: r) fr σ Kq := by
  cases b
  · exact h2 rfl
  · exact h1 rfl
end

/-- A call that is handed no variable and gives new ones. -/
theorem k_new {P : Program} {dst : Option Tmp} {f : FuncId} {caps args bs : List AV} {fr : Fr} {σ σr : St} {r : AV} {K : Fr → St → Prop} (hc : ACalls P f bs [] r σr)
    (hl : AV.leL (AV.lowL [] (args ++ caps)) bs) (h : K ((fr.dem fun t => t / 16 == dst.getD 0).put dst (r.lift [] σ.length (dst.getD 0))) ((σ.dem fun t => t / 16 == dst.getD 0) ++ σr.map (AV.liftL [] σ.length (dst.getD 0)))) : acall P dst (.fn f caps) args fr σ K :=
  ⟨dst.getD 0, [], [], bs, [], r, σr, .nil, .nil, by simp, hl, by simp [St.sub]; exact .nil, hc, by simpa [St.after, St.upd, endF_nil] using h⟩

/-- Ways meet at one frame. -/
theorem w_seq_to {P : Program} {V : List Nat} {k0 : Nat} {Q : Exit → Fr → St → Prop} {fr : Fr} {σ : St} {x y : Code} (fr1 : Fr) (σ1 : St) (h : awp P V k0 x (seqQ (fun fr σ => Weak k0 fr σ fr1 σ1) Q) fr σ) (h2 : awp P V k0 y Q fr1 σ1) : awp P V k0 (.seq x y) Q fr σ :=
  w_cut (fun fr σ => fr = fr1 ∧ σ = σ1) (awp_mono x (fun e fr σ he => by
    cases e with
    | normal => exact ⟨fr1, σ1, he, rfl, rfl⟩
    | _ => exact he) h) (fun fr σ he => by obtain ⟨rfl, rfl⟩ := he; exact h2)

end Go.Proofs.Ytlfggjfndmfblaa.Abs

namespace Go.Proofs.Ytlfggjfndmfblaa.Abs
open Go
set_option linter.unusedVariables false
set_option linter.unusedSimpArgs false

def ShapedF (S : TypeId → List PV → Prop) : List TypeId → List PV → Prop
  | [], ps => ps = []
  | t :: ts, ps => ∃ p q, ps = p ++ q ∧ S t p ∧ ShapedF S ts q

/-- Plain values of this type's shape. -/
def Shaped (P : Program) : Nat → TypeId → List PV → Prop
  | 0, _, _ => False
  | n + 1, t, ps => match P.underlying t with
    | some .bool => ∃ b, ps = [.bool b]
    | some (.int k) => ∃ x, ps = [.int k x] ∧ (Lit.int k x).wf = true
    | some .string => ∃ s : List UInt8, ps = [.str s] ∧ s.length ≤ 140737488351232
    | some (.slice e) => ∃ xs, ps = [.list (P.cellsOf e) xs] ∧ (∀ x ∈ xs, Shaped P n e x) ∧ xs.length ≤ 9223372036854775807 ∧ xs.length * P.bytesOf e ≤ 140737488351232
    | some (.struct fs) => ShapedF (Shaped P n) (fs.toList.map (·.type)) ps
    | some (.array m e) => ShapedF (Shaped P n) (List.replicate m e) ps
    | _ => False

def tilesB (P : Program) : Nat → List Field → Option Nat
  | o, [] => some o
  | o, f :: r => if f.offset = o then tilesB P (o + P.cellsOf f.type) r else none

def plainOk (P : Program) (L : List TypeId) : Bool := L.all fun t => match P.underlying t with
  | some .bool => true
  | some (.int _) => true
  | some .string => true
  | some (.slice e) => L.contains e && decide (0 < P.cellsOf e)
  | some (.struct fs) => fs.toList.all (fun f => L.contains f.type) && tilesB P 0 fs.toList == some (P.cellsOf t)
  | some (.array m e) => L.contains e && decide (P.cellsOf t = m * P.cellsOf e)
  | _ => false

def old (W : World) : Nat → Nat → Prop := fun b _ => b < W.heap.size

def RVs (W : World) (cs : List Value) (ps : List PV) : Prop := ps.length = cs.length ∧ ∀ (i : Nat) v p, cs[i]? = some v → ps[i]? = some p → RV (old W) W v p

theorem RVs.one {W : World} {v : Value} {p : PV} (h : RV (old W) W v p) : RVs W [v] [p] := ⟨rfl, fun i v' p' h1 h2 => by cases i with
  | zero => simp at h1 h2; subst h1; subst h2; exact h
  | succ i => simp at h1⟩
theorem RVs.app {W : World} {cs cs' : List Value} {ps ps' : List PV} (h : RVs W cs ps) (h' : RVs W cs' ps') : RVs W (cs ++ cs') (ps ++ ps') := by
  refine ⟨by simp [h.1, h'.1], fun i v p h1 h2 => ?_⟩
  by_cases hi : i < cs.length
  · rw [List.getElem?_append_left hi] at h1
    rw [List.getElem?_append_left (by rw [h.1]; exact hi)] at h2
    exact h.2 i v p h1 h2
  · rw [List.getElem?_append_right (by omega)] at h1
    rw [List.getElem?_append_right (by rw [h.1]; omega), h.1] at h2
    exact h'.2 _ v p h1 h2

theorem list_choice {α : Type} {R : Nat → α → Prop} : ∀ (n : Nat), (∀ i, i < n → ∃ x, R i x) → ∃ xs : List α, xs.length = n ∧ ∀ (i : Nat) x, xs[i]? = some x → R i x
  | 0, _ => ⟨[], rfl, fun i x h => by simp at h⟩
  | n + 1, h => by
    obtain ⟨xs, hl, hx⟩ := list_choice n (fun i hi => h i (by omega))
    obtain ⟨y, hy⟩ := h n (by omega)
    refine ⟨xs ++ [y], by simp [hl], fun i x hi => ?_⟩
    by_cases hin : i < n
    · rw [List.getElem?_append_left (by omega)] at hi
      exact hx i x hi
    · rw [List.getElem?_append_right (by omega)] at hi
      have : i = n := by
        have := (List.getElem?_eq_some_iff.1 hi).1
        simp at this; omega
      subst this
      simp [hl] at hi
      subst hi
      exact hy

theorem add_plain (b o n : Nat) : (⟨b, o, none⟩ : Addr).add n = ⟨b, o + n, none⟩ := by
  unfold Addr.add
  split
  · rename_i h; subst h; rfl
  · rfl
theorem cell_some {W : World} {a : Addr} {u : Value} (h : W.cell? a = some u) : a.spot = none ∧ a.block < W.heap.size := by
  unfold World.cell? at h
  split at h
  · rename_i c e y hb
    split at h
    · cases h
    · rename_i hs
      exact ⟨by simpa using hs, (Array.getElem?_eq_some_iff.1 hb).1⟩
  · cases h

theorem tiles_pv {P : Program} {W : World} {cs : List Value} {S : TypeId → List PV → Prop} : ∀ (l : List Field) (o : Nat), tilesB P o l = some cs.length →
    (∀ f ∈ l, ∃ ps, RVs W ((cs.drop f.offset).take (P.cellsOf f.type)) ps ∧ S f.type ps) → ∃ ps, RVs W (cs.drop o) ps ∧ ShapedF S (l.map (·.type)) ps
  | [], o, h, _ => by
    simp only [tilesB, Option.some.injEq] at h
    subst h
    exact ⟨[], ⟨by simp, fun i v p h1 => by simp at h1⟩, rfl⟩
  | f :: r, o, h, hf => by
    simp only [tilesB] at h
    split at h
    · rename_i ho
      obtain ⟨ps, h1, h2⟩ := hf f (by simp)
      obtain ⟨qs, h3, h4⟩ := tiles_pv r _ h (fun f' hf' => hf f' (by simp [hf']))
      refine ⟨ps ++ qs, ?_, ps, qs, rfl, h2, h4⟩
      have := h1.app h3
      rw [ho, ← List.drop_drop, List.take_append_drop] at this
      exact this
    · cases h

theorem tiles_arr {W : World} {cs : List Value} {S : TypeId → List PV → Prop} {e : TypeId} {c : Nat} : ∀ (r o : Nat), o + r * c = cs.length →
    (∀ i, i < r → ∃ ps, RVs W ((cs.drop (o + i * c)).take c) ps ∧ S e ps) → ∃ ps, RVs W (cs.drop o) ps ∧ ShapedF S (List.replicate r e) ps
  | 0, o, h, _ => by
    rw [Nat.zero_mul, Nat.add_zero] at h
    subst h
    exact ⟨[], ⟨by simp, fun i v p h1 => by simp at h1⟩, rfl⟩
  | r + 1, o, h, hf => by
    rw [Nat.add_mul, Nat.one_mul] at h
    obtain ⟨ps, h1, h2⟩ := hf 0 (by omega)
    obtain ⟨qs, h3, h4⟩ := tiles_arr (W := W) (cs := cs) (S := S) (e := e) (c := c) r (o + c) (by omega) (fun i hi => by
      have := hf (i + 1) (by omega)
      rw [Nat.add_mul, Nat.one_mul] at this
      rw [Nat.add_assoc, Nat.add_comm c]
      exact this)
    refine ⟨ps ++ qs, ?_, ps, qs, rfl, h2, h4⟩
    rw [Nat.zero_mul, Nat.add_zero] at h1
    have := h1.app h3
    rw [show cs.drop (o + c) = (cs.drop o).drop c by rw [List.drop_drop], List.take_append_drop] at this
    exact this
theorem weights_all {H : Type} {P : Program} {e : TypeId} {y : Nat} : ∀ {l : List (DataW H)} {d : DataW H}, d ∈ l → y ∈ d.weights P e → y ∈ DataW.weightsAll P e l
  | [], d, h, _ => by simp at h
  | d' :: r, d, h, hy => by
    simp only [DataW.weightsAll, List.mem_append]
    rcases List.mem_cons.1 h with rfl | h
    · exact .inl hy
    · exact .inr (weights_all h hy)
theorem weights_each {H : Type} {P : Program} {y : Nat} : ∀ {ts : List TypeId} {ds : List (DataW H)} {i : Nat} {t : TypeId} {d : DataW H}, ts[i]? = some t → ds[i]? = some d → y ∈ d.weights P t → y ∈ DataW.weightsEach P ts ds
  | [], ds, i, t, d, h, _, _ => by simp at h
  | t' :: ts, [], i, t, d, _, h, _ => by simp at h
  | t' :: ts, d' :: ds, 0, t, d, h1, h2, hy => by
    simp only [List.getElem?_cons_zero, Option.some.injEq] at h1 h2
    subst h1 h2
    simp only [DataW.weightsEach, List.mem_append]
    exact .inl hy
  | t' :: ts, d' :: ds, i + 1, t, d, h1, h2, hy => by
    simp only [List.getElem?_cons_succ] at h1 h2
    simp only [DataW.weightsEach, List.mem_append]
    exact .inr (weights_each h1 h2 hy)
theorem weights_at {H : Type} {P : Program} {ts : List TypeId} {ds : List (DataW H)} (h : (DataW.weightsEach P ts ds).all (· ≤ reachBytes) = true) (i : Nat) {t : TypeId} {d : DataW H} (h1 : ts[i]? = some t) (h2 : ds[i]? = some d) :
    ∀ y ∈ d.weights P t, y ≤ 140737488351232 := fun y hy => by
  have := List.all_eq_true.1 h y (weights_each h1 h2 hy)
  simp only [decide_eq_true_eq] at this
  exact this

theorem trod_pv {H : Type} {enc : TypeId × Value → H} {P : Program} {W : World} {spare : Nat → Bool} {held : Bool} {L : List TypeId} (hL : plainOk P L = true) : ∀ (fuel : Nat) (t : TypeId) (cs : List Value) (x : DataW H × List MemPlace), t ∈ L →
    DataW.trod enc P W 0 spare held fuel t cs = some x → (∀ y ∈ x.1.weights P t, y ≤ 140737488351232) → ∃ ps, RVs W cs ps ∧ Shaped P fuel t ps := by
  intro fuel
  induction fuel with
  | zero => intro t cs x _ h; simp [DataW.trod] at h
  | succ n ih =>
    intro t cs x ht h hwt
    have hp := List.all_eq_true.1 hL t ht
    split at hp
    · rename_i hu
      obtain ⟨b, rfl, _⟩ := DataW.trod_bool hu h
      exact ⟨[.bool b], .one (.bool b), by simp [Shaped, hu]⟩
    · rename_i k hu
      obtain ⟨m, rfl, _, hw⟩ := DataW.trod_int hu h
      exact ⟨[.int k m], .one (.int k m), by simp [Shaped, hu, hw]⟩
    · rename_i hu
      obtain ⟨s, rfl, rfl, hs⟩ := DataW.trod_string hu h
      have hs2 := hwt s.data.toList.length (by simp [DataW.weights])
      refine ⟨[.str s.data.toList], .one ?_, ?_⟩
      · have := RV.str (I := old W) (w := W) s.data.toList
        simpa using this
      · simp only [Shaped, hu]
        exact ⟨_, rfl, hs2⟩
    · rename_i e hu
      simp only [Bool.and_eq_true, decide_eq_true_eq, List.contains_iff_mem] at hp
      rcases DataW.trod_slice hu h with ⟨rfl, _⟩ | ⟨a, len, cap, elems, rest, m, hm, rfl, rfl, _, hlc, hcm, hel, hget, _⟩
      · refine ⟨[.list (P.cellsOf e) []], .one (.empty _ _ _), ?_⟩
        simp only [Shaped, hu]
        exact ⟨[], rfl, by simp, by simp, by simp⟩
      · obtain rfl : n = m := by omega
        have hwt2 : ∀ y ∈ (elems.length + rest.length) * P.bytesOf e :: (DataW.weightsAll P e (elems.map (·.1)) ++ DataW.weightsAll P e (rest.map (·.1))), y ≤ 140737488351232 := fun y hy => hwt y (by
          have : DataW.weights P t (DataW.slice (elems.map (·.1)) (rest.map (·.1))) = (elems.length + rest.length) * P.bytesOf e :: (DataW.weightsAll P e (elems.map (·.1)) ++ DataW.weightsAll P e (rest.map (·.1))) := by simp [DataW.weights, hu]
          simp only [this]
          exact hy)
        have hbytes := hwt2 _ (List.mem_cons_self ..)
        have key : ∀ i, i < len → ∃ ps, (∃ csi, W.cells? 0 (a.add (i * P.cellsOf e)) (P.cellsOf e) = some csi ∧ RVs W csi ps) ∧ Shaped P n e ps := by
          intro i hi
          have hg := hget i hi
          rw [List.getElem?_eq_getElem (by omega), Option.bind_eq_some_iff] at hg
          obtain ⟨csi, h1, h2⟩ := hg
          obtain ⟨ps, h3, h4⟩ := ih e csi _ hp.1 h2 (fun y hy => hwt2 y (List.mem_cons_of_mem _ (List.mem_append.2 (.inl (weights_all (List.mem_map_of_mem (List.getElem_mem _)) hy)))))
          exact ⟨ps, ⟨csi, h1, h3⟩, h4⟩
        obtain ⟨xs, hxl, hx⟩ := list_choice len key
        have hsh : ∀ x ∈ xs, Shaped P n e x := fun x hxm => by
          obtain ⟨i, hi⟩ := List.getElem?_of_mem hxm
          exact (hx i x hi).2
        have hsz : ∀ (i : Nat) x, xs[i]? = some x → x.length = P.cellsOf e ∧ ∀ j, j < P.cellsOf e → ∃ u p, W.cell? ((a.add (i * P.cellsOf e)).add j) = some u ∧ x[j]? = some p ∧ RV (old W) W u p := by
          intro i x hi
          obtain ⟨⟨csi, h1, h2⟩, _⟩ := hx i x hi
          obtain ⟨hb, hlen, hcell⟩ := World.cells?_some h1
          refine ⟨h2.1.trans hlen, fun j hj => ?_⟩
          have hjc : j < csi.length := by omega
          have hjx : j < x.length := by rw [h2.1]; exact hjc
          refine ⟨csi[j], x[j], ?_, List.getElem?_eq_getElem hjx, h2.2 j _ _ (List.getElem?_eq_getElem hjc) (List.getElem?_eq_getElem hjx)⟩
          have := hcell j hj
          rw [List.getElem?_eq_getElem hjc] at this
          exact this
        refine ⟨[.list (P.cellsOf e) xs], .one ?_, ?_⟩
        · by_cases h0 : len = 0
          · subst h0
            obtain rfl : xs = [] := List.eq_nil_of_length_eq_zero hxl
            exact .empty _ _ _
          · have hspot : a.spot = none ∧ a.block < W.heap.size := by
              have h00 : xs[0]? = some xs[0] := List.getElem?_eq_getElem (by omega)
              obtain ⟨u, p, h1, _⟩ := (hsz 0 _ h00).2 0 hp.2
              have e0 : (a.add (0 * P.cellsOf e)).add 0 = a := by simp [Addr.add]
              rw [e0] at h1
              exact cell_some h1
            obtain ⟨b, o, s⟩ := a
            obtain ⟨rfl, hbl⟩ := hspot
            rw [← hxl]
            refine .row b o cap (P.cellsOf e) xs (fun j => (W.cell? ⟨b, o + j, none⟩).getD undef) (fun x hxm => ?_) (by omega) (fun j hj => ⟨hbl, ?_⟩) (fun i j x p hi hj => ?_)
            · obtain ⟨i, hi⟩ := List.getElem?_of_mem hxm
              exact (hsz i x hi).1
            · have hi : j / P.cellsOf e < xs.length := by rw [Nat.div_lt_iff_lt_mul hp.2]; exact hj
              obtain ⟨u, p, h1, _⟩ := (hsz _ _ (List.getElem?_eq_getElem hi)).2 (j % P.cellsOf e) (Nat.mod_lt _ hp.2)
              have e2 : j / P.cellsOf e * P.cellsOf e + j % P.cellsOf e = j := by rw [Nat.mul_comm]; exact Nat.div_add_mod _ _
              rw [add_plain, add_plain, Nat.add_assoc, e2] at h1
              simp [h1]
            · have hjl : j < P.cellsOf e := by rw [← (hsz i x hi).1]; exact (List.getElem?_eq_some_iff.1 hj).1
              obtain ⟨u, p', h1, h2, h3⟩ := (hsz i x hi).2 j hjl
              rw [hj] at h2
              cases h2
              rw [add_plain, add_plain, Nat.add_assoc] at h1
              simpa [h1] using h3
        · simp only [Shaped, hu]
          exact ⟨xs, rfl, hsh, by rw [hxl]; unfold maxLen at hcm; omega, by rw [hxl]; exact Nat.le_trans (Nat.mul_le_mul_right _ (by omega)) hbytes⟩
    · rename_i fs hu
      simp only [Bool.and_eq_true, List.all_eq_true, List.contains_iff_mem, beq_iff_eq] at hp
      obtain ⟨xs, m, hm, rfl, hlen, hxl, hget⟩ := DataW.trod_struct hu h
      obtain rfl : n = m := by omega
      obtain ⟨ps, h1, h2⟩ := tiles_pv (S := Shaped P n) fs.toList 0 (hp.2.trans (by rw [hlen])) (fun f hf => by
        obtain ⟨i, hi⟩ := List.getElem?_of_mem hf
        have hi' : fs[i]? = some f := by simpa using hi
        have hil : i < xs.length := by rw [hxl]; exact (Array.getElem?_eq_some_iff.1 hi').1
        have hg := hget i f hi'
        rw [List.getElem?_eq_getElem hil] at hg
        refine ih f.type _ _ (hp.1 f hf) hg (fun y hy => hwt y ?_)
        have : DataW.weights P t (DataW.agg (xs.map (·.1))) = DataW.weightsEach P (fs.toList.map (·.type)) (xs.map (·.1)) := by simp [DataW.weights, hu]
        simp only [this]
        exact weights_each (i := i) (by rw [List.getElem?_map, hi]; rfl) (by rw [List.getElem?_map, List.getElem?_eq_getElem hil]; rfl) hy)
      exact ⟨ps, by simpa using h1, by simpa [Shaped, hu] using h2⟩
    · rename_i m e hu
      simp only [Bool.and_eq_true, List.contains_iff_mem, decide_eq_true_eq] at hp
      obtain ⟨xs, k, hk, rfl, hlen, hxl, hget⟩ := DataW.trod_array hu h
      obtain rfl : n = k := by omega
      obtain ⟨ps, h1, h2⟩ := tiles_arr (W := W) (cs := cs) (S := Shaped P n) (e := e) (c := P.cellsOf e) m 0 (by rw [hlen, hp.2]; omega) (fun i hi => by
        have hg := hget i hi
        rw [List.getElem?_eq_getElem (by omega)] at hg
        rw [Nat.zero_add]
        refine ih e _ _ hp.1 hg (fun y hy => hwt y ?_)
        have : DataW.weights P t (DataW.agg (xs.map (·.1))) = DataW.weightsAll P e (xs.map (·.1)) := by simp [DataW.weights, hu]
        simp only [this]
        exact weights_all (List.mem_map.2 ⟨xs[i], List.getElem_mem (by omega), rfl⟩) hy)
      exact ⟨ps, by simpa using h1, by simpa [Shaped, hu] using h2⟩
    · cases hp
end Go.Proofs.Ytlfggjfndmfblaa.Abs

namespace Go.Proofs.Ytlfggjfndmfblaa.Abs
open Go RowKit
set_option linter.unusedVariables false
set_option linter.unusedSimpArgs false

def gOld (W : World) : G := ⟨old W, [], fun _ => none⟩

/-- The law, called from the world W with arguments that W's memory holds. -/
theorem law_calls {P : Program} {f : FuncId} {args : List AV} {W : World} {vs : Array Value} (hc : ACalls P f args [] (.c (.bool true)) []) (hv : RCells (gOld W) W vs args) (hg : Glo (old W) W) :
    Calls P f vs W fun e w' => e = .returned (.bool true) ∧ Below W.heap.size W w' := by
  have h := hc.2 W (old W) [] (fun _ => none) vs (fun b o hb => hb) (by simp) (by simp) (by simp) (by simp) (by simp) rfl (by simp) hv hg
  refine h.mono fun e w' he => ?_
  obtain ⟨v, g', rfl, hi, hr⟩ := he
  obtain ⟨⟩ | _ := hr
  rename_i h
  cases h
  exact ⟨rfl, hi.os, hi.tape, hi.output, hi.size, fun k hk => hi.old k hk (by simp) (fun h => by obtain ⟨t, h⟩ := h; cases h)⟩

theorem glo_nil {I : Nat → Nat → Prop} {w : World} (h : globs = []) : Glo I w := fun x hx => by rw [h] at hx; cases hx
theorem rcells_nil {g : G} {w : World} : RCells g w #[] [] := ⟨rfl, fun i v a h => by simp at h⟩
theorem rcells_cons {g : G} {w : World} {v : Value} {a : AV} {vs : List Value} {as : List AV} (h : RAV g w v a) (t : RCells g w vs.toArray as) : RCells g w (v :: vs).toArray (a :: as) := by
  refine ⟨by simpa using t.1, fun i u b hu hb => ?_⟩
  cases i with
  | zero => simp at hu hb; subst hu; subst hb; exact h
  | succ i => exact t.2 i u b (by simpa using hu) (by simpa using hb)

/-- An argument that is one cell. -/
theorem open_one {H : Type} {enc : TypeId × Value → H} {P : Program} {W : World} {base : Nat} {spare : Nat → Bool} {held : Bool} {L : List TypeId} (hL : plainOk P L = true) {t : TypeId} (ht : t ∈ L) {v : Value} {d : DataW H} {mp : List MemPlace}
    (hk : tyIs P t = 1 ∨ tyIs P t = 2 ∨ tyIs P t = 3 ∨ tyIs P t = 4) (hv : Value.okWide P W .any base t v) (h : DataW.Trod enc P W 0 spare held t v d mp) (hwt : ∀ y ∈ d.weights P t, y ≤ 140737488351232) : ∃ p n, RAV (gOld W) W v (.c p) ∧ Shaped P n t [p] := by
  obtain ⟨fuel, hf⟩ := h
  obtain ⟨ps, h1, h2⟩ := trod_pv hL fuel t _ _ ht hf hwt
  have hone : v.cells.toList = [v] := by
    have hp := List.all_eq_true.1 hL t ht
    unfold tyIs at hk
    split at hp
    · rename_i hu
      simp only [Value.okWide, hu] at hv
      cases v <;> simp_all [Value.cells, Cell.okWide, Cell.ok]
    · rename_i hu
      simp only [Value.okWide, hu] at hv
      cases v <;> simp_all [Value.cells, Cell.okWide, Cell.ok]
    · rename_i hu
      simp only [Value.okWide, hu] at hv
      cases v <;> simp_all [Value.cells, Cell.okWide, Cell.ok]
    · rename_i hu
      simp only [Value.okWide, hu] at hv
      cases v <;> simp_all [Value.cells, Cell.okWide, Cell.ok]
    · rename_i hu
      simp [hu] at hk
    · rename_i hu
      simp [hu] at hk
    · cases hp
  rw [hone] at h1
  obtain ⟨p, rfl⟩ : ∃ p, ps = [p] := by
    match ps, h1.1 with
    | [p], _ => exact ⟨p, rfl⟩
  exact ⟨p, fuel, .c (h1.2 0 v p rfl rfl), h2⟩

/-- An argument that is a row of cells. -/
theorem open_agg {H : Type} {enc : TypeId × Value → H} {P : Program} {W : World} {base : Nat} {spare : Nat → Bool} {held : Bool} {L : List TypeId} (hL : plainOk P L = true) {t : TypeId} (ht : t ∈ L) {v : Value} {d : DataW H} {mp : List MemPlace}
    (hk : tyIs P t = 6) (hv : Value.okWide P W .any base t v) (h : DataW.Trod enc P W 0 spare held t v d mp) (hwt : ∀ y ∈ d.weights P t, y ≤ 140737488351232) : ∃ ps n, RAV (gOld W) W v (.agg (ps.map AV.c)) ∧ Shaped P n t ps := by
  obtain ⟨fuel, hf⟩ := h
  obtain ⟨ps, h1, h2⟩ := trod_pv hL fuel t _ _ ht hf hwt
  have hagg : ∃ cs : Array Value, v = .agg cs := by
    unfold tyIs at hk
    cases hu : P.underlying t with
    | none => simp [hu] at hk
    | some d =>
      cases d <;> simp [hu] at hk
      simp only [Value.okWide, hu] at hv
      obtain ⟨cs, rfl, _⟩ := hv
      exact ⟨cs, rfl⟩
  obtain ⟨cs, rfl⟩ := hagg
  simp only [Value.cells] at h1
  refine ⟨ps, fuel, .agg cs _ (by have := h1.1; simp at this; simp [this]) (fun i v a hv' ha => ?_), h2⟩
  rw [List.getElem?_map, Option.map_eq_some_iff] at ha
  obtain ⟨p, hp, rfl⟩ := ha
  exact .c (h1.2 i v p (by simpa using hv') hp)

/-- An argument that is an array. -/
theorem open_arr {H : Type} {enc : TypeId × Value → H} {P : Program} {W : World} {base : Nat} {spare : Nat → Bool} {held : Bool} {L : List TypeId} (hL : plainOk P L = true) {t : TypeId} (ht : t ∈ L) {v : Value} {d : DataW H} {mp : List MemPlace}
    (hk : tyIs P t = 7) (hv : Value.okWide P W .any base t v) (h : DataW.Trod enc P W 0 spare held t v d mp) (hwt : ∀ y ∈ d.weights P t, y ≤ 140737488351232) : ∃ ps n, RAV (gOld W) W v (.agg (ps.map AV.c)) ∧ Shaped P n t ps := by
  obtain ⟨fuel, hf⟩ := h
  obtain ⟨ps, h1, h2⟩ := trod_pv hL fuel t _ _ ht hf hwt
  have hagg : ∃ cs : Array Value, v = .agg cs := by
    unfold tyIs at hk
    cases hu : P.underlying t with
    | none => simp [hu] at hk
    | some d =>
      cases d <;> simp [hu] at hk
      simp only [Value.okWide, hu] at hv
      obtain ⟨cs, rfl, _⟩ := hv
      exact ⟨cs, rfl⟩
  obtain ⟨cs, rfl⟩ := hagg
  simp only [Value.cells] at h1
  refine ⟨ps, fuel, .agg cs _ (by have := h1.1; simp at this; simp [this]) (fun i v a hv' ha => ?_), h2⟩
  rw [List.getElem?_map, Option.map_eq_some_iff] at ha
  obtain ⟨p, hp, rfl⟩ := ha
  exact .c (h1.2 i v p (by simpa using hv') hp)

end Go.Proofs.Ytlfggjfndmfblaa.Abs

namespace Go.Proofs.Ytlfggjfndmfblaa.Abs
open Go
set_option linter.unusedVariables false
set_option linter.unusedSimpArgs false
variable {mo : Bool}

def PV.ls {α : Type} (sz : Nat) (row : α → List PV) (xs : List α) : PV := .list sz (xs.map row)
def AV.os {α : Type} (t sz : Nat) (row : α → List PV) (xs : List α) : AV := .own t sz (xs.map row)
/- Short words for slots of which only the kind is told. -/
abbrev aI {k : IntKind} {n : Int} : AV := .c (.int k n)
abbrev aB {b : Bool} : AV := .c (.bool b)
abbrev aS {s : List UInt8} : AV := .c (.str s)
abbrev aL {α : Type} {sz : Nat} {row : α → List PV} {xs : List α} : AV := .c (PV.ls sz row xs)
abbrev aO {α : Type} {t sz : Nat} {row : α → List PV} {xs : List α} : AV := AV.os t sz row xs
def AV.cs (l : List PV) : List AV := l.map .c
def gv (c : Bool) (v : AV) : AV := if c then v else .tup []
theorem gx {c : Bool} {x v : AV} (h : x = gv c v) (hc : c = true) : x = v := by rw [h, gv, if_pos hc]

/-- A value that is known to be a list. -/
def isl {α : Type} (a : AV) (sz : Nat) (row : α → List PV) (xs : List α) : Prop := a = .c (PV.ls sz row xs) ∨ ∃ t, a = .os t sz row xs
theorem isl_c {α : Type} {a : AV} {sz : Nat} {row : α → List PV} {xs : List α} (h : a = .c (PV.ls sz row xs)) : isl a sz row xs := .inl h
theorem isl_o {α : Type} {a : AV} {t sz : Nat} {row : α → List PV} {xs : List α} (h : a = .os t sz row xs) : isl a sz row xs := .inr ⟨t, h⟩

def Pv (P : Program) (o : Oper) (ev : Operand → AV) (σ : St) (v : AV) : Prop := ∀ K : Option (Nat → Bool) → AV → St → Prop, K .none v σ → aval P o ev σ K
def plainOp (o : Oper) : Bool := match o.op with | .call { callee := .value _, .. } => false | _ => (isNilCmp o).isNone

theorem aop_plain {P : Program} {o : Oper} {fr : Fr} {σ : St} {K : Fr → St → Prop} (hp : plainOp o = true) (h : aval P o fr.ev σ fun dm v σ' => K ((fr.demo dm).put o.dst v) σ') : aop P o fr σ K := by
  unfold plainOp at hp
  unfold aop
  split at hp
  · cases hp
  · rename_i hno
    split
    · rename_i f args argTypes hop
      exact absurd hop (hno _ _ _)
    · split
      · rename_i hn; rw [hn] at hp; cases hp
      · exact h
theorem aqop_plain {P : Program} {o : Oper} {fr : Fr} {σ : St} {K : AV → Prop} (hp : plainOp o = true) (h : aval P o fr.ev σ (QQ σ K)) : aqop P o fr σ K := by
  unfold plainOp at hp
  unfold aqop
  split at hp
  · cases hp
  · rename_i hno
    split
    · rename_i f args argTypes hop
      exact absurd hop (hno _ _ _)
    · exact h

/-! ### Steps of a region -/
def gslot (ops : List Oper) (j : Nat) : Option Nat := (ops[j]?).bind (·.dst)
theorem ag_c {ops : List Oper} {o : Oper} {j dj : Nat} {w b : Bool} {get : Nat → AV} {yes no : Prop} (hg : o.guard = some (j, w)) (hj : gslot ops j = some dj) (hs : get dj = .c (.bool b)) (hy : b = w → yes) (hn : b ≠ w → no) : aguard ops o get yes no := by
  unfold gslot at hj
  obtain ⟨p, hp, hd⟩ := Option.bind_eq_some_iff.1 hj
  unfold aguard
  rw [hg]
  simp only [hp, hd, hs]
  exact ⟨hy, hn⟩
theorem ag_t {ops : List Oper} {o : Oper} {j dj : Nat} {w : Bool} {get : Nat → AV} {yes no : Prop} (hg : o.guard = some (j, w)) (hj : gslot ops j = some dj) (hs : get dj = .tup []) (hn : no) : aguard ops o get yes no := by
  unfold gslot at hj
  obtain ⟨p, hp, hd⟩ := Option.bind_eq_some_iff.1 hj
  unfold aguard
  rw [hg]
  simp only [hp, hd, hs]
  exact hn

section
variable {P : Program} {all r : List Oper} {d dj j : Nat} {op : Op} {ty : TypeId} {pos : String} {af : Array Edge} {fr : Fr} {σ : St} {K : Fr → St → Prop} {Kq : Fr → Prop} {v : AV} {b c w : Bool}
theorem o_p (hp : plainOp ⟨some d, op, ty, pos, af, none⟩ = true) (hv : Pv P ⟨some d, op, ty, pos, af, none⟩ fr.ev σ v) (h : aops mo P all r ((d, v) :: fr) σ K) : aops mo P all (⟨some d, op, ty, pos, af, none⟩ :: r) fr σ K := aopG_of <|
  aop_plain hp (hv _ h)
theorem q_p (hp : plainOp ⟨some d, op, ty, pos, af, none⟩ = true) (hv : Pv P ⟨some d, op, ty, pos, af, none⟩ fr.ev σ v) (h : aqw P all r ((d, v) :: fr) σ Kq) : aqw P all (⟨some d, op, ty, pos, af, none⟩ :: r) fr σ Kq := by
  rw [aqw_none]
  exact aqop_plain hp (hv _ ⟨rfl, rfl, h⟩)

def Qv (P : Program) (o : Oper) (fr : Fr) (σ : St) (v : AV) : Prop := ∀ K : AV → Prop, K v → aqop P o fr σ K
theorem qv_p {o : Oper} (hp : plainOp o = true) (hv : Pv P o fr.ev σ v) : Qv P o fr σ v := fun K h => aqop_plain hp (hv _ ⟨rfl, rfl, h⟩)
def Ov (P : Program) (o : Oper) (fr : Fr) (σ : St) (v : AV) : Prop := ∀ K : Fr → St → Prop, K (fr.put o.dst v) σ → aop P o fr σ K
theorem ov_p {o : Oper} (hp : plainOp o = true) (hv : Pv P o fr.ev σ v) : Ov P o fr σ v := fun K h => aop_plain hp (hv _ h)

theorem q_q (hv : Qv P ⟨some d, op, ty, pos, af, none⟩ fr σ v) (h : aqw P all r ((d, v) :: fr) σ Kq) : aqw P all (⟨some d, op, ty, pos, af, none⟩ :: r) fr σ Kq := by
  rw [aqw_none]
  exact hv _ h

/-- A guarded operation, the guard a slot that is always there. -/
theorem q_g (hj : gslot all j = some dj) (hs : fr.get dj = .c (.bool b)) (hv : (b == w) = true → Qv P ⟨some d, op, ty, pos, af, some (j, w)⟩ fr σ v) (h : aqw P all r ((d, gv (b == w) v) :: fr) σ Kq) : aqw P all (⟨some d, op, ty, pos, af, some (j, w)⟩ :: r) fr σ Kq := by
  refine ag_c rfl hj hs (fun e => ?_) (fun e => ?_)
  · have e' : (b == w) = true := by simp [e]
    refine hv e' _ ?_
    rw [e', gv, if_pos rfl] at h
    exact h
  · have e' : (b == w) = false := by simpa using e
    rw [e', gv, if_neg (by simp)] at h
    exact h
theorem o_g (hj : gslot all j = some dj) (hs : fr.get dj = .c (.bool b)) (hv : (b == w) = true → Ov P ⟨some d, op, ty, pos, af, some (j, w)⟩ fr σ v) (h : aops mo P all r ((d, gv (b == w) v) :: fr) σ K) : aops mo P all (⟨some d, op, ty, pos, af, some (j, w)⟩ :: r) fr σ K := by
  refine ag_c rfl hj hs (fun e => ?_) (fun e => ?_)
  · have e' : (b == w) = true := by simp [e]
    refine aopG_of (hv e' _ ?_)
    rw [e', gv, if_pos rfl] at h
    exact h
  · have e' : (b == w) = false := by simpa using e
    rw [e', gv, if_neg (by simp)] at h
    exact h
/-- A guarded operation, the guard a slot that may be skipped itself. -/
theorem q_gg (hj : gslot all j = some dj) (hs : fr.get dj = gv c (.c (.bool b))) (hv : (c && (b == w)) = true → Qv P ⟨some d, op, ty, pos, af, some (j, w)⟩ fr σ v) (h : aqw P all r ((d, gv (c && (b == w)) v) :: fr) σ Kq) : aqw P all (⟨some d, op, ty, pos, af, some (j, w)⟩ :: r) fr σ Kq := by
  cases c with
  | true =>
    rw [Bool.true_and] at h hv
    exact q_g hj (by rw [hs, gv, if_pos rfl]) hv h
  | false =>
    rw [gv, if_neg (by simp)] at hs
    rw [Bool.false_and, gv, if_neg (by simp)] at h
    exact ag_t rfl hj hs h
theorem o_gg (hj : gslot all j = some dj) (hs : fr.get dj = gv c (.c (.bool b))) (hv : (c && (b == w)) = true → Ov P ⟨some d, op, ty, pos, af, some (j, w)⟩ fr σ v) (h : aops mo P all r ((d, gv (c && (b == w)) v) :: fr) σ K) : aops mo P all (⟨some d, op, ty, pos, af, some (j, w)⟩ :: r) fr σ K := by
  cases c with
  | true =>
    rw [Bool.true_and] at h hv
    exact o_g hj (by rw [hs, gv, if_pos rfl]) hv h
  | false =>
    rw [gv, if_neg (by simp)] at hs
    rw [Bool.false_and, gv, if_neg (by simp)] at h
    exact ag_t rfl hj hs h

/-! a guard's way is known -/
theorem aop_guard {dst : Option Tmp} {g g' : Option (Nat × Bool)} : aop P ⟨dst, op, ty, pos, af, g⟩ fr σ K = aop P ⟨dst, op, ty, pos, af, g'⟩ fr σ K := by
  cases op
  case call c => obtain ⟨callee, args, argTypes⟩ := c; cases callee <;> first | rfl | (rename_i b; cases b <;> rfl)
  case slice t x lo hi mx => cases mx <;> rfl
  case makeFunc fn f cs => cases fn <;> rfl
  all_goals rfl
theorem aopM_guard {dst : Option Tmp} {g g' : Option (Nat × Bool)} : aopM P ⟨dst, op, ty, pos, af, g⟩ fr σ K = aopM P ⟨dst, op, ty, pos, af, g'⟩ fr σ K := by
  have h1 : ∀ fr σ, amst P ⟨dst, op, ty, pos, af, g⟩ fr σ K = amst P ⟨dst, op, ty, pos, af, g'⟩ fr σ K := fun fr σ => by cases op <;> rfl
  have h2 : ∀ fr σ, aop P ⟨dst, op, ty, pos, af, g⟩ fr σ K = aop P ⟨dst, op, ty, pos, af, g'⟩ fr σ K := fun fr σ => aop_guard
  have h3 : ∀ fr σ, acallB P ⟨dst, op, ty, pos, af, g⟩ fr σ K = acallB P ⟨dst, op, ty, pos, af, g'⟩ fr σ K := fun fr σ => by cases op <;> rfl
  simp only [aopM, h1, h2, h3]
theorem aopG_guard {dst : Option Tmp} {g g' : Option (Nat × Bool)} : aopG mo P ⟨dst, op, ty, pos, af, g⟩ fr σ K = aopG mo P ⟨dst, op, ty, pos, af, g'⟩ fr σ K := by
  cases mo
  · exact aop_guard
  · exact aopM_guard
theorem o_yes {dst : Option Tmp} (hj : gslot all j = some dj) (hs : fr.get dj = .c (.bool b)) (hb : b = w) (h : aops mo P all (⟨dst, op, ty, pos, af, none⟩ :: r) fr σ K) : aops mo P all (⟨dst, op, ty, pos, af, some (j, w)⟩ :: r) fr σ K :=
  ag_c rfl hj hs (fun _ => by rw [aopG_guard (g' := none)]; exact h) (fun e => absurd hb e)
theorem o_no {dst : Option Tmp} (hj : gslot all j = some dj) (hs : fr.get dj = .c (.bool b)) (hb : b = !w) (h : aops mo P all r (fr.put dst (.tup [])) σ K) : aops mo P all (⟨dst, op, ty, pos, af, some (j, w)⟩ :: r) fr σ K :=
  ag_c rfl hj hs (fun e => by subst e; cases b <;> simp at hb) (fun _ => h)
theorem o_skip {dst : Option Tmp} (hj : gslot all j = some dj) (hs : fr.get dj = .tup []) (h : aops mo P all r (fr.put dst (.tup [])) σ K) : aops mo P all (⟨dst, op, ty, pos, af, some (j, w)⟩ :: r) fr σ K :=
  ag_t rfl hj hs h
theorem o_nil (h : K fr σ) : aops mo P all [] fr σ K := h
theorem q_nil (h : Kq fr) : aqw P all [] fr σ Kq := h
theorem o_nilD (h : K fr σ) : aops mo P all (List.drop 0 []) fr σ K := h
end

/-! ### The plain operations -/
section
variable {P : Program} {d : Option Tmp} {ty : TypeId} {pos : String} {af : Array Edge} {gd : Option (Nat × Bool)} {ev : Operand → AV} {σ : St} {x y z : Operand} {t t2 : TypeId} {k k' : IntKind} {a b : Int} {v : AV}

theorem p_move (hx : ev x = v) : Pv P ⟨d, .move x, ty, pos, af, gd⟩ ev σ v := fun K h => by (refine .inl ?_; simp only [aval0]); rw [hx]; exact h
theorem p_assign (hx : ev x = v) : Pv P ⟨d, .assign x, ty, pos, af, gd⟩ ev σ v := fun K h => by (refine .inl ?_; simp only [aval0]); rw [hx]; exact h
theorem p_pick {q p1 p2 : Bool} (hx : ev x = .c (.bool q)) (hy : ev y = .c (.bool p1)) (hz : ev z = .c (.bool p2)) : Pv P ⟨d, .pick x y z, ty, pos, af, gd⟩ ev σ (.c (.bool (cond q p1 p2))) := fun K h => by
  (refine .inl ?_; simp only [aval0, hx, hy, hz])
  cases q <;> exact h
theorem p_picky {q p1 p2 c : Bool} (hx : ev x = .c (.bool q)) (hy : ev y = gv c (.c (.bool p1))) (hz : ev z = .c (.bool p2)) (hc : q = true → c = true) : Pv P ⟨d, .pick x y z, ty, pos, af, gd⟩ ev σ (.c (.bool (cond q p1 p2))) := by
  cases c with
  | true => exact p_pick hx (by rw [hy, gv, if_pos rfl]) hz
  | false =>
    cases q with
    | true => cases hc rfl
    | false =>
      intro K h
      (refine .inl ?_; simp only [aval0, hx, hy, hz, gv, if_neg (show ¬ (false = true) by simp)])
      exact ⟨fun e => (by cases e), fun _ => h⟩
theorem p_pickz {q p1 p2 c : Bool} (hx : ev x = .c (.bool q)) (hy : ev y = .c (.bool p1)) (hz : ev z = gv c (.c (.bool p2))) (hc : q = false → c = true) : Pv P ⟨d, .pick x y z, ty, pos, af, gd⟩ ev σ (.c (.bool (cond q p1 p2))) := by
  cases c with
  | true => exact p_pick hx hy (by rw [hz, gv, if_pos rfl])
  | false =>
    cases q with
    | false => cases hc rfl
    | true =>
      intro K h
      (refine .inl ?_; simp only [aval0, hx, hy, hz, gv, if_neg (show ¬ (false = true) by simp)])
      exact ⟨fun _ => h, fun e => (by cases e)⟩

theorem p_load {id off n : Nat} {cs : List AV} (ht : tyVar P t = some (false, n)) (hx : ev x = .box id off) (hs : σ[id]? = some cs) (hc : cs[off]? = some v) : Pv P ⟨d, .load t x, ty, pos, af, gd⟩ ev σ v := fun K h => by
  (refine .inl ?_; simp only [aval0, ht, hx, aload, hs, hc]); exact h
theorem p_loads {id off n : Nat} {cs us : List AV} (ht : tyVar P t = some (true, n)) (hx : ev x = .box id off) (hs : σ[id]? = some cs) (hn : Nat.ble (off + n) cs.length = true) (hc : (cs.drop off).take n = us) : Pv P ⟨d, .load t x, ty, pos, af, gd⟩ ev σ (.agg us) := fun K h => by
  (refine .inl ?_; simp only [aval0, ht, hx, aload, hs]); subst hc; exact ⟨by rw [Nat.ble_eq] at hn; exact hn, h⟩
theorem p_loade {off n : Nat} {cs : List PV} {p : PV} (ht : tyVar P t = some (false, n)) (hx : ev x = .eptr cs off) (hc : cs[off]? = some p) : Pv P ⟨d, .load t x, ty, pos, af, gd⟩ ev σ (.c p) := fun K h => by
  (refine .inl ?_; simp only [aval0, ht, hx, aload, hc]); exact h
theorem p_loades {off n : Nat} {cs us : List PV} (ht : tyVar P t = some (true, n)) (hx : ev x = .eptr cs off) (hn : Nat.ble (off + n) cs.length = true) (hc : (cs.drop off).take n = us) : Pv P ⟨d, .load t x, ty, pos, af, gd⟩ ev σ (.agg (AV.cs us)) := fun K h => by
  (refine .inl ?_; simp only [aval0, ht, hx, aload]); subst hc; exact ⟨by rw [Nat.ble_eq] at hn; exact hn, h⟩
theorem p_loadp {n : Nat} {p : Nat × Nat} (ht : tyVar P t = some (false, n)) (hx : ev x = .pptr p) : Pv P ⟨d, .load t x, ty, pos, af, gd⟩ ev σ (.box p.1 p.2) := fun K h => by
  (refine .inl ?_; simp only [aval0, ht, hx, aload]); exact ⟨trivial, h⟩
theorem p_nc {i m : Nat} (hx : ev x = .box i m) : Pv P ⟨d, .nilCheck x, ty, pos, af, gd⟩ ev σ (.box i m) := fun K h => by (refine .inl ?_; simp only [aval0, hx]); exact h
theorem p_nce {cs : List PV} {m : Nat} (hx : ev x = .eptr cs m) : Pv P ⟨d, .nilCheck x, ty, pos, af, gd⟩ ev σ (.eptr cs m) := fun K h => by (refine .inl ?_; simp only [aval0, hx]); exact h
theorem p_ncf {f : FuncId} {cs : List AV} (hx : ev x = .fn f cs) : Pv P ⟨d, .nilCheck x, ty, pos, af, gd⟩ ev σ (.fn f cs) := fun K h => by (refine .inl ?_; simp only [aval0, hx]); exact h

theorem p_add (hx : ev x = .c (.int k a)) (hy : ev y = .c (.int k b)) : Pv P ⟨d, .binOp .add t x y t2, ty, pos, af, gd⟩ ev σ (.c (.int k (k.wrap (a + b)))) := fun K h => by (refine .inl ?_; simp only [aval0, abin, hx, hy]); exact ⟨trivial, h⟩
theorem p_sub (hx : ev x = .c (.int k a)) (hy : ev y = .c (.int k b)) : Pv P ⟨d, .binOp .sub t x y t2, ty, pos, af, gd⟩ ev σ (.c (.int k (k.wrap (a - b)))) := fun K h => by (refine .inl ?_; simp only [aval0, abin, hx, hy]); exact ⟨trivial, h⟩
theorem p_mul (hx : ev x = .c (.int k a)) (hy : ev y = .c (.int k b)) : Pv P ⟨d, .binOp .mul t x y t2, ty, pos, af, gd⟩ ev σ (.c (.int k (k.wrap (a * b)))) := fun K h => by (refine .inl ?_; simp only [aval0, abin, hx, hy]); exact ⟨trivial, h⟩
theorem p_quo (hx : ev x = .c (.int k a)) (hy : ev y = .c (.int k b)) (h0 : b ≠ 0) : Pv P ⟨d, .binOp .quo t x y t2, ty, pos, af, gd⟩ ev σ (.c (.int k (k.wrap (a.tdiv b)))) := fun K h => by (refine .inl ?_; simp only [aval0, abin, hx, hy]); exact ⟨trivial, h0, h⟩
theorem p_rem (hx : ev x = .c (.int k a)) (hy : ev y = .c (.int k b)) (h0 : b ≠ 0) : Pv P ⟨d, .binOp .rem t x y t2, ty, pos, af, gd⟩ ev σ (.c (.int k (a.tmod b))) := fun K h => by (refine .inl ?_; simp only [aval0, abin, hx, hy]); exact ⟨trivial, h0, h⟩
theorem p_eql (hx : ev x = .c (.int k a)) (hy : ev y = .c (.int k b)) : Pv P ⟨d, .binOp .eql t x y t2, ty, pos, af, gd⟩ ev σ (.c (.bool (decide (a = b)))) := fun K h => by (refine .inl ?_; simp only [aval0, abin, hx, hy]); exact ⟨trivial, h⟩
theorem p_neq (hx : ev x = .c (.int k a)) (hy : ev y = .c (.int k b)) : Pv P ⟨d, .binOp .neq t x y t2, ty, pos, af, gd⟩ ev σ (.c (.bool (!decide (a = b)))) := fun K h => by (refine .inl ?_; simp only [aval0, abin, hx, hy]); exact ⟨trivial, h⟩
theorem p_lss (hx : ev x = .c (.int k a)) (hy : ev y = .c (.int k b)) : Pv P ⟨d, .binOp .lss t x y t2, ty, pos, af, gd⟩ ev σ (.c (.bool (decide (a < b)))) := fun K h => by (refine .inl ?_; simp only [aval0, abin, hx, hy]); exact ⟨trivial, h⟩
theorem p_leq (hx : ev x = .c (.int k a)) (hy : ev y = .c (.int k b)) : Pv P ⟨d, .binOp .leq t x y t2, ty, pos, af, gd⟩ ev σ (.c (.bool (decide (a ≤ b)))) := fun K h => by (refine .inl ?_; simp only [aval0, abin, hx, hy]); exact ⟨trivial, h⟩
theorem p_gtr (hx : ev x = .c (.int k a)) (hy : ev y = .c (.int k b)) : Pv P ⟨d, .binOp .gtr t x y t2, ty, pos, af, gd⟩ ev σ (.c (.bool (decide (b < a)))) := fun K h => by (refine .inl ?_; simp only [aval0, abin, hx, hy]); exact ⟨trivial, h⟩
theorem p_geq (hx : ev x = .c (.int k a)) (hy : ev y = .c (.int k b)) : Pv P ⟨d, .binOp .geq t x y t2, ty, pos, af, gd⟩ ev σ (.c (.bool (decide (b ≤ a)))) := fun K h => by (refine .inl ?_; simp only [aval0, abin, hx, hy]); exact ⟨trivial, h⟩
theorem p_and (hx : ev x = .c (.int k a)) (hy : ev y = .c (.int k b)) : Pv P ⟨d, .binOp .and t x y t2, ty, pos, af, gd⟩ ev σ (.c (.int k (abits .and k a b))) := fun K h => by (refine .inl ?_; simp only [aval0, abin, hx, hy]); exact ⟨trivial, h⟩
theorem p_or (hx : ev x = .c (.int k a)) (hy : ev y = .c (.int k b)) : Pv P ⟨d, .binOp .or t x y t2, ty, pos, af, gd⟩ ev σ (.c (.int k (abits .or k a b))) := fun K h => by (refine .inl ?_; simp only [aval0, abin, hx, hy]); exact ⟨trivial, h⟩
theorem p_xor (hx : ev x = .c (.int k a)) (hy : ev y = .c (.int k b)) : Pv P ⟨d, .binOp .xor t x y t2, ty, pos, af, gd⟩ ev σ (.c (.int k (abits .xor k a b))) := fun K h => by (refine .inl ?_; simp only [aval0, abin, hx, hy]); exact ⟨trivial, h⟩
theorem p_andNot (hx : ev x = .c (.int k a)) (hy : ev y = .c (.int k b)) : Pv P ⟨d, .binOp .andNot t x y t2, ty, pos, af, gd⟩ ev σ (.c (.int k (abits .andNot k a b))) := fun K h => by (refine .inl ?_; simp only [aval0, abin, hx, hy]); exact ⟨trivial, h⟩
theorem p_shl (hx : ev x = .c (.int k a)) (hy : ev y = .c (.int k' b)) (h0 : 0 ≤ b) : Pv P ⟨d, .binOp .shl t x y t2, ty, pos, af, gd⟩ ev σ (.c (.int k (k.wrap (a * 2 ^ (min b.toNat k.bits))))) := fun K h => by (refine .inl ?_; simp only [aval0, abin, hx, hy]); exact ⟨h0, h⟩
theorem p_shr (hx : ev x = .c (.int k a)) (hy : ev y = .c (.int k' b)) (h0 : 0 ≤ b) : Pv P ⟨d, .binOp .shr t x y t2, ty, pos, af, gd⟩ ev σ (.c (.int k (a.fdiv (2 ^ (min b.toNat k.bits))))) := fun K h => by (refine .inl ?_; simp only [aval0, abin, hx, hy]); exact ⟨h0, h⟩
theorem p_sadd {s u : List UInt8} (hx : ev x = .c (.str s)) (hy : ev y = .c (.str u)) (h0 : s.length + u.length ≤ 9223372036854775807) : Pv P ⟨d, .binOp .add t x y t2, ty, pos, af, gd⟩ ev σ (.c (.str (s ++ u))) := fun K h => by (refine .inl ?_; simp only [aval0, abin, hx, hy]); exact ⟨h0, h⟩
theorem p_seql {s u : List UInt8} (hx : ev x = .c (.str s)) (hy : ev y = .c (.str u)) : Pv P ⟨d, .binOp .eql t x y t2, ty, pos, af, gd⟩ ev σ (.c (.bool (decide (s = u)))) := fun K h => by (refine .inl ?_; simp only [aval0, abin, hx, hy]); exact h
theorem p_sneq {s u : List UInt8} (hx : ev x = .c (.str s)) (hy : ev y = .c (.str u)) : Pv P ⟨d, .binOp .neq t x y t2, ty, pos, af, gd⟩ ev σ (.c (.bool (!decide (s = u)))) := fun K h => by (refine .inl ?_; simp only [aval0, abin, hx, hy]); exact h
theorem p_slss {s u : List UInt8} (hx : ev x = .c (.str s)) (hy : ev y = .c (.str u)) : Pv P ⟨d, .binOp .lss t x y t2, ty, pos, af, gd⟩ ev σ (.c (.bool (Op.bytesLess s u))) := fun K h => by (refine .inl ?_; simp only [aval0, abin, hx, hy]); exact h
theorem p_sleq {s u : List UInt8} (hx : ev x = .c (.str s)) (hy : ev y = .c (.str u)) : Pv P ⟨d, .binOp .leq t x y t2, ty, pos, af, gd⟩ ev σ (.c (.bool (Op.bytesLess s u || decide (s = u)))) := fun K h => by (refine .inl ?_; simp only [aval0, abin, hx, hy]); exact h
theorem p_sgtr {s u : List UInt8} (hx : ev x = .c (.str s)) (hy : ev y = .c (.str u)) : Pv P ⟨d, .binOp .gtr t x y t2, ty, pos, af, gd⟩ ev σ (.c (.bool (!(Op.bytesLess s u || decide (s = u))))) := fun K h => by (refine .inl ?_; simp only [aval0, abin, hx, hy]); exact h
theorem p_sgeq {s u : List UInt8} (hx : ev x = .c (.str s)) (hy : ev y = .c (.str u)) : Pv P ⟨d, .binOp .geq t x y t2, ty, pos, af, gd⟩ ev σ (.c (.bool (!Op.bytesLess s u))) := fun K h => by (refine .inl ?_; simp only [aval0, abin, hx, hy]); exact h
theorem p_beql {p q : Bool} (ht : tyIs P t = 4) (hx : ev x = .c (.bool p)) (hy : ev y = .c (.bool q)) : Pv P ⟨d, .binOp .eql t x y t2, ty, pos, af, gd⟩ ev σ (.c (.bool (p == q))) := fun K h => by (refine .inl ?_; simp only [aval0, abin, hx, hy]); exact ⟨ht, h⟩
theorem p_bneq {p q : Bool} (ht : tyIs P t = 4) (hx : ev x = .c (.bool p)) (hy : ev y = .c (.bool q)) : Pv P ⟨d, .binOp .neq t x y t2, ty, pos, af, gd⟩ ev σ (.c (.bool (!(p == q)))) := fun K h => by (refine .inl ?_; simp only [aval0, abin, hx, hy]); exact ⟨ht, h⟩
theorem p_peql {i m : Nat} (ht : tyIs P t = 5) (hx : ev x = .box i m) (hy : ev y = .nilptr) : Pv P ⟨d, .binOp .eql t x y t2, ty, pos, af, gd⟩ ev σ (.c (.bool false)) := fun K h => by (refine .inl ?_; simp only [aval0, abin, hx, hy]); exact ⟨ht, h⟩
theorem p_pneq {i m : Nat} (ht : tyIs P t = 5) (hx : ev x = .box i m) (hy : ev y = .nilptr) : Pv P ⟨d, .binOp .neq t x y t2, ty, pos, af, gd⟩ ev σ (.c (.bool true)) := fun K h => by (refine .inl ?_; simp only [aval0, abin, hx, hy]); exact ⟨ht, h⟩
theorem p_neql (ht : tyIs P t = 5) (hx : ev x = .nilptr) (hy : ev y = .nilptr) : Pv P ⟨d, .binOp .eql t x y t2, ty, pos, af, gd⟩ ev σ (.c (.bool true)) := fun K h => by (refine .inl ?_; simp only [aval0, abin, hx, hy]); exact ⟨ht, h⟩
theorem p_nneq (ht : tyIs P t = 5) (hx : ev x = .nilptr) (hy : ev y = .nilptr) : Pv P ⟨d, .binOp .neq t x y t2, ty, pos, af, gd⟩ ev σ (.c (.bool false)) := fun K h => by (refine .inl ?_; simp only [aval0, abin, hx, hy]); exact ⟨ht, h⟩
theorem p_not {p : Bool} (hx : ev x = .c (.bool p)) : Pv P ⟨d, .unOp .not t x, ty, pos, af, gd⟩ ev σ (.c (.bool (!p))) := fun K h => by (refine .inl ?_; simp only [aval0, hx]); exact h
theorem p_neg (hx : ev x = .c (.int k a)) : Pv P ⟨d, .unOp .neg t x, ty, pos, af, gd⟩ ev σ (.c (.int k (k.wrap (0 - a)))) := fun K h => by (refine .inl ?_; simp only [aval0, hx]); exact h
theorem p_conv {kd ks : IntKind} (hs : tyInt P t = some ks) (hd : tyInt P t2 = some kd) (hx : ev x = .c (.int k a)) : Pv P ⟨d, .convert t t2 x, ty, pos, af, gd⟩ ev σ (.c (.int kd (kd.wrap a))) := fun K h => by (refine .inl ?_; simp only [aval0, hx, hd, hs]); exact h
theorem p_convss {s : List UInt8} (hs : tyIs P t = 2) (hd : tyIs P t2 = 2) (hx : ev x = .c (.str s)) : Pv P ⟨d, .convert t t2 x, ty, pos, af, gd⟩ ev σ (.c (.str s)) := fun K h => by (refine .inl ?_; simp only [aval0, hx]); exact ⟨hs, hd, h⟩
theorem p_convbs {sz : Nat} {xs : List UInt8} (hs : aval0.tyBytes P t) (hd : tyIs P t2 = 2) (hx : isl (ev x) sz brow xs) : Pv P ⟨d, .convert t t2 x, ty, pos, af, gd⟩ ev σ (.c (.str xs)) := fun K h => by
  rcases hx with hx | ⟨_, hx⟩ <;> (refine .inl ?_; simp only [aval0, hx, PV.ls, AV.os]) <;> exact ⟨hs, hd, xs, rfl, h⟩
theorem p_convns (hs : aval0.tyBytes P t) (hd : tyIs P t2 = 2) (hx : ev x = .nil) : Pv P ⟨d, .convert t t2 x, ty, pos, af, gd⟩ ev σ (.c (.str [])) := fun K h => by
  (refine .inl ?_; simp only [aval0, hx]); exact ⟨hs, hd, h⟩
theorem p_func {f : FuncId} {first captured : Array Operand} {cs : List AV} (hf : first = #[]) (hc : captured.toList.map ev = cs) : Pv P ⟨d, .makeFunc (.func f) first captured, ty, pos, af, gd⟩ ev σ (.fn f cs) := fun K h => by
  (refine .inl ?_; simp only [aval0]); subst hc; exact ⟨hf, h⟩

def lmap (ev : Operand → AV) : List (Nat × Operand) → List (Nat × AV) → Prop
  | [], [] => True
  | (i, x) :: r, (j, v) :: l => i = j ∧ ev x = v ∧ lmap ev r l
  | _, _ => False
def afillX (places : Nat → Option (Nat × Nat)) : List AV → List (Nat × AV) → Option (List AV)
  | cs, [] => some cs
  | cs, (i, v) :: r => match places i with
    | some (off, n) => if v.solid && v.cells.length == n && Nat.ble (off + n) cs.length then afillX places (cs.take off ++ (v.cells ++ cs.drop (off + n))) r else .none
    | _ => .none

/-! slices -/
theorem b_n {n : Nat} {kk : Nat → Nat → Prop} (h : kk 0 n) : abounds .none .none n kk := h
theorem b_l {n : Nat} {a : AV} {l : Int} {kk : Nat → Nat → Prop} (ha : a = .c (.int k l)) (h0 : 0 ≤ l ∧ l ≤ n) (h : kk l.toNat n) : abounds (some a) .none n kk := by subst ha; exact ⟨h0.1, h0.2, h⟩
theorem b_h {n : Nat} {a : AV} {l : Int} {kk : Nat → Nat → Prop} (ha : a = .c (.int k l)) (h0 : 0 ≤ l ∧ l ≤ n) (h : kk 0 l.toNat) : abounds .none (some a) n kk := by subst ha; exact ⟨h0.1, h0.2, h⟩
theorem b_b {n : Nat} {a a' : AV} {l l' : Int} {kk : Nat → Nat → Prop} (ha : a = .c (.int k l)) (ha' : a' = .c (.int k' l')) (h0 : 0 ≤ l ∧ l ≤ l' ∧ l' ≤ n) (h : kk l.toNat l'.toNat) : abounds (some a) (some a') n kk := by subst ha; subst ha'; exact ⟨h0.1, h0.2.1, h0.2.2, h⟩

theorem p_sl {α : Type} {e : TypeId} {sz by_ : Nat} {row : α → List PV} {xs : List α} {l h : Nat} {lo hi : Option Operand} (h7 : tyIs P t ≠ 7) (ht : tySlice P t = some (e, sz, by_)) (hx : isl (ev x) sz row xs)
    (hb : ∀ kk : Nat → Nat → Prop, kk l h → abounds (lo.map ev) (hi.map ev) xs.length kk) : Pv P ⟨d, .slice t x lo hi .none, ty, pos, af, gd⟩ ev σ (.c (PV.ls sz row ((xs.take h).drop l))) := fun K hk => by
  have e1 : PV.ls sz row ((xs.take h).drop l) = .list sz (((xs.map row).take h).drop l) := by simp [PV.ls, List.map_take, List.map_drop]
  rw [e1] at hk
  rcases hx with hx | ⟨t0, hx⟩ <;> (refine .inl ?_; simp only [aval0, hx, PV.ls, AV.os, aslice, ht]) <;> exact ⟨h7, trivial, by rw [List.length_map]; exact hb _ hk⟩
theorem p_slS {s : List UInt8} {l h : Nat} {lo hi : Option Operand} (h7 : tyIs P t = 2) (hx : ev x = .c (.str s))
    (hb : ∀ kk : Nat → Nat → Prop, kk l h → abounds (lo.map ev) (hi.map ev) s.length kk) : Pv P ⟨d, .slice t x lo hi .none, ty, pos, af, gd⟩ ev σ (.c (.str ((s.take h).drop l))) := fun K hk => by
  (refine .inl ?_; simp only [aval0, hx, aslice])
  exact ⟨by rw [h7]; decide, h7, hb _ hk⟩
theorem p_sl_n {α : Type} {e : TypeId} {sz by_ : Nat} {row : α → List PV} {xs : List α} (h7 : tyIs P t ≠ 7) (ht : tySlice P t = some (e, sz, by_)) (hx : isl (ev x) sz row xs) : Pv P ⟨d, .slice t x .none .none .none, ty, pos, af, gd⟩ ev σ (.c (PV.ls sz row xs)) := by
  have := p_sl (d := d) (ty := ty) (pos := pos) (af := af) (gd := gd) (σ := σ) (l := 0) (h := xs.length) (lo := .none) (hi := .none) h7 ht hx (fun kk => b_n)
  simpa using this
theorem p_sl_l {α : Type} {e : TypeId} {sz by_ : Nat} {row : α → List PV} {xs : List α} {l : Int} (h7 : tyIs P t ≠ 7) (ht : tySlice P t = some (e, sz, by_)) (hx : isl (ev x) sz row xs) (hy : ev y = .c (.int k l)) (h0 : 0 ≤ l ∧ l ≤ xs.length) : Pv P ⟨d, .slice t x (some y) .none .none, ty, pos, af, gd⟩ ev σ (.c (PV.ls sz row (xs.drop l.toNat))) := by
  have := p_sl (d := d) (ty := ty) (pos := pos) (af := af) (gd := gd) (σ := σ) (l := l.toNat) (h := xs.length) (lo := some y) (hi := .none) h7 ht hx (fun kk => b_l hy h0)
  simpa using this
theorem p_sl_h {α : Type} {e : TypeId} {sz by_ : Nat} {row : α → List PV} {xs : List α} {l : Int} (h7 : tyIs P t ≠ 7) (ht : tySlice P t = some (e, sz, by_)) (hx : isl (ev x) sz row xs) (hy : ev y = .c (.int k l)) (h0 : 0 ≤ l ∧ l ≤ xs.length) : Pv P ⟨d, .slice t x .none (some y) .none, ty, pos, af, gd⟩ ev σ (.c (PV.ls sz row (xs.take l.toNat))) := by
  have := p_sl (d := d) (ty := ty) (pos := pos) (af := af) (gd := gd) (σ := σ) (l := 0) (h := l.toNat) (lo := .none) (hi := some y) h7 ht hx (fun kk => b_h hy h0)
  simpa using this
theorem p_sl_b {α : Type} {e : TypeId} {sz by_ : Nat} {row : α → List PV} {xs : List α} {l h : Int} (h7 : tyIs P t ≠ 7) (ht : tySlice P t = some (e, sz, by_)) (hx : isl (ev x) sz row xs) (hy : ev y = .c (.int k l)) (hz : ev z = .c (.int k' h)) (h0 : 0 ≤ l ∧ l ≤ h ∧ h ≤ xs.length) : Pv P ⟨d, .slice t x (some y) (some z) .none, ty, pos, af, gd⟩ ev σ (.c (PV.ls sz row ((xs.take h.toNat).drop l.toNat))) :=
  p_sl (l := l.toNat) (h := h.toNat) (lo := some y) (hi := some z) h7 ht hx (fun kk => b_b hy hz h0)
theorem p_slS_l {s : List UInt8} {l : Int} (h7 : tyIs P t = 2) (hx : ev x = .c (.str s)) (hy : ev y = .c (.int k l)) (h0 : 0 ≤ l ∧ l ≤ s.length) : Pv P ⟨d, .slice t x (some y) .none .none, ty, pos, af, gd⟩ ev σ (.c (.str (s.drop l.toNat))) := by
  have := p_slS (P := P) (d := d) (ty := ty) (pos := pos) (af := af) (gd := gd) (σ := σ) (l := l.toNat) (h := s.length) (lo := some y) (hi := .none) h7 hx (fun kk => b_l hy h0)
  simpa using this
theorem p_slS_h {s : List UInt8} {l : Int} (h7 : tyIs P t = 2) (hx : ev x = .c (.str s)) (hy : ev y = .c (.int k l)) (h0 : 0 ≤ l ∧ l ≤ s.length) : Pv P ⟨d, .slice t x .none (some y) .none, ty, pos, af, gd⟩ ev σ (.c (.str (s.take l.toNat))) := by
  have := p_slS (P := P) (d := d) (ty := ty) (pos := pos) (af := af) (gd := gd) (σ := σ) (l := 0) (h := l.toNat) (lo := .none) (hi := some y) h7 hx (fun kk => b_h hy h0)
  simpa using this
theorem p_slS_b {s : List UInt8} {l h : Int} (h7 : tyIs P t = 2) (hx : ev x = .c (.str s)) (hy : ev y = .c (.int k l)) (hz : ev z = .c (.int k' h)) (h0 : 0 ≤ l ∧ l ≤ h ∧ h ≤ s.length) : Pv P ⟨d, .slice t x (some y) (some z) .none, ty, pos, af, gd⟩ ev σ (.c (.str ((s.take h.toNat).drop l.toNat))) :=
  p_slS (l := l.toNat) (h := h.toNat) (lo := some y) (hi := some z) h7 hx (fun kk => b_b hy hz h0)

theorem p_len {α : Type} {sz : Nat} {row : α → List PV} {xs : List α} (ht : tyIs P t = 3) (hx : isl (ev x) sz row xs) : Pv P ⟨d, .call { callee := .builtin .len, args := #[x], argTypes := #[t] }, ty, pos, af, gd⟩ ev σ (.c (.int .i64 xs.length)) := fun K h => by
  rcases hx with hx | ⟨_, hx⟩ <;> (refine .inl ?_; simp only [aval0, hx, alen, PV.ls, AV.os, List.length_map]) <;> exact ⟨ht, h⟩
theorem p_lenn (ht : tyIs P t = 3) (hx : ev x = .nil) : Pv P ⟨d, .call { callee := .builtin .len, args := #[x], argTypes := #[t] }, ty, pos, af, gd⟩ ev σ (.c (.int .i64 0)) := fun K h => by (refine .inl ?_; simp only [aval0, hx, alen]); exact ⟨ht, h⟩
theorem p_lens {s : List UInt8} (ht : tyIs P t = 2) (hx : ev x = .c (.str s)) : Pv P ⟨d, .call { callee := .builtin .len, args := #[x], argTypes := #[t] }, ty, pos, af, gd⟩ ev σ (.c (.int .i64 s.length)) := fun K h => by (refine .inl ?_; simp only [aval0, hx, alen]); exact ⟨ht, h⟩
theorem p_lenp {l : List (Nat × Nat)} (ht : tyIs P t = 3) (hx : ev x = .ptrs l) : Pv P ⟨d, .call { callee := .builtin .len, args := #[x], argTypes := #[t] }, ty, pos, af, gd⟩ ev σ (.c (.int .i64 l.length)) := fun K h => by (refine .inl ?_; simp only [aval0, hx, alen]); exact ⟨ht, h⟩
theorem p_max {ts : Array TypeId} (hx : ev x = .c (.int k a)) (hy : ev y = .c (.int k' b)) : Pv P ⟨d, .call { callee := .builtin .max, args := #[x, y], argTypes := ts }, ty, pos, af, gd⟩ ev σ (.c (.int k (if b > a then b else a))) := fun K h => by (refine .inl ?_; simp only [aval0, hx, hy]); exact h
theorem p_min {ts : Array TypeId} (hx : ev x = .c (.int k a)) (hy : ev y = .c (.int k' b)) : Pv P ⟨d, .call { callee := .builtin .min, args := #[x, y], argTypes := ts }, ty, pos, af, gd⟩ ev σ (.c (.int k (if b < a then b else a))) := fun K h => by (refine .inl ?_; simp only [aval0, hx, hy]); exact h
theorem p_fa {f k0 n id off : Nat} {ag : Bool} (ht : tyField P t f = some (k0, ag, n)) (hx : ev x = .box id off) : Pv P ⟨d, .fieldAddr t x f, ty, pos, af, gd⟩ ev σ (.box id (off + k0)) := fun K h => by (refine .inl ?_; simp only [aval0, ht, hx]); exact h
theorem p_fae {f k0 n off : Nat} {ag : Bool} {cs : List PV} (ht : tyField P t f = some (k0, ag, n)) (hx : ev x = .eptr cs off) : Pv P ⟨d, .fieldAddr t x f, ty, pos, af, gd⟩ ev σ (.eptr cs (off + k0)) := fun K h => by (refine .inl ?_; simp only [aval0, ht, hx]); exact h
theorem p_f {f k0 n : Nat} {cs : List AV} (ht : tyField P t f = some (k0, false, n)) (hx : ev x = .agg cs) (hc : cs[k0]? = some v) : Pv P ⟨d, .field t x f, ty, pos, af, gd⟩ ev σ v := fun K h => by (refine .inl ?_; simp only [aval0, ht, hx, hc]); exact h
theorem p_fs {f k0 n : Nat} {cs us : List AV} (ht : tyField P t f = some (k0, true, n)) (hx : ev x = .agg cs) (hn : Nat.ble (k0 + n) cs.length = true) (hc : (cs.drop k0).take n = us) : Pv P ⟨d, .field t x f, ty, pos, af, gd⟩ ev σ (.agg us) := fun K h => by
  (refine .inl ?_; simp only [aval0, ht, hx]); subst hc; exact ⟨by rw [Nat.ble_eq] at hn; exact hn, h⟩
theorem p_ia {α : Type} {e : TypeId} {sz by_ : Nat} {row : α → List PV} {xs : List α} {i : Int} {u : α} {cs : List PV} (ht : tySlice P t = some (e, sz, by_)) (hx : isl (ev x) sz row xs) (hy : ev y = .c (.int k i)) (hg : idx xs i = some u) (he : row u = cs) : Pv P ⟨d, .indexAddr t x y, ty, pos, af, gd⟩ ev σ (.eptr cs 0) := fun K h => by
  obtain ⟨h0, h1, h2⟩ := idx_some hg
  subst he
  have key : ∀ r, (xs.map row)[i.toNat]? = some r → K .none (.eptr r 0) σ := fun r hr => by
    rw [List.getElem?_map, h2] at hr
    simp at hr
    subst hr
    exact h
  rcases hx with hx | ⟨_, hx⟩ <;> (refine .inl ?_; simp only [aval0, ht, hx, hy, PV.ls, AV.os]) <;> exact ⟨trivial, h0, by rw [List.length_map]; exact h1, key⟩
theorem p_iap {e : TypeId} {by_ : Nat} {l : List (Nat × Nat)} {i : Int} {p : Nat × Nat} (ht : tySlice P t = some (e, 1, by_)) (hx : ev x = .ptrs l) (hy : ev y = .c (.int k i)) (hg : idx l i = some p) : Pv P ⟨d, .indexAddr t x y, ty, pos, af, gd⟩ ev σ (.pptr p) := fun K h => by
  obtain ⟨h0, h1, h2⟩ := idx_some hg
  (refine .inl ?_; simp only [aval0, ht, hx, hy])
  exact ⟨trivial, h0, h1, fun q hq => by rw [h2] at hq; cases hq; exact h⟩
theorem p_is {s : List UInt8} {i : Int} {u : UInt8} (ht : tyIs P t = 2) (hx : ev x = .c (.str s)) (hy : ev y = .c (.int k i)) (hg : idx s i = some u) : Pv P ⟨d, .index t x y, ty, pos, af, gd⟩ ev σ (.c (.int .u8 u.toNat)) := fun K h => by
  obtain ⟨h0, h1, h2⟩ := idx_some hg
  (refine .inl ?_; simp only [aval0, hx, hy])
  exact ⟨ht, h0, h1, fun q hq => by rw [h2] at hq; cases hq; exact h⟩
theorem p_ex {vs : List AV} {i : Nat} (hx : ev x = .tup vs) (hv : vs[i]? = some v) : Pv P ⟨d, .extract x i, ty, pos, af, gd⟩ ev σ v := fun K h => by (refine .inl ?_; simp only [aval0, hx, hv]); exact h

def afillW (places : Nat → Option (Nat × Nat)) (ev : Operand → AV) : List AV → List (Nat × Operand) → Option (List AV)
  | cs, [] => some cs
  | cs, (i, x) :: r => match places i with
    | some (off, n) => if (ev x).solid && (ev x).cells.length == n && Nat.ble (off + n) cs.length then afillW places ev (cs.take off ++ ((ev x).cells ++ cs.drop (off + n))) r else .none
    | _ => .none
theorem afillW_eq {places : Nat → Option (Nat × Nat)} (hp : ∀ i, tyPlace P t i = places i) : ∀ (parts : List (Nat × Operand)) (cs us : List AV), afillW places ev cs parts = some us → afill P t ev cs parts = some us
  | [], cs, us, h => h
  | (i, x) :: r, cs, us, h => by
    simp only [afillW] at h
    simp only [afill, hp i]
    split at h
    · rename_i off n hpl
      rw [hpl]
      simp only
      split at h
      · rename_i hc
        simp only [Bool.and_eq_true, beq_iff_eq, Nat.ble_eq] at hc
        rw [if_pos ⟨hc.1.1, hc.1.2, hc.2⟩, List.append_assoc]
        exact afillW_eq hp r _ _ h
      · cases h
    · cases h
theorem p_build {parts : Array (Nat × Operand)} {z : List Value} {places : Nat → Option (Nat × Nat)} {cs : List AV} (h6 : tyIs P t = 6 ∧ tyOk P t = true ∧ tyZero P t = some z ∧ ∀ i, tyPlace P t i = places i) (hc : afillW places ev (z.map AV.ofFlat) parts.toList = some cs) : Pv P ⟨d, .build t parts, ty, pos, af, gd⟩ ev σ (.agg cs) := fun K h => by
  (refine .inl ?_; simp only [aval0, h6.2.2.1, afillW_eq h6.2.2.2 _ _ _ hc])
  exact ⟨h6.1, h6.2.1, h⟩
theorem afillX_eq {places : Nat → Option (Nat × Nat)} : ∀ (parts : List (Nat × Operand)) (l : List (Nat × AV)) (cs us : List AV), lmap ev parts l → afillX places cs l = some us → afillW places ev cs parts = some us
  | [], [], cs, us, _, h => h
  | (i, x) :: r, (j, v) :: l, cs, us, hl, h => by
    obtain ⟨hij, hxv, hl⟩ := hl
    subst hij
    subst hxv
    simp only [afillX] at h
    simp only [afillW]
    cases hpl : places i with
    | none => simp [hpl] at h
    | some q =>
      obtain ⟨off, n⟩ := q
      simp only [hpl] at h ⊢
      split at h
      · rename_i hc
        rw [if_pos hc]
        exact afillX_eq r l _ _ hl h
      · cases h
  | [], _ :: _, _, _, hl, _ => hl.elim
  | _ :: _, [], _, _, hl, _ => by simp [lmap] at hl
theorem fill_nil {places : Nat → Option (Nat × Nat)} {cs : List AV} : afillW places ev cs [] = some cs := rfl
theorem fill_cons {places : Nat → Option (Nat × Nat)} {cs cs' us out : List AV} {i off n : Nat} {v : AV} {r : List (Nat × Operand)} (hp : places i = some (off, n)) (hv : ev x = v) (hs : v.solid = true) (hu : v.cells = us) (hl : (us.length == n && Nat.ble (off + n) cs.length) = true) (hc : cs.take off ++ (us ++ cs.drop (off + n)) = cs')
    (t : afillW places ev cs' r = some out) : afillW places ev cs ((i, x) :: r) = some out := by
  simp only [afillW, hp, hv, hs, hu, Bool.true_and]
  rw [if_pos hl, hc]
  exact t
theorem p_buildc {parts : Array (Nat × Operand)} {z : List Value} {places : Nat → Option (Nat × Nat)} {c0 cs : List AV} (h6 : tyIs P t = 6 ∧ tyOk P t = true ∧ tyZero P t = some z ∧ ∀ i, tyPlace P t i = places i) (h0 : z.map AV.ofFlat = c0) (hc : afillW places ev c0 parts.toList = some cs) : Pv P ⟨d, .build t parts, ty, pos, af, gd⟩ ev σ (.agg cs) := by
  subst h0; exact p_build h6 hc
theorem p_buildg {parts : Array (Nat × Operand)} {z : List Value} {places : Nat → Option (Nat × Nat)} {cs : List AV} (l : List (Nat × AV)) (h6 : tyIs P t = 6 ∧ tyOk P t = true ∧ tyZero P t = some z ∧ ∀ i, tyPlace P t i = places i) (hl : lmap ev parts.toList l) (hc : afillX places (z.map AV.ofFlat) l = some cs) : Pv P ⟨d, .build t parts, ty, pos, af, gd⟩ ev σ (.agg cs) :=
  p_build h6 (afillX_eq _ _ _ _ hl hc)
end
end Go.Proofs.Ytlfggjfndmfblaa.Abs

namespace Go.Proofs.Ytlfggjfndmfblaa.Abs
open Go
set_option linter.unusedVariables false
set_option linter.unusedSimpArgs false
variable {mo : Bool}

theorem blt_lt {a b : Nat} (h : Nat.blt a b = true) : a < b := by rw [Nat.blt_eq] at h; exact h
theorem ble_le {a b : Nat} (h : Nat.ble a b = true) : a ≤ b := by rw [Nat.ble_eq] at h; exact h

/-! ### Knowing less, as nested pairs -/
def leP : List AV → List AV → Prop
  | [], [] => True
  | a :: as, b :: bs => a.le b ∧ leP as bs
  | _, _ => False
theorem leL_of : ∀ {as bs : List AV}, leP as bs → AV.leL as bs
  | [], [], _ => .nil
  | a :: as, b :: bs, h => .cons h.1 (leL_of h.2)
  | [], _ :: _, h => h.elim
  | _ :: _, [], h => h.elim
def leC : List AV → List PV → Prop
  | [], [] => True
  | .c p :: as, q :: qs => p = q ∧ leC as qs
  | .own _ sz xs :: as, q :: qs => PV.list sz xs = q ∧ leC as qs
  | .nil :: as, q :: qs => (∃ sz, q = .list sz []) ∧ leC as qs
  | _, _ => False
theorem leL_cs : ∀ {as : List AV} {ps : List PV}, leC as ps → AV.leL as (AV.cs ps)
  | [], [], _ => .nil
  | .c p :: as, q :: qs, h => .cons (by simp only [leC] at h; rw [h.1]; exact AV.le_refl _) (leL_cs (by simp only [leC] at h; exact h.2))
  | .own t sz xs :: as, q :: qs, h => .cons (by simp only [leC] at h; rw [← h.1]; exact AV.le_own_list _ _ _) (leL_cs (by simp only [leC] at h; exact h.2))
  | .nil :: as, q :: qs, h => .cons (by simp only [leC] at h; obtain ⟨⟨sz, rfl⟩, _⟩ := h; exact AV.le_nil_list sz) (leL_cs (by simp only [leC] at h; exact h.2))
  | [], _ :: _, h => by simp [leC] at h
  | .c _ :: _, [], h => by simp [leC] at h
  | .own .. :: _, [], h => by simp [leC] at h
  | .nil :: _, [], h => by simp [leC] at h
  | .agg _ :: _, _, h => by simp [leC] at h
  | .tup _ :: _, _, h => by simp [leC] at h
  | .box .. :: _, _, h => by simp [leC] at h
  | .eptr .. :: _, _, h => by simp [leC] at h
  | .ptrs _ :: _, _, h => by simp [leC] at h
  | .view .. :: _, _, h => by simp [leC] at h
  | .mrow .. :: _, _, h => by simp [leC] at h
  | .mptr .. :: _, _, h => by simp [leC] at h
  | .pptr _ :: _, _, h => by simp [leC] at h
  | .fn .. :: _, _, h => by simp [leC] at h
  | .nilptr :: _, _, h => by simp [leC] at h
  | .any :: _, _, h => by simp [leC] at h
theorem le_aggc {x : AV} {as : List AV} {ps : List PV} (hx : x = .agg as) (h : leC as ps) : x.le (.agg (AV.cs ps)) := by subst hx; exact AV.le_agg (leL_cs h)
theorem le_aggp {x : AV} {as bs : List AV} (hx : x = .agg as) (h : leP as bs) : x.le (.agg bs) := by subst hx; exact AV.le_agg (leL_of h)
theorem le_tupp {x : AV} {as bs : List AV} (hx : x = .tup as) (h : leP as bs) : x.le (.tup bs) := by subst hx; exact AV.le_tup (leL_of h)
theorem le_fnp {x : AV} {f : FuncId} {as bs : List AV} (hx : x = .fn f as) (h : leP as bs) : x.le (.fn f bs) := by
  subst hx
  intro g w v hv
  cases hv with
  | fn _ vs cs h1 h2 =>
    have := RCells.le (leL_of h) (show RCells g w vs as from ⟨h1, h2⟩)
    exact .fn f vs bs this.1 this.2
theorem le_os {α : Type} {t sz : Nat} {row : α → List PV} {xs : List α} : (AV.os t sz row xs).le (.c (PV.ls sz row xs)) := AV.le_own_list _ _ _
theorem le_nls {α : Type} {sz : Nat} {row : α → List PV} : AV.nil.le (.c (PV.ls sz row [])) := AV.le_nil_list sz
theorem le_nos {α : Type} {t sz : Nat} {row : α → List PV} (h : Nat.blt 0 sz = true) : AV.nil.le (.os t sz row []) := AV.le_nil_own t sz (blt_lt h)
theorem st_nil : leS [] [] := .nil
theorem st_c {cs : List AV} {ps : List PV} {σ σ' : St} (h : leC cs ps) (t : leS σ σ') : leS (cs :: σ) (AV.cs ps :: σ') := .cons (leL_cs h) t
theorem st_p {cs bs : List AV} {σ σ' : St} (h : leP cs bs) (t : leS σ σ') : leS (cs :: σ) (bs :: σ') := .cons (leL_of h) t

/-! ### Operations that grow memory -/
section
variable {P : Program} {all r : List Oper} {d : Nat} {ty : TypeId} {pos : String} {af : Array Edge} {fr : Fr} {σ : St} {K : Fr → St → Prop} {v : AV}

theorem o_alloc {e : TypeId} {z : List Value} {cs : List AV} {n : Nat} {σ' : St} (hz : tyZero P e = some z) (hc : z.map AV.ofFlat = cs) (hn : σ.length = n) (hσ : σ ++ [cs] = σ') (h : aops mo P all r ((d, .box n 0) :: fr) σ' K) : aops mo P all (⟨some d, .alloc e, ty, pos, af, none⟩ :: r) fr σ K := by
  refine aops_none ?_
  refine aop_plain rfl ?_
  subst hc hn hσ
  (refine .inl ?_; simp only [aval0, hz])
  exact h
theorem o_box {e : TypeId} {x : Operand} {cs : List AV} {n : Nat} {σ' : St} (hx : fr.ev x = v) (hs : v.solid = true) (hc : v.cells = cs) (hn : σ.length = n) (hσ : σ ++ [cs] = σ') (h : aops mo P all r ((d, .box n 0) :: fr) σ' K) : aops mo P all (⟨some d, .box e x, ty, pos, af, none⟩ :: r) fr σ K := by
  refine aops_none ?_
  refine aop_plain rfl ?_
  subst hx hc hn hσ
  (refine .inl ?_; simp only [aval0])
  exact ⟨hs, h⟩
theorem o_store {dst : Option Tmp} {t : TypeId} {x y : Operand} {ag : Bool} {n id off : Nat} {cs us : List AV} {σ' : St} (hd : dst = none) (ht : tyVar P t = some (ag, n)) (hx : fr.ev x = .box id off) (hy : fr.ev y = v) (hs : v.solid = true) (hu : v.cells = us) (hn : us.length = n) (hc : σ[id]? = some cs) (hle : Nat.ble (off + n) cs.length = true)
    (hσ : σ.set id (cs.take off ++ (us ++ cs.drop (off + n))) = σ') (h : aops mo P all r fr σ' K) : aops mo P all (⟨dst, .store t x y, ty, pos, af, none⟩ :: r) fr σ K := by
  subst hd
  refine aops_none ?_
  refine aop_plain rfl ?_
  subst hy hu
  (refine .inl ?_; simp only [aval0, ht, hx, hc])
  refine ⟨hs, hn, ble_le hle, ?_⟩
  rw [List.append_assoc, hσ]
  exact h
theorem o_rows {α : Type} {t e : TypeId} {len sz by_ : Nat} {parts : Array (Nat × Operand)} {rows : List (List PV)} {row : α → List PV} {xs : List α} {σ' : St} (hs : List Nat) (ht : tySlice P t = some (e, sz, by_)) (hl : parts.toList.length = len) (hm : Nat.ble (len * sz) 1000000 = true) (hr : arows hs sz fr.ev 0 parts.toList = some rows) (hx : rows = xs.map row)
    (hf : fr.dem (freshOf (some d)) = fr) (hσ : σ.dem (freshOf (some d)) = σ') (h : aops mo P all r ((d, .os (16 * d) sz row xs) :: fr) σ' K) : aops mo P all (⟨some d, .buildSlice t len parts, ty, pos, af, none⟩ :: r) fr σ K := by
  refine aops_none ?_
  refine aop_plain rfl ?_
  subst hσ hx
  (refine .inl ?_; simp only [aval0, ht])
  refine ⟨hl, ble_le hm, hs, ?_⟩
  simp only [hr, Fr.demo, hf]
  exact h
theorem o_ptrs {t e : TypeId} {len by_ : Nat} {parts : Array (Nat × Operand)} {l : List (Nat × Nat)} (ht : tySlice P t = some (e, 1, by_)) (hl : parts.toList.length = len) (hm : Nat.ble (len * 1) 1000000 = true) (h0 : arows [] 1 fr.ev 0 parts.toList = none) (hr : aptrs fr.ev 0 parts.toList = some l)
    (h : aops mo P all r ((d, .ptrs l) :: fr) σ K) : aops mo P all (⟨some d, .buildSlice t len parts, ty, pos, af, none⟩ :: r) fr σ K := by
  refine aops_none ?_
  refine aop_plain rfl ?_
  (refine .inl ?_; simp only [aval0, ht])
  refine ⟨hl, ble_le hm, [], ?_⟩
  simp only [h0, hr]
  exact ⟨trivial, h⟩

def demF (d t0 : Nat) : Nat → Bool := fun t => freshOf (some d) t || t == t0

theorem aapp_ls {α : Type} {o : Oper} {t tx e : TypeId} {sz by_ : Nat} {s x : AV} {row : α → List PV} {xs ys : List α} {f : Nat → Bool} {K : Option (Nat → Bool) → AV → St → Prop} (ht : tySlice P t = some (e, sz, by_)) (hb : Nat.blt 0 by_ = true) (htx : tyIs P tx = 3)
    (hs : (s = .nil ∧ xs = [] ∧ f = freshOf o.dst) ∨ ∃ t0, s = .os t0 sz row xs ∧ f = fun t => freshOf o.dst t || t == t0) (hx : isl x sz row ys ∨ (x = .nil ∧ ys = [])) (hy : ∀ u, (row u).length = sz) (hm : (xs.length + ys.length) * by_ ≤ 140737488355328)
    (h : K (some f) (.os (tokOf o.dst) sz row (xs ++ ys)) (σ.dem f)) : aappend P o t tx s x σ K := by
  have hrow : ∀ y ∈ ys.map row, y.length = sz := by simp [hy]
  have hb' := blt_lt hb
  have e1 : AV.os (tokOf o.dst) sz row (xs ++ ys) = .own (tokOf o.dst) sz (xs.map row ++ ys.map row) := by simp [AV.os]
  rw [e1] at h
  rcases hs with ⟨rfl, rfl, rfl⟩ | ⟨t0, rfl, rfl⟩
  · rcases hx with (rfl | ⟨t1, rfl⟩) | ⟨rfl, rfl⟩
    · simp only [aappend, ht, PV.ls]; exact ⟨hb', trivial, htx, hrow, by simpa using hm, h⟩
    · simp only [aappend, ht, AV.os]; exact ⟨hb', trivial, htx, hrow, by simpa using hm, h⟩
    · simp only [aappend, ht]; exact ⟨hb', htx, by simp, h⟩
  · rcases hx with (rfl | ⟨t1, rfl⟩) | ⟨rfl, rfl⟩
    · simp only [aappend, ht, PV.ls, AV.os]; exact ⟨hb', trivial, trivial, htx, hrow, by simpa using hm, h⟩
    · simp only [aappend, ht, AV.os]; exact ⟨hb', trivial, trivial, htx, hrow, by simpa using hm, h⟩
    · simp only [aappend, ht, AV.os]; exact ⟨hb', trivial, htx, by simpa using hm, by simpa using h⟩

theorem o_appn {α : Type} {s x : Operand} {t tx e : TypeId} {sz by_ : Nat} {row : α → List PV} {ys zs : List α} (ht : tySlice P t = some (e, sz, by_)) (hb : Nat.blt 0 by_ = true) (htx : tyIs P tx = 3) (hs : fr.ev s = .nil) (hx : isl (fr.ev x) sz row ys) (hy : ∀ u, (row u).length = sz) (hz : app by_ ([] : List α) ys = some zs)
    (h : aops mo P all r ((d, .os (16 * d) sz row zs) :: fr.dem (freshOf (some d))) (σ.dem (freshOf (some d))) K) : aops mo P all (⟨some d, .call { callee := .builtin .append, args := #[s, x], argTypes := #[t, tx] }, ty, pos, af, none⟩ :: r) fr σ K := by
  obtain ⟨hm, rfl⟩ := app_some hz
  refine aops_none ?_
  refine aop_plain rfl ?_
  (refine .inl ?_; simp only [aval0])
  exact aapp_ls ht hb htx (.inl ⟨hs, rfl, rfl⟩) (.inl hx) hy hm h
theorem o_app {α : Type} {s x : Operand} {t tx e : TypeId} {sz by_ t0 : Nat} {row : α → List PV} {xs ys zs : List α} (ht : tySlice P t = some (e, sz, by_)) (hb : Nat.blt 0 by_ = true) (htx : tyIs P tx = 3) (hs : fr.ev s = .os t0 sz row xs) (hx : isl (fr.ev x) sz row ys) (hy : ∀ u, (row u).length = sz) (hz : app by_ xs ys = some zs)
    (h : aops mo P all r ((d, .os (16 * d) sz row zs) :: fr.dem (demF d t0)) (σ.dem (demF d t0)) K) : aops mo P all (⟨some d, .call { callee := .builtin .append, args := #[s, x], argTypes := #[t, tx] }, ty, pos, af, none⟩ :: r) fr σ K := by
  obtain ⟨hm, rfl⟩ := app_some hz
  refine aops_none ?_
  refine aop_plain rfl ?_
  (refine .inl ?_; simp only [aval0])
  exact aapp_ls ht hb htx (.inr ⟨t0, hs, rfl⟩) (.inl hx) hy hm h
theorem o_app0 {α : Type} {s x : Operand} {t tx e : TypeId} {sz by_ t0 : Nat} {row : α → List PV} {xs zs : List α} (ht : tySlice P t = some (e, sz, by_)) (hb : Nat.blt 0 by_ = true) (htx : tyIs P tx = 3) (hs : fr.ev s = .os t0 sz row xs) (hx : fr.ev x = .nil) (hy : ∀ u, (row u).length = sz) (hz : app by_ xs [] = some zs)
    (h : aops mo P all r ((d, .os (16 * d) sz row zs) :: fr.dem (demF d t0)) (σ.dem (demF d t0)) K) : aops mo P all (⟨some d, .call { callee := .builtin .append, args := #[s, x], argTypes := #[t, tx] }, ty, pos, af, none⟩ :: r) fr σ K := by
  obtain ⟨hm, rfl⟩ := app_some hz
  refine aops_none ?_
  refine aop_plain rfl ?_
  (refine .inl ?_; simp only [aval0])
  exact aapp_ls ht hb htx (.inr ⟨t0, hs, rfl⟩) (.inr ⟨hx, rfl⟩) hy hm h
theorem o_appS {s x : Operand} {t tx e : TypeId} {by_ t0 : Nat} {xs ys zs : List UInt8} (ht : tySlice P t = some (e, 1, by_)) (hb : Nat.blt 0 by_ = true) (htx : tyIs P tx = 2) (hs : fr.ev s = .os t0 1 brow xs) (hx : fr.ev x = .c (.str ys)) (hz : app by_ xs ys = some zs)
    (h : aops mo P all r ((d, .os (16 * d) 1 brow zs) :: fr.dem (demF d t0)) (σ.dem (demF d t0)) K) : aops mo P all (⟨some d, .call { callee := .builtin .append, args := #[s, x], argTypes := #[t, tx] }, ty, pos, af, none⟩ :: r) fr σ K := by
  obtain ⟨hm, rfl⟩ := app_some hz
  refine aops_none ?_
  refine aop_plain rfl ?_
  have e1 : AV.os (tokOf (some d)) 1 brow (xs ++ ys) = .own (tokOf (some d)) 1 (xs.map brow ++ ys.map brow) := by simp [AV.os]
  have h' : aops mo P all r ((d, AV.os (tokOf (some d)) 1 brow (xs ++ ys)) :: fr.dem (demF d t0)) (σ.dem (demF d t0)) K := h
  rw [e1] at h'
  (refine .inl ?_; simp only [aval0, aappend, ht, hs, hx, AV.os])
  exact ⟨blt_lt hb, trivial, trivial, htx, by simpa using hm, h'⟩
theorem o_appnS {s x : Operand} {t tx e : TypeId} {by_ : Nat} {ys zs : List UInt8} (ht : tySlice P t = some (e, 1, by_)) (hb : Nat.blt 0 by_ = true) (htx : tyIs P tx = 2) (hs : fr.ev s = .nil) (hx : fr.ev x = .c (.str ys)) (hz : app by_ ([] : List UInt8) ys = some zs)
    (h : aops mo P all r ((d, .os (16 * d) 1 brow zs) :: fr.dem (freshOf (some d))) (σ.dem (freshOf (some d))) K) : aops mo P all (⟨some d, .call { callee := .builtin .append, args := #[s, x], argTypes := #[t, tx] }, ty, pos, af, none⟩ :: r) fr σ K := by
  obtain ⟨hm, hzz⟩ := app_some hz
  rw [List.nil_append] at hzz
  subst hzz
  refine aops_none ?_
  refine aop_plain rfl ?_
  have e1 : AV.os (tokOf (some d)) 1 brow zs = .own (tokOf (some d)) 1 ([] ++ zs.map brow) := by simp [AV.os]
  have h' : aops mo P all r ((d, AV.os (tokOf (some d)) 1 brow zs) :: fr.dem (freshOf (some d))) (σ.dem (freshOf (some d))) K := h
  rw [e1] at h'
  (refine .inl ?_; simp only [aval0, aappend, ht, hs, hx])
  exact ⟨blt_lt hb, trivial, htx, by simpa using hm, h'⟩

/-! ### Calls -/
theorem o_call {fo : Operand} {args : Array Operand} {ts : Array TypeId} {f : FuncId} {caps as : List AV} {σc σr σ' : St} {rv : AV} (ids : List Nat) (hf : fr.ev fo = .fn f caps) (hc : ACalls P f as σc rv σr) (hnd : decide ids.Nodup = true) (hlt : (ids.all fun i => Nat.blt i σ.length) = true)
    (ha : leP (AV.lowL ids (args.toList.map fr.ev ++ caps)) as) (hs : leS (σ.sub ids) σc) (hfr : (fr.dem fun t => t / 16 == d) = fr) (hv : rv.lift ids σ.length d = v) (hσ : σ.after ids d σr = σ') (h : aops mo P all r ((d, v) :: fr) σ' K) :
    aops mo P all (⟨some d, .call { callee := .value fo, args := args, argTypes := ts }, ty, pos, af, none⟩ :: r) fr σ K := by
  refine aops_none ?_
  unfold aop
  simp only [hf, acall]
  refine ⟨d, ids, [], as, σc, rv, σr, of_decide_eq_true hnd, .nil, fun i hi => blt_lt (List.all_eq_true.1 hlt i hi), leL_of ha, hs, hc, ?_⟩
  simp only [Option.getD_some, endF_nil, hfr, hv, hσ]
  exact h
theorem o_callv {fo : Operand} {args : Array Operand} {ts : Array TypeId} {f : FuncId} {caps as : List AV} {σc σr σ' : St} {rv : AV} (ids : List Nat) (hf : fr.ev fo = .fn f caps) (hc : ACalls P f as σc rv σr) (hnd : decide ids.Nodup = true) (hlt : (ids.all fun i => Nat.blt i σ.length) = true)
    (ha : leP (AV.lowL ids (args.toList.map fr.ev ++ caps)) as) (hs : leS (σ.sub ids) σc) (hfr : (fr.dem fun t => t / 16 == 0) = fr) (hσ : σ.after ids 0 σr = σ') (h : aops mo P all r fr σ' K) :
    aops mo P all (⟨none, .call { callee := .value fo, args := args, argTypes := ts }, ty, pos, af, none⟩ :: r) fr σ K := by
  refine aops_none ?_
  unfold aop
  simp only [hf, acall]
  refine ⟨0, ids, [], as, σc, rv, σr, of_decide_eq_true hnd, .nil, fun i hi => blt_lt (List.all_eq_true.1 hlt i hi), leL_of ha, hs, hc, ?_⟩
  simp only [Option.getD_none, endF_nil, hfr, hσ, Fr.put]
  exact h
/-- Calls that are handed rows for their own. -/
theorem o_callT {fo : Operand} {args : Array Operand} {ts : Array TypeId} {f : FuncId} {caps as : List AV} {σc σr σ' : St} {rv : AV} {fr1 : Fr} (k : Nat) (ids lt : List Nat) (hf : fr.ev fo = .fn f caps) (hc : ACalls P f as σc rv σr) (hnd : decide ids.Nodup = true) (hltn : decide lt.Nodup = true) (hlt : (ids.all fun i => Nat.blt i σ.length) = true)
    (ha : leP (AV.lowTL lt ids (args.toList.map fr.ev ++ caps)) as) (hs : leS (σ.sub ids lt) σc) (hfr : (fr.dem (endF lt k)) = fr1) (hv : rv.lift ids σ.length k = v) (hσ : σ.after ids k σr lt = σ') (h : aops mo P all r ((d, v) :: fr1) σ' K) :
    aops mo P all (⟨some d, .call { callee := .value fo, args := args, argTypes := ts }, ty, pos, af, none⟩ :: r) fr σ K := by
  refine aops_none ?_
  unfold aop
  simp only [hf, acall]
  refine ⟨k, ids, lt, as, σc, rv, σr, of_decide_eq_true hnd, of_decide_eq_true hltn, fun i hi => blt_lt (List.all_eq_true.1 hlt i hi), leL_of ha, hs, hc, ?_⟩
  simp only [Option.getD_some, hfr, hv, hσ]
  exact h
theorem o_callTv {fo : Operand} {args : Array Operand} {ts : Array TypeId} {f : FuncId} {caps as : List AV} {σc σr σ' : St} {rv : AV} {fr1 : Fr} (k : Nat) (ids lt : List Nat) (hf : fr.ev fo = .fn f caps) (hc : ACalls P f as σc rv σr) (hnd : decide ids.Nodup = true) (hltn : decide lt.Nodup = true) (hlt : (ids.all fun i => Nat.blt i σ.length) = true)
    (ha : leP (AV.lowTL lt ids (args.toList.map fr.ev ++ caps)) as) (hs : leS (σ.sub ids lt) σc) (hfr : (fr.dem (endF lt k)) = fr1) (hσ : σ.after ids k σr lt = σ') (h : aops mo P all r fr1 σ' K) :
    aops mo P all (⟨none, .call { callee := .value fo, args := args, argTypes := ts }, ty, pos, af, none⟩ :: r) fr σ K := by
  refine aops_none ?_
  unfold aop
  simp only [hf, acall]
  refine ⟨k, ids, lt, as, σc, rv, σr, of_decide_eq_true hnd, of_decide_eq_true hltn, fun i hi => blt_lt (List.all_eq_true.1 hlt i hi), leL_of ha, hs, hc, ?_⟩
  simp only [Option.getD_none, hfr, hσ, Fr.put]
  exact h
theorem qv_call {dst : Option Tmp} {gd : Option (Nat × Bool)} {fo : Operand} {args : Array Operand} {ts : Array TypeId} {f : FuncId} {caps as : List AV} {rv : AV} (hf : fr.ev fo = .fn f caps) (hc : ACalls P f as [] rv []) (ha : leP (AV.lowL [] (args.toList.map fr.ev ++ caps)) as) (hv : rv.low [] = v) :
    Qv P ⟨dst, .call { callee := .value fo, args := args, argTypes := ts }, ty, pos, af, gd⟩ fr σ v := fun K hk => by
  unfold aqop
  simp only [hf]
  exact ⟨as, rv, leL_of ha, hc, by rw [hv]; exact hk⟩
end

/-! ### Code -/
section
variable {P : Program} {V : List Nat} {k0 : Nat} {Q : Exit → Fr → St → Prop} {fr : Fr} {σ : St} {K : Fr → St → Prop}
theorem o_end {all : List Oper} {fr' : Fr} (hp : prune V fr = fr') (h : Q .normal fr' σ) : aops mo P all [] fr σ fun fr σ => hold (Q .normal (prune V fr) σ) := by
  subst hp; exact h
theorem q_end {all : List Oper} {A : Fr → Prop} (h : A fr) : aqw P all [] fr σ A := h
theorem e_seq_n (h : K fr σ) : seqQ K Q .normal fr σ := h
theorem e_seq_r (h : Q .ret fr σ) : seqQ K Q .ret fr σ := h
theorem e_seq_x {id : Nat} (h : Q (.exit id) fr σ) : seqQ K Q (.exit id) fr σ := h
theorem e_blk_n {id : Nat} (h : Q .normal fr σ) : blkQ id Q .normal fr σ := h
theorem e_blk_r {id : Nat} (h : Q .ret fr σ) : blkQ id Q .ret fr σ := h
theorem e_blk_h {id : Nat} (h : Q .normal fr σ) : blkQ id Q (.exit id) fr σ := by simp only [blkQ, if_true]; exact h
theorem e_blk_m {id id' : Nat} (hne : Nat.beq id' id = false) (h : Q (.exit id') fr σ) : blkQ id Q (.exit id') fr σ := by
  have : ¬ id' = id := Nat.ne_of_beq_eq_false hne
  simp only [blkQ, this, if_false]; exact h
theorem w_cond_t {c : Operand} {x y : Code} (h : fr.ev c = .c (.bool true)) (h1 : awp P V k0 x Q fr σ) : awp P V k0 (.cond c x y) Q fr σ := w_cond true h (fun _ => h1) (fun e => by cases e)
theorem w_cond_f {c : Operand} {x y : Code} (h : fr.ev c = .c (.bool false)) (h1 : awp P V k0 y Q fr σ) : awp P V k0 (.cond c x y) Q fr σ := w_cond false h (fun e => by cases e) (fun _ => h1)

theorem w_join {x y : Code} {J : Type} (C : J → Prop) (F : J → Fr) (G : J → St) (h : awp P V k0 x (seqQ (fun fr σ => ∃ j, C j ∧ Weak k0 fr σ (F j) (G j)) Q) fr σ) (h2 : ∀ j, C j → awp P V k0 y Q (F j) (G j)) : awp P V k0 (.seq x y) Q fr σ :=
  w_cut (fun fr σ => ∃ j, C j ∧ fr = F j ∧ σ = G j) (awp_mono x (fun e fr σ he => by
    cases e with
    | normal => obtain ⟨j, h1, h2⟩ := he; exact ⟨F j, G j, h2, j, h1, rfl, rfl⟩
    | _ => exact he) h) (fun fr σ he => by obtain ⟨j, hj, rfl, rfl⟩ := he; exact h2 j hj)

theorem w_loopo {c : Code} {S R : Type} (body : S → Option (Step S R)) (F : S → Fr) (G : S → St) {s0 : S} {r : R} (h0 : loopO body s0 = some r) (hw : Weak k0 fr σ (F s0) (G s0))
    (h : ∀ s st, body s = some st → (∀ r', st = .out r' → r' = r) → awp P V k0 c (seqQ (fun fr σ => ∃ s', st = .next s' ∧ Weak k0 fr σ (F s') (G s')) Q) (F s) (G s)) : awp P V k0 (.loop c) Q fr σ := by
  obtain ⟨n, hn⟩ := loopO_some h0
  refine w_loop (fun m fr σ => ∃ s, loopF body m s = some r ∧ fr = F s ∧ σ = G s) n hw ⟨s0, hn, rfl, rfl⟩ ?_
  rintro m fr σ ⟨s, hs, rfl, rfl⟩
  cases m with
  | zero => cases hs
  | succ m =>
    simp only [loopF] at hs
    obtain ⟨st, h1, h2⟩ := bind_s hs
    refine awp_mono c (fun e fr σ he => ?_) (h s st h1 (fun r' e => by subst e; cases h2; rfl))
    cases e with
    | normal => obtain ⟨s', rfl, hw⟩ := he; exact ⟨m, F s', G s', by omega, hw, s', h2, rfl, rfl⟩
    | _ => exact he

/-- Slots and variables told less, tokens renamed, variables from m on forgotten. -/
theorem w_weak (toks : List Nat) (m : Nat) {fr' : Fr} {σ' : St} (hnd : decide toks.Nodup = true) (hm : Nat.ble k0 m = true) (hf : fr'.inB m = true) (hb : St.inB m ((σ.retok toks).take m) = true) (h : Fr.below (fr.retok toks) fr') (hs : leS ((σ.retok toks).take m) σ') : Weak k0 fr σ fr' σ' :=
  weak_tok_all toks (of_decide_eq_true hnd) m h (ble_le hm) hf hs hb

theorem r_nil {A : List AV → Prop} (h : A []) : aresults P fr σ [] A := h
theorem r_tmp {t : Nat} {v : AV} {rs : List ResultVar} {A : List AV → Prop} (hv : fr.get t = v) (h : aresults P fr σ rs fun vs => A (v :: vs)) : aresults P fr σ (.tmp t :: rs) A := by
  simp only [aresults, hv]; exact h
theorem r_cells {a id off n : Nat} {t : TypeId} {cs us : List AV} {rs : List ResultVar} {A : List AV → Prop} (ht : tyVar P t = some (true, n)) (ha : fr.get a = .box id off) (hs : σ[id]? = some cs) (hn : Nat.ble (off + n) cs.length = true) (hc : (cs.drop off).take n = us) (h : aresults P fr σ rs fun vs => A (.agg us :: vs)) : aresults P fr σ (.cell a t :: rs) A := by
  simp only [aresults, ht, ha, aload, hs]; subst hc; exact ⟨ble_le hn, h⟩
theorem r_cell {a id off n : Nat} {t : TypeId} {v : AV} {cs : List AV} {rs : List ResultVar} {A : List AV → Prop} (ht : tyVar P t = some (false, n)) (ha : fr.get a = .box id off) (hs : σ[id]? = some cs) (hc : cs[off]? = some v) (h : aresults P fr σ rs fun vs => A (v :: vs)) : aresults P fr σ (.cell a t :: rs) A := by
  simp only [aresults, ht, ha, aload, hs, hc]; exact h
theorem e_ret {rs rs' : List ResultVar} {r : AV} {σr : St} (hrs : rs = rs') (h : aresults P fr σ rs' fun vs => Fin k0 (rval vs) σ r σr) : finQ P rs k0 r σr .ret fr σ := by subst hrs; exact h
theorem e_fin {rs rs' : List ResultVar} {r : AV} {σr : St} (hrs : rs = rs') (h : aresults P fr σ rs' fun vs => Fin k0 (rval vs) σ r σr) : finQ P rs k0 r σr .normal fr σ := by subst hrs; exact h
theorem fin_gen {rv r : AV} {σr : St} (toks : List Nat) (hnd : decide toks.Nodup = true) (hin : (rv.retok toks).inB k0 = true) (hb : St.inB k0 (St.dem all_ (σ.take k0)) = true) (hr : (rv.retok toks).le r) (hσ : leS (St.dem all_ (σ.take k0)) σr) : Fin k0 rv σ r σr :=
  fin_main toks (of_decide_eq_true hnd) hin (fin_pre rfl hb) hr hσ
/-- Rows stay the variables' own. -/
theorem fin_tok {rv r : AV} {σr : St} (toks : List Nat) (hnd : decide toks.Nodup = true) (hin : rv.inB k0 = true) (hb : St.inB k0 (σ.take k0) = true) (hr : (rv.retok toks).le r) (hσ : leS (St.retok toks (σ.take k0)) σr) : Fin k0 rv σ r σr := by
  intro c g w v hk hi hv
  have hf : RFr g w #[v] [(0, rv)] := fun d => by
    simp only [Fr.get]
    split
    · rename_i e; subst e; exact hv
    · exact .any
  have w1 : Weak k0 [(0, rv)] σ [(0, rv)] (σ.take k0) := Weak.take (Nat.le_refl _) (fun d => by
    simp only [Fr.get]
    split
    · exact hin
    · rfl) (fun i cs hi hcs => St.inB_get hb i cs (by rw [List.getElem?_take_of_lt hi]; exact hcs))
  obtain ⟨g1, hi1, hf1⟩ := w1 c g w #[v] hk hi hf
  obtain ⟨g2, hi2, hf2⟩ := Weak.retok (k0 := k0) (fr := [(0, rv)]) (σ := σ.take k0) toks (of_decide_eq_true hnd) c g1 w #[v] hk hi1 hf1
  obtain ⟨g3, hi3, hf3⟩ := Weak.cells (k0 := k0) (fr := Fr.retok toks [(0, rv)]) hσ c g2 w #[v] hk hi2 hf2
  exact ⟨g3, hi3, hr _ _ _ (hf3 0)⟩
theorem fin_new {j off : Nat} {cs0 : List AV} {rv : AV} {σr : St} (hv : rv = .box j off) (hj : Nat.ble k0 j = true) (hcs : σ[j]? = some cs0) (hcin : AV.inB.inBL k0 (AV.demL all_ cs0) = true) (hb : St.inB k0 (St.dem all_ (σ.take k0)) = true) (hσ : leS (St.dem all_ (σ.take k0) ++ [AV.demL all_ cs0]) σr) : Fin k0 rv σ (.box k0 off) σr := by
  subst hv
  exact fin_box (ble_le hj) hcs hcin (fin_pre rfl hb) hσ
end

theorem un_done {τ κ : Type} {t y : τ} {x : Fl τ κ} {f : κ → Option τ} (h : some (Fl.done t) = some x) (h2 : x.next f = some y) : some t = some y := by cases h; exact h2
theorem un_go {τ κ : Type} {j : κ} {y : τ} {x : Fl τ κ} {f : κ → Option τ} (h : x = Fl.go j) (h2 : x.next f = some y) : f j = some y := by subst h; exact h2
theorem un_out {σ ρ : Type} {r r' : ρ} {st : Step σ ρ} (h : some (Step.out r') = some st) (h2 : ∀ r', st = .out r' → r' = r) : some r' = some r := by
  rw [h2 r' (Option.some.inj h).symm]
end Go.Proofs.Ytlfggjfndmfblaa.Abs

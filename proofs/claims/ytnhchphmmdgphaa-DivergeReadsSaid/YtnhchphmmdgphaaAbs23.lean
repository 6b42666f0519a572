/- The printed walks' steps: each operation's rule, its outcome told in typed lists. -/
import Derived.Test.YtnhchphmmdgphaaAbs22
import Derived.Test.YtnhchphmmdgphaaPk1
namespace Go.Proofs.Ytnhchphmmdgphaa.Abs
open Go
set_option linter.unusedVariables false
set_option linter.unusedSimpArgs false

def PV.ls {α : Type} (sz : Nat) (row : α → List PV) (xs : List α) : PV := .list sz (xs.map row)
def AV.os {α : Type} (t sz : Nat) (row : α → List PV) (xs : List α) : AV := .own t sz (xs.map row)
def AV.cs (l : List PV) : List AV := l.map .c
def gv (c : Bool) (v : AV) : AV := if c then v else .tup []
theorem gx {c : Bool} {x v : AV} (h : x = gv c v) (hc : c = true) : x = v := by rw [h, gv, if_pos hc]

/-- A value that is known to be a list. -/
def isl {α : Type} (a : AV) (sz : Nat) (row : α → List PV) (xs : List α) : Prop := a = .c (PV.ls sz row xs) ∨ ∃ t, a = .os t sz row xs
theorem isl_c {α : Type} {a : AV} {sz : Nat} {row : α → List PV} {xs : List α} (h : a = .c (PV.ls sz row xs)) : isl a sz row xs := .inl h
theorem isl_o {α : Type} {a : AV} {t sz : Nat} {row : α → List PV} {xs : List α} (h : a = .os t sz row xs) : isl a sz row xs := .inr ⟨t, h⟩

def Pv (P : Program) (o : Oper) (ev : Operand → AV) (σ : St) (v : AV) : Prop := ∀ K : Option (Nat → Bool) → AV → St → Prop, K .none v σ → aval P o ev σ K
def plainOp (o : Oper) : Bool := match o.op with | .call { callee := .value _, .. } => false | _ => (isNilCmp o).isNone

theorem aop_plain {P : Program} {o : Oper} {fr : Fr} {σ : St} {K : Fr → St → Prop} (hp : plainOp o = true) (h : aval P o fr.ev σ fun dm v σ' => K ((fr.demo dm).put o.dst v) σ') : aop P o fr σ K := by
  unfold plainOp at hp
  unfold aop
  split at hp
  · cases hp
  · rename_i hno
    split
    · rename_i f args argTypes hop
      exact absurd hop (hno _ _ _)
    · split
      · rename_i hn; rw [hn] at hp; cases hp
      · exact h
theorem aqop_plain {P : Program} {o : Oper} {fr : Fr} {σ : St} {K : AV → Prop} (hp : plainOp o = true) (h : aval P o fr.ev σ (QQ σ K)) : aqop P o fr σ K := by
  unfold plainOp at hp
  unfold aqop
  split at hp
  · cases hp
  · rename_i hno
    split
    · rename_i f args argTypes hop
      exact absurd hop (hno _ _ _)
    · exact h

/-! ### Steps of a region -/
def gslot (ops : List Oper) (j : Nat) : Option Nat := (ops[j]?).bind (·.dst)
theorem ag_c {ops : List Oper} {o : Oper} {j dj : Nat} {w b : Bool} {get : Nat → AV} {yes no : Prop} (hg : o.guard = some (j, w)) (hj : gslot ops j = some dj) (hs : get dj = .c (.bool b)) (hy : b = w → yes) (hn : b ≠ w → no) : aguard ops o get yes no := by
  unfold gslot at hj
  obtain ⟨p, hp, hd⟩ := Option.bind_eq_some_iff.1 hj
  unfold aguard
  rw [hg]
  simp only [hp, hd, hs]
  exact ⟨hy, hn⟩
theorem ag_t {ops : List Oper} {o : Oper} {j dj : Nat} {w : Bool} {get : Nat → AV} {yes no : Prop} (hg : o.guard = some (j, w)) (hj : gslot ops j = some dj) (hs : get dj = .tup []) (hn : no) : aguard ops o get yes no := by
  unfold gslot at hj
  obtain ⟨p, hp, hd⟩ := Option.bind_eq_some_iff.1 hj
  unfold aguard
  rw [hg]
  simp only [hp, hd, hs]
  exact hn

section
variable {P : Program} {all r : List Oper} {d dj j : Nat} {op : Op} {ty : TypeId} {pos : String} {af : Array Edge} {fr : Fr} {σ : St} {K : Fr → St → Prop} {Kq : Fr → Prop} {v : AV} {b c w : Bool}
theorem o_p (hp : plainOp ⟨some d, op, ty, pos, af, none⟩ = true) (hv : Pv P ⟨some d, op, ty, pos, af, none⟩ fr.ev σ v) (h : aops P all r ((d, v) :: fr) σ K) : aops P all (⟨some d, op, ty, pos, af, none⟩ :: r) fr σ K :=
  aop_plain hp (hv _ h)
theorem q_p (hp : plainOp ⟨some d, op, ty, pos, af, none⟩ = true) (hv : Pv P ⟨some d, op, ty, pos, af, none⟩ fr.ev σ v) (h : aqw P all r ((d, v) :: fr) σ Kq) : aqw P all (⟨some d, op, ty, pos, af, none⟩ :: r) fr σ Kq := by
  rw [aqw_none]
  exact aqop_plain hp (hv _ ⟨rfl, rfl, h⟩)

def Qv (P : Program) (o : Oper) (fr : Fr) (σ : St) (v : AV) : Prop := ∀ K : AV → Prop, K v → aqop P o fr σ K
theorem qv_p {o : Oper} (hp : plainOp o = true) (hv : Pv P o fr.ev σ v) : Qv P o fr σ v := fun K h => aqop_plain hp (hv _ ⟨rfl, rfl, h⟩)
def Ov (P : Program) (o : Oper) (fr : Fr) (σ : St) (v : AV) : Prop := ∀ K : Fr → St → Prop, K (fr.put o.dst v) σ → aop P o fr σ K
theorem ov_p {o : Oper} (hp : plainOp o = true) (hv : Pv P o fr.ev σ v) : Ov P o fr σ v := fun K h => aop_plain hp (hv _ h)

theorem q_q (hv : Qv P ⟨some d, op, ty, pos, af, none⟩ fr σ v) (h : aqw P all r ((d, v) :: fr) σ Kq) : aqw P all (⟨some d, op, ty, pos, af, none⟩ :: r) fr σ Kq := by
  rw [aqw_none]
  exact hv _ h

/-- A guarded operation, the guard a slot that is always there. -/
theorem q_g (hj : gslot all j = some dj) (hs : fr.get dj = .c (.bool b)) (hv : (b == w) = true → Qv P ⟨some d, op, ty, pos, af, some (j, w)⟩ fr σ v) (h : aqw P all r ((d, gv (b == w) v) :: fr) σ Kq) : aqw P all (⟨some d, op, ty, pos, af, some (j, w)⟩ :: r) fr σ Kq := by
  refine ag_c rfl hj hs (fun e => ?_) (fun e => ?_)
  · have e' : (b == w) = true := by simp [e]
    refine hv e' _ ?_
    rw [e', gv, if_pos rfl] at h
    exact h
  · have e' : (b == w) = false := by simpa using e
    rw [e', gv, if_neg (by simp)] at h
    exact h
theorem o_g (hj : gslot all j = some dj) (hs : fr.get dj = .c (.bool b)) (hv : (b == w) = true → Ov P ⟨some d, op, ty, pos, af, some (j, w)⟩ fr σ v) (h : aops P all r ((d, gv (b == w) v) :: fr) σ K) : aops P all (⟨some d, op, ty, pos, af, some (j, w)⟩ :: r) fr σ K := by
  refine ag_c rfl hj hs (fun e => ?_) (fun e => ?_)
  · have e' : (b == w) = true := by simp [e]
    refine hv e' _ ?_
    rw [e', gv, if_pos rfl] at h
    exact h
  · have e' : (b == w) = false := by simpa using e
    rw [e', gv, if_neg (by simp)] at h
    exact h
/-- A guarded operation, the guard a slot that may be skipped itself. -/
theorem q_gg (hj : gslot all j = some dj) (hs : fr.get dj = gv c (.c (.bool b))) (hv : (c && (b == w)) = true → Qv P ⟨some d, op, ty, pos, af, some (j, w)⟩ fr σ v) (h : aqw P all r ((d, gv (c && (b == w)) v) :: fr) σ Kq) : aqw P all (⟨some d, op, ty, pos, af, some (j, w)⟩ :: r) fr σ Kq := by
  cases c with
  | true =>
    rw [Bool.true_and] at h hv
    exact q_g hj (by rw [hs, gv, if_pos rfl]) hv h
  | false =>
    rw [gv, if_neg (by simp)] at hs
    rw [Bool.false_and, gv, if_neg (by simp)] at h
    exact ag_t rfl hj hs h
theorem o_gg (hj : gslot all j = some dj) (hs : fr.get dj = gv c (.c (.bool b))) (hv : (c && (b == w)) = true → Ov P ⟨some d, op, ty, pos, af, some (j, w)⟩ fr σ v) (h : aops P all r ((d, gv (c && (b == w)) v) :: fr) σ K) : aops P all (⟨some d, op, ty, pos, af, some (j, w)⟩ :: r) fr σ K := by
  cases c with
  | true =>
    rw [Bool.true_and] at h hv
    exact o_g hj (by rw [hs, gv, if_pos rfl]) hv h
  | false =>
    rw [gv, if_neg (by simp)] at hs
    rw [Bool.false_and, gv, if_neg (by simp)] at h
    exact ag_t rfl hj hs h

/-! a guard's way is known -/
theorem aop_guard {dst : Option Tmp} {g g' : Option (Nat × Bool)} : aop P ⟨dst, op, ty, pos, af, g⟩ fr σ K = aop P ⟨dst, op, ty, pos, af, g'⟩ fr σ K := by
  cases op
  case call c => obtain ⟨callee, args, argTypes⟩ := c; cases callee <;> first | rfl | (rename_i b; cases b <;> rfl)
  case slice t x lo hi mx => cases mx <;> rfl
  case makeFunc fn f cs => cases fn <;> rfl
  all_goals rfl
theorem o_yes {dst : Option Tmp} (hj : gslot all j = some dj) (hs : fr.get dj = .c (.bool b)) (hb : b = w) (h : aops P all (⟨dst, op, ty, pos, af, none⟩ :: r) fr σ K) : aops P all (⟨dst, op, ty, pos, af, some (j, w)⟩ :: r) fr σ K :=
  ag_c rfl hj hs (fun _ => by rw [aop_guard (g' := none)]; exact h) (fun e => absurd hb e)
theorem o_no {dst : Option Tmp} (hj : gslot all j = some dj) (hs : fr.get dj = .c (.bool b)) (hb : b = !w) (h : aops P all r (fr.put dst (.tup [])) σ K) : aops P all (⟨dst, op, ty, pos, af, some (j, w)⟩ :: r) fr σ K :=
  ag_c rfl hj hs (fun e => by subst e; cases b <;> simp at hb) (fun _ => h)
theorem o_skip {dst : Option Tmp} (hj : gslot all j = some dj) (hs : fr.get dj = .tup []) (h : aops P all r (fr.put dst (.tup [])) σ K) : aops P all (⟨dst, op, ty, pos, af, some (j, w)⟩ :: r) fr σ K :=
  ag_t rfl hj hs h
theorem o_nil (h : K fr σ) : aops P all [] fr σ K := h
theorem q_nil (h : Kq fr) : aqw P all [] fr σ Kq := h
theorem o_nilD (h : K fr σ) : aops P all (List.drop 0 []) fr σ K := h
end

/-! ### The plain operations -/
section
variable {P : Program} {d : Option Tmp} {ty : TypeId} {pos : String} {af : Array Edge} {gd : Option (Nat × Bool)} {ev : Operand → AV} {σ : St} {x y z : Operand} {t t2 : TypeId} {k k' : IntKind} {a b : Int} {v : AV}

theorem p_move (hx : ev x = v) : Pv P ⟨d, .move x, ty, pos, af, gd⟩ ev σ v := fun K h => by simp only [aval]; rw [hx]; exact h
theorem p_assign (hx : ev x = v) : Pv P ⟨d, .assign x, ty, pos, af, gd⟩ ev σ v := fun K h => by simp only [aval]; rw [hx]; exact h
theorem p_pick {q p1 p2 : Bool} (hx : ev x = .c (.bool q)) (hy : ev y = .c (.bool p1)) (hz : ev z = .c (.bool p2)) : Pv P ⟨d, .pick x y z, ty, pos, af, gd⟩ ev σ (.c (.bool (cond q p1 p2))) := fun K h => by
  simp only [aval, hx, hy, hz]
  cases q <;> exact h
theorem p_picky {q p1 p2 c : Bool} (hx : ev x = .c (.bool q)) (hy : ev y = gv c (.c (.bool p1))) (hz : ev z = .c (.bool p2)) (hc : q = true → c = true) : Pv P ⟨d, .pick x y z, ty, pos, af, gd⟩ ev σ (.c (.bool (cond q p1 p2))) := by
  cases c with
  | true => exact p_pick hx (by rw [hy, gv, if_pos rfl]) hz
  | false =>
    cases q with
    | true => cases hc rfl
    | false =>
      intro K h
      simp only [aval, hx, hy, hz, gv, if_neg (show ¬ (false = true) by simp)]
      exact ⟨fun e => (by cases e), fun _ => h⟩
theorem p_pickz {q p1 p2 c : Bool} (hx : ev x = .c (.bool q)) (hy : ev y = .c (.bool p1)) (hz : ev z = gv c (.c (.bool p2))) (hc : q = false → c = true) : Pv P ⟨d, .pick x y z, ty, pos, af, gd⟩ ev σ (.c (.bool (cond q p1 p2))) := by
  cases c with
  | true => exact p_pick hx hy (by rw [hz, gv, if_pos rfl])
  | false =>
    cases q with
    | false => cases hc rfl
    | true =>
      intro K h
      simp only [aval, hx, hy, hz, gv, if_neg (show ¬ (false = true) by simp)]
      exact ⟨fun _ => h, fun e => (by cases e)⟩

theorem p_load {id off n : Nat} {cs : List AV} (ht : tyVar P t = some (false, n)) (hx : ev x = .box id off) (hs : σ[id]? = some cs) (hc : cs[off]? = some v) : Pv P ⟨d, .load t x, ty, pos, af, gd⟩ ev σ v := fun K h => by
  simp only [aval, ht, hx, aload, hs, hc]; exact h
theorem p_loads {id off n : Nat} {cs us : List AV} (ht : tyVar P t = some (true, n)) (hx : ev x = .box id off) (hs : σ[id]? = some cs) (hn : Nat.ble (off + n) cs.length = true) (hc : (cs.drop off).take n = us) : Pv P ⟨d, .load t x, ty, pos, af, gd⟩ ev σ (.agg us) := fun K h => by
  simp only [aval, ht, hx, aload, hs]; subst hc; exact ⟨by rw [Nat.ble_eq] at hn; exact hn, h⟩
theorem p_loade {off n : Nat} {cs : List PV} {p : PV} (ht : tyVar P t = some (false, n)) (hx : ev x = .eptr cs off) (hc : cs[off]? = some p) : Pv P ⟨d, .load t x, ty, pos, af, gd⟩ ev σ (.c p) := fun K h => by
  simp only [aval, ht, hx, aload, hc]; exact h
theorem p_loades {off n : Nat} {cs us : List PV} (ht : tyVar P t = some (true, n)) (hx : ev x = .eptr cs off) (hn : Nat.ble (off + n) cs.length = true) (hc : (cs.drop off).take n = us) : Pv P ⟨d, .load t x, ty, pos, af, gd⟩ ev σ (.agg (AV.cs us)) := fun K h => by
  simp only [aval, ht, hx, aload]; subst hc; exact ⟨by rw [Nat.ble_eq] at hn; exact hn, h⟩
theorem p_loadp {n : Nat} {p : Nat × Nat} (ht : tyVar P t = some (false, n)) (hx : ev x = .pptr p) : Pv P ⟨d, .load t x, ty, pos, af, gd⟩ ev σ (.box p.1 p.2) := fun K h => by
  simp only [aval, ht, hx, aload]; exact ⟨trivial, h⟩
theorem p_nc {i m : Nat} (hx : ev x = .box i m) : Pv P ⟨d, .nilCheck x, ty, pos, af, gd⟩ ev σ (.box i m) := fun K h => by simp only [aval, hx]; exact h
theorem p_nce {cs : List PV} {m : Nat} (hx : ev x = .eptr cs m) : Pv P ⟨d, .nilCheck x, ty, pos, af, gd⟩ ev σ (.eptr cs m) := fun K h => by simp only [aval, hx]; exact h
theorem p_ncf {f : FuncId} {cs : List AV} (hx : ev x = .fn f cs) : Pv P ⟨d, .nilCheck x, ty, pos, af, gd⟩ ev σ (.fn f cs) := fun K h => by simp only [aval, hx]; exact h

theorem p_add (hx : ev x = .c (.int k a)) (hy : ev y = .c (.int k b)) : Pv P ⟨d, .binOp .add t x y t2, ty, pos, af, gd⟩ ev σ (.c (.int k (k.wrap (a + b)))) := fun K h => by simp only [aval, abin, hx, hy]; exact ⟨trivial, h⟩
theorem p_sub (hx : ev x = .c (.int k a)) (hy : ev y = .c (.int k b)) : Pv P ⟨d, .binOp .sub t x y t2, ty, pos, af, gd⟩ ev σ (.c (.int k (k.wrap (a - b)))) := fun K h => by simp only [aval, abin, hx, hy]; exact ⟨trivial, h⟩
theorem p_mul (hx : ev x = .c (.int k a)) (hy : ev y = .c (.int k b)) : Pv P ⟨d, .binOp .mul t x y t2, ty, pos, af, gd⟩ ev σ (.c (.int k (k.wrap (a * b)))) := fun K h => by simp only [aval, abin, hx, hy]; exact ⟨trivial, h⟩
theorem p_quo (hx : ev x = .c (.int k a)) (hy : ev y = .c (.int k b)) (h0 : b ≠ 0) : Pv P ⟨d, .binOp .quo t x y t2, ty, pos, af, gd⟩ ev σ (.c (.int k (k.wrap (a.tdiv b)))) := fun K h => by simp only [aval, abin, hx, hy]; exact ⟨trivial, h0, h⟩
theorem p_rem (hx : ev x = .c (.int k a)) (hy : ev y = .c (.int k b)) (h0 : b ≠ 0) : Pv P ⟨d, .binOp .rem t x y t2, ty, pos, af, gd⟩ ev σ (.c (.int k (a.tmod b))) := fun K h => by simp only [aval, abin, hx, hy]; exact ⟨trivial, h0, h⟩
theorem p_eql (hx : ev x = .c (.int k a)) (hy : ev y = .c (.int k b)) : Pv P ⟨d, .binOp .eql t x y t2, ty, pos, af, gd⟩ ev σ (.c (.bool (decide (a = b)))) := fun K h => by simp only [aval, abin, hx, hy]; exact ⟨trivial, h⟩
theorem p_neq (hx : ev x = .c (.int k a)) (hy : ev y = .c (.int k b)) : Pv P ⟨d, .binOp .neq t x y t2, ty, pos, af, gd⟩ ev σ (.c (.bool (!decide (a = b)))) := fun K h => by simp only [aval, abin, hx, hy]; exact ⟨trivial, h⟩
theorem p_lss (hx : ev x = .c (.int k a)) (hy : ev y = .c (.int k b)) : Pv P ⟨d, .binOp .lss t x y t2, ty, pos, af, gd⟩ ev σ (.c (.bool (decide (a < b)))) := fun K h => by simp only [aval, abin, hx, hy]; exact ⟨trivial, h⟩
theorem p_leq (hx : ev x = .c (.int k a)) (hy : ev y = .c (.int k b)) : Pv P ⟨d, .binOp .leq t x y t2, ty, pos, af, gd⟩ ev σ (.c (.bool (decide (a ≤ b)))) := fun K h => by simp only [aval, abin, hx, hy]; exact ⟨trivial, h⟩
theorem p_gtr (hx : ev x = .c (.int k a)) (hy : ev y = .c (.int k b)) : Pv P ⟨d, .binOp .gtr t x y t2, ty, pos, af, gd⟩ ev σ (.c (.bool (decide (b < a)))) := fun K h => by simp only [aval, abin, hx, hy]; exact ⟨trivial, h⟩
theorem p_geq (hx : ev x = .c (.int k a)) (hy : ev y = .c (.int k b)) : Pv P ⟨d, .binOp .geq t x y t2, ty, pos, af, gd⟩ ev σ (.c (.bool (decide (b ≤ a)))) := fun K h => by simp only [aval, abin, hx, hy]; exact ⟨trivial, h⟩
theorem p_and (hx : ev x = .c (.int k a)) (hy : ev y = .c (.int k b)) : Pv P ⟨d, .binOp .and t x y t2, ty, pos, af, gd⟩ ev σ (.c (.int k (abits .and k a b))) := fun K h => by simp only [aval, abin, hx, hy]; exact ⟨trivial, h⟩
theorem p_or (hx : ev x = .c (.int k a)) (hy : ev y = .c (.int k b)) : Pv P ⟨d, .binOp .or t x y t2, ty, pos, af, gd⟩ ev σ (.c (.int k (abits .or k a b))) := fun K h => by simp only [aval, abin, hx, hy]; exact ⟨trivial, h⟩
theorem p_xor (hx : ev x = .c (.int k a)) (hy : ev y = .c (.int k b)) : Pv P ⟨d, .binOp .xor t x y t2, ty, pos, af, gd⟩ ev σ (.c (.int k (abits .xor k a b))) := fun K h => by simp only [aval, abin, hx, hy]; exact ⟨trivial, h⟩
theorem p_andNot (hx : ev x = .c (.int k a)) (hy : ev y = .c (.int k b)) : Pv P ⟨d, .binOp .andNot t x y t2, ty, pos, af, gd⟩ ev σ (.c (.int k (abits .andNot k a b))) := fun K h => by simp only [aval, abin, hx, hy]; exact ⟨trivial, h⟩
theorem p_shl (hx : ev x = .c (.int k a)) (hy : ev y = .c (.int k' b)) (h0 : 0 ≤ b) : Pv P ⟨d, .binOp .shl t x y t2, ty, pos, af, gd⟩ ev σ (.c (.int k (k.wrap (a * 2 ^ (min b.toNat k.bits))))) := fun K h => by simp only [aval, abin, hx, hy]; exact ⟨h0, h⟩
theorem p_shr (hx : ev x = .c (.int k a)) (hy : ev y = .c (.int k' b)) (h0 : 0 ≤ b) : Pv P ⟨d, .binOp .shr t x y t2, ty, pos, af, gd⟩ ev σ (.c (.int k (a.fdiv (2 ^ (min b.toNat k.bits))))) := fun K h => by simp only [aval, abin, hx, hy]; exact ⟨h0, h⟩
theorem p_sadd {s u : List UInt8} (hx : ev x = .c (.str s)) (hy : ev y = .c (.str u)) (h0 : s.length + u.length ≤ 9223372036854775807) : Pv P ⟨d, .binOp .add t x y t2, ty, pos, af, gd⟩ ev σ (.c (.str (s ++ u))) := fun K h => by simp only [aval, abin, hx, hy]; exact ⟨h0, h⟩
theorem p_seql {s u : List UInt8} (hx : ev x = .c (.str s)) (hy : ev y = .c (.str u)) : Pv P ⟨d, .binOp .eql t x y t2, ty, pos, af, gd⟩ ev σ (.c (.bool (decide (s = u)))) := fun K h => by simp only [aval, abin, hx, hy]; exact h
theorem p_sneq {s u : List UInt8} (hx : ev x = .c (.str s)) (hy : ev y = .c (.str u)) : Pv P ⟨d, .binOp .neq t x y t2, ty, pos, af, gd⟩ ev σ (.c (.bool (!decide (s = u)))) := fun K h => by simp only [aval, abin, hx, hy]; exact h
theorem p_slss {s u : List UInt8} (hx : ev x = .c (.str s)) (hy : ev y = .c (.str u)) : Pv P ⟨d, .binOp .lss t x y t2, ty, pos, af, gd⟩ ev σ (.c (.bool (Op.bytesLess s u))) := fun K h => by simp only [aval, abin, hx, hy]; exact h
theorem p_sleq {s u : List UInt8} (hx : ev x = .c (.str s)) (hy : ev y = .c (.str u)) : Pv P ⟨d, .binOp .leq t x y t2, ty, pos, af, gd⟩ ev σ (.c (.bool (Op.bytesLess s u || decide (s = u)))) := fun K h => by simp only [aval, abin, hx, hy]; exact h
theorem p_sgtr {s u : List UInt8} (hx : ev x = .c (.str s)) (hy : ev y = .c (.str u)) : Pv P ⟨d, .binOp .gtr t x y t2, ty, pos, af, gd⟩ ev σ (.c (.bool (!(Op.bytesLess s u || decide (s = u))))) := fun K h => by simp only [aval, abin, hx, hy]; exact h
theorem p_sgeq {s u : List UInt8} (hx : ev x = .c (.str s)) (hy : ev y = .c (.str u)) : Pv P ⟨d, .binOp .geq t x y t2, ty, pos, af, gd⟩ ev σ (.c (.bool (!Op.bytesLess s u))) := fun K h => by simp only [aval, abin, hx, hy]; exact h
theorem p_beql {p q : Bool} (ht : tyIs P t = 4) (hx : ev x = .c (.bool p)) (hy : ev y = .c (.bool q)) : Pv P ⟨d, .binOp .eql t x y t2, ty, pos, af, gd⟩ ev σ (.c (.bool (p == q))) := fun K h => by simp only [aval, abin, hx, hy]; exact ⟨ht, h⟩
theorem p_bneq {p q : Bool} (ht : tyIs P t = 4) (hx : ev x = .c (.bool p)) (hy : ev y = .c (.bool q)) : Pv P ⟨d, .binOp .neq t x y t2, ty, pos, af, gd⟩ ev σ (.c (.bool (!(p == q)))) := fun K h => by simp only [aval, abin, hx, hy]; exact ⟨ht, h⟩
theorem p_peql {i m : Nat} (ht : tyIs P t = 5) (hx : ev x = .box i m) (hy : ev y = .nilptr) : Pv P ⟨d, .binOp .eql t x y t2, ty, pos, af, gd⟩ ev σ (.c (.bool false)) := fun K h => by simp only [aval, abin, hx, hy]; exact ⟨ht, h⟩
theorem p_pneq {i m : Nat} (ht : tyIs P t = 5) (hx : ev x = .box i m) (hy : ev y = .nilptr) : Pv P ⟨d, .binOp .neq t x y t2, ty, pos, af, gd⟩ ev σ (.c (.bool true)) := fun K h => by simp only [aval, abin, hx, hy]; exact ⟨ht, h⟩
theorem p_neql (ht : tyIs P t = 5) (hx : ev x = .nilptr) (hy : ev y = .nilptr) : Pv P ⟨d, .binOp .eql t x y t2, ty, pos, af, gd⟩ ev σ (.c (.bool true)) := fun K h => by simp only [aval, abin, hx, hy]; exact ⟨ht, h⟩
theorem p_nneq (ht : tyIs P t = 5) (hx : ev x = .nilptr) (hy : ev y = .nilptr) : Pv P ⟨d, .binOp .neq t x y t2, ty, pos, af, gd⟩ ev σ (.c (.bool false)) := fun K h => by simp only [aval, abin, hx, hy]; exact ⟨ht, h⟩
theorem p_not {p : Bool} (hx : ev x = .c (.bool p)) : Pv P ⟨d, .unOp .not t x, ty, pos, af, gd⟩ ev σ (.c (.bool (!p))) := fun K h => by simp only [aval, hx]; exact h
theorem p_neg (hx : ev x = .c (.int k a)) : Pv P ⟨d, .unOp .neg t x, ty, pos, af, gd⟩ ev σ (.c (.int k (k.wrap (0 - a)))) := fun K h => by simp only [aval, hx]; exact h
theorem p_conv {kd ks : IntKind} (hs : tyInt P t = some ks) (hd : tyInt P t2 = some kd) (hx : ev x = .c (.int k a)) : Pv P ⟨d, .convert t t2 x, ty, pos, af, gd⟩ ev σ (.c (.int kd (kd.wrap a))) := fun K h => by simp only [aval, hx, hd, hs]; exact h
theorem p_convss {s : List UInt8} (hs : tyIs P t = 2) (hd : tyIs P t2 = 2) (hx : ev x = .c (.str s)) : Pv P ⟨d, .convert t t2 x, ty, pos, af, gd⟩ ev σ (.c (.str s)) := fun K h => by simp only [aval, hx]; exact ⟨hs, hd, h⟩
theorem p_convbs {sz : Nat} {xs : List UInt8} (hs : aval.tyBytes P t) (hd : tyIs P t2 = 2) (hx : isl (ev x) sz brow xs) : Pv P ⟨d, .convert t t2 x, ty, pos, af, gd⟩ ev σ (.c (.str xs)) := fun K h => by
  rcases hx with hx | ⟨_, hx⟩ <;> simp only [aval, hx, PV.ls, AV.os] <;> exact ⟨hs, hd, xs, rfl, h⟩
theorem p_convns (hs : aval.tyBytes P t) (hd : tyIs P t2 = 2) (hx : ev x = .nil) : Pv P ⟨d, .convert t t2 x, ty, pos, af, gd⟩ ev σ (.c (.str [])) := fun K h => by
  simp only [aval, hx]; exact ⟨hs, hd, h⟩
theorem p_func {f : FuncId} {first captured : Array Operand} {cs : List AV} (hf : first = #[]) (hc : captured.toList.map ev = cs) : Pv P ⟨d, .makeFunc (.func f) first captured, ty, pos, af, gd⟩ ev σ (.fn f cs) := fun K h => by
  simp only [aval]; subst hc; exact ⟨hf, h⟩

def lmap (ev : Operand → AV) : List (Nat × Operand) → List (Nat × AV) → Prop
  | [], [] => True
  | (i, x) :: r, (j, v) :: l => i = j ∧ ev x = v ∧ lmap ev r l
  | _, _ => False
def afillX (places : Nat → Option (Nat × Nat)) : List AV → List (Nat × AV) → Option (List AV)
  | cs, [] => some cs
  | cs, (i, v) :: r => match places i with
    | some (off, n) => if v.solid && v.cells.length == n && Nat.ble (off + n) cs.length then afillX places (cs.take off ++ (v.cells ++ cs.drop (off + n))) r else .none
    | _ => .none

/-! slices -/
theorem b_n {n : Nat} {kk : Nat → Nat → Prop} (h : kk 0 n) : abounds .none .none n kk := h
theorem b_l {n : Nat} {a : AV} {l : Int} {kk : Nat → Nat → Prop} (ha : a = .c (.int k l)) (h0 : 0 ≤ l ∧ l ≤ n) (h : kk l.toNat n) : abounds (some a) .none n kk := by subst ha; exact ⟨h0.1, h0.2, h⟩
theorem b_h {n : Nat} {a : AV} {l : Int} {kk : Nat → Nat → Prop} (ha : a = .c (.int k l)) (h0 : 0 ≤ l ∧ l ≤ n) (h : kk 0 l.toNat) : abounds .none (some a) n kk := by subst ha; exact ⟨h0.1, h0.2, h⟩
theorem b_b {n : Nat} {a a' : AV} {l l' : Int} {kk : Nat → Nat → Prop} (ha : a = .c (.int k l)) (ha' : a' = .c (.int k' l')) (h0 : 0 ≤ l ∧ l ≤ l' ∧ l' ≤ n) (h : kk l.toNat l'.toNat) : abounds (some a) (some a') n kk := by subst ha; subst ha'; exact ⟨h0.1, h0.2.1, h0.2.2, h⟩

theorem p_sl {α : Type} {e : TypeId} {sz by_ : Nat} {row : α → List PV} {xs : List α} {l h : Nat} {lo hi : Option Operand} (h7 : tyIs P t ≠ 7) (ht : tySlice P t = some (e, sz, by_)) (hx : isl (ev x) sz row xs)
    (hb : ∀ kk : Nat → Nat → Prop, kk l h → abounds (lo.map ev) (hi.map ev) xs.length kk) : Pv P ⟨d, .slice t x lo hi .none, ty, pos, af, gd⟩ ev σ (.c (PV.ls sz row ((xs.take h).drop l))) := fun K hk => by
  have e1 : PV.ls sz row ((xs.take h).drop l) = .list sz (((xs.map row).take h).drop l) := by simp [PV.ls, List.map_take, List.map_drop]
  rw [e1] at hk
  rcases hx with hx | ⟨t0, hx⟩ <;> simp only [aval, hx, PV.ls, AV.os, aslice, ht] <;> exact ⟨h7, trivial, by rw [List.length_map]; exact hb _ hk⟩
theorem p_slS {s : List UInt8} {l h : Nat} {lo hi : Option Operand} (h7 : tyIs P t = 2) (hx : ev x = .c (.str s))
    (hb : ∀ kk : Nat → Nat → Prop, kk l h → abounds (lo.map ev) (hi.map ev) s.length kk) : Pv P ⟨d, .slice t x lo hi .none, ty, pos, af, gd⟩ ev σ (.c (.str ((s.take h).drop l))) := fun K hk => by
  simp only [aval, hx, aslice]
  exact ⟨by rw [h7]; decide, h7, hb _ hk⟩
theorem p_sl_n {α : Type} {e : TypeId} {sz by_ : Nat} {row : α → List PV} {xs : List α} (h7 : tyIs P t ≠ 7) (ht : tySlice P t = some (e, sz, by_)) (hx : isl (ev x) sz row xs) : Pv P ⟨d, .slice t x .none .none .none, ty, pos, af, gd⟩ ev σ (.c (PV.ls sz row xs)) := by
  have := p_sl (d := d) (ty := ty) (pos := pos) (af := af) (gd := gd) (σ := σ) (l := 0) (h := xs.length) (lo := .none) (hi := .none) h7 ht hx (fun kk => b_n)
  simpa using this
theorem p_sl_l {α : Type} {e : TypeId} {sz by_ : Nat} {row : α → List PV} {xs : List α} {l : Int} (h7 : tyIs P t ≠ 7) (ht : tySlice P t = some (e, sz, by_)) (hx : isl (ev x) sz row xs) (hy : ev y = .c (.int k l)) (h0 : 0 ≤ l ∧ l ≤ xs.length) : Pv P ⟨d, .slice t x (some y) .none .none, ty, pos, af, gd⟩ ev σ (.c (PV.ls sz row (xs.drop l.toNat))) := by
  have := p_sl (d := d) (ty := ty) (pos := pos) (af := af) (gd := gd) (σ := σ) (l := l.toNat) (h := xs.length) (lo := some y) (hi := .none) h7 ht hx (fun kk => b_l hy h0)
  simpa using this
theorem p_sl_h {α : Type} {e : TypeId} {sz by_ : Nat} {row : α → List PV} {xs : List α} {l : Int} (h7 : tyIs P t ≠ 7) (ht : tySlice P t = some (e, sz, by_)) (hx : isl (ev x) sz row xs) (hy : ev y = .c (.int k l)) (h0 : 0 ≤ l ∧ l ≤ xs.length) : Pv P ⟨d, .slice t x .none (some y) .none, ty, pos, af, gd⟩ ev σ (.c (PV.ls sz row (xs.take l.toNat))) := by
  have := p_sl (d := d) (ty := ty) (pos := pos) (af := af) (gd := gd) (σ := σ) (l := 0) (h := l.toNat) (lo := .none) (hi := some y) h7 ht hx (fun kk => b_h hy h0)
  simpa using this
theorem p_sl_b {α : Type} {e : TypeId} {sz by_ : Nat} {row : α → List PV} {xs : List α} {l h : Int} (h7 : tyIs P t ≠ 7) (ht : tySlice P t = some (e, sz, by_)) (hx : isl (ev x) sz row xs) (hy : ev y = .c (.int k l)) (hz : ev z = .c (.int k' h)) (h0 : 0 ≤ l ∧ l ≤ h ∧ h ≤ xs.length) : Pv P ⟨d, .slice t x (some y) (some z) .none, ty, pos, af, gd⟩ ev σ (.c (PV.ls sz row ((xs.take h.toNat).drop l.toNat))) :=
  p_sl (l := l.toNat) (h := h.toNat) (lo := some y) (hi := some z) h7 ht hx (fun kk => b_b hy hz h0)
theorem p_slS_l {s : List UInt8} {l : Int} (h7 : tyIs P t = 2) (hx : ev x = .c (.str s)) (hy : ev y = .c (.int k l)) (h0 : 0 ≤ l ∧ l ≤ s.length) : Pv P ⟨d, .slice t x (some y) .none .none, ty, pos, af, gd⟩ ev σ (.c (.str (s.drop l.toNat))) := by
  have := p_slS (P := P) (d := d) (ty := ty) (pos := pos) (af := af) (gd := gd) (σ := σ) (l := l.toNat) (h := s.length) (lo := some y) (hi := .none) h7 hx (fun kk => b_l hy h0)
  simpa using this
theorem p_slS_h {s : List UInt8} {l : Int} (h7 : tyIs P t = 2) (hx : ev x = .c (.str s)) (hy : ev y = .c (.int k l)) (h0 : 0 ≤ l ∧ l ≤ s.length) : Pv P ⟨d, .slice t x .none (some y) .none, ty, pos, af, gd⟩ ev σ (.c (.str (s.take l.toNat))) := by
  have := p_slS (P := P) (d := d) (ty := ty) (pos := pos) (af := af) (gd := gd) (σ := σ) (l := 0) (h := l.toNat) (lo := .none) (hi := some y) h7 hx (fun kk => b_h hy h0)
  simpa using this
theorem p_slS_b {s : List UInt8} {l h : Int} (h7 : tyIs P t = 2) (hx : ev x = .c (.str s)) (hy : ev y = .c (.int k l)) (hz : ev z = .c (.int k' h)) (h0 : 0 ≤ l ∧ l ≤ h ∧ h ≤ s.length) : Pv P ⟨d, .slice t x (some y) (some z) .none, ty, pos, af, gd⟩ ev σ (.c (.str ((s.take h.toNat).drop l.toNat))) :=
  p_slS (l := l.toNat) (h := h.toNat) (lo := some y) (hi := some z) h7 hx (fun kk => b_b hy hz h0)

theorem p_len {α : Type} {sz : Nat} {row : α → List PV} {xs : List α} (ht : tyIs P t = 3) (hx : isl (ev x) sz row xs) : Pv P ⟨d, .call { callee := .builtin .len, args := #[x], argTypes := #[t] }, ty, pos, af, gd⟩ ev σ (.c (.int .i64 xs.length)) := fun K h => by
  rcases hx with hx | ⟨_, hx⟩ <;> simp only [aval, hx, alen, PV.ls, AV.os, List.length_map] <;> exact ⟨ht, h⟩
theorem p_lenn (ht : tyIs P t = 3) (hx : ev x = .nil) : Pv P ⟨d, .call { callee := .builtin .len, args := #[x], argTypes := #[t] }, ty, pos, af, gd⟩ ev σ (.c (.int .i64 0)) := fun K h => by simp only [aval, hx, alen]; exact ⟨ht, h⟩
theorem p_lens {s : List UInt8} (ht : tyIs P t = 2) (hx : ev x = .c (.str s)) : Pv P ⟨d, .call { callee := .builtin .len, args := #[x], argTypes := #[t] }, ty, pos, af, gd⟩ ev σ (.c (.int .i64 s.length)) := fun K h => by simp only [aval, hx, alen]; exact ⟨ht, h⟩
theorem p_lenp {l : List (Nat × Nat)} (ht : tyIs P t = 3) (hx : ev x = .ptrs l) : Pv P ⟨d, .call { callee := .builtin .len, args := #[x], argTypes := #[t] }, ty, pos, af, gd⟩ ev σ (.c (.int .i64 l.length)) := fun K h => by simp only [aval, hx, alen]; exact ⟨ht, h⟩
theorem p_max {ts : Array TypeId} (hx : ev x = .c (.int k a)) (hy : ev y = .c (.int k' b)) : Pv P ⟨d, .call { callee := .builtin .max, args := #[x, y], argTypes := ts }, ty, pos, af, gd⟩ ev σ (.c (.int k (if b > a then b else a))) := fun K h => by simp only [aval, hx, hy]; exact h
theorem p_min {ts : Array TypeId} (hx : ev x = .c (.int k a)) (hy : ev y = .c (.int k' b)) : Pv P ⟨d, .call { callee := .builtin .min, args := #[x, y], argTypes := ts }, ty, pos, af, gd⟩ ev σ (.c (.int k (if b < a then b else a))) := fun K h => by simp only [aval, hx, hy]; exact h
theorem p_fa {f k0 n id off : Nat} {ag : Bool} (ht : tyField P t f = some (k0, ag, n)) (hx : ev x = .box id off) : Pv P ⟨d, .fieldAddr t x f, ty, pos, af, gd⟩ ev σ (.box id (off + k0)) := fun K h => by simp only [aval, ht, hx]; exact h
theorem p_fae {f k0 n off : Nat} {ag : Bool} {cs : List PV} (ht : tyField P t f = some (k0, ag, n)) (hx : ev x = .eptr cs off) : Pv P ⟨d, .fieldAddr t x f, ty, pos, af, gd⟩ ev σ (.eptr cs (off + k0)) := fun K h => by simp only [aval, ht, hx]; exact h
theorem p_f {f k0 n : Nat} {cs : List AV} (ht : tyField P t f = some (k0, false, n)) (hx : ev x = .agg cs) (hc : cs[k0]? = some v) : Pv P ⟨d, .field t x f, ty, pos, af, gd⟩ ev σ v := fun K h => by simp only [aval, ht, hx, hc]; exact h
theorem p_fs {f k0 n : Nat} {cs us : List AV} (ht : tyField P t f = some (k0, true, n)) (hx : ev x = .agg cs) (hn : Nat.ble (k0 + n) cs.length = true) (hc : (cs.drop k0).take n = us) : Pv P ⟨d, .field t x f, ty, pos, af, gd⟩ ev σ (.agg us) := fun K h => by
  simp only [aval, ht, hx]; subst hc; exact ⟨by rw [Nat.ble_eq] at hn; exact hn, h⟩
theorem p_ia {α : Type} {e : TypeId} {sz by_ : Nat} {row : α → List PV} {xs : List α} {i : Int} {u : α} {cs : List PV} (ht : tySlice P t = some (e, sz, by_)) (hx : isl (ev x) sz row xs) (hy : ev y = .c (.int k i)) (hg : idx xs i = some u) (he : row u = cs) : Pv P ⟨d, .indexAddr t x y, ty, pos, af, gd⟩ ev σ (.eptr cs 0) := fun K h => by
  obtain ⟨h0, h1, h2⟩ := idx_some hg
  subst he
  have key : ∀ r, (xs.map row)[i.toNat]? = some r → K .none (.eptr r 0) σ := fun r hr => by
    rw [List.getElem?_map, h2] at hr
    simp at hr
    subst hr
    exact h
  rcases hx with hx | ⟨_, hx⟩ <;> simp only [aval, ht, hx, hy, PV.ls, AV.os] <;> exact ⟨trivial, h0, by rw [List.length_map]; exact h1, key⟩
theorem p_iap {e : TypeId} {by_ : Nat} {l : List (Nat × Nat)} {i : Int} {p : Nat × Nat} (ht : tySlice P t = some (e, 1, by_)) (hx : ev x = .ptrs l) (hy : ev y = .c (.int k i)) (hg : idx l i = some p) : Pv P ⟨d, .indexAddr t x y, ty, pos, af, gd⟩ ev σ (.pptr p) := fun K h => by
  obtain ⟨h0, h1, h2⟩ := idx_some hg
  simp only [aval, ht, hx, hy]
  exact ⟨trivial, h0, h1, fun q hq => by rw [h2] at hq; cases hq; exact h⟩
theorem p_is {s : List UInt8} {i : Int} {u : UInt8} (ht : tyIs P t = 2) (hx : ev x = .c (.str s)) (hy : ev y = .c (.int k i)) (hg : idx s i = some u) : Pv P ⟨d, .index t x y, ty, pos, af, gd⟩ ev σ (.c (.int .u8 u.toNat)) := fun K h => by
  obtain ⟨h0, h1, h2⟩ := idx_some hg
  simp only [aval, hx, hy]
  exact ⟨ht, h0, h1, fun q hq => by rw [h2] at hq; cases hq; exact h⟩
theorem p_ex {vs : List AV} {i : Nat} (hx : ev x = .tup vs) (hv : vs[i]? = some v) : Pv P ⟨d, .extract x i, ty, pos, af, gd⟩ ev σ v := fun K h => by simp only [aval, hx, hv]; exact h

def afillW (places : Nat → Option (Nat × Nat)) (ev : Operand → AV) : List AV → List (Nat × Operand) → Option (List AV)
  | cs, [] => some cs
  | cs, (i, x) :: r => match places i with
    | some (off, n) => if (ev x).solid && (ev x).cells.length == n && Nat.ble (off + n) cs.length then afillW places ev (cs.take off ++ ((ev x).cells ++ cs.drop (off + n))) r else .none
    | _ => .none
theorem afillW_eq {places : Nat → Option (Nat × Nat)} (hp : ∀ i, tyPlace P t i = places i) : ∀ (parts : List (Nat × Operand)) (cs us : List AV), afillW places ev cs parts = some us → afill P t ev cs parts = some us
  | [], cs, us, h => h
  | (i, x) :: r, cs, us, h => by
    simp only [afillW] at h
    simp only [afill, hp i]
    split at h
    · rename_i off n hpl
      rw [hpl]
      simp only
      split at h
      · rename_i hc
        simp only [Bool.and_eq_true, beq_iff_eq, Nat.ble_eq] at hc
        rw [if_pos ⟨hc.1.1, hc.1.2, hc.2⟩, List.append_assoc]
        exact afillW_eq hp r _ _ h
      · cases h
    · cases h
theorem p_build {parts : Array (Nat × Operand)} {z : List Value} {places : Nat → Option (Nat × Nat)} {cs : List AV} (h6 : tyIs P t = 6 ∧ tyOk P t = true ∧ tyZero P t = some z ∧ ∀ i, tyPlace P t i = places i) (hc : afillW places ev (z.map AV.ofFlat) parts.toList = some cs) : Pv P ⟨d, .build t parts, ty, pos, af, gd⟩ ev σ (.agg cs) := fun K h => by
  simp only [aval, h6.2.2.1, afillW_eq h6.2.2.2 _ _ _ hc]
  exact ⟨h6.1, h6.2.1, h⟩
theorem afillX_eq {places : Nat → Option (Nat × Nat)} : ∀ (parts : List (Nat × Operand)) (l : List (Nat × AV)) (cs us : List AV), lmap ev parts l → afillX places cs l = some us → afillW places ev cs parts = some us
  | [], [], cs, us, _, h => h
  | (i, x) :: r, (j, v) :: l, cs, us, hl, h => by
    obtain ⟨hij, hxv, hl⟩ := hl
    subst hij
    subst hxv
    simp only [afillX] at h
    simp only [afillW]
    cases hpl : places i with
    | none => simp [hpl] at h
    | some q =>
      obtain ⟨off, n⟩ := q
      simp only [hpl] at h ⊢
      split at h
      · rename_i hc
        rw [if_pos hc]
        exact afillX_eq r l _ _ hl h
      · cases h
  | [], _ :: _, _, _, hl, _ => hl.elim
  | _ :: _, [], _, _, hl, _ => by simp [lmap] at hl
theorem fill_nil {places : Nat → Option (Nat × Nat)} {cs : List AV} : afillW places ev cs [] = some cs := rfl
theorem fill_cons {places : Nat → Option (Nat × Nat)} {cs cs' us out : List AV} {i off n : Nat} {v : AV} {r : List (Nat × Operand)} (hp : places i = some (off, n)) (hv : ev x = v) (hs : v.solid = true) (hu : v.cells = us) (hl : (us.length == n && Nat.ble (off + n) cs.length) = true) (hc : cs.take off ++ (us ++ cs.drop (off + n)) = cs')
    (t : afillW places ev cs' r = some out) : afillW places ev cs ((i, x) :: r) = some out := by
  simp only [afillW, hp, hv, hs, hu, Bool.true_and]
  rw [if_pos hl, hc]
  exact t
theorem p_buildc {parts : Array (Nat × Operand)} {z : List Value} {places : Nat → Option (Nat × Nat)} {c0 cs : List AV} (h6 : tyIs P t = 6 ∧ tyOk P t = true ∧ tyZero P t = some z ∧ ∀ i, tyPlace P t i = places i) (h0 : z.map AV.ofFlat = c0) (hc : afillW places ev c0 parts.toList = some cs) : Pv P ⟨d, .build t parts, ty, pos, af, gd⟩ ev σ (.agg cs) := by
  subst h0; exact p_build h6 hc
theorem p_buildg {parts : Array (Nat × Operand)} {z : List Value} {places : Nat → Option (Nat × Nat)} {cs : List AV} (l : List (Nat × AV)) (h6 : tyIs P t = 6 ∧ tyOk P t = true ∧ tyZero P t = some z ∧ ∀ i, tyPlace P t i = places i) (hl : lmap ev parts.toList l) (hc : afillX places (z.map AV.ofFlat) l = some cs) : Pv P ⟨d, .build t parts, ty, pos, af, gd⟩ ev σ (.agg cs) :=
  p_build h6 (afillX_eq _ _ _ _ hl hc)
end
end Go.Proofs.Ytnhchphmmdgphaa.Abs

/- The printed walks' steps: guards whose way is known, parts that may end in any way, types' places. -/
import Derived.Test.YtnhchphmmdgphaaAbs24
namespace Go.Proofs.Ytnhchphmmdgphaa.Abs
open Go
set_option linter.unusedVariables false
set_option linter.unusedSimpArgs false

theorem keq {e w : Bool} (h : e = w) : (e == w) = true := by simp [h]
theorem kne {e w : Bool} (h : e = !w) : (e == w) = false := by subst h; cases w <;> rfl
theorem band {a b : Bool} (h : a = true) (h2 : b = true) : (a && b) = true := by rw [h, h2]; rfl
theorem bandl {a b : Bool} (h : a = false) : (a && b) = false := by rw [h]; rfl
theorem bandr {a b : Bool} (h : b = false) : (a && b) = false := by rw [h]; cases a <;> rfl
theorem ga {a b : Bool} (h : (a && b) = true) : a = true := by cases a <;> simp_all
theorem gb {a b : Bool} (h : (a && b) = true) : b = true := by cases a <;> simp_all
theorem gn {c : Bool} {x v : AV} (h : x = gv c v) (hc : c = false) : x = .tup [] := by rw [h, gv, hc]; rfl

section
variable {P : Program} {all r : List Oper} {d dj j : Nat} {op : Op} {ty : TypeId} {pos : String} {af : Array Edge} {fr : Fr} {σ : St} {K : Fr → St → Prop} {Kq : Fr → Prop} {v : AV} {b c w : Bool}
theorem aqop_guard {dst : Option Tmp} {g g' : Option (Nat × Bool)} {K : AV → Prop} : aqop P ⟨dst, op, ty, pos, af, g⟩ fr σ K = aqop P ⟨dst, op, ty, pos, af, g'⟩ fr σ K := by
  cases op
  case call c => obtain ⟨callee, args, argTypes⟩ := c; cases callee <;> first | rfl | (rename_i b; cases b <;> rfl)
  case slice t x lo hi mx => cases mx <;> rfl
  case makeFunc fn f cs => cases fn <;> rfl
  all_goals rfl
theorem q_yes {dst : Option Tmp} (hj : gslot all j = some dj) (hs : fr.get dj = .c (.bool b)) (hb : b = w) (h : aqw P all (⟨dst, op, ty, pos, af, none⟩ :: r) fr σ Kq) : aqw P all (⟨dst, op, ty, pos, af, some (j, w)⟩ :: r) fr σ Kq :=
  ag_c rfl hj hs (fun _ => by rw [aqop_guard (g' := none)]; exact h) (fun e => absurd hb e)
theorem q_no {dst : Option Tmp} (hj : gslot all j = some dj) (hs : fr.get dj = .c (.bool b)) (hb : b = !w) (h : aqw P all r (fr.put dst (.tup [])) σ Kq) : aqw P all (⟨dst, op, ty, pos, af, some (j, w)⟩ :: r) fr σ Kq :=
  ag_c rfl hj hs (fun e => by subst e; cases b <;> simp at hb) (fun _ => h)
theorem q_skip {dst : Option Tmp} (hj : gslot all j = some dj) (hs : fr.get dj = .tup []) (h : aqw P all r (fr.put dst (.tup [])) σ Kq) : aqw P all (⟨dst, op, ty, pos, af, some (j, w)⟩ :: r) fr σ Kq :=
  ag_t rfl hj hs h
end

section
variable {P : Program} {d : Option Tmp} {ty : TypeId} {pos : String} {af : Array Edge} {gd : Option (Nat × Bool)} {ev : Operand → AV} {σ : St} {x y z : Operand} {q p : Bool}
theorem p_pick_t (hx : ev x = .c (.bool q)) (hq : q = true) (hy : ev y = .c (.bool p)) : Pv P ⟨d, .pick x y z, ty, pos, af, gd⟩ ev σ (.c (.bool p)) := fun K h => by
  subst hq
  simp only [aval, hx, hy]
  split
  · rename_i e1 e2; cases e1; exact h
  · exact ⟨fun _ => h, fun e => by cases e⟩
theorem p_pick_f (hx : ev x = .c (.bool q)) (hq : q = false) (hz : ev z = .c (.bool p)) : Pv P ⟨d, .pick x y z, ty, pos, af, gd⟩ ev σ (.c (.bool p)) := fun K h => by
  subst hq
  simp only [aval, hx, hz]
  split
  · rename_i e1 e2; cases e2; exact h
  · exact ⟨(fun e => by cases e), fun _ => h⟩
end

def plOf (l : List (Nat × Option Nat)) (i : Nat) : Option (Nat × Nat) := match l[i]? with | some (o, some n) => some (o, n) | _ => none
def plAll (P : Program) (t : TypeId) : Option (List (Nat × Option Nat)) := match tyFields P t with | some fs => some (fs.toList.map fun x => (x.offset, (P.info? x.type).map (·.size))) | _ => none
theorem tyPlace_all {P : Program} {t : TypeId} {l : List (Nat × Option Nat)} (h : plAll P t = some l) (i : Nat) : tyPlace P t i = plOf l i := by
  unfold plAll at h
  unfold tyPlace plOf
  split at h
  · rename_i fs hf
    cases h
    simp only [hf, List.getElem?_map, Array.getElem?_toList]
    cases hx : fs[i]? with
    | none => rfl
    | some x => simp only [Option.map_some]; cases P.info? x.type <;> rfl
  · cases h

section
variable {P : Program} {V : List Nat} {k0 : Nat} {Q : Exit → Fr → St → Prop} {fr : Fr} {σ : St} {K : Fr → St → Prop}
/-- An end that a frame told less reaches, too. -/
def Closed (k0 : Nat) (Q : Exit → Fr → St → Prop) : Prop := ∀ fr σ fr' σ', Weak k0 fr σ fr' σ' → Q .normal fr' σ' → Q .normal fr σ
def kw (P : Program) (V : List Nat) (k0 : Nat) (y : Code) (Q : Exit → Fr → St → Prop) : Fr → St → Prop := fun fr σ => ∃ fr' σ', Weak k0 fr σ fr' σ' ∧ awp P V k0 y Q fr' σ'
theorem w_seqw {x y : Code} (h : awp P V k0 x (seqQ (kw P V k0 y Q) Q) fr σ) : awp P V k0 (.seq x y) Q fr σ := by
  refine awp_mono x (fun e fr σ he => ?_) h
  cases e with
  | normal => exact he
  | _ => exact he
theorem e_kw {y : Code} (h : awp P V k0 y Q fr σ) : seqQ (kw P V k0 y Q) Q .normal fr σ := ⟨fr, σ, Weak.refl _ _ _, h⟩
theorem cl_kw {y : Code} {Q' : Exit → Fr → St → Prop} : Closed k0 (seqQ (kw P V k0 y Q) Q') := fun fr σ fr' σ' hw ⟨fr2, σ2, hw2, h⟩ => ⟨fr2, σ2, hw.trans hw2, h⟩
theorem cl_j {J : Type} {C : J → Prop} {F : J → Fr} {G : J → St} : Closed k0 (seqQ (fun fr σ => ∃ j, C j ∧ Weak k0 fr σ (F j) (G j)) Q) := fun fr σ fr' σ' hw ⟨j, h1, h2⟩ => ⟨j, h1, hw.trans h2⟩
theorem cl_b {id : Nat} (h : Closed k0 Q) : Closed k0 (blkQ id Q) := fun fr σ fr' σ' hw h' => h fr σ fr' σ' hw h'
theorem w_jtail {x : Code} {J : Type} (hQ : Closed k0 Q) (C : J → Prop) (F : J → Fr) (G : J → St) (h : awp P V k0 x (seqQ (fun fr σ => ∃ j, C j ∧ Weak k0 fr σ (F j) (G j)) Q) fr σ) (h2 : ∀ j, C j → Q .normal (F j) (G j)) : awp P V k0 x Q fr σ :=
  awp_mono x (fun e fr σ he => by
    cases e with
    | normal => obtain ⟨j, h1, h3⟩ := he; exact hQ _ _ _ _ h3 (h2 j h1)
    | _ => exact he) h
theorem e_j {J : Type} {C : J → Prop} {F : J → Fr} {G : J → St} (j : J) (h : C j) (hw : Weak k0 fr σ (F j) (G j)) : seqQ (fun fr σ => ∃ j, C j ∧ Weak k0 fr σ (F j) (G j)) Q .normal fr σ := ⟨j, h, hw⟩
end
def rowI (k : IntKind) (n : Int) : List PV := [.int k n]
def rowB (b : Bool) : List PV := [.bool b]
def rowS (s : List UInt8) : List PV := [.str s]
def rowL {α : Type} (sz : Nat) (row : α → List PV) (xs : List α) : List PV := [PV.ls sz row xs]
theorem brow_len (x : UInt8) : (brow x).length = 1 := rfl
theorem arow1 {α : Type} {row : α → List PV} {p : List PV} {x : α} (h : row x = p) : [p] = [x].map row := by simp [h]
theorem arow_nil {α : Type} {row : α → List PV} : ([] : List (List PV)) = ([] : List α).map row := rfl
theorem arow_cons {α : Type} {row : α → List PV} {p : List PV} {ps : List (List PV)} {x : α} {xs : List α} (h : row x = p) (t : ps = xs.map row) : p :: ps = (x :: xs).map row := by simp [h, t]
end Go.Proofs.Ytnhchphmmdgphaa.Abs

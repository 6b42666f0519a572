/- The printed walks' steps: guards whose way is known, parts that may end in any way, types' places. The printed walks' steps: calls that are handed no variable, cells of bytes. The printed walks' steps in regions whose order is drawn. From a law's data to typed values. The printed walks' steps: arrays, and equality of structs. The printed walks' steps: rows that may be stored into, arrays told by slices. The printed walks' steps, in fewer signs. -/
import Derived.Test.YtlfggjfndmfblaaAbs24
import Derived.Test.YtlfggjfndmfblaaPk1
namespace Go.Proofs.Ytlfggjfndmfblaa.Abs
open Go
set_option linter.unusedVariables false
set_option linter.unusedSimpArgs false

theorem keq {e w : Bool} (h : e = w) : (e == w) = true := by simp [h]
theorem kne {e w : Bool} (h : e = !w) : (e == w) = false := by subst h; cases w <;> rfl
theorem band {a b : Bool} (h : a = true) (h2 : b = true) : (a && b) = true := by rw [h, h2]; rfl
theorem bandl {a b : Bool} (h : a = false) : (a && b) = false := by rw [h]; rfl
theorem bandr {a b : Bool} (h : b = false) : (a && b) = false := by rw [h]; cases a <;> rfl
theorem ga {a b : Bool} (h : (a && b) = true) : a = true := by cases a <;> simp_all
theorem gb {a b : Bool} (h : (a && b) = true) : b = true := by cases a <;> simp_all
theorem gn {c : Bool} {x v : AV} (h : x = gv c v) (hc : c = false) : x = .tup [] := by rw [h, gv, hc]; rfl

section
variable {P : Program} {all r : List Oper} {d dj j : Nat} {op : Op} {ty : TypeId} {pos : String} {af : Array Edge} {fr : Fr} {σ : St} {K : Fr → St → Prop} {Kq : Fr → Prop} {v : AV} {b c w : Bool}
theorem aqop_guard {dst : Option Tmp} {g g' : Option (Nat × Bool)} {K : AV → Prop} : aqop P ⟨dst, op, ty, pos, af, g⟩ fr σ K = aqop P ⟨dst, op, ty, pos, af, g'⟩ fr σ K := by
  cases op
  case call c => obtain ⟨callee, args, argTypes⟩ := c; cases callee <;> first | rfl | (rename_i b; cases b <;> rfl)
  case slice t x lo hi mx => cases mx <;> rfl
  case makeFunc fn f cs => cases fn <;> rfl
  all_goals rfl
theorem q_yes {dst : Option Tmp} (hj : gslot all j = some dj) (hs : fr.get dj = .c (.bool b)) (hb : b = w) (h : aqw P all (⟨dst, op, ty, pos, af, none⟩ :: r) fr σ Kq) : aqw P all (⟨dst, op, ty, pos, af, some (j, w)⟩ :: r) fr σ Kq :=
  ag_c rfl hj hs (fun _ => by rw [aqop_guard (g' := none)]; exact h) (fun e => absurd hb e)
theorem q_no {dst : Option Tmp} (hj : gslot all j = some dj) (hs : fr.get dj = .c (.bool b)) (hb : b = !w) (h : aqw P all r (fr.put dst (.tup [])) σ Kq) : aqw P all (⟨dst, op, ty, pos, af, some (j, w)⟩ :: r) fr σ Kq :=
  ag_c rfl hj hs (fun e => by subst e; cases b <;> simp at hb) (fun _ => h)
theorem q_skip {dst : Option Tmp} (hj : gslot all j = some dj) (hs : fr.get dj = .tup []) (h : aqw P all r (fr.put dst (.tup [])) σ Kq) : aqw P all (⟨dst, op, ty, pos, af, some (j, w)⟩ :: r) fr σ Kq :=
  ag_t rfl hj hs h
end

section
variable {P : Program} {d : Option Tmp} {ty : TypeId} {pos : String} {af : Array Edge} {gd : Option (Nat × Bool)} {ev : Operand → AV} {σ : St} {x y z : Operand} {q p : Bool}
theorem p_pick_t (hx : ev x = .c (.bool q)) (hq : q = true) (hy : ev y = .c (.bool p)) : Pv P ⟨d, .pick x y z, ty, pos, af, gd⟩ ev σ (.c (.bool p)) := fun K h => by
  subst hq
  (refine .inl ?_; simp only [aval0, hx, hy])
  split
  · rename_i e1 e2; cases e1; exact h
  · exact ⟨fun _ => h, fun e => by cases e⟩
theorem p_pick_f (hx : ev x = .c (.bool q)) (hq : q = false) (hz : ev z = .c (.bool p)) : Pv P ⟨d, .pick x y z, ty, pos, af, gd⟩ ev σ (.c (.bool p)) := fun K h => by
  subst hq
  (refine .inl ?_; simp only [aval0, hx, hz])
  split
  · rename_i e1 e2; cases e2; exact h
  · exact ⟨(fun e => by cases e), fun _ => h⟩
end

def plOf (l : List (Nat × Option Nat)) (i : Nat) : Option (Nat × Nat) := match l[i]? with | some (o, some n) => some (o, n) | _ => none
def plAll (P : Program) (t : TypeId) : Option (List (Nat × Option Nat)) := match tyFields P t with | some fs => some (fs.toList.map fun x => (x.offset, (P.info? x.type).map (·.size))) | _ => none
theorem tyPlace_all {P : Program} {t : TypeId} {l : List (Nat × Option Nat)} (h : plAll P t = some l) (i : Nat) : tyPlace P t i = plOf l i := by
  unfold plAll at h
  unfold tyPlace plOf
  split at h
  · rename_i fs hf
    cases h
    simp only [hf, List.getElem?_map, Array.getElem?_toList]
    cases hx : fs[i]? with
    | none => rfl
    | some x => simp only [Option.map_some]; cases P.info? x.type <;> rfl
  · cases h

section
variable {P : Program} {V : List Nat} {k0 : Nat} {Q : Exit → Fr → St → Prop} {fr : Fr} {σ : St} {K : Fr → St → Prop}
/-- An end that a frame told less reaches, too. -/
def Closed (k0 : Nat) (Q : Exit → Fr → St → Prop) : Prop := ∀ fr σ fr' σ', Weak k0 fr σ fr' σ' → Q .normal fr' σ' → Q .normal fr σ
def kw (P : Program) (V : List Nat) (k0 : Nat) (y : Code) (Q : Exit → Fr → St → Prop) : Fr → St → Prop := fun fr σ => ∃ fr' σ', Weak k0 fr σ fr' σ' ∧ awp P V k0 y Q fr' σ'
theorem w_seqw {x y : Code} (h : awp P V k0 x (seqQ (kw P V k0 y Q) Q) fr σ) : awp P V k0 (.seq x y) Q fr σ := by
  refine awp_mono x (fun e fr σ he => ?_) h
  cases e with
  | normal => exact he
  | _ => exact he
theorem e_kw {y : Code} (h : awp P V k0 y Q fr σ) : seqQ (kw P V k0 y Q) Q .normal fr σ := ⟨fr, σ, Weak.refl _ _ _, h⟩
theorem cl_kw {y : Code} {Q' : Exit → Fr → St → Prop} : Closed k0 (seqQ (kw P V k0 y Q) Q') := fun fr σ fr' σ' hw ⟨fr2, σ2, hw2, h⟩ => ⟨fr2, σ2, hw.trans hw2, h⟩
theorem cl_j {J : Type} {C : J → Prop} {F : J → Fr} {G : J → St} : Closed k0 (seqQ (fun fr σ => ∃ j, C j ∧ Weak k0 fr σ (F j) (G j)) Q) := fun fr σ fr' σ' hw ⟨j, h1, h2⟩ => ⟨j, h1, hw.trans h2⟩
theorem cl_b {id : Nat} (h : Closed k0 Q) : Closed k0 (blkQ id Q) := fun fr σ fr' σ' hw h' => h fr σ fr' σ' hw h'
theorem w_jtail {x : Code} {J : Type} (hQ : Closed k0 Q) (C : J → Prop) (F : J → Fr) (G : J → St) (h : awp P V k0 x (seqQ (fun fr σ => ∃ j, C j ∧ Weak k0 fr σ (F j) (G j)) Q) fr σ) (h2 : ∀ j, C j → Q .normal (F j) (G j)) : awp P V k0 x Q fr σ :=
  awp_mono x (fun e fr σ he => by
    cases e with
    | normal => obtain ⟨j, h1, h3⟩ := he; exact hQ _ _ _ _ h3 (h2 j h1)
    | _ => exact he) h
theorem w_jnever {x : Code} {J : Type} (F : J → Fr) (G : J → St) (h : awp P V k0 x (seqQ (fun fr σ => ∃ j, (fun _ : J => False) j ∧ Weak k0 fr σ (F j) (G j)) Q) fr σ) : awp P V k0 x Q fr σ :=
  awp_mono x (fun e fr σ he => by
    cases e with
    | normal => obtain ⟨j, h1, h3⟩ := he; exact h1.elim
    | _ => exact he) h
theorem e_j {J : Type} {C : J → Prop} {F : J → Fr} {G : J → St} (j : J) (h : C j) (hw : Weak k0 fr σ (F j) (G j)) : seqQ (fun fr σ => ∃ j, C j ∧ Weak k0 fr σ (F j) (G j)) Q .normal fr σ := ⟨j, h, hw⟩
end
def rowI (k : IntKind) (n : Int) : List PV := [.int k n]
def rowB (b : Bool) : List PV := [.bool b]
def rowS (s : List UInt8) : List PV := [.str s]
def rowL {α : Type} (sz : Nat) (row : α → List PV) (xs : List α) : List PV := [PV.ls sz row xs]
theorem brow_len (x : UInt8) : (brow x).length = 1 := rfl
theorem arow1 {α : Type} {row : α → List PV} {p : List PV} {x : α} (h : row x = p) : [p] = [x].map row := by simp [h]
theorem arow_nil {α : Type} {row : α → List PV} : ([] : List (List PV)) = ([] : List α).map row := rfl
theorem arow_cons {α : Type} {row : α → List PV} {p : List PV} {ps : List (List PV)} {x : α} {xs : List α} (h : row x = p) (t : ps = xs.map row) : p :: ps = (x :: xs).map row := by simp [h, t]
end Go.Proofs.Ytlfggjfndmfblaa.Abs

namespace Go.Proofs.Ytlfggjfndmfblaa.Abs
open Go
set_option linter.unusedVariables false
set_option linter.unusedSimpArgs false
variable {mo : Bool}

theorem St.dem_upd (f : Nat → Bool) (σ : St) (d : Nat) : σ.after [] d [] = σ.dem fun t => t / 16 == d := by simp [St.after, St.upd, endF_nil]

section
variable {P : Program} {all r : List Oper} {d : Nat} {op : Op} {ty : TypeId} {pos : String} {af : Array Edge} {fr : Fr} {σ : St} {K : Fr → St → Prop} {v : AV}
theorem o_v (hv : Ov P ⟨some d, op, ty, pos, af, none⟩ fr σ v) (h : aops mo P all r ((d, v) :: fr) σ K) : aops mo P all (⟨some d, op, ty, pos, af, none⟩ :: r) fr σ K := by
  refine aops_none ?_
  exact hv _ h
theorem ov_call {gd : Option (Nat × Bool)} {fo : Operand} {args : Array Operand} {ts : Array TypeId} {f : FuncId} {caps as : List AV} {rv : AV} (hf : fr.ev fo = .fn f caps) (hc : ACalls P f as [] rv []) (ha : leP (AV.lowL [] (args.toList.map fr.ev ++ caps)) as)
    (hfr : (fr.dem fun t => t / 16 == d) = fr) (hσ : (σ.dem fun t => t / 16 == d) = σ) (hv : rv.lift [] σ.length d = v) :
    Ov P ⟨some d, .call { callee := .value fo, args := args, argTypes := ts }, ty, pos, af, gd⟩ fr σ v := fun K hk => by
  unfold aop
  simp only [hf, acall]
  refine ⟨d, [], [], as, [], rv, [], .nil, .nil, by simp, leL_of ha, by simp [St.sub]; exact .nil, hc, ?_⟩
  simp only [Option.getD_some, endF_nil, hfr, hv, St.dem_upd (fun _ => true), hσ]
  exact hk
end
theorem o_nilc {α : Type} {P : Program} {all r : List Oper} {d : Nat} {ty t t2 : TypeId} {pos : String} {af : Array Edge} {fr : Fr} {σ : St} {K : Fr → St → Prop} {sz : Nat} {row : α → List PV} {xs : List α} {x : Operand} (ht : tyIs P t = 3) (hx : isl (fr.ev x) sz row xs)
    (h : ∀ b : Bool, (b = true → xs = []) → aops mo P all r ((d, .c (.bool b)) :: fr) σ K) : aops mo P all (⟨some d, .binOp .eql t x (.const (.slice .none 0 0)) t2, ty, pos, af, none⟩ :: r) fr σ K := by
  refine aops_none ?_
  have hk : ∀ b : Bool, (b = true → xs.map row = []) → aops mo P all r ((d, .c (.bool (b != false))) :: fr) σ K := fun b hb => by
    have := h b (fun e => by simpa using hb e)
    simpa using this
  have hn : fr.ev (.const (.slice .none 0 0)) = .nil := rfl
  rcases hx with hx | ⟨t0, hx⟩ <;> simp only [aop, isNilCmp, anil, hx, hn, PV.ls, AV.os] <;> exact ⟨ht, hk⟩
theorem brow_of {n : Int} {x : UInt8} (h : byteOf n = some x) : brow x = [.int .u8 n] := by rw [byteOf_some h]; rfl
theorem w_cond_kt {P : Program} {V : List Nat} {k0 : Nat} {Q : Exit → Fr → St → Prop} {fr : Fr} {σ : St} {c : Operand} {x y : Code} {b : Bool} (h : fr.ev c = .c (.bool b)) (hb : b = true) (h1 : awp P V k0 x Q fr σ) : awp P V k0 (.cond c x y) Q fr σ := w_cond b h (fun _ => h1) (fun e => by rw [hb] at e; cases e)
theorem w_cond_kf {P : Program} {V : List Nat} {k0 : Nat} {Q : Exit → Fr → St → Prop} {fr : Fr} {σ : St} {c : Operand} {x y : Code} {b : Bool} (h : fr.ev c = .c (.bool b)) (hb : b = false) (h1 : awp P V k0 y Q fr σ) : awp P V k0 (.cond c x y) Q fr σ := w_cond b h (fun e => by rw [hb] at e; cases e) (fun _ => h1)
theorem st_r {cs bs : List AV} {σ σ' : St} (h : cs = bs) (t : leS σ σ') : leS (cs :: σ) (bs :: σ') := by subst h; exact .cons (AV.leL_refl _) t
section
variable {k0 : Nat} {Q : Exit → Fr → St → Prop} {fr : Fr} {σ : St}
theorem cl_l {S R : Type} {st : Step S R} {F : S → Fr} {G : S → St} : Closed k0 (seqQ (fun fr σ => ∃ s', st = .next s' ∧ Weak k0 fr σ (F s') (G s')) Q) := fun fr σ fr' σ' hw ⟨j, h1, h2⟩ => ⟨j, h1, hw.trans h2⟩
theorem e_l {S R : Type} {st : Step S R} {F : S → Fr} {G : S → St} (s : S) (h : st = .next s) (hw : Weak k0 fr σ (F s) (G s)) : seqQ (fun fr σ => ∃ s', st = .next s' ∧ Weak k0 fr σ (F s') (G s')) Q .normal fr σ := ⟨s, h, hw⟩
end
theorem le_gv {x v w : AV} {ids : List Nat} (h : x = v) (hl : (v.low ids).le w) : (x.low ids).le w := by rw [h]; exact hl
theorem p_k {P : Program} {o : Oper} {ev : Operand → AV} {σ : St} {p q : PV} (h : Pv P o ev σ (.c p)) (he : p = q) : Pv P o ev σ (.c q) := he ▸ h
def frOk (f : Nat → Bool) : Fr → Prop
  | [] => True
  | (_, a) :: r => AV.dem f a = a ∧ frOk f r
theorem ok_nil {f : Nat → Bool} : frOk f [] := trivial
theorem ok_cons {f : Nat → Bool} {i : Nat} {a : AV} {r : Fr} (h : AV.dem f a = a) (t : frOk f r) : frOk f ((i, a) :: r) := ⟨h, t⟩
theorem dgv {f : Nat → Bool} {c : Bool} {v : AV} (h : AV.dem f v = v) : AV.dem f (gv c v) = gv c v := by
  cases c
  · rfl
  · exact h
theorem ok_eq {f : Nat → Bool} : ∀ {fr : Fr}, frOk f fr → Fr.dem f fr = fr
  | [], _ => rfl
  | (i, a) :: r, h => by simp only [Fr.dem, h.1, ok_eq h.2]
theorem of_dec {p : Prop} [Decidable p] (h : (decide p) = true) : p := of_decide_eq_true h
theorem none_ne {α : Type} {r : α} {A : Prop} (h : (none : Option α) = some r) : A := by cases h
end Go.Proofs.Ytlfggjfndmfblaa.Abs

namespace Go.Proofs.Ytlfggjfndmfblaa.Abs
open Go
set_option linter.unusedVariables false
set_option linter.unusedSimpArgs false

section
variable {P : Program} {ops : Array Oper} {r : List PI} {i : Nat} {rl : List Nat} {d dj j : Nat} {op : Op} {ty : TypeId} {pos : String} {af : Array Edge} {fr : Fr} {σ : St} {K : Fr → St → Prop} {v : AV} {b c w : Bool}

theorem aq_of {o : Oper} (h : Qv P o fr σ v) : AQ P o fr.ev σ v := by
  obtain ⟨u, h1, h2⟩ := aqop_sound (h (fun x => x = v) rfl)
  rw [← h2]; exact h1
theorem d_end {fr' : Fr} {V : List Nat} {Q : Exit → Fr → St → Prop} (hp : prune V fr = fr') (h : Q .normal fr' σ) : ad P ops [] fr σ fun fr σ => hold (Q .normal (prune V fr) σ) := by
  subst hp; exact h
theorem d_q (ho : ops[i]? = some ⟨some d, op, ty, pos, af, none⟩) (hv : Qv P ⟨some d, op, ty, pos, af, none⟩ fr σ v) (h : ad P ops r ((d, v) :: fr) σ K) : ad P ops (.q i :: r) fr σ K := by
  simp only [ad, ho, aguard]
  exact ⟨v, aq_of hv, h⟩
theorem d_g (ho : ops[i]? = some ⟨some d, op, ty, pos, af, some (j, w)⟩) (hj : gslot ops.toList j = some dj) (hs : fr.get dj = .c (.bool b)) (hv : (b == w) = true → Qv P ⟨some d, op, ty, pos, af, some (j, w)⟩ fr σ v) (h : ad P ops r ((d, gv (b == w) v) :: fr) σ K) : ad P ops (.q i :: r) fr σ K := by
  simp only [ad, ho]
  refine ag_c rfl hj hs (fun e => ?_) (fun e => ?_)
  · have e' : (b == w) = true := by simp [e]
    refine ⟨v, aq_of (hv e'), ?_⟩
    rw [e', gv, if_pos rfl] at h
    exact h
  · have e' : (b == w) = false := by simpa using e
    rw [e', gv, if_neg (by simp)] at h
    exact h
theorem d_gg (ho : ops[i]? = some ⟨some d, op, ty, pos, af, some (j, w)⟩) (hj : gslot ops.toList j = some dj) (hs : fr.get dj = gv c (.c (.bool b))) (hv : (c && (b == w)) = true → Qv P ⟨some d, op, ty, pos, af, some (j, w)⟩ fr σ v) (h : ad P ops r ((d, gv (c && (b == w)) v) :: fr) σ K) : ad P ops (.q i :: r) fr σ K := by
  cases c with
  | true =>
    rw [Bool.true_and] at h hv
    exact d_g ho hj (by rw [hs, gv, if_pos rfl]) hv h
  | false =>
    rw [gv, if_neg (by simp)] at hs
    rw [Bool.false_and, gv, if_neg (by simp)] at h
    simp only [ad, ho]
    exact ag_t rfl hj hs h
/-- One of the others: done as in any region, then the quiet ones that may float are looked at again. -/
theorem d_n {o : Oper} (ho : ops[i]? = some o) (h : aops false P ops.toList [o] fr σ fun fr' σ' => RC P ops σ' fr' rl ∧ ad P ops r fr' σ' K) (hg : o.guard = none) : ad P ops (.n i rl :: r) fr σ K := by
  obtain ⟨dst, op, ty, pos, af, guard⟩ := o
  cases hg
  simp only [ad, ho, aguard]
  exact h
/-- The same under a guard: its way is known. -/
theorem d_yes {dst : Option Tmp} (ho : ops[i]? = some ⟨dst, op, ty, pos, af, some (j, w)⟩) (hj : gslot ops.toList j = some dj) (hs : fr.get dj = .c (.bool b)) (hb : b = w) (h : aops false P ops.toList [⟨dst, op, ty, pos, af, none⟩] fr σ fun fr' σ' => RC P ops σ' fr' rl ∧ ad P ops r fr' σ' K) : ad P ops (.n i rl :: r) fr σ K := by
  simp only [ad, ho]
  exact ag_c rfl hj hs (fun _ => by rw [aop_guard (g' := none)]; exact h) (fun e => absurd hb e)
theorem d_no {dst : Option Tmp} (ho : ops[i]? = some ⟨dst, op, ty, pos, af, some (j, w)⟩) (hj : gslot ops.toList j = some dj) (hs : fr.get dj = .c (.bool b)) (hb : b = !w) (h : ad P ops r (fr.put dst (.tup [])) σ K) : ad P ops (.n i rl :: r) fr σ K := by
  simp only [ad, ho]
  exact ag_c rfl hj hs (fun e => by subst e; cases b <;> simp at hb) (fun _ => h)
theorem d_skip {dst : Option Tmp} (ho : ops[i]? = some ⟨dst, op, ty, pos, af, some (j, w)⟩) (hj : gslot ops.toList j = some dj) (hs : fr.get dj = .tup []) (h : ad P ops r (fr.put dst (.tup [])) σ K) : ad P ops (.n i rl :: r) fr σ K := by
  simp only [ad, ho]
  exact ag_t rfl hj hs h
theorem d_qno {dst : Option Tmp} (ho : ops[i]? = some ⟨dst, op, ty, pos, af, some (j, w)⟩) (hj : gslot ops.toList j = some dj) (hs : fr.get dj = .c (.bool b)) (hb : b = !w) (h : ad P ops r (fr.put dst (.tup [])) σ K) : ad P ops (.q i :: r) fr σ K := by
  simp only [ad, ho]
  exact ag_c rfl hj hs (fun e => by subst e; cases b <;> simp at hb) (fun _ => h)
theorem d_qskip {dst : Option Tmp} (ho : ops[i]? = some ⟨dst, op, ty, pos, af, some (j, w)⟩) (hj : gslot ops.toList j = some dj) (hs : fr.get dj = .tup []) (h : ad P ops r (fr.put dst (.tup [])) σ K) : ad P ops (.q i :: r) fr σ K := by
  simp only [ad, ho]
  exact ag_t rfl hj hs h
theorem d_qyes (ho : ops[i]? = some ⟨some d, op, ty, pos, af, some (j, w)⟩) (hj : gslot ops.toList j = some dj) (hs : fr.get dj = .c (.bool b)) (hb : b = w) (hv : Qv P ⟨some d, op, ty, pos, af, some (j, w)⟩ fr σ v) (h : ad P ops r ((d, v) :: fr) σ K) : ad P ops (.q i :: r) fr σ K := by
  simp only [ad, ho]
  exact ag_c rfl hj hs (fun _ => ⟨v, aq_of hv, h⟩) (fun e => absurd hb e)
theorem o_rc {all : List Oper} (h : K fr σ) : aops false P all [] fr σ K := h
/-! looking again -/
theorem rc_nil : RC P ops σ fr [] := trivial
theorem rc_q {q : Nat} (ho : ops[q]? = some ⟨some d, op, ty, pos, af, none⟩) (hd : fr.get d = v) (hv : Qv P ⟨some d, op, ty, pos, af, none⟩ fr σ v) (t : RC P ops σ fr rl) : RC P ops σ fr (q :: rl) := by
  refine ⟨⟨_, d, ho, rfl, ?_⟩, t⟩
  rw [hd]
  show AQ P _ _ σ v
  rw [evF_get]
  exact aq_of hv
theorem rc_g {q : Nat} (ho : ops[q]? = some ⟨some d, op, ty, pos, af, some (j, w)⟩) (hj : gslot ops.toList j = some dj) (hs : fr.get dj = .c (.bool b)) (hd : fr.get d = gv (b == w) v) (hv : (b == w) = true → Qv P ⟨some d, op, ty, pos, af, some (j, w)⟩ fr σ v) (t : RC P ops σ fr rl) : RC P ops σ fr (q :: rl) := by
  refine ⟨⟨_, d, ho, rfl, ?_⟩, t⟩
  unfold YA
  rw [evF_get, hd]
  refine ag_c rfl hj hs (fun e => ?_) (fun e => ?_)
  · have e' : (b == w) = true := by simp [e]
    rw [e', gv, if_pos rfl]; exact aq_of (hv e')
  · have e' : (b == w) = false := by simpa using e
    rw [e', gv, if_neg (by simp)]
theorem rc_gg {q : Nat} (ho : ops[q]? = some ⟨some d, op, ty, pos, af, some (j, w)⟩) (hj : gslot ops.toList j = some dj) (hs : fr.get dj = gv c (.c (.bool b))) (hd : fr.get d = gv (c && (b == w)) v) (hv : (c && (b == w)) = true → Qv P ⟨some d, op, ty, pos, af, some (j, w)⟩ fr σ v) (t : RC P ops σ fr rl) : RC P ops σ fr (q :: rl) := by
  cases c with
  | true =>
    rw [Bool.true_and] at hd hv
    exact rc_g ho hj (by rw [hs, gv, if_pos rfl]) hd hv t
  | false =>
    rw [gv, if_neg (by simp)] at hs
    rw [Bool.false_and, gv, if_neg (by simp)] at hd
    refine ⟨⟨_, d, ho, rfl, ?_⟩, t⟩
    unfold YA
    rw [evF_get, hd]
    exact ag_t rfl hj hs rfl
theorem rc_yes {q : Nat} (ho : ops[q]? = some ⟨some d, op, ty, pos, af, some (j, w)⟩) (hj : gslot ops.toList j = some dj) (hs : fr.get dj = .c (.bool b)) (hb : b = w) (hd : fr.get d = v) (hv : Qv P ⟨some d, op, ty, pos, af, some (j, w)⟩ fr σ v) (t : RC P ops σ fr rl) : RC P ops σ fr (q :: rl) := by
  refine ⟨⟨_, d, ho, rfl, ?_⟩, t⟩
  unfold YA
  rw [evF_get, hd]
  exact ag_c rfl hj hs (fun _ => aq_of hv) (fun e => absurd hb e)
theorem rc_no {q : Nat} (ho : ops[q]? = some ⟨some d, op, ty, pos, af, some (j, w)⟩) (hj : gslot ops.toList j = some dj) (hs : fr.get dj = .c (.bool b)) (hb : b = !w) (hd : fr.get d = .tup []) (t : RC P ops σ fr rl) : RC P ops σ fr (q :: rl) := by
  refine ⟨⟨_, d, ho, rfl, ?_⟩, t⟩
  unfold YA
  rw [evF_get, hd]
  exact ag_c rfl hj hs (fun e => by subst e; cases b <;> simp at hb) (fun _ => rfl)
theorem rc_skip {q : Nat} (ho : ops[q]? = some ⟨some d, op, ty, pos, af, some (j, w)⟩) (hj : gslot ops.toList j = some dj) (hs : fr.get dj = .tup []) (hd : fr.get d = .tup []) (t : RC P ops σ fr rl) : RC P ops σ fr (q :: rl) := by
  refine ⟨⟨_, d, ho, rfl, ?_⟩, t⟩
  unfold YA
  rw [evF_get, hd]
  exact ag_t rfl hj hs rfl
end

/-! ### A plan's check, out of tables -/
def stepM (acc : List Nat) (o : Oper) : Nat := o.after.toList.foldl (fun m e => if Region.binds .any e then m ||| (1 <<< e.on) ||| acc.getD e.on 0 else m) 0
def masks : List Oper → List Nat → List Nat
  | [], acc => acc
  | o :: r, acc => masks r (acc ++ [stepM acc o])
theorem foldl_bits {acc : List Nat} : ∀ (l : List Edge) (m j : Nat), (l.foldl (fun m e => if Region.binds .any e then m ||| (1 <<< e.on) ||| acc.getD e.on 0 else m) m).testBit j = true → m.testBit j = true ∨ ∃ e ∈ l, Region.binds .any e = true ∧ (e.on = j ∨ (acc.getD e.on 0).testBit j = true)
  | [], m, j, h => .inl h
  | e :: l, m, j, h => by
    simp only [List.foldl_cons] at h
    rcases foldl_bits l _ j h with h1 | ⟨e', he', h1⟩
    · cases hb : Region.binds .any e with
      | false => rw [hb] at h1; simp at h1; exact .inl h1
      | true =>
        rw [hb, if_pos rfl, Nat.testBit_or, Nat.testBit_or, Bool.or_eq_true, Bool.or_eq_true] at h1
        rcases h1 with (h1 | h1) | h1
        · exact .inl h1
        · refine .inr ⟨e, by simp, hb, .inl ?_⟩
          rw [Nat.one_shiftLeft, Nat.testBit_two_pow] at h1
          simpa using h1
        · exact .inr ⟨e, by simp, hb, .inr h1⟩
    · exact .inr ⟨e', List.mem_cons_of_mem _ he', h1⟩
theorem masks_get : ∀ (l : List Oper) (acc : List Nat) (i : Nat), i < acc.length → (masks l acc).getD i 0 = acc.getD i 0
  | [], acc, i, h => rfl
  | o :: r, acc, i, h => by
    simp only [masks]
    rw [masks_get r _ i (by simp; omega)]
    rw [List.getD_eq_getElem?_getD, List.getD_eq_getElem?_getD, List.getElem?_append_left h]
theorem masks_at : ∀ (l : List Oper) (acc : List Nat) (k : Nat) (o : Oper), l[k]? = some o → ∃ acc', acc'.length = acc.length + k ∧ (∀ i, i < acc'.length → acc'.getD i 0 = (masks l acc).getD i 0) ∧ (masks l acc).getD (acc.length + k) 0 = stepM acc' o
  | [], acc, k, o, h => by simp at h
  | x :: r, acc, 0, o, h => by
    simp at h; subst h
    refine ⟨acc, rfl, fun i hi => ?_, ?_⟩
    · simp only [masks]
      rw [masks_get r _ i (by simp; omega), List.getD_eq_getElem?_getD, List.getD_eq_getElem?_getD, List.getElem?_append_left hi]
    · simp only [masks, Nat.add_zero]
      rw [masks_get r _ _ (by simp)]
      simp [List.getD_eq_getElem?_getD]
  | x :: r, acc, k + 1, o, h => by
    simp at h
    obtain ⟨acc', h1, h2, h3⟩ := masks_at r (acc ++ [stepM acc x]) k o h
    refine ⟨acc', by rw [h1]; simp; omega, h2, ?_⟩
    rw [← h3]
    simp only [masks]
    congr 1
    simp; omega
theorem mask_waits {ops : Array Oper} (hord : ∀ i, i < ops.size → ∃ o, ops[i]? = some o ∧ ∀ e ∈ o.after, Region.binds .any e = true → e.on < i) : ∀ (n i j : Nat), i < n → i < ops.size → ((masks ops.toList []).getD i 0).testBit j = true → waitsB ops n j i = true
  | 0, i, j, h, _, _ => by omega
  | n + 1, i, j, h, hi, hb => by
    obtain ⟨o, ho, hlt⟩ := hord i hi
    obtain ⟨acc', h1, h2, h3⟩ := masks_at ops.toList [] i o (by rw [Array.getElem?_toList]; exact ho)
    simp only [List.length_nil, Nat.zero_add] at h1 h3
    rw [h3] at hb
    rcases foldl_bits o.after.toList 0 j hb with h4 | ⟨e, he, hbe, h4⟩
    · simp at h4
    · have he' : e ∈ o.after := by simpa using he
      have hel := hlt e he' hbe
      simp only [waitsB, ho]
      refine Array.any_eq_true'.2 ⟨e, he', ?_⟩
      simp only [hbe, Bool.true_and, Bool.or_eq_true, beq_iff_eq]
      rcases h4 with h4 | h4
      · exact .inl h4
      · rw [h2 e.on (by omega)] at h4
        exact .inr (mask_waits hord n e.on j (by omega) (by omega) h4)

abbrev Tab := List (Option Nat × List Nat)
def tabOf (ops : Array Oper) : Tab := ops.toList.map fun o => (o.dst, o.looksAt ops)
def apartT (tab : Tab) (i j : Nat) : Bool := match tab[i]?, tab[j]? with
  | some (d, _), some (dj, lj) => (match d with | some d => !lj.contains d && (i == j || dj != some d) | _ => true)
  | _, _ => false
def needT (tab : Tab) (j i : Nat) : Bool := match tab[j]?, tab[i]? with
  | some (dj, _), some (_, li) => (match dj with | some d => li.contains d | _ => false)
  | _, _ => true
def bitM (ms : List Nat) (j i : Nat) : Bool := (ms.getD i 0).testBit j
def okT (tab : Tab) (ms : List Nat) : List PI → List Nat → Bool
  | [], _ => true
  | it :: r, done =>
    decide (it.ix < tab.length) && !done.contains it.ix && (done.all fun j => !needT tab j it.ix || bitM ms j it.ix) &&
    (match it with
      | .q i => (match tab[i]? with | some (some _, _) => true | _ => false) && apartT tab i i && (done.all fun j => apartT tab i j)
      | .n i rl => (done.all fun j => apartT tab i j || bitM ms j i) && (r.all fun x => bitM ms i x.ix) && (done.all fun j => rl.contains j || bitM ms j i)) &&
    okT tab ms r (it.ix :: done)
def ordT : Nat → List Oper → Bool
  | _, [] => true
  | i, o :: r => (o.after.toList.all fun e => !Region.binds .any e || Nat.blt e.on i) && ordT (i + 1) r
def planT (ops : Array Oper) (pl : List PI) (tab : Tab) (ms : List Nat) : Bool :=
  decide (tabOf ops = tab) && decide (masks ops.toList [] = ms) && ordT 0 ops.toList && okT tab ms pl [] && ((List.range tab.length).all fun i => pl.any fun x => x.ix == i)

theorem ordT_get : ∀ (l : List Oper) (k i : Nat) (o : Oper), ordT k l = true → l[i]? = some o → ∀ e ∈ o.after, Region.binds .any e = true → e.on < k + i
  | [], k, i, o, _, h => by simp at h
  | x :: r, k, 0, o, h, ho => by
    simp at ho; subst ho
    simp only [ordT, Bool.and_eq_true] at h
    intro e he hb
    have := List.all_eq_true.1 h.1 e (by simpa using he)
    simp only [hb, Bool.not_true, Bool.false_or] at this
    exact blt_lt this
  | x :: r, k, i + 1, o, h, ho => by
    simp at ho
    simp only [ordT, Bool.and_eq_true] at h
    intro e he hb
    have := ordT_get r (k + 1) i o h.2 ho e he hb
    omega
theorem tab_get (ops : Array Oper) (i : Nat) : (tabOf ops)[i]? = (ops[i]?).map fun o => (o.dst, o.looksAt ops) := by
  unfold tabOf
  rw [List.getElem?_map, Array.getElem?_toList]
theorem apart_T {ops : Array Oper} {i j : Nat} : apartT (tabOf ops) i j = apartB ops i j := by
  unfold apartT apartB
  rw [tab_get, tab_get]
  cases ops[i]? <;> cases ops[j]? <;> rfl
theorem need_T {ops : Array Oper} {i j : Nat} : needT (tabOf ops) j i = needB ops j i := by
  unfold needT needB
  rw [tab_get, tab_get]
  cases ops[i]? <;> cases ops[j]? <;> rfl
theorem all_imp {α : Type} {l : List α} {p q : α → Bool} (h : ∀ x ∈ l, p x = true → q x = true) (hp : l.all p = true) : l.all q = true := List.all_eq_true.2 fun x hx => h x hx (List.all_eq_true.1 hp x hx)
theorem okT_okL {ops : Array Oper} {ms : List Nat} (hw : ∀ i j, i < ops.size → bitM ms j i = true → waitsB ops ops.size j i = true) : ∀ (pl : List PI) (done : List Nat), okT (tabOf ops) ms pl done = true → okL ops pl done = true
  | [], _, _ => rfl
  | it :: r, done, h => by
    simp only [okT, Bool.and_eq_true] at h
    obtain ⟨⟨⟨⟨h1, h2⟩, h3⟩, h4⟩, h5⟩ := h
    have hlt : it.ix < ops.size := by have := of_decide_eq_true h1; simpa [tabOf] using this
    have hi : ∀ {j : Nat}, bitM ms j it.ix = true → waitsB ops ops.size j it.ix = true := fun hb => hw _ _ hlt hb
    simp only [okL, Bool.and_eq_true]
    refine ⟨⟨⟨⟨decide_eq_true hlt, h2⟩, all_imp (fun j _ h => ?_) h3⟩, ?_⟩, okT_okL hw r _ h5⟩
    · rw [need_T, Bool.or_eq_true] at h
      rw [Bool.or_eq_true]
      exact h.imp id hi
    · cases it with
      | q i =>
        simp only [Bool.and_eq_true] at h4 ⊢
        refine ⟨⟨?_, by rw [← apart_T]; exact h4.1.2⟩, all_imp (fun j _ h => by rw [← apart_T]; exact h) h4.2⟩
        have h6 := h4.1.1
        rw [tab_get] at h6
        cases ho : ops[i]? with
        | none => rw [ho] at h6; cases h6
        | some o =>
          rw [ho] at h6
          simp only [Option.map_some] at h6
          split at h6
          · rename_i d l he; simp only [Option.some.injEq, Prod.mk.injEq] at he; simp [he.1]
          · cases h6
      | n i rl =>
        have hi : ∀ {j : Nat}, bitM ms j i = true → waitsB ops ops.size j i = true := hi
        simp only [Bool.and_eq_true] at h4 ⊢
        refine ⟨⟨all_imp (fun j _ h => ?_) h4.1.1, all_imp (fun x hx h => ?_) h4.1.2⟩, all_imp (fun j _ h => ?_) h4.2⟩
        · rw [apart_T, Bool.or_eq_true] at h
          rw [Bool.or_eq_true]
          exact h.imp id hi
        · by_cases hx2 : x.ix < ops.size
          · exact hw _ _ hx2 h
          · exfalso
            -- later items are told to lie within the region
            have key : ∀ (l : List PI) (dn : List Nat), okT (tabOf ops) ms l dn = true → ∀ y ∈ l, y.ix < ops.size := by
              intro l
              induction l with
              | nil => intro dn _ y hy; cases hy
              | cons z l ihl =>
                intro dn hz y hy
                simp only [okT, Bool.and_eq_true] at hz
                rcases List.mem_cons.1 hy with rfl | hy
                · have := of_decide_eq_true hz.1.1.1.1; simpa [tabOf] using this
                · exact ihl _ hz.2 y hy
            exact hx2 (key r _ h5 x hx)
        · rw [Bool.or_eq_true] at h ⊢
          exact h.imp id hi
theorem planT_ok {ops : Array Oper} {pl : List PI} {tab : Tab} {ms : List Nat} (h : planT ops pl tab ms = true) : planOk ops pl = true := by
  simp only [planT, Bool.and_eq_true] at h
  obtain ⟨⟨⟨⟨h1, h2⟩, h3⟩, h4⟩, h5⟩ := h
  have h1 := of_decide_eq_true h1
  have h2 := of_decide_eq_true h2
  subst h1 h2
  have hord : ∀ i, i < ops.size → ∃ o, ops[i]? = some o ∧ ∀ e ∈ o.after, Region.binds .any e = true → e.on < i := fun i hi => by
    refine ⟨_, Array.getElem?_eq_getElem hi, fun e he hb => ?_⟩
    have := ordT_get ops.toList 0 i _ h3 (by rw [Array.getElem?_toList]; exact Array.getElem?_eq_getElem hi) e he hb
    omega
  simp only [planOk, Bool.and_eq_true]
  refine ⟨⟨okT_okL (fun i j hi hb => mask_waits hord ops.size i j hi hi hb) pl [] h4, by simpa [tabOf] using h5⟩, List.all_eq_true.2 fun i hi => ?_⟩
  obtain ⟨o, ho, hlt⟩ := hord i (List.mem_range.1 hi)
  rw [ho]
  refine Array.all_eq_true'.2 fun e he => ?_
  cases hb : Region.binds .any e with
  | false => rfl
  | true => simp [hlt e he hb]
theorem w_planT {P : Program} {V : List Nat} {k0 : Nat} {Q : Exit → Fr → St → Prop} {fr : Fr} {σ : St} (pl : List PI) (tab : Tab) (ms : List Nat) {id : Nat} {l : List Oper} (hB : planT l.toArray pl tab ms = true) (h : ad P l.toArray pl fr σ fun fr σ => hold (Q .normal (prune V fr) σ)) : awp P V k0 (.region id l.toArray true) Q fr σ :=
  w_plan pl (planT_ok hB) h
end Go.Proofs.Ytlfggjfndmfblaa.Abs

namespace Go.Proofs.Ytlfggjfndmfblaa.Abs
open Go
set_option linter.unusedVariables false
set_option linter.unusedSimpArgs false

def tyFs (P : Program) (t : TypeId) : Option (List TypeId) := match P.underlying t with | some (.struct fs) => some (fs.toList.map (·.type)) | some (.array m e) => some (List.replicate m e) | _ => none
def tySl (P : Program) (t : TypeId) : Option (TypeId × Nat) := match P.underlying t with | some (.slice e) => some (e, P.cellsOf e) | _ => none
def okI (x : Int) : Prop := -9223372036854775808 ≤ x ∧ x ≤ 9223372036854775807
def okW (k : IntKind) (x : Int) : Prop := (Lit.int k x).wf = true
def okS (s : List UInt8) : Prop := s.length ≤ 140737488351232
def okLs {α : Type} (k : Nat) (ok : α → Prop) (xs : List α) : Prop := xs.length ≤ 9223372036854775807 ∧ xs.length * k ≤ 140737488351232 ∧ ∀ x ∈ xs, ok x

section
variable {P : Program} {n : Nat} {t e : TypeId} {ps : List PV}
theorem sh_int {k : IntKind} (h : tyInt P t = some k) (hs : Shaped P n t ps) : ∃ x, ps = [.int k x] ∧ okW k x := by
  cases n with
  | zero => exact hs.elim
  | succ n =>
    have hu := tyInt_spec h
    simp only [Shaped, hu] at hs
    exact hs
theorem wf64 {x : Int} (h : okW .i64 x) : okI x := by
  unfold okW Lit.wf at h
  unfold okI
  simp only [Bool.and_eq_true, decide_eq_true_eq] at h
  exact ⟨h.1, h.2⟩
theorem sh_i64 (h : tyInt P t = some .i64) (hs : Shaped P n t ps) : ∃ x, ps = [.int .i64 x] ∧ okI x := by
  obtain ⟨x, h1, h2⟩ := sh_int h hs
  exact ⟨x, h1, wf64 h2⟩
theorem sh_u8 (h : tyInt P t = some .u8) (hs : Shaped P n t ps) : ∃ x : UInt8, ps = brow x ∧ True := by
  obtain ⟨x, h1, h2⟩ := sh_int h hs
  unfold okW Lit.wf at h2
  simp only [Bool.and_eq_true, decide_eq_true_eq] at h2
  have h4 : (0 : Int) ≤ x := h2.1
  have h5 : x ≤ (255 : Int) := h2.2
  have h3 : 0 ≤ x ∧ x < 256 := ⟨h4, by omega⟩
  refine ⟨UInt8.ofNat x.toNat, ?_, trivial⟩
  rw [h1]
  unfold brow
  have : ((UInt8.ofNat x.toNat).toNat : Int) = x := by simp; omega
  rw [this]
theorem sh_bool (h : tyIs P t = 4) (hs : Shaped P n t ps) : ∃ x, ps = [.bool x] ∧ True := by
  cases n with
  | zero => exact hs.elim
  | succ n =>
    have hu := tyIs4 h
    simp only [Shaped, hu] at hs
    obtain ⟨b, hb⟩ := hs
    exact ⟨b, hb, trivial⟩
theorem sh_str (h : tyIs P t = 2) (hs : Shaped P n t ps) : ∃ x, ps = [.str x] ∧ okS x := by
  cases n with
  | zero => exact hs.elim
  | succ n =>
    have hu := tyIs2 h
    simp only [Shaped, hu] at hs
    exact hs
theorem list_of {α : Type} {row : α → List PV} {ok : α → Prop} : ∀ (xs : List (List PV)), (∀ x ∈ xs, ∃ a, x = row a ∧ ok a) → ∃ as : List α, xs = as.map row ∧ ∀ a ∈ as, ok a
  | [], _ => ⟨[], rfl, by simp⟩
  | x :: xs, h => by
    obtain ⟨a, rfl, ha⟩ := h x (by simp)
    obtain ⟨as, rfl, has⟩ := list_of xs (fun y hy => h y (by simp [hy]))
    exact ⟨a :: as, rfl, by simpa using ⟨ha, has⟩⟩
theorem sh_sl {α : Type} {sz k : Nat} {row : α → List PV} {ok : α → Prop} (h : tySl P t = some (e, sz)) (hk : P.bytesOf e = k) (hs : Shaped P n t ps) (conv : ∀ m, m < n → ∀ qs, Shaped P m e qs → ∃ a : α, qs = row a ∧ ok a) : ∃ xs : List α, ps = [PV.ls sz row xs] ∧ okLs k ok xs := by
  cases n with
  | zero => exact hs.elim
  | succ n =>
    unfold tySl at h
    cases hu : P.underlying t with
    | none => simp [hu] at h
    | some d =>
      cases d <;> simp [hu] at h
      rename_i e'
      obtain ⟨rfl, rfl⟩ := h
      simp only [Shaped, hu] at hs
      obtain ⟨xs, rfl, hx, hl, hl2⟩ := hs
      rw [hk] at hl2
      obtain ⟨as, rfl, has⟩ := list_of (row := row) (ok := ok) xs (fun x hxm => conv n (by omega) x (hx x hxm))
      exact ⟨as, rfl, by simpa using hl, by simpa using hl2, has⟩
theorem sh_st {l : List TypeId} (h : tyFs P t = some l) (hs : Shaped P n t ps) : ∃ m, m < n ∧ ShapedF (Shaped P m) l ps := by
  cases n with
  | zero => exact hs.elim
  | succ n =>
    unfold tyFs at h
    cases hu : P.underlying t with
    | none => simp [hu] at h
    | some d =>
      cases d <;> simp [hu] at h
      · subst h
        simp only [Shaped, hu] at hs
        exact ⟨n, by omega, by simpa using hs⟩
      · subst h
        simp only [Shaped, hu] at hs
        exact ⟨n, by omega, by simpa using hs⟩
end
end Go.Proofs.Ytlfggjfndmfblaa.Abs

namespace Go.Proofs.Ytlfggjfndmfblaa.Abs
open Go
set_option linter.unusedVariables false
set_option linter.unusedSimpArgs false

/-- An array of rows. -/
def AV.ar {α : Type} (row : α → List PV) (xs : List α) : AV := .agg (AV.cs ((xs.map row).flatten))
/-- An array's element. -/
def idxA {α : Type} (n : Nat) (l : List α) (i : Int) : Option α := if i < (n : Int) then idx l i else none
theorem idxA_some {α : Type} {n : Nat} {l : List α} {i : Int} {x : α} (h : idxA n l i = some x) : i < (n : Int) ∧ idx l i = some x := by
  unfold idxA at h
  split at h
  · exact ⟨by assumption, h⟩
  · cases h
theorem flat_get {α : Type} {row : α → List PV} {sz : Nat} (hl : ∀ u, (row u).length = sz) : ∀ {xs : List α} {i : Nat} {u : α}, xs[i]? = some u → (((xs.map row).flatten).drop (i * sz)).take sz = row u
  | [], i, u, h => by simp at h
  | x :: l, i, u, h => by
    rw [List.map_cons, List.flatten_cons]
    cases i with
    | zero =>
      simp at h
      subst h
      rw [Nat.zero_mul, List.drop_zero, List.take_append_of_le_length (by rw [hl]; omega), List.take_of_length_le (by rw [hl]; omega)]
    | succ i =>
      have := flat_get hl (xs := l) (i := i) (by simpa using h)
      rw [show (i + 1) * sz = (row x).length + i * sz by rw [hl, Nat.add_mul]; omega, List.drop_append]
      rw [List.drop_of_length_le (by omega), List.nil_append, show (row x).length + i * sz - (row x).length = i * sz by omega]
      exact this
theorem cs_drop_take (l : List PV) (i n : Nat) : ((AV.cs l).drop i).take n = AV.cs ((l.drop i).take n) := by simp [AV.cs, List.map_take, List.map_drop]
theorem flat_length {α : Type} {row : α → List PV} {sz : Nat} (hl : ∀ u, (row u).length = sz) (xs : List α) : ((xs.map row).flatten).length = xs.length * sz := by
  rw [flatten_len (sz := sz) (by simp [hl]), List.length_map]

theorem demL_cs (f : Nat → Bool) (l : List PV) : AV.demL f (AV.cs l) = AV.cs l := by rw [AV.demL_eq]; simp [AV.cs, AV.dem]
theorem dar {α : Type} {row : α → List PV} {xs : List α} {f : Nat → Bool} : (AV.ar row xs).dem f = AV.ar row xs := by simp only [AV.ar, AV.dem, demL_cs]
theorem liftL_cs (ids : List Nat) (n d : Nat) (l : List PV) : AV.liftL ids n d (AV.cs l) = AV.cs l := by rw [AV.liftL_eq]; simp [AV.cs, AV.lift]
theorem lowTL_cs (lt ids : List Nat) (l : List PV) : AV.lowTL lt ids (AV.cs l) = AV.cs l := by rw [AV.lowTL_eq]; simp [AV.cs, AV.lowT]
theorem lift_ar {α : Type} {row : α → List PV} {xs : List α} {ids : List Nat} {n d : Nat} : (AV.ar row xs).lift ids n d = AV.ar row xs := by simp only [AV.ar, AV.lift, liftL_cs]
theorem low_ar {α : Type} {row : α → List PV} {xs : List α} {lt ids : List Nat} : (AV.ar row xs).lowT lt ids = AV.ar row xs := by simp only [AV.ar, AV.lowT, lowTL_cs]

theorem retokL_cs (toks : List Nat) (l : List PV) : AV.retokL toks (AV.cs l) = AV.cs l := by rw [AV.retokL_eq]; simp [AV.cs, AV.retok]
theorem le_ar {α : Type} {row : α → List PV} {xs : List α} {toks : List Nat} : ((AV.ar row xs).retok toks).le (AV.ar row xs) := by simp only [AV.ar, AV.retok, retokL_cs]; exact AV.le_refl _

theorem inBL_cs (m : Nat) : ∀ (l : List PV), AV.inB.inBL m (AV.cs l) = true
  | [] => rfl
  | p :: l => by simp only [AV.cs, List.map_cons, AV.inB.inBL, AV.inB, Bool.true_and]; exact inBL_cs m l
theorem inb_ar {α : Type} {row : α → List PV} {xs : List α} {m : Nat} : (AV.ar row xs).inB m = true := by simp only [AV.ar, AV.inB, inBL_cs]
theorem inb_nil {m : Nat} : Fr.inB m [] = true := rfl
theorem inb_cons {m i : Nat} {a : AV} {r : Fr} (h : a.inB m = true) (t : Fr.inB m r = true) : Fr.inB m ((i, a) :: r) = true := by
  simp only [Fr.inB, h, t, Bool.and_self]

section
variable {P : Program} {d : Option Tmp} {ty : TypeId} {pos : String} {af : Array Edge} {gd : Option (Nat × Bool)} {ev : Operand → AV} {σ : St} {x y z : Operand} {t t2 : TypeId} {k k' : IntKind} {a b : Int} {v : AV}
theorem p_ix1 {α : Type} {e : TypeId} {sz n : Nat} {row : α → List PV} {xs : List α} {i : Int} {u : α} {p : PV} (ht : tyArr P t = some (e, sz, n, false)) (hl : ∀ u, (row u).length = sz) (hx : ev x = AV.ar row xs) (hy : ev y = .c (.int k i)) (hg : idxA n xs i = some u) (he : row u = [p]) :
    Pv P ⟨d, .index t x y, ty, pos, af, gd⟩ ev σ (.c p) := fun K h => by
  obtain ⟨h1, h2⟩ := idxA_some hg
  obtain ⟨h3, h4, h5⟩ := idx_some h2
  refine .inr (.inl ⟨_, ?_, h⟩)
  refine ⟨e, sz, n, false, _, k, i, ht, hx, hy, h3, h1, .inr ⟨rfl, ?_⟩⟩
  have := flat_get hl h5
  rw [he] at this
  have hg := congrArg (·[0]?) this
  have hsz : sz = 1 := by have := hl u; rw [he] at this; exact this.symm
  subst hsz
  simp only [List.getElem?_take, Nat.zero_lt_one, if_true, List.getElem?_drop, Nat.add_zero, List.getElem?_cons_zero] at hg
  rw [AV.cs, List.getElem?_map, hg]
  rfl
theorem p_ixg {α : Type} {e : TypeId} {sz n : Nat} {row : α → List PV} {xs : List α} {i : Int} {u : α} {cs : List PV} (ht : tyArr P t = some (e, sz, n, true)) (hl : ∀ u, (row u).length = sz) (hx : ev x = AV.ar row xs) (hy : ev y = .c (.int k i)) (hg : idxA n xs i = some u) (he : row u = cs) :
    Pv P ⟨d, .index t x y, ty, pos, af, gd⟩ ev σ (.agg (AV.cs cs)) := fun K h => by
  obtain ⟨h1, h2⟩ := idxA_some hg
  obtain ⟨h3, h4, h5⟩ := idx_some h2
  refine .inr (.inl ⟨_, ?_, h⟩)
  have hlt : i.toNat < xs.length := by omega
  refine ⟨e, sz, n, true, _, k, i, ht, hx, hy, h3, h1, .inl ⟨rfl, ?_, ?_⟩⟩
  · rw [AV.cs, List.length_map, flat_length hl]
    have := Nat.mul_le_mul_right sz hlt
    rw [Nat.succ_mul] at this
    exact this
  · rw [cs_drop_take, flat_get hl h5, he]
theorem p_arr {α : Type} {e : TypeId} {sz n : Nat} {ag : Bool} {parts : Array (Nat × Operand)} {rows : List (List PV)} {row : α → List PV} {xs : List α} {zs : List Value} (hs : List Nat) (ht : tyArr P t = some (e, sz, n, ag)) (hz : tyZero P t = some zs) (hl : zs.length = parts.toList.length * sz) (hr : arows hs sz ev 0 parts.toList = some rows) (hx : rows = xs.map row) :
    Pv P ⟨d, .build t parts, ty, pos, af, gd⟩ ev σ (AV.ar row xs) := fun K h => by
  subst hx
  exact .inr (.inl ⟨_, ⟨e, sz, n, ag, hs, _, zs, ht, hz, hl, hr, rfl⟩, h⟩)
theorem p_aeql {as bs : List AV} {ks : List Nat} {n : Nat} {r : Bool} (hk : eqK P 40 t = some ks) (ht : tyVar P t = some (true, n)) (hg : P.eqGuardType P.depth t = false) (hx : ev x = .agg as) (hy : ev y = .agg bs) (hn : ks.length = n) (hr : aeqK ks as bs = some r) :
    Pv P ⟨d, .binOp .eql t x y t2, ty, pos, af, gd⟩ ev σ (.c (.bool r)) := fun K h => .inr (.inl ⟨_, ⟨as, bs, ks, r, hx, hy, hk, by rw [hn]; exact ht, hg, hr, .inl ⟨rfl, rfl⟩⟩, h⟩)
theorem p_aneq {as bs : List AV} {ks : List Nat} {n : Nat} {r : Bool} (hk : eqK P 40 t = some ks) (ht : tyVar P t = some (true, n)) (hg : P.eqGuardType P.depth t = false) (hx : ev x = .agg as) (hy : ev y = .agg bs) (hn : ks.length = n) (hr : aeqK ks as bs = some r) :
    Pv P ⟨d, .binOp .neq t x y t2, ty, pos, af, gd⟩ ev σ (.c (.bool (!r))) := fun K h => .inr (.inl ⟨_, ⟨as, bs, ks, r, hx, hy, hk, by rw [hn]; exact ht, hg, hr, .inr ⟨rfl, rfl⟩⟩, h⟩)
/-! small arrays, told by their cells -/
theorem p_arrc {e : TypeId} {sz n : Nat} {ag : Bool} {parts : Array (Nat × Operand)} {rows : List (List PV)} {cs : List AV} {zs : List Value} (hs : List Nat) (ht : tyArr P t = some (e, sz, n, ag)) (hz : tyZero P t = some zs) (hl : zs.length = parts.toList.length * sz) (hr : arows hs sz ev 0 parts.toList = some rows) (hc : rows.flatten.map AV.c = cs) :
    Pv P ⟨d, .build t parts, ty, pos, af, gd⟩ ev σ (.agg cs) := fun K h => by
  subst hc
  exact .inr (.inl ⟨_, ⟨e, sz, n, ag, hs, _, zs, ht, hz, hl, hr, rfl⟩, h⟩)
theorem p_ixC {e : TypeId} {sz n i : Nat} {cs : List AV} (ht : tyArr P t = some (e, sz, n, false)) (hx : ev x = .agg cs) (hy : ev y = .c (.int k (i : Int))) (hi : Nat.blt i n = true) (hv : cs[i * sz]? = some v) : Pv P ⟨d, .index t x y, ty, pos, af, gd⟩ ev σ v := fun K h =>
  .inr (.inl ⟨_, ⟨e, sz, n, false, cs, k, _, ht, hx, hy, by omega, by rw [Nat.blt_eq] at hi; omega, .inr ⟨rfl, by rw [Int.toNat_natCast]; exact hv⟩⟩, h⟩)
theorem p_ixS {e : TypeId} {sz n i : Nat} {cs us : List AV} (ht : tyArr P t = some (e, sz, n, true)) (hx : ev x = .agg cs) (hy : ev y = .c (.int k (i : Int))) (hi : Nat.blt i n = true) (hn : Nat.ble (i * sz + sz) cs.length = true) (hv : (cs.drop (i * sz)).take sz = us) : Pv P ⟨d, .index t x y, ty, pos, af, gd⟩ ev σ (.agg us) := fun K h =>
  .inr (.inl ⟨_, ⟨e, sz, n, true, cs, k, _, ht, hx, hy, by omega, by rw [Nat.blt_eq] at hi; omega, .inl ⟨rfl, by rw [Int.toNat_natCast]; rw [Nat.ble_eq] at hn; exact hn, by rw [Int.toNat_natCast, hv]⟩⟩, h⟩)
theorem p_iab {e : TypeId} {sz n i id off off' : Nat} {ag : Bool} (ht : tyArr P t = some (e, sz, n, ag)) (hx : ev x = .box id off) (hy : ev y = .c (.int k (i : Int))) (hi : Nat.blt i n = true) (ho : off + i * sz = off') : Pv P ⟨d, .indexAddr t x y, ty, pos, af, gd⟩ ev σ (.box id off') := fun K h =>
  .inr (.inl ⟨_, ⟨e, sz, n, ag, id, off, k, _, ht, hx, hy, by omega, by rw [Nat.blt_eq] at hi; omega, by rw [Int.toNat_natCast, ho]⟩, h⟩)
/-- An array's length at most. -/
def toArr {α : Type} (n : Nat) (xs : List α) : Option Unit := if n ≤ xs.length ∧ 0 < xs.length then some () else none
theorem toArr_some {α : Type} {n : Nat} {xs : List α} {z : Unit} (h : toArr n xs = some z) : n ≤ xs.length ∧ 0 < xs.length := by
  unfold toArr at h
  split at h
  · assumption
  · cases h
theorem p_s2a {α : Type} {e : TypeId} {sz n : Nat} {ag : Bool} {row : α → List PV} {xs : List α} {z : Unit} (ht : tyArr P t = some (e, sz, n, ag)) (hx : isl (ev x) sz row xs) (hz : toArr n xs = some z) : Pv P ⟨d, .sliceToArrayPointer t x, ty, pos, af, gd⟩ ev σ (.eptr ((xs.map row).flatten) 0) := fun K h => by
  obtain ⟨h1, h2⟩ := toArr_some hz
  refine .inr (.inl ⟨_, ⟨e, sz, n, ag, xs.map row, ht, ?_, by simpa using h1, by simpa using h2, rfl⟩, h⟩)
  rcases hx with hx | ⟨t0, hx⟩
  · exact .inl hx
  · exact .inr ⟨t0, hx⟩
theorem four_of {α : Type} {xs : List α} {x0 x1 x2 x3 : α} (h0 : idx xs 0 = some x0) (h1 : idx xs 1 = some x1) (h2 : idx xs 2 = some x2) (h3 : idx xs 3 = some x3) : ∃ r, xs = x0 :: x1 :: x2 :: x3 :: r := by
  have g0 := (idx_some h0).2.2
  have g1 := (idx_some h1).2.2
  have g2 := (idx_some h2).2.2
  have g3 := (idx_some h3).2.2
  match xs, g0, g1, g2, g3 with
  | a :: b :: c :: d :: r, g0, g1, g2, g3 =>
    simp at g0 g1 g2 g3
    exact ⟨r, by rw [g0, g1, g2, g3]⟩
  | [], g0, _, _, _ => simp at g0
  | [_], _, g1, _, _ => simp at g1
  | [_, _], _, _, g2, _ => simp at g2
  | [_, _, _], _, _, _, g3 => simp at g3
theorem p_aptr4 {xs : List UInt8} {x0 x1 x2 x3 : UInt8} (ht : tyVar P t = some (true, 4)) (hx : ev x = .eptr ((xs.map brow).flatten) 0) (h0 : idx xs 0 = some x0) (h1 : idx xs 1 = some x1) (h2 : idx xs 2 = some x2) (h3 : idx xs 3 = some x3) :
    Pv P ⟨d, .load t x, ty, pos, af, gd⟩ ev σ (.agg [.c (.int .u8 x0.toNat), .c (.int .u8 x1.toNat), .c (.int .u8 x2.toNat), .c (.int .u8 x3.toNat)]) := by
  obtain ⟨r, rfl⟩ := four_of h0 h1 h2 h3
  exact p_loades (us := [.int .u8 x0.toNat, .int .u8 x1.toNat, .int .u8 x2.toNat, .int .u8 x3.toNat]) ht hx (by simp [brow, Nat.ble_eq]) (by simp [brow])
end

end Go.Proofs.Ytlfggjfndmfblaa.Abs

namespace Go.Proofs.Ytlfggjfndmfblaa.Abs
open Go
set_option linter.unusedVariables false
set_option linter.unusedSimpArgs false
variable {mo : Bool}

def AV.ms {α : Type} (t sz : Nat) (row : α → List PV) (xs : List α) : AV := .mrow t sz (xs.map row)
abbrev aM {α : Type} {t sz : Nat} {row : α → List PV} {xs : List α} : AV := AV.ms t sz row xs
theorem le_nms {α : Type} {t sz : Nat} {row : α → List PV} (h : Nat.blt 0 sz = true) : AV.nil.le (.ms t sz row []) := fun g w v hv => by
  cases hv
  exact .mrow t sz [] ⟨blt_lt h, by simp, 0, [], World.ownsRow_nil w 0 0 sz, by simp, by simp [Value.ownBlock]⟩

mutual
def AV.putM (t sz : Nat) (ys : List (List PV)) : AV → AV
  | .mrow t' sz' xs => if t' == t then (if sz' == sz then .mrow t' sz' ys else .any) else .mrow t' sz' xs
  | .mptr t' sz' j off r => if t' == t then .any else .mptr t' sz' j off r
  | .own t' sz' xs => if t' == t then .any else .own t' sz' xs
  | .agg cs => .agg (AV.putML t sz ys cs)
  | .tup cs => .tup (AV.putML t sz ys cs)
  | .fn f cs => .fn f (AV.putML t sz ys cs)
  | a => a
def AV.putML (t sz : Nat) (ys : List (List PV)) : List AV → List AV
  | [] => []
  | a :: as => AV.putM t sz ys a :: AV.putML t sz ys as
end
def Fr.putM (t sz : Nat) (ys : List (List PV)) : Fr → Fr
  | [] => []
  | (d, a) :: r => (d, a.putM t sz ys) :: Fr.putM t sz ys r
def St.putM (t sz : Nat) (ys : List (List PV)) : St → St
  | [] => []
  | cs :: r => AV.putML t sz ys cs :: St.putM t sz ys r
def Fr.hasM (fr : Fr) (t sz i : Nat) (row : List PV) : List (Nat × Nat) → Prop
  | [] => True
  | (d, off) :: D => fr.get d = .mptr t sz i off row ∧ Fr.hasM fr t sz i row D
def Fr.addM (t sz i : Nat) (row : List PV) (base : Fr) : List (Nat × Nat) → Fr
  | [] => base
  | (d, off) :: D => (d, .mptr t sz i off row) :: Fr.addM t sz i row base D
theorem keepM_of {fr : Fr} {t sz i : Nat} {row row' : List PV} : ∀ {D : List (Nat × Nat)}, fr.hasM t sz i row D → Fr.keepM fr t sz i row row' D (Fr.addM t sz i row' (fr.setM t sz i row') D)
  | [], _ => rfl
  | (d, off) :: D, h => ⟨h.1, _, rfl, keepM_of h.2⟩

/-- How many elements a row that is made has. -/
def mkS (k : Nat) (n : Int) : Option Unit := if 0 ≤ n ∧ (k : Int) * n ≤ 281474976710656 ∧ n ≤ 9223372036854775807 then some () else none
theorem mkS_some {k : Nat} {n : Int} {z : Unit} (h : mkS k n = some z) : 0 ≤ n ∧ (k : Int) * n ≤ 281474976710656 ∧ n ≤ 9223372036854775807 := by
  unfold mkS at h
  split at h
  · assumption
  · cases h

section
variable {P : Program} {d : Option Tmp} {ty : TypeId} {pos : String} {af : Array Edge} {gd : Option (Nat × Bool)} {ev : Operand → AV} {σ : St} {x y z : Operand} {t t2 : TypeId} {k k' : IntKind} {v : AV}
theorem p_view {e : TypeId} {sz n id off : Nat} {ag : Bool} (ht : tyArr P t = some (e, sz, n, ag)) (hx : ev x = .box id off) : Pv P ⟨d, .slice t x .none .none .none, ty, pos, af, gd⟩ ev σ (.view id off n) := fun K h =>
  .inr (.inr (.inl ⟨_, ⟨e, sz, n, ag, id, off, ht, hx, rfl⟩, h⟩))
theorem p_lenm {α : Type} {t0 sz : Nat} {row : α → List PV} {xs : List α} (ht : tyIs P t = 3) (hx : ev x = AV.ms t0 sz row xs) : Pv P ⟨d, .call { callee := .builtin .len, args := #[x], argTypes := #[t] }, ty, pos, af, gd⟩ ev σ (.c (.int .i64 xs.length)) := fun K h =>
  .inr (.inr (.inl ⟨_, ⟨x, t, xs.length, rfl, rfl, ht, rfl, .inr ⟨t0, sz, xs.map row, hx, by simp⟩⟩, h⟩))
theorem p_iam {α : Type} {e : TypeId} {sz by_ t0 : Nat} {row : α → List PV} {xs : List α} {i : Int} {u : α} {cs : List PV} (ht : tySlice P t = some (e, sz, by_)) (hx : ev x = AV.ms t0 sz row xs) (hy : ev y = .c (.int k i)) (hg : idx xs i = some u) (he : row u = cs) :
    Pv P ⟨d, .indexAddr t x y, ty, pos, af, gd⟩ ev σ (.mptr t0 sz i.toNat 0 cs) := fun K h => by
  obtain ⟨h0, h1, h2⟩ := idx_some hg
  exact .inr (.inr (.inl ⟨_, ⟨e, sz, by_, k, i, ht, hy, h0, .inr ⟨t0, _, cs, hx, by rw [List.getElem?_map, h2, ← he]; rfl, rfl⟩⟩, h⟩))
theorem p_fam {f k0 n t0 sz i off : Nat} {ag : Bool} {cs : List PV} (ht : tyField P t f = some (k0, ag, n)) (hx : ev x = .mptr t0 sz i off cs) : Pv P ⟨d, .fieldAddr t x f, ty, pos, af, gd⟩ ev σ (.mptr t0 sz i (off + k0) cs) := fun K h =>
  .inr (.inr (.inl ⟨_, ⟨k0, ag, n, t0, sz, i, off, cs, ht, hx, rfl⟩, h⟩))
theorem p_compl {n m : Int} (hx : ev x = .c (.int k n)) (hm : (if k.signed then -1 else k.max) = m) : Pv P ⟨d, .unOp .xor t x, ty, pos, af, gd⟩ ev σ (.c (.int k (abits .xor k m n))) := fun K h =>
  .inr (.inr (.inl ⟨_, ⟨k, n, hx, rfl⟩, by rw [hm]; exact h⟩))
theorem p_ncm {t0 sz i off : Nat} {cs : List PV} (hx : ev x = .mptr t0 sz i off cs) : Pv P ⟨d, .nilCheck x, ty, pos, af, gd⟩ ev σ (.mptr t0 sz i off cs) := fun K h =>
  .inr (.inr (.inl ⟨_, ⟨t0, sz, i, off, cs, hx, rfl⟩, h⟩))
theorem p_loadm {n t0 sz i off : Nat} {cs : List PV} {p : PV} (ht : tyVar P t = some (false, n)) (hx : ev x = .mptr t0 sz i off cs) (hc : cs[off]? = some p) : Pv P ⟨d, .load t x, ty, pos, af, gd⟩ ev σ (.c p) := fun K h =>
  .inr (.inr (.inl ⟨_, ⟨false, n, t0, sz, i, off, cs, ht, hx, .inr ⟨rfl, p, hc, rfl⟩⟩, h⟩))
theorem p_loadms {n t0 sz i off : Nat} {cs us : List PV} (ht : tyVar P t = some (true, n)) (hx : ev x = .mptr t0 sz i off cs) (hn : Nat.ble (off + n) cs.length = true) (hc : (cs.drop off).take n = us) : Pv P ⟨d, .load t x, ty, pos, af, gd⟩ ev σ (.agg (AV.cs us)) := fun K h =>
  .inr (.inr (.inl ⟨_, ⟨true, n, t0, sz, i, off, cs, ht, hx, .inl ⟨rfl, ble_le hn, by rw [hc]; rfl⟩⟩, h⟩))
end

section
variable {P : Program} {all r : List Oper} {d : Nat} {ty : TypeId} {pos : String} {af : Array Edge} {fr : Fr} {σ : St} {K : Fr → St → Prop} {v : AV}
theorem aopg {o : Oper} {dm : Option (Nat → Bool)} {v : AV} {σ' : St} (hp : plainOp o = true) (h : axg P o fr.ev σ dm v σ') (hk : K ((fr.demo dm).put o.dst v) σ') : aop P o fr σ K := aop_plain hp (.inr (.inr (.inr ⟨dm, v, σ', h, hk⟩)))
theorem o_make {α : Type} {t e : TypeId} {l c : Operand} {sz by_ : Nat} {n : Int} {k k' : IntKind} {zs : List Value} {ps : List PV} {row : α → List PV} {z : α} {u : Unit} (ht : tySlice P t = some (e, sz, by_)) (hz : tyZero P e = some zs) (hp : AV.pvs? (zs.map AV.ofFlat) = some ps) (hr : row z = ps)
    (hl : fr.ev l = .c (.int k n)) (hc : fr.ev c = .c (.int k' n)) (hm : mkS by_ n = some u)
    (h : aops mo P all r ((d, .ms (16 * d) sz row (List.replicate n.toNat z)) :: fr.dem (freshOf (some d))) (σ.dem (freshOf (some d))) K) : aops mo P all (⟨some d, .makeSlice t l c, ty, pos, af, none⟩ :: r) fr σ K := by
  obtain ⟨h0, h1, h2⟩ := mkS_some hm
  refine aops_none (aopg rfl ⟨e, sz, by_, zs, k, k', n, ps, ht, hz, hl, hc, h0, h1, h2, rfl, hp, rfl, rfl, rfl⟩ ?_)
  have e1 : AV.mrow (tokOf (some d)) sz (List.replicate n.toNat ps) = AV.ms (16 * d) sz row (List.replicate n.toNat z) := by simp [AV.ms, tokOf, hr]
  simp only [e1]
  exact h
theorem o_appv {α : Type} {s x : Operand} {t tx e : TypeId} {sz by_ t0 id off m : Nat} {row : α → List PV} {xs ys zs : List α} {cs us : List AV} (ht : tySlice P t = some (e, sz, by_)) (hb : Nat.blt 0 by_ = true) (htx : tyIs P tx = 3) (hs : fr.ev s = .os t0 sz row xs) (hx : fr.ev x = .view id off m)
    (hcs : σ[id]? = some cs) (hl : ys.length = m) (hu : (cs.drop off).take (m * sz) = us) (he : us = ((ys.map row).flatten).map AV.c) (hy : ∀ u, (row u).length = sz) (hz : app by_ xs ys = some zs)
    (h : aops mo P all r ((d, .os (16 * d) sz row zs) :: fr.dem (demF d t0)) (σ.dem (demF d t0)) K) : aops mo P all (⟨some d, .call { callee := .builtin .append, args := #[s, x], argTypes := #[t, tx] }, ty, pos, af, none⟩ :: r) fr σ K := by
  obtain ⟨hm, rfl⟩ := app_some hz
  refine aops_none (aopg rfl ⟨s, x, t, tx, e, sz, by_, demF d t0, xs.map row, ys.map row, rfl, rfl, ht, blt_lt hb, htx, rfl, by simp [hy], by simpa using hm, by simp [demF, freshOf_tok], rfl, rfl, .inr (.inr (.inr (.inr ⟨id, off, m, cs, hx, hcs, by simpa using hl, by rw [hu, he]⟩))), .inl ⟨.inr ⟨t0, by simp [demF], hs⟩, rfl⟩⟩ ?_)
  have e1 : AV.own (tokOf (some d)) sz (xs.map row ++ ys.map row) = AV.os (16 * d) sz row (xs ++ ys) := by simp [AV.os, tokOf]
  simp only [e1]
  exact h
theorem vr_nil {α : Type} {row : α → List PV} : ([] : List AV) = ((([] : List α).map row).flatten).map AV.c := rfl
theorem vr_u8 {n : Int} {b : UInt8} {xs : List UInt8} {as : List AV} (h : byteOf n = some b) (t : as = ((xs.map brow).flatten).map AV.c) : .c (.int .u8 n) :: as = (((b :: xs).map brow).flatten).map AV.c := by
  rw [byteOf_some h, t]; rfl
/-- A row is copied to be stored into. -/
theorem o_appm {α : Type} {s x : Operand} {t tx e : TypeId} {sz by_ t0 : Nat} {row : α → List PV} {ys zs : List α} (ht : tySlice P t = some (e, sz, by_)) (hb : Nat.blt 0 by_ = true) (htx : tyIs P tx = 3) (hs : fr.ev s = .os t0 sz row ([] : List α)) (hx : isl (fr.ev x) sz row ys) (hy : ∀ u, (row u).length = sz) (hz : app by_ ([] : List α) ys = some zs)
    (h : aops mo P all r ((d, .ms (16 * d) sz row zs) :: fr.dem (demF d t0)) (σ.dem (demF d t0)) K) : aops mo P all (⟨some d, .call { callee := .builtin .append, args := #[s, x], argTypes := #[t, tx] }, ty, pos, af, none⟩ :: r) fr σ K := by
  obtain ⟨hm, hzz⟩ := app_some hz
  rw [List.nil_append] at hzz
  subst hzz
  have hx' : fr.ev x = .c (.list sz (zs.map row)) ∨ (∃ t0, fr.ev x = .own t0 sz (zs.map row)) ∨ (∃ t0, fr.ev x = .mrow t0 sz (zs.map row)) ∨ (fr.ev x = .nil ∧ zs.map row = []) ∨ ∃ id off m cs, fr.ev x = .view id off m ∧ σ[id]? = some cs ∧ (zs.map row).length = m ∧ (cs.drop off).take (m * sz) = (zs.map row).flatten.map AV.c := by
    rcases hx with hx | ⟨t1, hx⟩
    · exact .inl hx
    · exact .inr (.inl ⟨t1, hx⟩)
  refine aops_none (aopg rfl ⟨s, x, t, tx, e, sz, by_, demF d t0, [], zs.map row, rfl, rfl, ht, blt_lt hb, htx, rfl, by simp [hy], by simpa using hm, by simp [demF, freshOf_tok], rfl, rfl, hx', .inr ⟨.inr (.inl ⟨t0, by simp [demF], hs, rfl⟩), rfl⟩⟩ ?_)
  have e1 : AV.mrow (tokOf (some d)) sz ([] ++ zs.map row) = AV.ms (16 * d) sz row zs := by simp [AV.ms, tokOf]
  simp only [e1]
  exact h
/-- A store to an element, or to a field of one. -/
theorem o_mst {α : Type} {t : TypeId} {x y : Operand} {ag : Bool} {n t0 sz i off : Nat} {cs vs : List PV} {row : α → List PV} {xs : List α} {u : α} (hs : List Nat) (D : List (Nat × Nat)) (ht : tyVar P t = some (ag, n)) (hx : fr.ev x = .mptr t0 sz i off cs) (hy : fr.ev y = v) (hsol : v.solid = true) (hv : AV.pvhs? hs v.cells = some vs)
    (hn : vs.length = n) (hf : Nat.ble (off + n) sz = true) (hu : row u = cs.take off ++ (vs ++ cs.drop (off + n))) (hD : fr.hasM t0 sz i cs D) (h1 : fr.setM t0 sz i (row u) = fr.putM t0 sz ((xs.map row).set i (row u))) (h2 : σ.setM t0 sz i (row u) = σ.putM t0 sz ((xs.map row).set i (row u)))
    (h : aops true P all r (Fr.addM t0 sz i (row u) (fr.putM t0 sz ((xs.set i u).map row)) D) (σ.putM t0 sz ((xs.set i u).map row)) K) : aops true P all (⟨none, .store t x y, ty, pos, af, none⟩ :: r) fr σ K := by
  subst hy
  refine aopM_mst ⟨ag, n, t0, sz, i, off, cs, hs, vs, D, _, rfl, ht, hx, hsol, hv, hn, ble_le hf, keepM_of hD, ?_⟩
  rw [← hu, h1, h2, ← List.map_set]
  exact h
/-- An operation behind the end of a row's stores. -/
theorem o_frz {α : Type} {o : Oper} (t sz : Nat) (row : α → List PV) (xs : List α) (hg : o.guard = none) (h1 : fr.frz t sz (xs.map row) = fr.fro t) (h2 : σ.frz t sz (xs.map row) = σ.fro t) (h : aop P o (fr.frz t sz (xs.map row)) (σ.frz t sz (xs.map row)) fun fr σ => aops true P all r fr σ K) : aops true P all (o :: r) fr σ K := by
  obtain ⟨dst, op, ty, pos, after, guard⟩ := o
  simp only at hg
  subst hg
  exact aopM_frz t sz _ h1 h2 h
/-- A call behind the end of a row's stores. -/
theorem o_frzv {α : Type} {op : Op} (t sz : Nat) (row : α → List PV) (xs : List α) (h1 : fr.frz t sz (xs.map row) = fr.fro t) (h2 : σ.frz t sz (xs.map row) = σ.fro t) (hv : Ov P ⟨some d, op, ty, pos, af, none⟩ (fr.frz t sz (xs.map row)) (σ.frz t sz (xs.map row)) v)
    (h : aops true P all r ((d, v) :: fr.frz t sz (xs.map row)) (σ.frz t sz (xs.map row)) K) : aops true P all (⟨some d, op, ty, pos, af, none⟩ :: r) fr σ K :=
  aops_M (aopM_frz t sz _ h1 h2 (hv _ h))
/-- A call that is lent rows as data, or that gives rows that may be stored into. -/
theorem o_callB {fo : Operand} {args : Array Operand} {ts : Array TypeId} {f : FuncId} {caps as : List AV} {σr σ' : St} {rv : AV} {fr1 fr2 : Fr} {σ1 : St} (M : List Nat) (k : Nat) (hz : FrzS fr σ fr1 σ1) (hf : fr1.ev fo = .fn f caps) (hc : ACalls P f as [] rv σr) (ha : leP (AV.lowL [] (args.toList.map fr1.ev ++ caps)) as) (hl : rv.lite) (hls : σr.lite)
    (hfr : fr.dem (endF [] k) = fr2) (hv : rv.liftM M σ.length k = v) (hσ : σ.dem (endF [] k) ++ σr.map (AV.liftML M σ.length k) = σ') (h : aops true P all r ((d, v) :: fr2) σ' K) :
    aops true P all (⟨some d, .call { callee := .value fo, args := args, argTypes := ts }, ty, pos, af, none⟩ :: r) fr σ K := by
  refine aops_M (.inr ?_)
  refine ⟨fr1, σ1, f, caps, k, as, rv, σr, M, hz, hf, leL_of ha, hc, hl, hls, ?_⟩
  subst hfr hv hσ
  exact h
theorem fz_0 : FrzS fr σ fr σ := .refl fr σ
theorem fz_1 {α : Type} {fr' : Fr} {σ' : St} (t sz : Nat) (row : α → List PV) (xs : List α) (h1 : fr.frz t sz (xs.map row) = fr.fro t) (h2 : σ.frz t sz (xs.map row) = σ.fro t) (h : FrzS (fr.frz t sz (xs.map row)) (σ.frz t sz (xs.map row)) fr' σ') : FrzS fr σ fr' σ' := .step t sz _ h1 h2 h
theorem lite_b {t : Nat} {xs : List UInt8} : (AV.os t 1 brow xs).lite := fun x hx p hp => by
  obtain ⟨b, _, rfl⟩ := List.mem_map.1 hx
  simp [brow] at hp
  subst hp
  rfl
end
theorem w_frz {α : Type} {k0 : Nat} {fr fr' : Fr} {σ σ' : St} (t sz : Nat) (row : α → List PV) (xs : List α) (h1 : fr.frz t sz (xs.map row) = fr.fro t) (h2 : σ.frz t sz (xs.map row) = σ.fro t) (h : Weak k0 (fr.frz t sz (xs.map row)) (σ.frz t sz (xs.map row)) fr' σ') : Weak k0 fr σ fr' σ' :=
  Weak.trans (fun c g w tmps _ hi hf => frz_sound t sz _ h1 h2 hi hf) h

/-- A call's end: the new variable's rows stay its own. -/
theorem fin_newT {k0 off : Nat} {rv : AV} {σ σr : St} (hv : rv = .box k0 off) (toks : List Nat) (hnd : decide toks.Nodup = true) (hσ : leS (St.retok toks σ) σr) : Fin k0 rv σ (.box k0 off) σr := by
  subst hv
  intro c g w v hk hi hv
  have hf : RFr g w #[v] [(0, .box k0 off)] := fun d => by
    simp only [Fr.get]
    split
    · rename_i e; subst e; exact hv
    · exact .any
  obtain ⟨g2, hi2, hf2⟩ := Weak.retok (k0 := k0) (fr := [(0, .box k0 off)]) (σ := σ) toks (of_decide_eq_true hnd) c g w #[v] hk hi hf
  obtain ⟨g3, hi3, hf3⟩ := Weak.cells (k0 := k0) (fr := Fr.retok toks [(0, .box k0 off)]) hσ c g2 w #[v] hk hi2 hf2
  exact ⟨g3, hi3, hf3 0⟩
end Go.Proofs.Ytlfggjfndmfblaa.Abs

namespace Go.Proofs.Ytlfggjfndmfblaa.Abs
open Go
set_option linter.unusedVariables false
set_option linter.unusedSimpArgs false
variable {mo : Bool}

theorem r {α : Sort _} {a : α} : a = a := rfl
theorem sy {α : Type} {a b : α} (h : some a = some b) : b = a := (Option.some.inj h).symm
theorem lr {a : AV} : a.le a := AV.le_refl a
def keys : Fr → List Nat
  | [] => []
  | (i, _) :: r => i :: keys r
def subB (V : List Nat) : List Nat → Bool
  | [] => true
  | i :: r => V.contains i && subB V r
theorem subB_mem {V : List Nat} : ∀ {l : List Nat}, subB V l = true → ∀ i ∈ l, i ∈ V
  | [], _, i, hi => by cases hi
  | j :: l, h, i, hi => by
    simp only [subB, Bool.and_eq_true, List.contains_iff_mem] at h
    rcases List.mem_cons.1 hi with rfl | hi
    · exact h.1
    · exact subB_mem h.2 i hi
theorem prune_sub {V l : List Nat} {fr : Fr} (h : subB V l = true) (d : Nat) : ((prune V fr).get d).le ((prune l fr).get d) := by
  rw [prune_get, prune_get]
  by_cases hd : d ∈ l
  · rw [if_pos hd, if_pos (subB_mem h d hd)]; exact AV.le_refl _
  · rw [if_neg hd]; exact AV.le_any _

section
variable {P : Program} {V : List Nat} {k0 : Nat} {Q : Exit → Fr → St → Prop} {fr : Fr} {σ : St}
/-- A region's end, and on to what follows: only what lives on is told. -/
theorem o_ek {all : List Oper} {y : Code} {fr' : Fr} (hk : subB V (keys fr') = true) (hp : prune (keys fr') fr = fr') (h : awp P V k0 y Q fr' σ) : aops mo P all [] fr σ fun fr σ => hold (seqQ (kw P V k0 y Q) Q .normal (prune V fr) σ) := by
  refine ⟨fr', σ, Weak.slots fun d => ?_, h⟩
  have := prune_sub (fr := fr) hk d
  rw [hp] at this
  exact this
theorem d_ek {ops : Array Oper} {y : Code} {fr' : Fr} (hk : subB V (keys fr') = true) (hp : prune (keys fr') fr = fr') (h : awp P V k0 y Q fr' σ) : ad P ops [] fr σ fun fr σ => hold (seqQ (kw P V k0 y Q) Q .normal (prune V fr) σ) := by
  refine ⟨fr', σ, Weak.slots fun d => ?_, h⟩
  have := prune_sub (fr := fr) hk d
  rw [hp] at this
  exact this
theorem w_sr {id : Nat} {l : List Oper} {y : Code} (h : aops true P l l fr σ fun fr σ => hold (seqQ (kw P V k0 y Q) Q .normal (prune V fr) σ)) : awp P V k0 (.seq (.region id l.toArray false) y) Q fr σ := w_seqw (w_region h)
theorem w_rt (h : Q .ret fr σ) : awp P V k0 .ret Q fr σ := h
theorem w_ch {α : Type} {c : Operand} {x y : Code} {b : Bool} {X Y : Option α} {r : α} (he : cond b X Y = some r) (h : fr.ev c = .c (.bool b)) (h1 : b = true → X = some r → awp P V k0 x Q fr σ) (h2 : b = false → Y = some r → awp P V k0 y Q fr σ) : awp P V k0 (.cond c x y) Q fr σ :=
  w_cond b h (fun hb => h1 hb (cond_t hb he)) (fun hb => h2 hb (cond_f hb he))
end
theorem r_ch {α : Type} {G : Prop} {b : Bool} {X Y : Option α} {r : α} (he : cond b X Y = some r) (h1 : b = true → X = some r → G) (h2 : b = false → Y = some r → G) : G := by
  cases hb : b
  · exact h2 hb (cond_f hb he)
  · exact h1 hb (cond_t hb he)

section
variable {P : Program} {all r : List Oper} {ops : Array Oper} {rp : List PI} {d dj j i : Nat} {op : Op} {ty : TypeId} {pos : String} {af : Array Edge} {fr : Fr} {σ : St} {K : Fr → St → Prop} {v : AV} {b c w : Bool} {x : Operand}
theorem mV (hx : fr.ev x = v) (h : aops mo P all r ((d, v) :: fr) σ K) : aops mo P all (⟨some d, .move x, ty, pos, af, none⟩ :: r) fr σ K := o_p rfl (p_move hx) h
theorem sV (hx : fr.ev x = v) (h : aops mo P all r ((d, v) :: fr) σ K) : aops mo P all (⟨some d, .assign x, ty, pos, af, none⟩ :: r) fr σ K := o_p rfl (p_assign hx) h
theorem mI {k : IntKind} {n : Int} (hx : fr.ev x = .c (.int k n)) (h : aops mo P all r ((d, .c (.int k n)) :: fr) σ K) : aops mo P all (⟨some d, .move x, ty, pos, af, none⟩ :: r) fr σ K := mV hx h
theorem sI {k : IntKind} {n : Int} (hx : fr.ev x = .c (.int k n)) (h : aops mo P all r ((d, .c (.int k n)) :: fr) σ K) : aops mo P all (⟨some d, .assign x, ty, pos, af, none⟩ :: r) fr σ K := sV hx h
theorem mB {n : Bool} (hx : fr.ev x = .c (.bool n)) (h : aops mo P all r ((d, .c (.bool n)) :: fr) σ K) : aops mo P all (⟨some d, .move x, ty, pos, af, none⟩ :: r) fr σ K := mV hx h
theorem sB {n : Bool} (hx : fr.ev x = .c (.bool n)) (h : aops mo P all r ((d, .c (.bool n)) :: fr) σ K) : aops mo P all (⟨some d, .assign x, ty, pos, af, none⟩ :: r) fr σ K := sV hx h
theorem mS {s : List UInt8} (hx : fr.ev x = .c (.str s)) (h : aops mo P all r ((d, .c (.str s)) :: fr) σ K) : aops mo P all (⟨some d, .move x, ty, pos, af, none⟩ :: r) fr σ K := mV hx h
theorem sS {s : List UInt8} (hx : fr.ev x = .c (.str s)) (h : aops mo P all r ((d, .c (.str s)) :: fr) σ K) : aops mo P all (⟨some d, .assign x, ty, pos, af, none⟩ :: r) fr σ K := sV hx h
theorem mL {α : Type} {sz : Nat} {row : α → List PV} {xs : List α} (hx : fr.ev x = .c (PV.ls sz row xs)) (h : aops mo P all r ((d, .c (PV.ls sz row xs)) :: fr) σ K) : aops mo P all (⟨some d, .move x, ty, pos, af, none⟩ :: r) fr σ K := mV hx h
theorem sL {α : Type} {sz : Nat} {row : α → List PV} {xs : List α} (hx : fr.ev x = .c (PV.ls sz row xs)) (h : aops mo P all r ((d, .c (PV.ls sz row xs)) :: fr) σ K) : aops mo P all (⟨some d, .assign x, ty, pos, af, none⟩ :: r) fr σ K := sV hx h
theorem og (hp : plainOp ⟨some d, op, ty, pos, af, some (j, w)⟩ = true) (hj : gslot all j = some dj) (hs : fr.get dj = .c (.bool b)) (hv : (b == w) = true → Pv P ⟨some d, op, ty, pos, af, some (j, w)⟩ fr.ev σ v) (h : aops mo P all r ((d, gv (b == w) v) :: fr) σ K) : aops mo P all (⟨some d, op, ty, pos, af, some (j, w)⟩ :: r) fr σ K :=
  o_g hj hs (fun hc => ov_p hp (hv hc)) h
theorem dq (ho : ops[i]? = some ⟨some d, op, ty, pos, af, none⟩) (hp : plainOp ⟨some d, op, ty, pos, af, none⟩ = true) (hv : Pv P ⟨some d, op, ty, pos, af, none⟩ fr.ev σ v) (h : ad P ops rp ((d, v) :: fr) σ K) : ad P ops (.q i :: rp) fr σ K := d_q ho (qv_p hp hv) h
end

/-! ### Contracts of the library -/
open RowKit in
/-- A call that is known to answer this, and to leave what was there as it was. -/
theorem acalls_lib {P : Program} {f : FuncId} {args : List AV} {r : AV} (hc : callable P f = true)
    (h : ∀ (g : G) (w : World) (vs : Array Value), RCells g w vs args → (∀ b o, g.I b o → b < w.heap.size) → Glo g.I w → Calls P f vs w fun e w' => ∃ v, e = .returned v ∧ Below w.heap.size w w' ∧ ∀ g', RAV g' w' v r) : ACalls P f args [] r [] := by
  refine ⟨hc, fun w I β τ vs hI hnd hlt hβI hτ hτi hlen hst hargs hglo => ?_⟩
  have hβ : β = [] := List.eq_nil_of_length_eq_zero hlen
  subst hβ
  refine (h ⟨I, [], τ⟩ w vs hargs hI hglo).mono fun e w' => ?_
  rintro ⟨v, he, hb, hv⟩
  refine ⟨v, ⟨I, [], fun _ => none⟩, he, ⟨hb.os, hb.tape, hb.output, hb.size, fun b hb' _ _ => hb.block b hb', fun _ _ h => h, fun _ _ h _ _ => h, fun b o h => Nat.lt_of_lt_of_le (hI b o h) hb.size, rfl, by simp, List.nodup_nil, rfl, by simp, by simp,
    fun t b h => (by cases h), fun t t' b h => (by cases h), fun id cs b hs => (by simp at hs), fun b o h => (by simp [World.cell?, hb.block b (hI b o h)]), hglo⟩, hv _⟩
open RowKit in
/-- And back: what the judgement says of the call itself. -/
theorem acalls_calls {P : Program} {f : FuncId} {args : List AV} {r : AV} (hc : ACalls P f args [] r []) {w : World} {vs : Array Value} (hv : RCells ⟨old w, [], fun _ => none⟩ w vs args) (hg : Glo (old w) w) :
    Calls P f vs w fun e w' => ∃ v g', e = .returned v ∧ Below w.heap.size w w' ∧ RAV g' w' v r := by
  have h := hc.2 w (old w) [] (fun _ => none) vs (fun b o hb => hb) (by simp) (by simp) (by simp) (by simp) (by simp) rfl (by simp) hv hg
  refine h.mono fun e w' => ?_
  rintro ⟨v, g', he, hi, hr⟩
  exact ⟨v, g', he, ⟨hi.os, hi.tape, hi.output, hi.size, fun k hk => hi.old k hk (by simp) (fun h => by obtain ⟨t, h⟩ := h; cases h)⟩, hr⟩
theorem rv_str {I : Nat → Nat → Prop} {w : World} {v : Value} {s : List UInt8} (h : RV I w v (.str s)) : v = .string ⟨s.toArray⟩ := by cases h; rfl
theorem rv_int {I : Nat → Nat → Prop} {w : World} {v : Value} {k : IntKind} {n : Int} (h : RV I w v (.int k n)) : v = .int k n := by cases h; rfl
theorem rav_c {g : G} {w : World} {v : Value} {p : PV} (h : RAV g w v (.c p)) : RV g.I w v p := by cases h; assumption
theorem rc1 {g : G} {w : World} {vs : Array Value} {a : AV} (h : RCells g w vs [a]) : ∃ v, vs = #[v] ∧ RAV g w v a := by
  obtain ⟨h1, h2⟩ := h
  obtain ⟨l⟩ := vs
  match l, h1 with
  | [v], _ => exact ⟨v, rfl, h2 0 v a rfl rfl⟩
theorem rc2 {g : G} {w : World} {vs : Array Value} {a b : AV} (h : RCells g w vs [a, b]) : ∃ u v, vs = #[u, v] ∧ RAV g w u a ∧ RAV g w v b := by
  obtain ⟨h1, h2⟩ := h
  obtain ⟨l⟩ := vs
  match l, h1 with
  | [u, v], _ => exact ⟨u, v, rfl, h2 0 u a rfl rfl, h2 1 v b rfl rfl⟩
theorem rc_str {g : G} {w : World} {vs : Array Value} {s : List UInt8} (h : RCells g w vs [.c (.str s)]) : vs = #[.string ⟨s.toArray⟩] := by
  obtain ⟨v, rfl, hv⟩ := rc1 h
  rw [rv_str (rav_c hv)]
theorem rc_int {g : G} {w : World} {vs : Array Value} {k : IntKind} {n : Int} (h : RCells g w vs [.c (.int k n)]) : vs = #[.int k n] := by
  obtain ⟨v, rfl, hv⟩ := rc1 h
  rw [rv_int (rav_c hv)]
theorem rc_strs {g : G} {w : World} {vs : Array Value} {s t : List UInt8} (h : RCells g w vs [.c (.str s), .c (.str t)]) : vs = #[.string ⟨s.toArray⟩, .string ⟨t.toArray⟩] := by
  obtain ⟨u, v, rfl, hu, hv⟩ := rc2 h
  rw [rv_str (rav_c hu), rv_str (rav_c hv)]
theorem rc_strint {g : G} {w : World} {vs : Array Value} {s : List UInt8} {k : IntKind} {n : Int} (h : RCells g w vs [.c (.str s), .c (.int k n)]) : vs = #[.string ⟨s.toArray⟩, .int k n] := by
  obtain ⟨u, v, rfl, hu, hv⟩ := rc2 h
  rw [rv_str (rav_c hu), rv_int (rav_c hv)]
theorem ite_some {α : Type} {p : Prop} [Decidable p] {a b : α} (h : (if p then some a else none) = some b) : p ∧ b = a := by
  by_cases hp : p
  · rw [if_pos hp] at h; exact ⟨hp, (Option.some.inj h).symm⟩
  · rw [if_neg hp] at h; cases h
/-- A listed variable, as a program's own name calls it. -/
theorem glo_var {P : Program} {I : Nat → Nat → Prop} {w : World} (h : Glo I w) {k : Nat} {p : Array Value → Prop} (hm : (k, p) ∈ globs) {n : String} (hn : P.globalNamed n = some k) : ∃ cs, w.var? P n = some cs ∧ p cs := by
  obtain ⟨_, cs, e, l, h2, _, h4⟩ := h _ hm
  exact ⟨cs, by simp [World.var?, hn, h2], h4⟩
end Go.Proofs.Ytlfggjfndmfblaa.Abs

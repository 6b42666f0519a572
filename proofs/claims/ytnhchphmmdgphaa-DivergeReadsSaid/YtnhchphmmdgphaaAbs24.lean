/- The printed walks' steps: operations that grow memory, calls, ways that meet, loops, hand-backs. -/
import Derived.Test.YtnhchphmmdgphaaAbs23
namespace Go.Proofs.Ytnhchphmmdgphaa.Abs
open Go
set_option linter.unusedVariables false
set_option linter.unusedSimpArgs false

theorem blt_lt {a b : Nat} (h : Nat.blt a b = true) : a < b := by rw [Nat.blt_eq] at h; exact h
theorem ble_le {a b : Nat} (h : Nat.ble a b = true) : a ≤ b := by rw [Nat.ble_eq] at h; exact h

/-! ### Knowing less, as nested pairs -/
def leP : List AV → List AV → Prop
  | [], [] => True
  | a :: as, b :: bs => a.le b ∧ leP as bs
  | _, _ => False
theorem leL_of : ∀ {as bs : List AV}, leP as bs → AV.leL as bs
  | [], [], _ => .nil
  | a :: as, b :: bs, h => .cons h.1 (leL_of h.2)
  | [], _ :: _, h => h.elim
  | _ :: _, [], h => h.elim
def leC : List AV → List PV → Prop
  | [], [] => True
  | .c p :: as, q :: qs => p = q ∧ leC as qs
  | .own _ sz xs :: as, q :: qs => PV.list sz xs = q ∧ leC as qs
  | .nil :: as, q :: qs => (∃ sz, q = .list sz []) ∧ leC as qs
  | _, _ => False
theorem leL_cs : ∀ {as : List AV} {ps : List PV}, leC as ps → AV.leL as (AV.cs ps)
  | [], [], _ => .nil
  | .c p :: as, q :: qs, h => .cons (by simp only [leC] at h; rw [h.1]; exact AV.le_refl _) (leL_cs (by simp only [leC] at h; exact h.2))
  | .own t sz xs :: as, q :: qs, h => .cons (by simp only [leC] at h; rw [← h.1]; exact AV.le_own_list _ _ _) (leL_cs (by simp only [leC] at h; exact h.2))
  | .nil :: as, q :: qs, h => .cons (by simp only [leC] at h; obtain ⟨⟨sz, rfl⟩, _⟩ := h; exact AV.le_nil_list sz) (leL_cs (by simp only [leC] at h; exact h.2))
  | [], _ :: _, h => by simp [leC] at h
  | .c _ :: _, [], h => by simp [leC] at h
  | .own .. :: _, [], h => by simp [leC] at h
  | .nil :: _, [], h => by simp [leC] at h
  | .agg _ :: _, _, h => by simp [leC] at h
  | .tup _ :: _, _, h => by simp [leC] at h
  | .box .. :: _, _, h => by simp [leC] at h
  | .eptr .. :: _, _, h => by simp [leC] at h
  | .ptrs _ :: _, _, h => by simp [leC] at h
  | .pptr _ :: _, _, h => by simp [leC] at h
  | .fn .. :: _, _, h => by simp [leC] at h
  | .nilptr :: _, _, h => by simp [leC] at h
  | .any :: _, _, h => by simp [leC] at h
theorem le_aggc {x : AV} {as : List AV} {ps : List PV} (hx : x = .agg as) (h : leC as ps) : x.le (.agg (AV.cs ps)) := by subst hx; exact AV.le_agg (leL_cs h)
theorem le_aggp {x : AV} {as bs : List AV} (hx : x = .agg as) (h : leP as bs) : x.le (.agg bs) := by subst hx; exact AV.le_agg (leL_of h)
theorem le_tupp {x : AV} {as bs : List AV} (hx : x = .tup as) (h : leP as bs) : x.le (.tup bs) := by subst hx; exact AV.le_tup (leL_of h)
theorem le_fnp {x : AV} {f : FuncId} {as bs : List AV} (hx : x = .fn f as) (h : leP as bs) : x.le (.fn f bs) := by
  subst hx
  intro g w v hv
  cases hv with
  | fn _ vs cs h1 h2 =>
    have := RCells.le (leL_of h) (show RCells g w vs as from ⟨h1, h2⟩)
    exact .fn f vs bs this.1 this.2
theorem le_os {α : Type} {t sz : Nat} {row : α → List PV} {xs : List α} : (AV.os t sz row xs).le (.c (PV.ls sz row xs)) := AV.le_own_list _ _ _
theorem le_nls {α : Type} {sz : Nat} {row : α → List PV} : AV.nil.le (.c (PV.ls sz row [])) := AV.le_nil_list sz
theorem le_nos {α : Type} {t sz : Nat} {row : α → List PV} (h : Nat.blt 0 sz = true) : AV.nil.le (.os t sz row []) := AV.le_nil_own t sz (blt_lt h)
theorem st_nil : leS [] [] := .nil
theorem st_c {cs : List AV} {ps : List PV} {σ σ' : St} (h : leC cs ps) (t : leS σ σ') : leS (cs :: σ) (AV.cs ps :: σ') := .cons (leL_cs h) t
theorem st_p {cs bs : List AV} {σ σ' : St} (h : leP cs bs) (t : leS σ σ') : leS (cs :: σ) (bs :: σ') := .cons (leL_of h) t

/-! ### Operations that grow memory -/
section
variable {P : Program} {all r : List Oper} {d : Nat} {ty : TypeId} {pos : String} {af : Array Edge} {fr : Fr} {σ : St} {K : Fr → St → Prop} {v : AV}

theorem o_alloc {e : TypeId} {z : List Value} {cs : List AV} {n : Nat} {σ' : St} (hz : tyZero P e = some z) (hc : z.map AV.ofFlat = cs) (hn : σ.length = n) (hσ : σ ++ [cs] = σ') (h : aops P all r ((d, .box n 0) :: fr) σ' K) : aops P all (⟨some d, .alloc e, ty, pos, af, none⟩ :: r) fr σ K := by
  rw [aops_none]
  refine aop_plain rfl ?_
  subst hc hn hσ
  simp only [aval, hz]
  exact h
theorem o_box {e : TypeId} {x : Operand} {cs : List AV} {n : Nat} {σ' : St} (hx : fr.ev x = v) (hs : v.solid = true) (hc : v.cells = cs) (hn : σ.length = n) (hσ : σ ++ [cs] = σ') (h : aops P all r ((d, .box n 0) :: fr) σ' K) : aops P all (⟨some d, .box e x, ty, pos, af, none⟩ :: r) fr σ K := by
  rw [aops_none]
  refine aop_plain rfl ?_
  subst hx hc hn hσ
  simp only [aval]
  exact ⟨hs, h⟩
theorem o_store {dst : Option Tmp} {t : TypeId} {x y : Operand} {ag : Bool} {n id off : Nat} {cs us : List AV} {σ' : St} (hd : dst = none) (ht : tyVar P t = some (ag, n)) (hx : fr.ev x = .box id off) (hy : fr.ev y = v) (hs : v.solid = true) (hu : v.cells = us) (hn : us.length = n) (hc : σ[id]? = some cs) (hle : Nat.ble (off + n) cs.length = true)
    (hσ : σ.set id (cs.take off ++ (us ++ cs.drop (off + n))) = σ') (h : aops P all r fr σ' K) : aops P all (⟨dst, .store t x y, ty, pos, af, none⟩ :: r) fr σ K := by
  subst hd
  rw [aops_none]
  refine aop_plain rfl ?_
  subst hy hu
  simp only [aval, ht, hx, hc]
  refine ⟨hs, hn, ble_le hle, ?_⟩
  rw [List.append_assoc, hσ]
  exact h
theorem o_rows {α : Type} {t e : TypeId} {len sz by_ : Nat} {parts : Array (Nat × Operand)} {rows : List (List PV)} {row : α → List PV} {xs : List α} {σ' : St} (hs : List Nat) (ht : tySlice P t = some (e, sz, by_)) (hl : parts.toList.length = len) (hm : Nat.ble (len * sz) 1000000 = true) (hr : arows hs sz fr.ev 0 parts.toList = some rows) (hx : rows = xs.map row)
    (hf : fr.dem (freshOf (some d)) = fr) (hσ : σ.dem (freshOf (some d)) = σ') (h : aops P all r ((d, .os (16 * d) sz row xs) :: fr) σ' K) : aops P all (⟨some d, .buildSlice t len parts, ty, pos, af, none⟩ :: r) fr σ K := by
  rw [aops_none]
  refine aop_plain rfl ?_
  subst hσ hx
  simp only [aval, ht]
  refine ⟨hl, ble_le hm, hs, ?_⟩
  simp only [hr, Fr.demo, hf]
  exact h
theorem o_ptrs {t e : TypeId} {len by_ : Nat} {parts : Array (Nat × Operand)} {l : List (Nat × Nat)} (ht : tySlice P t = some (e, 1, by_)) (hl : parts.toList.length = len) (hm : Nat.ble (len * 1) 1000000 = true) (h0 : arows [] 1 fr.ev 0 parts.toList = none) (hr : aptrs fr.ev 0 parts.toList = some l)
    (h : aops P all r ((d, .ptrs l) :: fr) σ K) : aops P all (⟨some d, .buildSlice t len parts, ty, pos, af, none⟩ :: r) fr σ K := by
  rw [aops_none]
  refine aop_plain rfl ?_
  simp only [aval, ht]
  refine ⟨hl, ble_le hm, [], ?_⟩
  simp only [h0, hr]
  exact ⟨trivial, h⟩

def demF (d t0 : Nat) : Nat → Bool := fun t => freshOf (some d) t || t == t0

theorem aapp_ls {α : Type} {o : Oper} {t tx e : TypeId} {sz by_ : Nat} {s x : AV} {row : α → List PV} {xs ys : List α} {f : Nat → Bool} {K : Option (Nat → Bool) → AV → St → Prop} (ht : tySlice P t = some (e, sz, by_)) (hb : Nat.blt 0 by_ = true) (htx : tyIs P tx = 3)
    (hs : (s = .nil ∧ xs = [] ∧ f = freshOf o.dst) ∨ ∃ t0, s = .os t0 sz row xs ∧ f = fun t => freshOf o.dst t || t == t0) (hx : isl x sz row ys ∨ (x = .nil ∧ ys = [])) (hy : ∀ u, (row u).length = sz) (hm : (xs.length + ys.length) * by_ ≤ 140737488355328)
    (h : K (some f) (.os (tokOf o.dst) sz row (xs ++ ys)) (σ.dem f)) : aappend P o t tx s x σ K := by
  have hrow : ∀ y ∈ ys.map row, y.length = sz := by simp [hy]
  have hb' := blt_lt hb
  have e1 : AV.os (tokOf o.dst) sz row (xs ++ ys) = .own (tokOf o.dst) sz (xs.map row ++ ys.map row) := by simp [AV.os]
  rw [e1] at h
  rcases hs with ⟨rfl, rfl, rfl⟩ | ⟨t0, rfl, rfl⟩
  · rcases hx with (rfl | ⟨t1, rfl⟩) | ⟨rfl, rfl⟩
    · simp only [aappend, ht, PV.ls]; exact ⟨hb', trivial, htx, hrow, by simpa using hm, h⟩
    · simp only [aappend, ht, AV.os]; exact ⟨hb', trivial, htx, hrow, by simpa using hm, h⟩
    · simp only [aappend, ht]; exact ⟨hb', htx, by simp, h⟩
  · rcases hx with (rfl | ⟨t1, rfl⟩) | ⟨rfl, rfl⟩
    · simp only [aappend, ht, PV.ls, AV.os]; exact ⟨hb', trivial, trivial, htx, hrow, by simpa using hm, h⟩
    · simp only [aappend, ht, AV.os]; exact ⟨hb', trivial, trivial, htx, hrow, by simpa using hm, h⟩
    · simp only [aappend, ht, AV.os]; exact ⟨hb', trivial, htx, by simpa using hm, by simpa using h⟩

theorem o_appn {α : Type} {s x : Operand} {t tx e : TypeId} {sz by_ : Nat} {row : α → List PV} {ys zs : List α} (ht : tySlice P t = some (e, sz, by_)) (hb : Nat.blt 0 by_ = true) (htx : tyIs P tx = 3) (hs : fr.ev s = .nil) (hx : isl (fr.ev x) sz row ys) (hy : ∀ u, (row u).length = sz) (hz : app by_ ([] : List α) ys = some zs)
    (h : aops P all r ((d, .os (16 * d) sz row zs) :: fr.dem (freshOf (some d))) (σ.dem (freshOf (some d))) K) : aops P all (⟨some d, .call { callee := .builtin .append, args := #[s, x], argTypes := #[t, tx] }, ty, pos, af, none⟩ :: r) fr σ K := by
  obtain ⟨hm, rfl⟩ := app_some hz
  rw [aops_none]
  refine aop_plain rfl ?_
  simp only [aval]
  exact aapp_ls ht hb htx (.inl ⟨hs, rfl, rfl⟩) (.inl hx) hy hm h
theorem o_app {α : Type} {s x : Operand} {t tx e : TypeId} {sz by_ t0 : Nat} {row : α → List PV} {xs ys zs : List α} (ht : tySlice P t = some (e, sz, by_)) (hb : Nat.blt 0 by_ = true) (htx : tyIs P tx = 3) (hs : fr.ev s = .os t0 sz row xs) (hx : isl (fr.ev x) sz row ys) (hy : ∀ u, (row u).length = sz) (hz : app by_ xs ys = some zs)
    (h : aops P all r ((d, .os (16 * d) sz row zs) :: fr.dem (demF d t0)) (σ.dem (demF d t0)) K) : aops P all (⟨some d, .call { callee := .builtin .append, args := #[s, x], argTypes := #[t, tx] }, ty, pos, af, none⟩ :: r) fr σ K := by
  obtain ⟨hm, rfl⟩ := app_some hz
  rw [aops_none]
  refine aop_plain rfl ?_
  simp only [aval]
  exact aapp_ls ht hb htx (.inr ⟨t0, hs, rfl⟩) (.inl hx) hy hm h
theorem o_app0 {α : Type} {s x : Operand} {t tx e : TypeId} {sz by_ t0 : Nat} {row : α → List PV} {xs zs : List α} (ht : tySlice P t = some (e, sz, by_)) (hb : Nat.blt 0 by_ = true) (htx : tyIs P tx = 3) (hs : fr.ev s = .os t0 sz row xs) (hx : fr.ev x = .nil) (hy : ∀ u, (row u).length = sz) (hz : app by_ xs [] = some zs)
    (h : aops P all r ((d, .os (16 * d) sz row zs) :: fr.dem (demF d t0)) (σ.dem (demF d t0)) K) : aops P all (⟨some d, .call { callee := .builtin .append, args := #[s, x], argTypes := #[t, tx] }, ty, pos, af, none⟩ :: r) fr σ K := by
  obtain ⟨hm, rfl⟩ := app_some hz
  rw [aops_none]
  refine aop_plain rfl ?_
  simp only [aval]
  exact aapp_ls ht hb htx (.inr ⟨t0, hs, rfl⟩) (.inr ⟨hx, rfl⟩) hy hm h
theorem o_appS {s x : Operand} {t tx e : TypeId} {by_ t0 : Nat} {xs ys zs : List UInt8} (ht : tySlice P t = some (e, 1, by_)) (hb : Nat.blt 0 by_ = true) (htx : tyIs P tx = 2) (hs : fr.ev s = .os t0 1 brow xs) (hx : fr.ev x = .c (.str ys)) (hz : app by_ xs ys = some zs)
    (h : aops P all r ((d, .os (16 * d) 1 brow zs) :: fr.dem (demF d t0)) (σ.dem (demF d t0)) K) : aops P all (⟨some d, .call { callee := .builtin .append, args := #[s, x], argTypes := #[t, tx] }, ty, pos, af, none⟩ :: r) fr σ K := by
  obtain ⟨hm, rfl⟩ := app_some hz
  rw [aops_none]
  refine aop_plain rfl ?_
  have e1 : AV.os (tokOf (some d)) 1 brow (xs ++ ys) = .own (tokOf (some d)) 1 (xs.map brow ++ ys.map brow) := by simp [AV.os]
  have h' : aops P all r ((d, AV.os (tokOf (some d)) 1 brow (xs ++ ys)) :: fr.dem (demF d t0)) (σ.dem (demF d t0)) K := h
  rw [e1] at h'
  simp only [aval, aappend, ht, hs, hx, AV.os]
  exact ⟨blt_lt hb, trivial, trivial, htx, by simpa using hm, h'⟩
theorem o_appnS {s x : Operand} {t tx e : TypeId} {by_ : Nat} {ys zs : List UInt8} (ht : tySlice P t = some (e, 1, by_)) (hb : Nat.blt 0 by_ = true) (htx : tyIs P tx = 2) (hs : fr.ev s = .nil) (hx : fr.ev x = .c (.str ys)) (hz : app by_ ([] : List UInt8) ys = some zs)
    (h : aops P all r ((d, .os (16 * d) 1 brow zs) :: fr.dem (freshOf (some d))) (σ.dem (freshOf (some d))) K) : aops P all (⟨some d, .call { callee := .builtin .append, args := #[s, x], argTypes := #[t, tx] }, ty, pos, af, none⟩ :: r) fr σ K := by
  obtain ⟨hm, hzz⟩ := app_some hz
  rw [List.nil_append] at hzz
  subst hzz
  rw [aops_none]
  refine aop_plain rfl ?_
  have e1 : AV.os (tokOf (some d)) 1 brow zs = .own (tokOf (some d)) 1 ([] ++ zs.map brow) := by simp [AV.os]
  have h' : aops P all r ((d, AV.os (tokOf (some d)) 1 brow zs) :: fr.dem (freshOf (some d))) (σ.dem (freshOf (some d))) K := h
  rw [e1] at h'
  simp only [aval, aappend, ht, hs, hx]
  exact ⟨blt_lt hb, trivial, htx, by simpa using hm, h'⟩

/-! ### Calls -/
theorem o_call {fo : Operand} {args : Array Operand} {ts : Array TypeId} {f : FuncId} {caps as : List AV} {σc σr σ' : St} {rv : AV} (ids : List Nat) (hf : fr.ev fo = .fn f caps) (hc : ACalls P f as σc rv σr) (hnd : decide ids.Nodup = true) (hlt : (ids.all fun i => Nat.blt i σ.length) = true)
    (ha : leP (AV.lowL ids (args.toList.map fr.ev ++ caps)) as) (hs : leS (σ.sub ids) σc) (hfr : (fr.dem fun t => t / 16 == d) = fr) (hv : rv.lift ids σ.length d = v) (hσ : σ.after ids d σr = σ') (h : aops P all r ((d, v) :: fr) σ' K) :
    aops P all (⟨some d, .call { callee := .value fo, args := args, argTypes := ts }, ty, pos, af, none⟩ :: r) fr σ K := by
  rw [aops_none]
  unfold aop
  simp only [hf, acall]
  refine ⟨ids, as, σc, rv, σr, of_decide_eq_true hnd, fun i hi => blt_lt (List.all_eq_true.1 hlt i hi), leL_of ha, hs, hc, ?_⟩
  simp only [Option.getD_some, hfr, hv, hσ]
  exact h
theorem o_callv {fo : Operand} {args : Array Operand} {ts : Array TypeId} {f : FuncId} {caps as : List AV} {σc σr σ' : St} {rv : AV} (ids : List Nat) (hf : fr.ev fo = .fn f caps) (hc : ACalls P f as σc rv σr) (hnd : decide ids.Nodup = true) (hlt : (ids.all fun i => Nat.blt i σ.length) = true)
    (ha : leP (AV.lowL ids (args.toList.map fr.ev ++ caps)) as) (hs : leS (σ.sub ids) σc) (hfr : (fr.dem fun t => t / 16 == 0) = fr) (hσ : σ.after ids 0 σr = σ') (h : aops P all r fr σ' K) :
    aops P all (⟨none, .call { callee := .value fo, args := args, argTypes := ts }, ty, pos, af, none⟩ :: r) fr σ K := by
  rw [aops_none]
  unfold aop
  simp only [hf, acall]
  refine ⟨ids, as, σc, rv, σr, of_decide_eq_true hnd, fun i hi => blt_lt (List.all_eq_true.1 hlt i hi), leL_of ha, hs, hc, ?_⟩
  simp only [Option.getD_none, hfr, hσ, Fr.put]
  exact h
theorem qv_call {dst : Option Tmp} {gd : Option (Nat × Bool)} {fo : Operand} {args : Array Operand} {ts : Array TypeId} {f : FuncId} {caps as : List AV} {rv : AV} (hf : fr.ev fo = .fn f caps) (hc : ACalls P f as [] rv []) (ha : leP (AV.lowL [] (args.toList.map fr.ev ++ caps)) as) (hv : rv.low [] = v) :
    Qv P ⟨dst, .call { callee := .value fo, args := args, argTypes := ts }, ty, pos, af, gd⟩ fr σ v := fun K hk => by
  unfold aqop
  simp only [hf]
  exact ⟨as, rv, leL_of ha, hc, by rw [hv]; exact hk⟩
end

/-! ### Code -/
section
variable {P : Program} {V : List Nat} {k0 : Nat} {Q : Exit → Fr → St → Prop} {fr : Fr} {σ : St} {K : Fr → St → Prop}
theorem o_end {all : List Oper} {fr' : Fr} (hp : prune V fr = fr') (h : Q .normal fr' σ) : aops P all [] fr σ fun fr σ => hold (Q .normal (prune V fr) σ) := by
  subst hp; exact h
theorem q_end {all : List Oper} {A : Fr → Prop} (h : A fr) : aqw P all [] fr σ A := h
theorem e_seq_n (h : K fr σ) : seqQ K Q .normal fr σ := h
theorem e_seq_r (h : Q .ret fr σ) : seqQ K Q .ret fr σ := h
theorem e_seq_x {id : Nat} (h : Q (.exit id) fr σ) : seqQ K Q (.exit id) fr σ := h
theorem e_blk_n {id : Nat} (h : Q .normal fr σ) : blkQ id Q .normal fr σ := h
theorem e_blk_r {id : Nat} (h : Q .ret fr σ) : blkQ id Q .ret fr σ := h
theorem e_blk_h {id : Nat} (h : Q .normal fr σ) : blkQ id Q (.exit id) fr σ := by simp only [blkQ, if_true]; exact h
theorem e_blk_m {id id' : Nat} (hne : Nat.beq id' id = false) (h : Q (.exit id') fr σ) : blkQ id Q (.exit id') fr σ := by
  have : ¬ id' = id := Nat.ne_of_beq_eq_false hne
  simp only [blkQ, this, if_false]; exact h
theorem w_cond_t {c : Operand} {x y : Code} (h : fr.ev c = .c (.bool true)) (h1 : awp P V k0 x Q fr σ) : awp P V k0 (.cond c x y) Q fr σ := w_cond true h (fun _ => h1) (fun e => by cases e)
theorem w_cond_f {c : Operand} {x y : Code} (h : fr.ev c = .c (.bool false)) (h1 : awp P V k0 y Q fr σ) : awp P V k0 (.cond c x y) Q fr σ := w_cond false h (fun e => by cases e) (fun _ => h1)

theorem w_join {x y : Code} {J : Type} (C : J → Prop) (F : J → Fr) (G : J → St) (h : awp P V k0 x (seqQ (fun fr σ => ∃ j, C j ∧ Weak k0 fr σ (F j) (G j)) Q) fr σ) (h2 : ∀ j, C j → awp P V k0 y Q (F j) (G j)) : awp P V k0 (.seq x y) Q fr σ :=
  w_cut (fun fr σ => ∃ j, C j ∧ fr = F j ∧ σ = G j) (awp_mono x (fun e fr σ he => by
    cases e with
    | normal => obtain ⟨j, h1, h2⟩ := he; exact ⟨F j, G j, h2, j, h1, rfl, rfl⟩
    | _ => exact he) h) (fun fr σ he => by obtain ⟨j, hj, rfl, rfl⟩ := he; exact h2 j hj)

theorem w_loopo {c : Code} {S R : Type} (body : S → Option (Step S R)) (F : S → Fr) (G : S → St) {s0 : S} {r : R} (h0 : loopO body s0 = some r) (hw : Weak k0 fr σ (F s0) (G s0))
    (h : ∀ s st, body s = some st → (∀ r', st = .out r' → r' = r) → awp P V k0 c (seqQ (fun fr σ => ∃ s', st = .next s' ∧ Weak k0 fr σ (F s') (G s')) Q) (F s) (G s)) : awp P V k0 (.loop c) Q fr σ := by
  obtain ⟨n, hn⟩ := loopO_some h0
  refine w_loop (fun m fr σ => ∃ s, loopF body m s = some r ∧ fr = F s ∧ σ = G s) n hw ⟨s0, hn, rfl, rfl⟩ ?_
  rintro m fr σ ⟨s, hs, rfl, rfl⟩
  cases m with
  | zero => cases hs
  | succ m =>
    simp only [loopF] at hs
    obtain ⟨st, h1, h2⟩ := bind_s hs
    refine awp_mono c (fun e fr σ he => ?_) (h s st h1 (fun r' e => by subst e; cases h2; rfl))
    cases e with
    | normal => obtain ⟨s', rfl, hw⟩ := he; exact ⟨m, F s', G s', by omega, hw, s', h2, rfl, rfl⟩
    | _ => exact he

/-- Slots and variables told less, tokens renamed, variables from m on forgotten. -/
theorem w_weak (toks : List Nat) (m : Nat) {fr' : Fr} {σ' : St} (hnd : decide toks.Nodup = true) (hm : Nat.ble k0 m = true) (hf : fr'.inB m = true) (hb : St.inB m ((σ.retok toks).take m) = true) (h : Fr.below (fr.retok toks) fr') (hs : leS ((σ.retok toks).take m) σ') : Weak k0 fr σ fr' σ' :=
  weak_tok_all toks (of_decide_eq_true hnd) m h (ble_le hm) hf hs hb

theorem r_nil {A : List AV → Prop} (h : A []) : aresults P fr σ [] A := h
theorem r_tmp {t : Nat} {v : AV} {rs : List ResultVar} {A : List AV → Prop} (hv : fr.get t = v) (h : aresults P fr σ rs fun vs => A (v :: vs)) : aresults P fr σ (.tmp t :: rs) A := by
  simp only [aresults, hv]; exact h
theorem r_cells {a id off n : Nat} {t : TypeId} {cs us : List AV} {rs : List ResultVar} {A : List AV → Prop} (ht : tyVar P t = some (true, n)) (ha : fr.get a = .box id off) (hs : σ[id]? = some cs) (hn : Nat.ble (off + n) cs.length = true) (hc : (cs.drop off).take n = us) (h : aresults P fr σ rs fun vs => A (.agg us :: vs)) : aresults P fr σ (.cell a t :: rs) A := by
  simp only [aresults, ht, ha, aload, hs]; subst hc; exact ⟨ble_le hn, h⟩
theorem r_cell {a id off n : Nat} {t : TypeId} {v : AV} {cs : List AV} {rs : List ResultVar} {A : List AV → Prop} (ht : tyVar P t = some (false, n)) (ha : fr.get a = .box id off) (hs : σ[id]? = some cs) (hc : cs[off]? = some v) (h : aresults P fr σ rs fun vs => A (v :: vs)) : aresults P fr σ (.cell a t :: rs) A := by
  simp only [aresults, ht, ha, aload, hs, hc]; exact h
theorem e_ret {rs rs' : List ResultVar} {r : AV} {σr : St} (hrs : rs = rs') (h : aresults P fr σ rs' fun vs => Fin k0 (rval vs) σ r σr) : finQ P rs k0 r σr .ret fr σ := by subst hrs; exact h
theorem e_fin {rs rs' : List ResultVar} {r : AV} {σr : St} (hrs : rs = rs') (h : aresults P fr σ rs' fun vs => Fin k0 (rval vs) σ r σr) : finQ P rs k0 r σr .normal fr σ := by subst hrs; exact h
theorem fin_gen {rv r : AV} {σr : St} (toks : List Nat) (hnd : decide toks.Nodup = true) (hin : (rv.retok toks).inB k0 = true) (hb : St.inB k0 (St.dem all_ (σ.take k0)) = true) (hr : (rv.retok toks).le r) (hσ : leS (St.dem all_ (σ.take k0)) σr) : Fin k0 rv σ r σr :=
  fin_main toks (of_decide_eq_true hnd) hin (fin_pre rfl hb) hr hσ
theorem fin_new {j off : Nat} {cs0 : List AV} {rv : AV} {σr : St} (hv : rv = .box j off) (hj : Nat.ble k0 j = true) (hcs : σ[j]? = some cs0) (hcin : AV.inB.inBL k0 (AV.demL all_ cs0) = true) (hb : St.inB k0 (St.dem all_ (σ.take k0)) = true) (hσ : leS (St.dem all_ (σ.take k0) ++ [AV.demL all_ cs0]) σr) : Fin k0 rv σ (.box k0 off) σr := by
  subst hv
  exact fin_box (ble_le hj) hcs hcin (fin_pre rfl hb) hσ
end

theorem un_done {τ κ : Type} {t y : τ} {x : Fl τ κ} {f : κ → Option τ} (h : some (Fl.done t) = some x) (h2 : x.next f = some y) : some t = some y := by cases h; exact h2
theorem un_go {τ κ : Type} {j : κ} {y : τ} {x : Fl τ κ} {f : κ → Option τ} (h : x = Fl.go j) (h2 : x.next f = some y) : f j = some y := by subst h; exact h2
theorem un_out {σ ρ : Type} {r r' : ρ} {st : Step σ ρ} (h : some (Step.out r') = some st) (h2 : ∀ r', st = .out r' → r' = r) : some r' = some r := by
  rw [h2 r' (Option.some.inj h).symm]
end Go.Proofs.Ytnhchphmmdgphaa.Abs

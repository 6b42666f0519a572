/- The printed walks' steps: calls that are handed no variable, cells of bytes. -/
import Derived.Test.YtnhchphmmdgphaaAbs25
namespace Go.Proofs.Ytnhchphmmdgphaa.Abs
open Go
set_option linter.unusedVariables false
set_option linter.unusedSimpArgs false

theorem St.dem_upd (f : Nat → Bool) (σ : St) (d : Nat) : σ.after [] d [] = σ.dem fun t => t / 16 == d := by simp [St.after, St.upd]

section
variable {P : Program} {all r : List Oper} {d : Nat} {op : Op} {ty : TypeId} {pos : String} {af : Array Edge} {fr : Fr} {σ : St} {K : Fr → St → Prop} {v : AV}
theorem o_v (hv : Ov P ⟨some d, op, ty, pos, af, none⟩ fr σ v) (h : aops P all r ((d, v) :: fr) σ K) : aops P all (⟨some d, op, ty, pos, af, none⟩ :: r) fr σ K := by
  rw [aops_none]
  exact hv _ h
theorem ov_call {gd : Option (Nat × Bool)} {fo : Operand} {args : Array Operand} {ts : Array TypeId} {f : FuncId} {caps as : List AV} {rv : AV} (hf : fr.ev fo = .fn f caps) (hc : ACalls P f as [] rv []) (ha : leP (AV.lowL [] (args.toList.map fr.ev ++ caps)) as)
    (hfr : (fr.dem fun t => t / 16 == d) = fr) (hσ : (σ.dem fun t => t / 16 == d) = σ) (hv : rv.lift [] σ.length d = v) :
    Ov P ⟨some d, .call { callee := .value fo, args := args, argTypes := ts }, ty, pos, af, gd⟩ fr σ v := fun K hk => by
  unfold aop
  simp only [hf, acall]
  refine ⟨[], as, [], rv, [], .nil, by simp, leL_of ha, by simp [St.sub]; exact .nil, hc, ?_⟩
  simp only [Option.getD_some, hfr, hv, St.dem_upd (fun _ => true), hσ]
  exact hk
end
theorem o_nilc {α : Type} {P : Program} {all r : List Oper} {d : Nat} {ty t t2 : TypeId} {pos : String} {af : Array Edge} {fr : Fr} {σ : St} {K : Fr → St → Prop} {sz : Nat} {row : α → List PV} {xs : List α} {x : Operand} (ht : tyIs P t = 3) (hx : isl (fr.ev x) sz row xs)
    (h : ∀ b : Bool, (b = true → xs = []) → aops P all r ((d, .c (.bool b)) :: fr) σ K) : aops P all (⟨some d, .binOp .eql t x (.const (.slice .none 0 0)) t2, ty, pos, af, none⟩ :: r) fr σ K := by
  rw [aops_none]
  have hk : ∀ b : Bool, (b = true → xs.map row = []) → aops P all r ((d, .c (.bool (b != false))) :: fr) σ K := fun b hb => by
    have := h b (fun e => by simpa using hb e)
    simpa using this
  have hn : fr.ev (.const (.slice .none 0 0)) = .nil := rfl
  rcases hx with hx | ⟨t0, hx⟩ <;> simp only [aop, isNilCmp, anil, hx, hn, PV.ls, AV.os] <;> exact ⟨ht, hk⟩
theorem brow_of {n : Int} {x : UInt8} (h : byteOf n = some x) : brow x = [.int .u8 n] := by rw [byteOf_some h]; rfl
theorem w_cond_kt {P : Program} {V : List Nat} {k0 : Nat} {Q : Exit → Fr → St → Prop} {fr : Fr} {σ : St} {c : Operand} {x y : Code} {b : Bool} (h : fr.ev c = .c (.bool b)) (hb : b = true) (h1 : awp P V k0 x Q fr σ) : awp P V k0 (.cond c x y) Q fr σ := w_cond b h (fun _ => h1) (fun e => by rw [hb] at e; cases e)
theorem w_cond_kf {P : Program} {V : List Nat} {k0 : Nat} {Q : Exit → Fr → St → Prop} {fr : Fr} {σ : St} {c : Operand} {x y : Code} {b : Bool} (h : fr.ev c = .c (.bool b)) (hb : b = false) (h1 : awp P V k0 y Q fr σ) : awp P V k0 (.cond c x y) Q fr σ := w_cond b h (fun e => by rw [hb] at e; cases e) (fun _ => h1)
theorem st_r {cs bs : List AV} {σ σ' : St} (h : cs = bs) (t : leS σ σ') : leS (cs :: σ) (bs :: σ') := by subst h; exact .cons (AV.leL_refl _) t
section
variable {k0 : Nat} {Q : Exit → Fr → St → Prop} {fr : Fr} {σ : St}
theorem cl_l {S R : Type} {st : Step S R} {F : S → Fr} {G : S → St} : Closed k0 (seqQ (fun fr σ => ∃ s', st = .next s' ∧ Weak k0 fr σ (F s') (G s')) Q) := fun fr σ fr' σ' hw ⟨j, h1, h2⟩ => ⟨j, h1, hw.trans h2⟩
theorem e_l {S R : Type} {st : Step S R} {F : S → Fr} {G : S → St} (s : S) (h : st = .next s) (hw : Weak k0 fr σ (F s) (G s)) : seqQ (fun fr σ => ∃ s', st = .next s' ∧ Weak k0 fr σ (F s') (G s')) Q .normal fr σ := ⟨s, h, hw⟩
end
theorem le_gv {x v w : AV} {ids : List Nat} (h : x = v) (hl : (v.low ids).le w) : (x.low ids).le w := by rw [h]; exact hl
theorem p_k {P : Program} {o : Oper} {ev : Operand → AV} {σ : St} {p q : PV} (h : Pv P o ev σ (.c p)) (he : p = q) : Pv P o ev σ (.c q) := he ▸ h
def frOk (f : Nat → Bool) : Fr → Prop
  | [] => True
  | (_, a) :: r => AV.dem f a = a ∧ frOk f r
theorem ok_nil {f : Nat → Bool} : frOk f [] := trivial
theorem ok_cons {f : Nat → Bool} {i : Nat} {a : AV} {r : Fr} (h : AV.dem f a = a) (t : frOk f r) : frOk f ((i, a) :: r) := ⟨h, t⟩
theorem dgv {f : Nat → Bool} {c : Bool} {v : AV} (h : AV.dem f v = v) : AV.dem f (gv c v) = gv c v := by
  cases c
  · rfl
  · exact h
theorem ok_eq {f : Nat → Bool} : ∀ {fr : Fr}, frOk f fr → Fr.dem f fr = fr
  | [], _ => rfl
  | (i, a) :: r, h => by simp only [Fr.dem, h.1, ok_eq h.2]
theorem of_dec {p : Prop} [Decidable p] (h : (decide p) = true) : p := of_decide_eq_true h
theorem none_ne {α : Type} {r : α} {A : Prop} (h : (none : Option α) = some r) : A := by cases h
end Go.Proofs.Ytnhchphmmdgphaa.Abs

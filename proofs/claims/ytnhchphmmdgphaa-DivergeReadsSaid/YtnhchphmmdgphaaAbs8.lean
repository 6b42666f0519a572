/- The builtin calls' rules, and all rules together. -/
import Derived.Test.YtnhchphmmdgphaaAbs7
namespace Go.Proofs.Ytnhchphmmdgphaa.Abs
open Go
set_option linter.unusedVariables false
set_option linter.unusedSimpArgs false

section
variable {P : Program} {c : Ctx} {g : G} {w : World} {σ : St} {K : Option (Nat → Bool) → AV → St → Prop} {a : Act} {fr : Fr} {dst : Option Tmp} {ty : TypeId} {pos : String} {after : Array Edge} {guard : Option (Nat × Bool)}

theorem len_slice {t : TypeId} (A : Option Addr) (n cap : Nat) (h3 : tyIs P t = 3) : (Builtin.len_ #[t] ty #[.slice A n cap]).run P w = .ok (.int .i64 n) w := by
  obtain ⟨e, he⟩ := tyIs3 h3
  simp [Builtin.len_, run_underlying he, goInt]

theorem alen_sound {t : TypeId} {x : AV} {vx : Value} {Q : AV → Prop} (hx : RAV g w vx x) (h : alen (tyIs P t) x Q) :
    ∃ v av, (Builtin.len_ #[t] ty #[vx]).run P w = .ok v w ∧ RAV g w v av ∧ Q av := by
  unfold alen at h
  split at h
  · obtain ⟨h3, h⟩ := h
    have hx := hx.c_inv
    cases hx with
    | empty A cap sz => exact ⟨_, _, len_slice A 0 cap h3, .c (.int _ _), h⟩
    | row b o cap sz xs vs hs hcap hc hv => exact ⟨_, _, len_slice _ _ cap h3, .c (.int _ _), h⟩
  · obtain ⟨h3, h⟩ := h
    have hx := hx.own_inv
    obtain ⟨_, _, e, cells, ho, _⟩ := hx
    rcases ho.2 with ⟨rfl, hn⟩ | ⟨b, cap, cur, rfl, _⟩
    · rw [hn] at h
      exact ⟨_, _, len_slice .none 0 0 h3, .c (.int _ _), h⟩
    · exact ⟨_, _, len_slice _ _ cap h3, .c (.int _ _), h⟩
  · obtain ⟨h3, h⟩ := h
    cases hx
    exact ⟨_, _, len_slice .none 0 0 h3, .c (.int _ _), h⟩
  · rename_i s
    obtain ⟨h2, h⟩ := h
    have hx := hx.c_inv
    cases hx with
    | str s =>
      have hu := tyIs2 h2
      exact ⟨.int .i64 s.length, _, by simp [Builtin.len_, run_underlying hu, goInt, str_size], .c (.int _ _), h⟩
  · obtain ⟨h3, h⟩ := h
    cases hx with
    | ptrs b o cap l hcap hc => exact ⟨_, _, len_slice _ _ cap h3, .c (.int _ _), h⟩
  · exact h.elim

theorem exec_builtin (b : Builtin) (args : Array Operand) (argTypes : Array TypeId) (ev : Operand → Value) :
    ∃ cs, execOp ev ⟨dst, .call { callee := .builtin b, args, argTypes }, ty, pos, after, guard⟩ = builtin b argTypes ty cs (args.map ev) := by
  refine ⟨args.map fun x => match x with | .const _ => true | _ => false, ?_⟩
  simp only [execOp, resolve, pure_bind, invoke]
  rfl

theorem list2 {α : Type} {xs : Array α} {x y : α} (h : xs.toList = [x, y]) : xs = #[x, y] := by cases xs; simp_all
theorem list1 {α : Type} {xs : Array α} {x : α} (h : xs.toList = [x]) : xs = #[x] := by cases xs; simp_all

theorem s_len {args : Array Operand} {argTypes : Array TypeId} (hi : Inv c g w σ) (hf : RFr g w a.tmps fr) (h : aval P ⟨dst, .call { callee := .builtin .len, args, argTypes }, ty, pos, after, guard⟩ fr.ev σ K) :
    ORes P c ⟨dst, .call { callee := .builtin .len, args, argTypes }, ty, pos, after, guard⟩ a.eval w g K := by
  simp only [aval] at h
  split at h
  · rename_i x t hx ht
    obtain rfl := list1 hx
    obtain rfl := list1 ht
    obtain ⟨v, av, hr, hv, hk⟩ := alen_sound (ty := ty) (ev_sound hf x) h
    refine .same hi ?_ hv hk
    obtain ⟨cs, hcs⟩ := exec_builtin (dst := dst) (ty := ty) (pos := pos) (after := after) (guard := guard) .len #[x] #[t] a.eval
    rw [hcs]
    simp only [builtin, Sem.run_bind, List.map_toArray, List.map_cons, List.map_nil, hr, Result.andThen_ok, Sem.run_pure]
  · exact h.elim

theorem s_max {args : Array Operand} {argTypes : Array TypeId} (hi : Inv c g w σ) (hf : RFr g w a.tmps fr) (h : aval P ⟨dst, .call { callee := .builtin .max, args, argTypes }, ty, pos, after, guard⟩ fr.ev σ K) :
    ORes P c ⟨dst, .call { callee := .builtin .max, args, argTypes }, ty, pos, after, guard⟩ a.eval w g K := by
  simp only [aval] at h
  split at h
  · rename_i x y hx
    obtain rfl := list2 hx
    have hvx := ev_sound hf x
    have hvy := ev_sound hf y
    split at h
    · rename_i k n k' m e1 e2
      rw [e1] at hvx
      rw [e2] at hvy
      generalize h1 : a.eval x = vx at hvx
      generalize h2 : a.eval y = vy at hvy
      cases hvx.c_inv
      cases hvy.c_inv
      refine .same hi (v := .int k (if m > n then m else n)) ?_ (.c (.int _ _)) h
      obtain ⟨cs, hcs⟩ := exec_builtin (dst := dst) (ty := ty) (pos := pos) (after := after) (guard := guard) .max #[x, y] argTypes a.eval
      rw [hcs]
      simp [builtin, h1, h2, Builtin.max_, Builtin.max2]
    · exact h.elim
  · exact h.elim

theorem s_min {args : Array Operand} {argTypes : Array TypeId} (hi : Inv c g w σ) (hf : RFr g w a.tmps fr) (h : aval P ⟨dst, .call { callee := .builtin .min, args, argTypes }, ty, pos, after, guard⟩ fr.ev σ K) :
    ORes P c ⟨dst, .call { callee := .builtin .min, args, argTypes }, ty, pos, after, guard⟩ a.eval w g K := by
  simp only [aval] at h
  split at h
  · rename_i x y hx
    obtain rfl := list2 hx
    have hvx := ev_sound hf x
    have hvy := ev_sound hf y
    split at h
    · rename_i k n k' m e1 e2
      rw [e1] at hvx
      rw [e2] at hvy
      generalize h1 : a.eval x = vx at hvx
      generalize h2 : a.eval y = vy at hvy
      cases hvx.c_inv
      cases hvy.c_inv
      refine .same hi (v := .int k (if m < n then m else n)) ?_ (.c (.int _ _)) h
      obtain ⟨cs, hcs⟩ := exec_builtin (dst := dst) (ty := ty) (pos := pos) (after := after) (guard := guard) .min #[x, y] argTypes a.eval
      rw [hcs]
      simp [builtin, h1, h2, Builtin.min_, Builtin.min2]
    · exact h.elim
  · exact h.elim

theorem freshOf_tok (d : Tmp) : freshOf (some d) (tokOf (some d)) = true := by simp [freshOf, tokOf]

theorem s_append {args : Array Operand} {argTypes : Array TypeId} (hd : dst.isSome = true) (hi : Inv c g w σ) (hf : RFr g w a.tmps fr) (h : aval P ⟨dst, .call { callee := .builtin .append, args, argTypes }, ty, pos, after, guard⟩ fr.ev σ K) :
    ORes P c ⟨dst, .call { callee := .builtin .append, args, argTypes }, ty, pos, after, guard⟩ a.eval w g K := by
  simp only [aval] at h
  obtain ⟨d, rfl⟩ := Option.isSome_iff_exists.1 hd
  split at h
  · rename_i s x t tx hargs hty
    obtain rfl := list2 hargs
    obtain rfl := list2 hty
    have hs := ev_sound hf s
    have hx := ev_sound hf x
    unfold aappend at h
    split at h
    · rename_i e sz bytes hts
      obtain ⟨hb0, h⟩ := h
      -- the common part
      have common : ∀ (f : Nat → Bool) (xs ys : List (List PV)) (news : List Value) (d' : TypeDesc), f (tokOf (some d)) = true → P.underlying tx = some d' → (d' = .string ∨ ∃ e1, d' = .slice e1) →
          ((a.eval s = .slice none 0 0 ∧ xs = []) ∨ ∃ t0, f t0 = true ∧ ROwn g w (a.eval s) t0 sz xs) → Src P w sz (a.eval x) ys.length news →
          (∀ (i j : Nat) (x : List PV) (p : PV), ys[i]? = some x → x[j]? = some p → ∃ u, news[i * sz + j]? = some u ∧ RV g.I w u p) → (∀ y ∈ ys, y.length = sz) → (xs.length + ys.length) * bytes ≤ 140737488355328 →
          K (some f) (.own (tokOf (some d)) sz (xs ++ ys)) (σ.dem f) → ORes P c ⟨some d, .call { callee := .builtin .append, args := #[s, x], argTypes := #[t, tx] }, ty, pos, after, guard⟩ a.eval w g K := by
        intro f xs ys news d' hfT hu hd' hv hsrc hn hrows hbytes hk
        have h63 : xs.length + ys.length ≤ 9223372036854775807 := by
          have := Nat.le_mul_of_pos_right (xs.length + ys.length) hb0
          omega
        obtain ⟨v', w', g', hr, hi', st, hrv⟩ := append_sound hi f (tokOf (some d)) hfT (ty := ty) hts hu hd' hv hsrc hn hrows hbytes h63
        refine ⟨_, v', w', _, _, _, g', ?_, .inl rfl, hk, hi', st, hrv⟩
        obtain ⟨cs, hcs⟩ := exec_builtin (dst := some d) (ty := ty) (pos := pos) (after := after) (guard := guard) .append #[s, x] #[t, tx] a.eval
        rw [hcs]
        simp only [builtin, Sem.run_bind, List.map_toArray, List.map_cons, List.map_nil, hr, Result.andThen_ok, Sem.run_pure]
      -- what is appended
      have src : ∀ (f : Nat → Bool) (xs : List (List PV)), f (tokOf (some d)) = true → ((a.eval s = .slice none 0 0 ∧ xs = []) ∨ ∃ t0, f t0 = true ∧ ROwn g w (a.eval s) t0 sz xs) →
          (match fr.ev x with
            | .c (.list sz' ys) => sz' = sz ∧ tyIs P tx = 3 ∧ (∀ y ∈ ys, y.length = sz) ∧ (xs.length + ys.length) * bytes ≤ 140737488355328 ∧ K (some f) (.own (tokOf (some d)) sz (xs ++ ys)) (σ.dem f)
            | .own _ sz' ys => sz' = sz ∧ tyIs P tx = 3 ∧ (∀ y ∈ ys, y.length = sz) ∧ (xs.length + ys.length) * bytes ≤ 140737488355328 ∧ K (some f) (.own (tokOf (some d)) sz (xs ++ ys)) (σ.dem f)
            | .nil => tyIs P tx = 3 ∧ xs.length * bytes ≤ 140737488355328 ∧ K (some f) (.own (tokOf (some d)) sz xs) (σ.dem f)
            | .c (.str b) => sz = 1 ∧ tyIs P tx = 2 ∧ (xs.length + b.length) * bytes ≤ 140737488355328 ∧ K (some f) (.own (tokOf (some d)) 1 (xs ++ b.map brow)) (σ.dem f)
            | _ => False) → ORes P c ⟨some d, .call { callee := .builtin .append, args := #[s, x], argTypes := #[t, tx] }, ty, pos, after, guard⟩ a.eval w g K := by
        intro f xs hfT hv h
        split at h
        · rename_i sz' ys hx0
          rw [hx0] at hx
          obtain ⟨rfl, h3, hrows, hbytes, hk⟩ := h
          obtain ⟨e1, he⟩ := tyIs3 h3
          obtain ⟨news, hsrc, hn⟩ := Src.list (P := P) hx.c_inv
          exact common f xs ys news _ hfT he (.inr ⟨e1, rfl⟩) hv hsrc hn hrows hbytes hk
        · rename_i t1 sz' ys hx0
          rw [hx0] at hx
          obtain ⟨rfl, h3, hrows, hbytes, hk⟩ := h
          obtain ⟨e1, he⟩ := tyIs3 h3
          obtain ⟨news, hsrc, hn⟩ := Src.list (P := P) hx.own_inv.rv
          exact common f xs ys news _ hfT he (.inr ⟨e1, rfl⟩) hv hsrc hn hrows hbytes hk
        · rename_i hx0
          rw [hx0] at hx
          obtain ⟨h3, hbytes, hk⟩ := h
          obtain ⟨e1, he⟩ := tyIs3 h3
          have hx' : RV g.I w (a.eval x) (.list sz []) := by
            generalize a.eval x = vx at hx
            cases hx
            exact .empty .none 0 sz
          obtain ⟨news, hsrc, hn⟩ := Src.list (P := P) hx'
          exact common f xs [] news _ hfT he (.inr ⟨e1, rfl⟩) hv hsrc hn (by simp) (by simpa using hbytes) (by simpa using hk)
        · rename_i b hx0
          rw [hx0] at hx
          obtain ⟨rfl, h2, hbytes, hk⟩ := h
          have hxs := hx.c_inv
          generalize hvx : a.eval x = vx at hxs
          cases hxs
          obtain ⟨news, hsrc, hn⟩ := Src.str (P := P) (w := w) (I := g.I) b
          rw [← hvx] at hsrc
          have hl : (b.map brow).length = b.length := by simp
          exact common f xs (b.map brow) news _ hfT (tyIs2 h2) (.inl rfl) hv (by rw [hl]; exact hsrc) hn (by intro y hy; obtain ⟨z, _, rfl⟩ := List.mem_map.1 hy; rfl) (by rw [hl]; exact hbytes) hk
        · exact h.elim
      split at h
      · rename_i hs0
        rw [hs0] at hs
        refine src (freshOf (some d)) [] (freshOf_tok d) (.inl ⟨?_, rfl⟩) ?_
        · generalize a.eval s = vs at hs
          cases hs
          rfl
        · revert h
          simp only [List.nil_append, List.length_nil, Nat.zero_add, Nat.zero_mul]
          exact id
      · rename_i t0 sz' xs hs0
        rw [hs0] at hs
        obtain ⟨rfl, h⟩ := h
        exact src (fun t => freshOf (some d) t || t == t0) xs (by simp [freshOf_tok]) (.inr ⟨t0, by simp, hs.own_inv⟩) h
      · exact h.elim
    · exact h.elim
  · exact h.elim

theorem sliceBound_run {k : IntKind} {n : Int} {y : Nat} {code : BoundsCode} (h0 : 0 ≤ n) (h1 : n ≤ y) : (Instr.sliceBound (.int k n) y code).run P w = .ok n.toNat w := by
  simp [Instr.sliceBound, asIntOf, h0, h1]

theorem s_slice {t : TypeId} {x : Operand} {lo hi' : Option Operand} (hi : Inv c g w σ) (hf : RFr g w a.tmps fr) (h : aval P ⟨dst, .slice t x lo hi' .none, ty, pos, after, guard⟩ fr.ev σ K) :
    ORes P c ⟨dst, .slice t x lo hi' .none, ty, pos, after, guard⟩ a.eval w g K := by
  simp only [aval] at h
  obtain ⟨h7, h⟩ := h
  have hx := ev_sound hf x
  -- the bounds, for a string or a slice with len elements and room for cap
  have bnd : ∀ (isS : Bool) (len cap : Nat) (Q : Nat → Nat → Prop), len ≤ cap →
      abounds (lo.map fr.ev) (hi'.map fr.ev) len Q → ∃ l h, l ≤ h ∧ h ≤ len ∧ (Instr.sliceBounds isS len cap (lo.map a.eval) (hi'.map a.eval) .none).run P w = .ok (l, h, cap) w ∧ Q l h := by
    intro isS len cap Q hlc hq
    unfold abounds at hq
    cases lo with
    | none =>
      cases hi' with
      | none => exact ⟨0, len, Nat.zero_le _, Nat.le_refl _, by simp [Instr.sliceBounds], hq⟩
      | some hh =>
        simp only [Option.map_none, Option.map_some] at hq ⊢
        split at hq
        all_goals try (simp_all; done)
        rename_i k n e1 e2
        have hv := ev_sound hf hh
        simp only [Option.some.injEq] at e2
        rw [e2] at hv
        generalize hvh : a.eval hh = vh at hv
        cases hv.c_inv
        obtain ⟨h0, h1, hq⟩ := hq
        exact ⟨0, n.toNat, Nat.zero_le _, by omega, by simp [Instr.sliceBounds, hvh, sliceBound_run h0 (show n ≤ (cap : Int) by omega)], hq⟩
    | some ll =>
      cases hi' with
      | none =>
        simp only [Option.map_none, Option.map_some] at hq ⊢
        split at hq
        all_goals try (simp_all; done)
        rename_i k n e1 e2
        have hv := ev_sound hf ll
        simp only [Option.some.injEq] at e1
        rw [e1] at hv
        generalize hvl : a.eval ll = vl at hv
        cases hv.c_inv
        obtain ⟨h0, h1, hq⟩ := hq
        exact ⟨n.toNat, len, by omega, Nat.le_refl _, by simp [Instr.sliceBounds, hvl, sliceBound_run h0 h1], hq⟩
      | some hh =>
        simp only [Option.map_some] at hq ⊢
        split at hq
        all_goals try (simp_all; done)
        rename_i k n k' m e1 e2
        have hv := ev_sound hf ll
        have hv2 := ev_sound hf hh
        simp only [Option.some.injEq] at e1 e2
        rw [e1] at hv
        rw [e2] at hv2
        generalize hvl : a.eval ll = vl at hv
        generalize hvh : a.eval hh = vh at hv2
        cases hv.c_inv
        cases hv2.c_inv
        obtain ⟨h0, h1, h2, hq⟩ := hq
        exact ⟨n.toNat, m.toNat, by omega, by omega, by simp [Instr.sliceBounds, hvl, hvh, sliceBound_run (show (0 : Int) ≤ m by omega) (show m ≤ (cap : Int) by omega), sliceBound_run h0 (show n ≤ ((m.toNat : Nat) : Int) by omega)], hq⟩
  -- a slice
  have slc : ∀ (sz : Nat) (xs : List (List PV)) (e : TypeId) (bytes : Nat), tySlice P t = some (e, sz, bytes) → RV g.I w (a.eval x) (.list sz xs) →
      abounds (lo.map fr.ev) (hi'.map fr.ev) xs.length (fun l h => K .none (.c (.list sz ((xs.take h).drop l))) σ) → ORes P c ⟨dst, .slice t x lo hi' .none, ty, pos, after, guard⟩ a.eval w g K := by
    intro sz xs e bytes hts hv hk
    obtain ⟨hu, i, z, hin, _, _, _, hsz, _⟩ := tySlice_spec hts
    have hsize : (sizeOf e).run P w = .ok sz w := by simp [sizeOf, typeInfo, hin, hsz]
    generalize hvx : a.eval x = vx at hv
    cases hv with
    | empty A cap sz =>
      obtain ⟨l, h, hlh, hhl, hr, hq⟩ := bnd true 0 cap (fun l h => K .none (.c (.list sz ((([] : List (List PV)).take h).drop l))) σ) (Nat.zero_le _) hk
      obtain rfl : h = 0 := by simpa using hhl
      obtain rfl : l = 0 := by omega
      refine .same hi (v := .slice (if cap = 0 then A else A.map (·.add (0 * sz))) (0 - 0) (cap - 0)) ?_ (.c (.empty _ _ sz)) (by simpa using hq)
      simp only [execOp, hvx, Instr.sliceAt, Sem.run_bind, run_underlying hu, Result.andThen_ok, Option.map_none, Instr.slice, hr, hsize, Sem.run_pure]
    | row b o cap sz xs vs hs hcap hc hvv =>
      obtain ⟨l, h, hlh, hhl, hr, hq⟩ := bnd true xs.length cap (fun l h => K .none (.c (.list sz ((xs.take h).drop l))) σ) hcap hk
      have hrun : (execOp a.eval ⟨dst, .slice t x lo hi' .none, ty, pos, after, guard⟩).run P w = .ok (.value (.slice (if cap = l then some ⟨b, o, none⟩ else (some ⟨b, o, none⟩ : Option Addr).map (·.add (l * sz))) (h - l) (cap - l))) w := by
        simp only [execOp, hvx, Instr.sliceAt, Sem.run_bind, run_underlying hu, Result.andThen_ok, Option.map_none, Instr.slice, hr, hsize, Sem.run_pure]
      have hlen : ((xs.take h).drop l).length = h - l := by simp; omega
      refine .same hi hrun (.c ?_) hq
      by_cases hcl : cap = l
      · have h0 : h - l = 0 := by omega
        have : (xs.take h).drop l = [] := List.eq_nil_of_length_eq_zero (by omega)
        rw [this, h0]
        exact .empty _ _ sz
      · rw [if_neg hcl, ← hlen]
        simp only [Option.map_some, addr_add]
        refine .row b (o + l * sz) (cap - l) sz _ (fun j => vs (l * sz + j)) (fun y hy => hs y (List.mem_of_mem_take (List.mem_of_mem_drop hy))) (by omega) (fun j hj => ?_) (fun i' j y p hy hp => ?_)
        · rw [hlen] at hj
          have h1 : l * sz + (h - l) * sz = h * sz := by rw [← Nat.add_mul]; congr 1; omega
          have h2 : h * sz ≤ xs.length * sz := Nat.mul_le_mul_right _ hhl
          have := hc (l * sz + j) (by omega)
          rwa [← Nat.add_assoc] at this
        · rw [List.getElem?_drop, List.getElem?_take] at hy
          split at hy
          · have := hvv (l + i') j y p hy hp
            rwa [Nat.add_mul, Nat.add_assoc] at this
          · cases hy
  unfold aslice at h
  split at h
  · rename_i s hx0
    rw [hx0] at hx
    obtain ⟨h2, h⟩ := h
    have hu := tyIs2 h2
    have hxs := hx.c_inv
    generalize hvx : a.eval x = vx at hxs
    cases hxs
    obtain ⟨l, h', hlh, hhl, hr, hq⟩ := bnd false s.length s.length (fun l h => K .none (.c (.str ((s.take h).drop l))) σ) (Nat.le_refl _) h
    refine .same hi (v := .string ⟨((s.take h').drop l).toArray⟩) ?_ (.c (.str _)) hq
    have hex : (⟨s.toArray⟩ : ByteArray).extract l h' = ⟨((s.take h').drop l).toArray⟩ := by
      apply ByteArray.ext
      simp [ByteArray.data_extract, List.drop_take]
    simp only [execOp, hvx, Instr.sliceAt, Sem.run_bind, run_underlying hu, Result.andThen_ok, Option.map_none, Instr.slice, str_size, hr, hex, Sem.run_pure, Option.isSome_none, Bool.false_eq_true, if_false]
  · rename_i sz xs hx0
    rw [hx0] at hx
    split at h
    · rename_i e n bytes hts
      obtain ⟨rfl, h⟩ := h
      exact slc _ xs e bytes hts hx.c_inv h
    · exact h.elim
  · rename_i t0 sz xs hx0
    rw [hx0] at hx
    split at h
    · rename_i e n bytes hts
      obtain ⟨rfl, h⟩ := h
      exact slc _ xs e bytes hts hx.own_inv.rv h
    · exact h.elim
  · exact h.elim

theorem aval_sound {o : Oper} (hd : o.dst.isSome = true ∨ ∃ t x y, o.op = .store t x y) (hi : Inv c g w σ) (hf : RFr g w a.tmps fr) (h : aval P o fr.ev σ K) : ORes P c o a.eval w g K := by
  obtain ⟨dst, op, ty, pos, after, guard⟩ := o
  cases op
  case move x => exact s_move hi hf h
  case assign x => exact s_assign hi hf h
  case pick x p q => exact s_pick hi hf h
  case alloc e => exact s_alloc hi hf h
  case box e x => exact s_box hi hf h
  case build t parts => exact s_build hi hf h
  case buildSlice t len parts => exact s_buildSlice hi hf h (hd.resolve_right (by rintro ⟨_, _, _, h⟩; cases h))
  case load t x => exact s_load hi hf h
  case store t x y => exact s_store hi hf h
  case nilCheck x => exact s_nilCheck hi hf h
  case binOp op t x y t2 => exact s_binOp hi hf h
  case unOp op t x => exact s_unOp hi hf h
  case convert s d x => exact s_convert hi hf h
  case makeFunc fn first captured => exact s_makeFunc hi hf h
  case slice t x lo hi' mx =>
    cases mx with
    | none => exact s_slice hi hf h
    | some m => exact (by simp only [aval] at h)
  case fieldAddr t x f => exact s_fieldAddr hi hf h
  case field t x f => exact s_field hi hf h
  case indexAddr t x ix => exact s_indexAddr hi hf h
  case index t x ix => exact s_index hi hf h
  case extract x i => exact s_extract hi hf h
  case call c =>
    obtain ⟨callee, args, argTypes⟩ := c
    cases callee with
    | builtin b =>
      cases b
      case len => exact s_len hi hf h
      case append => exact s_append (hd.resolve_right (by rintro ⟨_, _, _, h⟩; cases h)) hi hf h
      case max => exact s_max hi hf h
      case min => exact s_min hi hf h
      all_goals exact (by simp only [aval] at h)
    | _ => exact (by simp only [aval] at h)
  all_goals exact (by simp only [aval] at h)

end
end Go.Proofs.Ytnhchphmmdgphaa.Abs

/- The operations' rules are sound. -/
import Derived.Test.YtnhchphmmdgphaaAbs5
namespace Go.Proofs.Ytnhchphmmdgphaa.Abs
open Go
set_option linter.unusedVariables false
set_option linter.unusedSimpArgs false

section
variable {P : Program} {c : Ctx} {g : G} {w : World} {σ : St} {K : Option (Nat → Bool) → AV → St → Prop} {a : Act} {fr : Fr} {dst : Option Tmp} {ty : TypeId} {pos : String} {after : Array Edge} {guard : Option (Nat × Bool)}

theorem s_move {x : Operand} (hi : Inv c g w σ) (hf : RFr g w a.tmps fr) (h : K .none (fr.ev x) σ) : ORes P c ⟨dst, .move x, ty, pos, after, guard⟩ a.eval w g K :=
  .same hi (by simp [execOp]) (ev_sound hf x) h
theorem s_assign {x : Operand} (hi : Inv c g w σ) (hf : RFr g w a.tmps fr) (h : K .none (fr.ev x) σ) : ORes P c ⟨dst, .assign x, ty, pos, after, guard⟩ a.eval w g K :=
  .same hi (by simp [execOp]) (ev_sound hf x) h

theorem s_pick {x p q : Operand} (hi : Inv c g w σ) (hf : RFr g w a.tmps fr) (h : aval P ⟨dst, .pick x p q, ty, pos, after, guard⟩ fr.ev σ K) : ORes P c ⟨dst, .pick x p q, ty, pos, after, guard⟩ a.eval w g K := by
  simp only [aval] at h
  have hx := ev_sound hf x
  have hp := ev_sound hf p
  have hq := ev_sound hf q
  split at h
  · rename_i t ht
    rw [ht] at hx
    generalize hvx : a.eval x = vx at hx
    cases hx with
    | c hx =>
      cases hx
      split at h
      · rename_i bp bq e1 e2
        rw [e1] at hp
        rw [e2] at hq
        refine .same hi (v := if t then a.eval p else a.eval q) (by cases t <;> simp [execOp, hvx, asBool]) ?_ h
        cases t
        · exact hq
        · exact hp
      · cases t
        · exact .same hi (by simp [execOp, hvx, asBool]) hq (h.2 rfl)
        · exact .same hi (by simp [execOp, hvx, asBool]) hp (h.1 rfl)
  · exact h.elim

theorem s_alloc {e : TypeId} (hi : Inv c g w σ) (hf : RFr g w a.tmps fr) (h : aval P ⟨dst, .alloc e, ty, pos, after, guard⟩ fr.ev σ K) : ORes P c ⟨dst, .alloc e, ty, pos, after, guard⟩ a.eval w g K := by
  simp only [aval] at h
  split at h
  · rename_i z hz
    unfold tyZero at hz
    cases hin : P.info? e with
    | none => simp [hin] at hz
    | some i =>
      simp only [hin] at hz
      cases hzz : i.zero with
      | none => simp [hzz] at hz
      | some zv =>
        simp only [hzz, Option.some.injEq] at hz
        subst hz
        have hc : RCells g w zv.cells (zv.cells.toList.map AV.ofFlat) := by
          refine ⟨by simp, fun i v x hv hx => ?_⟩
          rw [List.getElem?_map, Array.getElem?_toList, hv] at hx
          simp at hx
          subst hx
          exact RAV.ofFlat g w v
        obtain ⟨g', hi', st, hb⟩ := hi.alloc zv.cells e _ hc
        refine ⟨_, .pointer (some ⟨w.heap.size, 0, none⟩), w.alloc (.cells zv.cells e), .none, _, _, g', ?_, .inl rfl, h, hi', st, .box _ _ _ hb⟩
        simp [execOp, Instr.alloc, newVar, newRow, zeroValue, typeInfo, hin, hzz]
  · exact h.elim

theorem s_box {e : TypeId} {x : Operand} (hi : Inv c g w σ) (hf : RFr g w a.tmps fr) (h : aval P ⟨dst, .box e x, ty, pos, after, guard⟩ fr.ev σ K) : ORes P c ⟨dst, .box e x, ty, pos, after, guard⟩ a.eval w g K := by
  simp only [aval] at h
  obtain ⟨hs, hk⟩ := h
  obtain ⟨hc, _⟩ := (ev_sound hf x).cells hs
  obtain ⟨g', hi', st, hb⟩ := hi.alloc (a.eval x).cells e _ hc
  refine ⟨_, .pointer (some ⟨w.heap.size, 0, none⟩), w.alloc (.cells (a.eval x).cells e), .none, _, _, g', ?_, .inl rfl, hk, hi', st, .box _ _ _ hb⟩
  simp [execOp, Instr.box, newVar, newRow]

theorem tyPlace_spec {t : TypeId} {f off n : Nat} (h : tyPlace P t f = some (off, n)) : ∃ fs x i, P.underlying t = some (.struct fs) ∧ fs[f]? = some x ∧ P.info? x.type = some i ∧ x.offset = off ∧ i.size = n := by
  unfold tyPlace tyFields at h
  cases hu : P.underlying t with
  | none => simp [hu] at h
  | some d =>
    cases d <;> simp only [hu] at h <;> try (cases h; done)
    rename_i fs
    cases hx : fs[f]? with
    | none => simp [hx] at h
    | some x =>
      simp only [hx] at h
      cases hin : P.info? x.type with
      | none => simp [hin] at h
      | some i =>
        simp only [hin, Option.some.injEq, Prod.mk.injEq] at h
        exact ⟨fs, x, i, rfl, hx, hin, h.1, h.2⟩

theorem foldl_set_list (l : List Value) : ∀ (off : Nat) (cs : Array Value) (k : Nat), off + k + l.length ≤ cs.size →
    (l.zipIdx k).foldl (fun (cs : Array Value) (p : Value × Nat) => cs.setIfInBounds (off + p.2) p.1) cs = (cs.toList.take (off + k) ++ l ++ cs.toList.drop (off + k + l.length)).toArray := by
  induction l with
  | nil => intro off cs k h; simp
  | cons v l ih =>
    intro off cs k h
    simp only [List.zipIdx_cons, List.foldl_cons]
    rw [ih off _ (k + 1) (by simp at h ⊢; omega)]
    have e := list_seg_step cs.toList (off + k) v l (by simp at h ⊢; omega)
    simp only [Array.toList_setIfInBounds]
    simpa [Nat.add_assoc, Nat.add_comm 1] using e

theorem foldl_set (vs cs : Array Value) (off : Nat) (h : off + vs.size ≤ cs.size) :
    vs.zipIdx.foldl (fun (cs : Array Value) (x : Value × Nat) => match x with | (c, j) => cs.setIfInBounds (off + j) c) cs = (cs.toList.take off ++ vs.toList ++ cs.toList.drop (off + vs.size)).toArray := by
  have := foldl_set_list vs.toList off cs 0 (by simpa using h)
  simp only [Nat.add_zero, Array.length_toList] at this
  rw [← this, ← Array.foldl_toList, Array.toList_zipIdx]

theorem afill_sound {t : TypeId} {fs : Array Field} {places : Array (Nat × Nat)} (hfs : P.underlying t = some (.struct fs)) (hpl : ∀ (i : Nat) off n, tyPlace P t i = some (off, n) → places[i]? = some (off, n)) (hf : RFr g w a.tmps fr) :
    ∀ (parts : List (Nat × Operand)) (cs : List AV) (cur : Array Value) (r : List AV), RCells g w cur cs → afill P t fr.ev cs parts = some r →
      ∃ cur', Instr.fill (places[·]?) cur (parts.map fun (i, x) => (i, a.eval x)) = some cur' ∧ RCells g w cur' r
  | [], cs, cur, r, hc, h => by simp [afill] at h; subst h; exact ⟨cur, rfl, hc⟩
  | (i, x) :: rest, cs, cur, r, hc, h => by
    simp only [afill] at h
    split at h
    · rename_i off n hp
      split at h
      · rename_i hcond
        obtain ⟨h1, h2, h3⟩ := hcond
        obtain ⟨hv, _⟩ := (ev_sound hf x).cells h1
        have hsz : (a.eval x).cells.size = n := hv.1.trans h2
        have hsp := hc.splice hv off (by omega)
        obtain ⟨cur', hfill, hr⟩ := afill_sound hfs hpl hf rest _ _ r hsp (by rw [h2]; exact h)
        refine ⟨cur', ?_, hr⟩
        have hcs : cur.size = cs.length := hc.1
        simp only [List.map_cons, Instr.fill, hpl i off n hp]
        rw [if_neg (by simp; omega), foldl_set _ _ _ (by omega)]
        exact hfill
      · cases h
    · cases h

theorem run_mapM {α β : Type} {f : α → Sem β} {h : α → β} : ∀ {l : List α}, (∀ x ∈ l, (f x).run P w = .ok (h x) w) → (l.mapM f).run P w = .ok (l.map h) w
  | [], _ => by simp
  | x :: l, hx => by
    have h1 := hx x (by simp)
    have h2 := run_mapM (l := l) (fun y hy => hx y (by simp [hy]))
    simp [List.mapM_cons, h1, h2]

theorem s_build {t : TypeId} {parts : Array (Nat × Operand)} (hi : Inv c g w σ) (hf : RFr g w a.tmps fr) (h : aval P ⟨dst, .build t parts, ty, pos, after, guard⟩ fr.ev σ K) : ORes P c ⟨dst, .build t parts, ty, pos, after, guard⟩ a.eval w g K := by
  simp only [aval] at h
  obtain ⟨h6, hok, h⟩ := h
  split at h
  · rename_i z hz
    split at h
    · rename_i cs hcs
      unfold tyZero at hz
      cases hin : P.info? t with
      | none => simp [hin] at hz
      | some i =>
        simp only [hin] at hz
        cases hzz : i.zero with
        | none => simp [hzz] at hz
        | some zv =>
          simp only [hzz, Option.some.injEq] at hz
          subst hz
          have hc : RCells g w zv.cells (zv.cells.toList.map AV.ofFlat) := by
            refine ⟨by simp, fun i v x hv hx => ?_⟩
            rw [List.getElem?_map, Array.getElem?_toList, hv] at hx
            simp at hx
            subst hx
            exact RAV.ofFlat g w v
          unfold tyIs at h6
          cases hu : P.underlying t with
          | none => simp [hu] at h6
          | some d =>
            cases d <;> simp only [hu] at h6 <;> try (cases h6; done)
            rename_i fs
            have hall : ∀ f ∈ fs.toList, ∃ i, P.info? f.type = some i := by
              simp only [tyOk, tyFields, hu, List.all_eq_true] at hok
              exact fun f hf' => Option.isSome_iff_exists.1 (hok f hf')
            · have hm := run_mapM (P := P) (w := w) (l := fs.toList) (f := fun (f : Field) => (do pure (f.offset, ← sizeOf f.type) : Sem (Nat × Nat))) (h := fun f => (f.offset, ((P.info? f.type).map (·.size)).getD 0))
                (fun f hf' => by obtain ⟨i, hi⟩ := hall f hf'; simp [sizeOf, typeInfo, hi])
              obtain ⟨cur', hfill, hr⟩ := afill_sound (P := P) (a := a) (fr := fr) hu (places := (fs.toList.map fun f => (f.offset, ((P.info? f.type).map (·.size)).getD 0)).toArray) (fun i off n hp => by
                obtain ⟨fs', x, i', hu', hx, hin', ho, hn⟩ := tyPlace_spec hp
                rw [hu] at hu'
                simp at hu'
                subst hu'
                simp [hx, hin', ho, hn]) hf parts.toList _ _ _ hc hcs
              refine .same hi (v := .agg cur') ?_ (.agg cur' cs hr.1 hr.2) h
              have hz0 : (zeroValue t).run P w = .ok zv w := by simp [zeroValue, typeInfo, hin, hzz]
              have hfill' : Instr.fill (fun x => (fs.toList.map fun f => (f.offset, ((P.info? f.type).map (·.size)).getD 0)).toArray[x]?) zv.cells (parts.map fun (i, x) => (i, a.eval x)).toList = some cur' := by rw [Array.toList_map]; exact hfill
              simp only [execOp, Instr.build, Sem.run_bind, hz0, Result.andThen_ok, run_underlying hu, Array.mapM_eq_mapM_toList, Sem.run_map, hm, hfill', Sem.run_pure]
    · exact h.elim
  · exact h.elim

theorem RAV.pvh {v : Value} {a : AV} {p : PV} {n : Nat} (h : RAV g w v a) (hp : a.pvh? n = some p) : RV g.I w v p := by
  cases h with
  | c h => simp [AV.pvh?] at hp; exact hp ▸ h
  | nil => simp [AV.pvh?] at hp; exact hp ▸ .empty none 0 n
  | own t sz xs h => simp [AV.pvh?] at hp; exact hp ▸ h.rv
  | _ => simp [AV.pvh?] at hp
theorem pvhs_length : ∀ {hs : List Nat} {l : List AV} {ps : List PV}, AV.pvhs? hs l = some ps → ps.length = l.length
  | hs, [], ps, h => by simp [AV.pvhs?] at h; subst h; rfl
  | hs, a :: as, ps, h => by
    simp only [AV.pvhs?] at h
    split at h
    · split at h
      · rename_i q hq
        simp only [Option.some.injEq] at h
        subst h
        simp [pvhs_length hq]
      · cases h
    · cases h
theorem pvhs_get : ∀ {hs : List Nat} {l : List AV} {ps : List PV}, AV.pvhs? hs l = some ps → ∀ (i : Nat) (p : PV), ps[i]? = some p → ∃ a n, l[i]? = some a ∧ a.pvh? n = some p
  | hs, [], ps, h, i, p, hp => by simp [AV.pvhs?] at h; subst h; simp at hp
  | hs, a :: as, ps, h, i, p, hp => by
    simp only [AV.pvhs?] at h
    split at h
    · rename_i q hq
      split at h
      · rename_i qs hqs
        simp only [Option.some.injEq] at h
        subst h
        cases i with
        | zero => simp at hp; subst hp; exact ⟨a, _, rfl, hq⟩
        | succ i => simp at hp; exact pvhs_get hqs i p hp
      · cases h
    · cases h

theorem arows_sound {hs : List Nat} {sz : Nat} (hf : RFr g w a.tmps fr) : ∀ (parts : List (Nat × Operand)) (k : Nat) (rows : List (List PV)), arows hs sz fr.ev k parts = some rows →
    ∃ cells, (∀ cur : Array Value, cur.size = (k + parts.length) * sz → Instr.fill (fun i => some (i * sz, sz)) cur (parts.map fun (i, x) => (i, a.eval x)) = some (cur.toList.take (k * sz) ++ cells).toArray) ∧ cells.length = rows.length * sz ∧ rows.length = parts.length ∧ (∀ r ∈ rows, r.length = sz) ∧
      (∀ (i j : Nat) (x : List PV) (p : PV), rows[i]? = some x → x[j]? = some p → ∃ u, cells[i * sz + j]? = some u ∧ RV g.I w u p)
  | [], k, rows, h => by
    simp [arows] at h
    subst h
    refine ⟨[], fun cur hc => ?_, by simp, rfl, by simp, by simp⟩
    simp only [List.map_nil, Instr.fill, List.append_nil]
    rw [List.take_of_length_le (by simp at hc ⊢; omega)]
  | (i, x) :: rest, k, rows, h => by
    simp only [arows] at h
    split at h
    · rename_i hik
      subst hik
      split at h
      · rename_i ps hps
        split at h
        · rename_i hlen
          split at h
          · rename_i rs hrs
            simp only [Option.some.injEq] at h
            subst h
            have hx := ev_sound hf x
            have hcl := pvhs_length hps
            -- the cells of this element
            have hsol : (fr.ev x).solid = true := by
              have key : ∀ y ∈ (fr.ev x).cells, y.flat = true := by
                intro y hy
                obtain ⟨n, hn, rfl⟩ := List.getElem_of_mem hy
                have hn' : n < ps.length := by omega
                obtain ⟨a', n', ha', hp'⟩ := pvhs_get hps n _ (List.getElem?_eq_getElem hn')
                rw [List.getElem?_eq_getElem hn] at ha'
                cases ha'
                revert hp'
                cases (fr.ev x).cells[n] <;> simp [AV.pvh?, AV.flat]
              revert key
              cases fr.ev x <;> simp [AV.cells, AV.solid, AV.flat]
            obtain ⟨hv, _⟩ := hx.cells hsol
            have hvs : (a.eval x).cells.size = sz := by rw [hv.1, ← hcl, hlen]
            have hk1 : (i + 1) * sz = i * sz + sz := by rw [Nat.add_mul, Nat.one_mul]
            have hge : (rest.length + 1) * sz = rest.length * sz + sz := by rw [Nat.add_mul, Nat.one_mul]
            obtain ⟨cells, hfill0, h1, h2, h3, h4⟩ := arows_sound hf rest (i + 1) rs hrs
            refine ⟨(a.eval x).cells.toList ++ cells, fun cur hc => ?_, ?_, by simp [h2], ?_, ?_⟩
            · have hcs : cur.size = i * sz + (rest.length + 1) * sz := by rw [hc, List.length_cons, Nat.add_mul]
              have hnew := foldl_set (a.eval x).cells cur (i * sz) (by omega)
              have hfill := hfill0 (cur.toList.take (i * sz) ++ (a.eval x).cells.toList ++ cur.toList.drop (i * sz + (a.eval x).cells.size)).toArray (by
                simp only [List.size_toArray, List.length_append, List.length_take, List.length_drop, Array.length_toList, hvs]
                rw [show (i + 1 + rest.length) * sz = i * sz + (rest.length * sz + sz) by rw [show i + 1 + rest.length = i + (rest.length + 1) by omega, Nat.add_mul, hge]]
                omega)
              simp only [List.map_cons, Instr.fill]
              rw [if_neg (by simp; omega), hnew, hfill]
              congr 2
              have hl1 : (cur.toList.take (i * sz)).length = i * sz := by simp; omega
              rw [hk1, List.append_assoc, List.take_append, hl1, ← List.append_assoc]
              congr 1
              rw [List.take_of_length_le (by rw [hl1]; omega)]
              congr 1
              rw [show i * sz + sz - i * sz = sz by omega, List.take_append_of_le_length (by simp [hvs])]
              exact List.take_of_length_le (by simp [hvs])
            · simp only [List.length_append, Array.length_toList, hvs, h1, List.length_cons, Nat.add_mul, Nat.one_mul]
              omega
            · intro r hr
              rcases List.mem_cons.1 hr with rfl | hr
              · exact hlen
              · exact h3 r hr
            · intro n j y p hy hp
              cases n with
              | zero =>
                simp only [List.getElem?_cons_zero, Option.some.injEq] at hy
                subst hy
                have hj := (List.getElem?_eq_some_iff.1 hp).1
                obtain ⟨a', n', ha', hp'⟩ := pvhs_get hps j p hp
                have hjs : j < (a.eval x).cells.size := by omega
                refine ⟨(a.eval x).cells[j], ?_, (hv.2 j _ a' (Array.getElem?_eq_getElem hjs) ha').pvh hp'⟩
                rw [Nat.zero_mul, Nat.zero_add, List.getElem?_append_left (by simpa using hjs)]
                simp [hjs]
              | succ n =>
                simp only [List.getElem?_cons_succ] at hy
                obtain ⟨u, hu, hr⟩ := h4 n j y p hy hp
                refine ⟨u, ?_, hr⟩
                rw [List.getElem?_append_right (by simp [hvs, Nat.add_mul]; omega)]
                simp only [Array.length_toList, hvs]
                rw [← hu]
                congr 1
                rw [Nat.add_mul, Nat.one_mul]
                omega
          · cases h
        · cases h
      · cases h
    · cases h

/-- A new row of the call's own. -/
theorem newRow_sound (hi : Inv c g w σ) (f : Nat → Bool) (T : Nat) (hT : f T = true) {e : TypeId} {sz : Nat} (hpos : 0 < sz) {rows : List (List PV)} {cells : List Value} (hl : cells.length = rows.length * sz) (hm : rows.length ≤ maxLen) (hrows : ∀ r ∈ rows, r.length = sz)
    (hv : ∀ (i j : Nat) (x : List PV) (p : PV), rows[i]? = some x → x[j]? = some p → ∃ u, cells[i * sz + j]? = some u ∧ RV g.I w u p) :
    ∃ g', Inv c g' (w.alloc (.cells cells.toArray e)) (σ.dem f) ∧ Stp (g.dem f) w g' (w.alloc (.cells cells.toArray e)) ∧ RAV g' (w.alloc (.cells cells.toArray e)) (.slice (some ⟨w.heap.size, 0, none⟩) rows.length rows.length) (.own T sz rows) := by
  let W := w.alloc (.cells cells.toArray e)
  have hcell : ∀ b o, b < w.heap.size → W.cell? ⟨b, o, none⟩ = w.cell? ⟨b, o, none⟩ := fun b o h => World.cell?_alloc_lt w _ _ h
  have hheap : ∀ b, b < w.heap.size → W.heap[b]? = w.heap[b]? := fun b h => Go.RowKit.Below.heap_alloc w _ b h
  have hsz : (w.alloc (.cells cells.toArray e)).heap.size = w.heap.size + 1 := by simp
  let I' : Nat → Nat → Prop := fun b o => g.I b o ∨ (b = w.heap.size ∧ o < rows.length * sz)
  let g' : G := { I := I', β := g.β, τ := fun t => if t = T then some w.heap.size else if f t then none else g.τ t }
  have st : Stp (g.dem f) w g' W := by
    refine ⟨fun b o h => .inl h, fun b o h => hcell b o (hi.Ilt b o h), fun _ _ h => h, fun t b htb => ?_⟩
    simp only [G.dem] at htb
    split at htb
    · cases htb
    · rename_i hft
      have hft : f t = false := by simpa using hft
      have hbl := (hi.τnew t b htb).2.1
      refine ⟨?_, hheap b hbl, fun o h => ?_⟩
      · show (if t = T then some w.heap.size else if f t then none else g.τ t) = some b
        rw [if_neg (by rintro rfl; rw [hT] at hft; cases hft), if_neg (by simp [hft])]
        exact htb
      · rcases h with h | ⟨h, _⟩
        · exact h
        · omega
  refine ⟨g', ?_, st, .own T sz rows ⟨hpos, hrows, e, cells, ?_, fun i j x p hx hp => ?_, fun b hb => ?_⟩⟩
  · refine ⟨hi.os, hi.tape, hi.output, by have := hi.size; omega, fun b hb hn => (hheap b (Nat.lt_of_lt_of_le hb hi.size)).trans (hi.old b hb hn), fun b o h => .inl (hi.Ile b o h), fun b o h hb => ?_, fun b o h => ?_, hi.βpre, hi.βnew, hi.βnd, ?_, fun b hb o h => ?_,
      fun b hb => by have := hi.βlt b hb; omega, fun t b htb => ?_, fun t t' b h1 h2 => ?_, fun id cs b hs' hb' => ?_⟩
    · rcases h with h | ⟨h, _⟩
      · exact hi.Iold b o h hb
      · have := hi.size
        omega
    · rcases h with h | ⟨h, _⟩
      · have := hi.Ilt b o h
        omega
      · omega
    · rw [St.dem_eq, List.length_map]
      exact hi.βlen
    · rcases h with h | ⟨h, _⟩
      · exact hi.βI b hb o h
      · have := hi.βlt b hb
        omega
    · change (if t = T then some w.heap.size else if f t then none else g.τ t) = some b at htb
      split at htb
      · simp at htb
        subst htb
        exact ⟨hi.size, by omega, fun hb => by have := hi.βlt _ hb; omega⟩
      · split at htb
        · cases htb
        · obtain ⟨h1, h2, h3⟩ := hi.τnew t b htb
          exact ⟨h1, by omega, h3⟩
    · change (if t = T then some w.heap.size else if f t then none else g.τ t) = some b at h1
      change (if t' = T then some w.heap.size else if f t' then none else g.τ t') = some b at h2
      have key : ∀ s, g.τ s = some b → b ≠ w.heap.size := fun s hs' => by have := (hi.τnew s b hs').2.1; omega
      split at h1
      · rename_i e1
        simp at h1
        split at h2
        · rename_i e2
          rw [e1, e2]
        · split at h2
          · cases h2
          · exact absurd h1.symm (key t' h2)
      · split at h1
        · cases h1
        · split at h2
          · simp at h2
            exact absurd h2.symm (key t h1)
          · split at h2
            · cases h2
            · exact hi.τinj t t' b h1 h2
    · obtain ⟨cur, e1, hh, hr⟩ := (hi.dem f).store id cs b hs' hb'
      exact ⟨cur, e1, (hheap b (hi.βlt b (List.mem_of_getElem? hb'))).trans hh, hr.stp st⟩
  · exact ⟨hl, .inr ⟨w.heap.size, rows.length, cells.toArray, rfl, Nat.zero_le _, heap_alloc_new w _, Nat.le_refl _, hm, by simpa using hl, by simp [← hl]⟩⟩
  · obtain ⟨u, hu, hr⟩ := hv i j x p hx hp
    exact ⟨u, hu, hr.mono (fun _ _ h => .inl h) (fun b o h => hcell b o (hi.Ilt b o h))⟩
  · simp [Value.ownBlock] at hb
    subst hb
    refine ⟨by simp [g'], fun o => ⟨?_, fun h => .inr ⟨rfl, h⟩⟩⟩
    rintro (h | ⟨_, h⟩)
    · have := hi.Ilt _ o h
      omega
    · exact h

/-- A new row that is settled at once. -/
theorem newFrozen (hi : Inv c g w σ) (cells : Array Value) (e : TypeId) : ∃ g', Inv c g' (w.alloc (.cells cells e)) σ ∧ Stp g w g' (w.alloc (.cells cells e)) ∧ g'.β = g.β ∧ ∀ o, o < cells.size → g'.I w.heap.size o := by
  have hcell : ∀ b o, b < w.heap.size → (w.alloc (.cells cells e)).cell? ⟨b, o, none⟩ = w.cell? ⟨b, o, none⟩ := fun b o h => World.cell?_alloc_lt w _ _ h
  have hheap : ∀ b, b < w.heap.size → (w.alloc (.cells cells e)).heap[b]? = w.heap[b]? := fun b h => Go.RowKit.Below.heap_alloc w _ b h
  have hsz : (w.alloc (.cells cells e)).heap.size = w.heap.size + 1 := by simp
  let g' : G := { g with I := fun b o => g.I b o ∨ (b = w.heap.size ∧ o < cells.size) }
  have st : Stp g w g' (w.alloc (.cells cells e)) := by
    refine ⟨fun b o h => .inl h, fun b o h => hcell b o (hi.Ilt b o h), fun _ _ h => h, fun t b htb => ⟨htb, hheap b (hi.τnew t b htb).2.1, fun o h => ?_⟩⟩
    rcases h with h | ⟨h, _⟩
    · exact h
    · have := (hi.τnew t b htb).2.1
      omega
  refine ⟨g', ⟨hi.os, hi.tape, hi.output, by have := hi.size; omega, fun b hb hn => (hheap b (Nat.lt_of_lt_of_le hb hi.size)).trans (hi.old b hb hn), fun b o h => .inl (hi.Ile b o h), fun b o h hb => ?_, fun b o h => ?_, hi.βpre, hi.βnew, hi.βnd, hi.βlen, fun b hb o h => ?_,
      fun b hb => by have := hi.βlt b hb; omega, fun t b htb => ?_, hi.τinj, fun id cs b hs' hb' => ?_⟩, st, rfl, fun o ho => .inr ⟨rfl, ho⟩⟩
  · rcases h with h | ⟨h, _⟩
    · exact hi.Iold b o h hb
    · have := hi.size
      omega
  · rcases h with h | ⟨h, _⟩
    · have := hi.Ilt b o h
      omega
    · omega
  · rcases h with h | ⟨h, _⟩
    · exact hi.βI b hb o h
    · have := hi.βlt b hb
      omega
  · obtain ⟨h1, h2, h3⟩ := hi.τnew t b htb
    exact ⟨h1, by omega, h3⟩
  · obtain ⟨cur, e1, hh, hr⟩ := hi.store id cs b hs' hb'
    exact ⟨cur, e1, (hheap b (hi.βlt b (List.mem_of_getElem? hb'))).trans hh, hr.stp st⟩

theorem aptrs_sound (hf : RFr g w a.tmps fr) : ∀ (parts : List (Nat × Operand)) (k : Nat) (l : List (Nat × Nat)), aptrs fr.ev k parts = some l →
    ∃ cells, (∀ cur : Array Value, cur.size = k + parts.length → Instr.fill (fun i => some (i * 1, 1)) cur (parts.map fun (i, x) => (i, a.eval x)) = some (cur.toList.take k ++ cells).toArray) ∧ cells.length = l.length ∧ l.length = parts.length ∧
      (∀ (i : Nat) (p : Nat × Nat), l[i]? = some p → ∃ bk, g.β[p.1]? = some bk ∧ cells[i]? = some (.pointer (some ⟨bk, p.2, none⟩)))
  | [], k, l, h => by
    simp [aptrs] at h
    subst h
    refine ⟨[], fun cur hc => ?_, rfl, rfl, by simp⟩
    simp only [List.map_nil, Instr.fill, List.append_nil]
    rw [List.take_of_length_le (by simp at hc ⊢; omega)]
  | (i, x) :: rest, k, l, h => by
    simp only [aptrs] at h
    split at h
    · rename_i hik
      subst hik
      split at h
      · rename_i id off hx0
        split at h
        · rename_i rs hrs
          simp only [Option.some.injEq] at h
          subst h
          have hx := ev_sound hf x
          rw [hx0] at hx
          generalize hvx : a.eval x = vx at hx
          cases hx
          rename_i bk hb
          have hv1 : (a.eval x).cells.toList = [Value.pointer (some ⟨bk, off, none⟩)] := by rw [hvx]; rfl
          have hv2 : (a.eval x).cells.size = 1 := by rw [hvx]; rfl
          obtain ⟨cells, hfill0, h1, h2, h4⟩ := aptrs_sound hf rest (i + 1) rs hrs
          refine ⟨Value.pointer (some ⟨bk, off, none⟩) :: cells, fun cur hc => ?_, by simp [h1], by simp [h2], ?_⟩
          · have hcs : cur.size = i + (rest.length + 1) := by simpa using hc
            have hnew := foldl_set (a.eval x).cells cur i (by omega)
            rw [hv1, hv2] at hnew
            have hfill := hfill0 (cur.toList.take i ++ [Value.pointer (some ⟨bk, off, none⟩)] ++ cur.toList.drop (i + 1)).toArray (by simp; omega)
            simp only [List.map_cons, Instr.fill, Nat.mul_one]
            simp only [Nat.mul_one] at hfill
            rw [if_neg (by simp [hv2]; omega), hnew, hfill]
            congr 2
            have hl1 : (cur.toList.take i).length = i := by simp; omega
            rw [List.append_assoc, List.take_append, hl1, List.append_cons]
            congr 1
            rw [List.take_of_length_le (by rw [hl1]; omega)]
            simp
          · intro n p hp
            cases n with
            | zero => simp at hp; subst hp; exact ⟨bk, hb, rfl⟩
            | succ n => simp at hp; simpa using h4 n p hp
        · cases h
      · cases h
    · cases h

theorem run_buildSlice {t e : TypeId} {i : TypeInfo} {z : Value} (hu : P.underlying t = some (.slice e)) (hin : P.info? e = some i) (hz : i.zero = some z) (len : Nat) (parts : Array (Nat × Value)) (hbig : len * i.size ≤ 1000000) (cells : List Value)
    (hfill : ∀ cur : Array Value, cur.size = len * i.size → Instr.fill (fun k => some (k * i.size, i.size)) cur parts.toList = some cells.toArray) :
    (Instr.buildSlice t len parts).run P w = .ok (.slice (some ⟨w.heap.size, 0, none⟩) len len) (w.alloc (.cells cells.toArray e)) := by
  have hbig2 : ¬ (len * i.size > 2 ^ 24) := by omega
  have h1 : (sizeOf e).run P w = .ok i.size w := by simp [sizeOf, typeInfo, hin]
  have hz0 : (zeroValue e).run P w = .ok z w := by simp [zeroValue, typeInfo, hin, hz]
  simp only [Instr.buildSlice, Sem.run_bind, run_underlying hu, Result.andThen_ok, h1, Sem.run_ite, hbig2, if_false, Sem.run_pure]
  by_cases h0 : len * i.size = 0
  · simp only [h0, if_true, Result.andThen_ok]
    rw [hfill _ (by simp [h0])]
    simp [newRow]
  · simp only [h0, if_false, hz0, Result.andThen_ok]
    rw [hfill _ (by simp)]
    simp [newRow]

theorem s_buildSlice {t : TypeId} {len : Nat} {parts : Array (Nat × Operand)} (hi : Inv c g w σ) (hf : RFr g w a.tmps fr) (h : aval P ⟨dst, .buildSlice t len parts, ty, pos, after, guard⟩ fr.ev σ K) (hd : dst.isSome = true) : ORes P c ⟨dst, .buildSlice t len parts, ty, pos, after, guard⟩ a.eval w g K := by
  simp only [aval] at h
  obtain ⟨d, rfl⟩ := Option.isSome_iff_exists.1 hd
  split at h
  · rename_i e sz bytes hts
    obtain ⟨hlen, hbig, hs, h⟩ := h
    obtain ⟨hu, i, z, hin, hz, hzs, hpos, hsz, _⟩ := tySlice_spec hts
    subst hsz
    split at h
    · rename_i rows hrows
      obtain ⟨cells, hfill0, h1, h2, h3, h4⟩ := arows_sound hf parts.toList 0 rows hrows
      have hfill : ∀ cur : Array Value, cur.size = len * i.size → Instr.fill (fun k => some (k * i.size, i.size)) cur (parts.map fun (k, x) => (k, a.eval x)).toList = some cells.toArray := by
        intro cur hcur
        rw [Array.toList_map, hfill0 cur (by rw [hcur, hlen, Nat.zero_add])]
        simp
      obtain ⟨g', hi', st, hr⟩ := newRow_sound hi (freshOf (some d)) (tokOf (some d)) (by simp [freshOf, tokOf]) (e := e) (by omega : 0 < i.size) h1 (by unfold maxLen; have := Nat.le_mul_of_pos_right rows.length hpos; rw [h2, hlen] at this ⊢; omega) h3 h4
      have hl2 : rows.length = len := h2.trans hlen
      rw [hl2] at hr
      exact ⟨_, _, _, _, _, _, g', by simp [execOp, run_buildSlice hu hin hz len _ hbig cells hfill], .inl rfl, h, hi', st, hr⟩
    · split at h
      · rename_i l hl
        obtain ⟨h1s, h⟩ := h
        obtain ⟨cells, hfill0, h1, h2, h4⟩ := aptrs_sound (g := g) (w := w) hf parts.toList 0 l hl
        have hfill : ∀ cur : Array Value, cur.size = len * i.size → Instr.fill (fun k => some (k * i.size, i.size)) cur (parts.map fun (k, x) => (k, a.eval x)).toList = some cells.toArray := by
          intro cur hcur
          rw [h1s] at hcur ⊢
          rw [Array.toList_map, hfill0 cur (by rw [hcur, hlen]; omega)]
          simp
        obtain ⟨g', hi', st, hβ, hI⟩ := newFrozen hi cells.toArray e
        have hll : l.length = len := h2.trans hlen
        refine ⟨_, _, _, .none, _, _, g', by simp [execOp, run_buildSlice hu hin hz len _ hbig cells hfill]; rfl, .inl rfl, h, hi', st, ?_⟩
        have hp := RAV.ptrs (g := g') (w := w.alloc (.cells cells.toArray e)) w.heap.size 0 len l (by omega) (fun k p hp => ?_)
        · rw [hll] at hp
          exact hp
        · obtain ⟨bk, hb, hc⟩ := h4 k p hp
          have hk := (List.getElem?_eq_some_iff.1 hc).1
          refine ⟨by rw [Nat.zero_add]; exact hI k (by simpa using hk), bk, by rw [hβ]; exact hb, ?_⟩
          rw [Nat.zero_add, cell_row (heap_alloc_new w _)]
          simpa using hc
      · exact h.elim
  · exact h.elim

end
end Go.Proofs.Ytnhchphmmdgphaa.Abs

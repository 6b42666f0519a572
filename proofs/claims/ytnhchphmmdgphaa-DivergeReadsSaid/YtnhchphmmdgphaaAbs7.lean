/- The operations' rules are sound (the rest, and all together). -/
import Derived.Test.YtnhchphmmdgphaaAbs6
namespace Go.Proofs.Ytnhchphmmdgphaa.Abs
open Go
set_option linter.unusedVariables false
set_option linter.unusedSimpArgs false

section
variable {P : Program} {c : Ctx} {g : G} {w : World} {σ : St} {K : Option (Nat → Bool) → AV → St → Prop} {a : Act} {fr : Fr} {dst : Option Tmp} {ty : TypeId} {pos : String} {after : Array Edge} {guard : Option (Nat × Bool)}

theorem RAV.c_inv {g : G} {w : World} {v : Value} {p : PV} (h : RAV g w v (.c p)) : RV g.I w v p := by cases h; assumption
theorem RAV.own_inv {g : G} {w : World} {v : Value} {t sz : Nat} {xs : List (List PV)} (h : RAV g w v (.own t sz xs)) : ROwn g w v t sz xs := by cases h; assumption

theorem aload_sound {t : TypeId} {ag : Bool} {n : Nat} {x : AV} {vx : Value} {Q : AV → Prop} (hi : Inv c g w σ) (ht : tyVar P t = some (ag, n)) (hx : RAV g w vx x) (h : aload ag n x σ Q) :
    ∃ v av, (Instr.loadAt t vx).run P w = .ok v w ∧ RAV g w v av ∧ Q av := by
  unfold aload at h
  split at h
  · rename_i id off
    cases hx with
    | box _ _ b hb =>
      split at h
      · rename_i cs hs
        obtain ⟨cur, e, hh, hc⟩ := hi.store id cs b hs hb
        split at h
        · rename_i hag
          subst hag
          obtain ⟨hfit, hq⟩ := h
          have hcs : cur.size = cs.length := hc.1
          have hsub := hc.sub off n
          refine ⟨.agg (cur.extract off (off + n)), _, ?_, .agg _ _ hsub.1 hsub.2, hq⟩
          have := loadVar_agg (P := P) (w := w) (a := ⟨b, off, none⟩) (cur.extract off (off + n)).toList ht (by simp; omega) (fun j v hv => by
            rw [addr_add, cell_row hh]
            rw [Array.getElem?_toList, Array.getElem?_extract] at hv
            split at hv
            · exact hv
            · cases hv)
          have e1 : (cur.extract off (off + n)).toList.toArray = cur.extract off (off + n) := by simp only [Array.toArray_toList]
          rw [e1] at this
          simp only [Instr.loadAt, Instr.sureAddr, Sem.run_bind, Sem.run_pure, Result.andThen_ok, this]
        · rename_i hag
          have hag : ag = false := by simpa using hag
          subst hag
          split at h
          · rename_i av hav
            have hlt := (List.getElem?_eq_some_iff.1 hav).1
            have hlt' : off < cur.size := by rw [hc.1]; exact hlt
            have hcell : w.cell? ⟨b, off, none⟩ = some cur[off] := by rw [cell_row hh, Array.getElem?_eq_getElem hlt']
            exact ⟨cur[off], av, by simpa [Instr.loadAt, Instr.sureAddr] using loadVar_one ht hcell, hc.2 off _ av (Array.getElem?_eq_getElem hlt') hav, h⟩
          · exact h.elim
      · exact h.elim
  · rename_i cs off
    cases hx with
    | eptr b o _ _ vs hcell hv =>
      split at h
      · rename_i hag
        subst hag
        obtain ⟨hfit, hq⟩ := h
        refine ⟨.agg ((List.range n).map fun j => vs (off + j)).toArray, _, ?_, .agg _ _ (by simp; omega) (fun i v av hiv hav => ?_), hq⟩
        · have := loadVar_agg (P := P) (w := w) (a := ⟨b, o + off, none⟩) ((List.range n).map fun j => vs (off + j)) ht (by simp) (fun j v hv' => by
            rw [List.getElem?_map, Option.map_eq_some_iff] at hv'
            obtain ⟨k, hk, rfl⟩ := hv'
            have hkl := (List.getElem?_eq_some_iff.1 hk)
            have hk1 := hkl.1
            have hk2 := hkl.2
            simp at hk1 hk2
            subst hk2
            rw [addr_add, Nat.add_assoc]
            exact (hcell (off + j) (by omega)).2)
          simpa [Instr.loadAt, Instr.sureAddr] using this
        · rw [List.getElem?_map, Option.map_eq_some_iff] at hav
          obtain ⟨p, hp, rfl⟩ := hav
          rw [List.getElem?_take] at hp
          split at hp
          · rw [List.getElem?_drop] at hp
            simp only [List.getElem?_toArray, List.getElem?_map, Option.map_eq_some_iff] at hiv
            obtain ⟨k, hk, rfl⟩ := hiv
            have hkl := (List.getElem?_eq_some_iff.1 hk)
            have hk1 := hkl.1
            have hk2 := hkl.2
            simp at hk1 hk2
            subst hk2
            exact .c (hv _ p hp)
          · cases hp
      · rename_i hag
        have hag : ag = false := by simpa using hag
        subst hag
        split at h
        · rename_i p hp
          have hlt := (List.getElem?_eq_some_iff.1 hp).1
          exact ⟨vs off, .c p, by simpa [Instr.loadAt, Instr.sureAddr] using loadVar_one ht (hcell off hlt).2, .c (hv off p hp), h⟩
        · exact h.elim
  · rename_i p
    obtain ⟨hag, hq⟩ := h
    subst hag
    cases hx with
    | pptr b o bk _ hI hb hc =>
      exact ⟨_, .box p.1 p.2, by simpa [Instr.loadAt, Instr.sureAddr] using loadVar_one ht hc, .box _ _ _ hb, hq⟩
  · exact h.elim

theorem s_load {t : TypeId} {x : Operand} (hi : Inv c g w σ) (hf : RFr g w a.tmps fr) (h : aval P ⟨dst, .load t x, ty, pos, after, guard⟩ fr.ev σ K) : ORes P c ⟨dst, .load t x, ty, pos, after, guard⟩ a.eval w g K := by
  simp only [aval] at h
  split at h
  · rename_i ag n ht
    obtain ⟨v, av, hr, hv, hk⟩ := aload_sound hi ht (ev_sound hf x) h
    exact .same hi (by simp [execOp, hr]) hv hk
  · exact h.elim

theorem s_store {t : TypeId} {x y : Operand} (hi : Inv c g w σ) (hf : RFr g w a.tmps fr) (h : aval P ⟨dst, .store t x y, ty, pos, after, guard⟩ fr.ev σ K) : ORes P c ⟨dst, .store t x y, ty, pos, after, guard⟩ a.eval w g K := by
  simp only [aval] at h
  split at h
  · rename_i ag n ht
    have hx := ev_sound hf x
    split at h
    · rename_i id off hx0
      rw [hx0] at hx
      generalize hvx : a.eval x = vx at hx
      cases hx with
      | box _ _ b hb =>
        obtain ⟨hs, hl, h⟩ := h
        split at h
        · rename_i cs hcs
          obtain ⟨hfit, hk⟩ := h
          obtain ⟨cur, e, hh, hc⟩ := hi.store id cs b hcs hb
          obtain ⟨hv, h1⟩ := (ev_sound hf y).cells hs
          have hvl : (a.eval y).cells.size = n := hv.1.trans hl
          have hcl : cur.size = cs.length := hc.1
          have hsp := hc.splice hv off (by rw [hl]; exact hfit)
          rw [hl] at hsp
          obtain ⟨hi', st⟩ := hi.setRow hcs hb hh hsp
          refine ⟨.skip, undef, _, .none, .any, _, g, ?_, .inr ⟨rfl, rfl⟩, hk, hi', st, .any⟩
          have hst := run_storeCells_at P b off e (a.eval y).cells.toList 0 cur w hh (by simp; omega) h1
          simp only [Nat.add_zero, Array.length_toList] at hst
          have hne : ¬ ((a.eval y).cells.size ≠ n) := by simp [hvl]
          simp [execOp, Instr.storeAt, Instr.sureAddr, hvx, storeVar, (tyVar_spec ht w).2, hvl, hst]
        · exact h.elim
    · exact h.elim
  · exact h.elim

theorem s_nilCheck {x : Operand} (hi : Inv c g w σ) (hf : RFr g w a.tmps fr) (h : aval P ⟨dst, .nilCheck x, ty, pos, after, guard⟩ fr.ev σ K) : ORes P c ⟨dst, .nilCheck x, ty, pos, after, guard⟩ a.eval w g K := by
  simp only [aval] at h
  have hx := ev_sound hf x
  split at h
  · rename_i i k hx0
    rw [hx0] at hx
    generalize hvx : a.eval x = vx at hx
    cases hx with
    | box _ _ b hb => exact .same hi (by simp [execOp, hvx]) (.box _ _ b hb) h
  · rename_i cs k hx0
    rw [hx0] at hx
    generalize hvx : a.eval x = vx at hx
    cases hx with
    | eptr b o _ _ vs hc hv => exact .same hi (by simp [execOp, hvx]) (.eptr b o _ _ vs hc hv) h
  · rename_i p hx0
    rw [hx0] at hx
    generalize hvx : a.eval x = vx at hx
    cases hx with
    | pptr b o bk _ hI hb hc => exact .same hi (by simp [execOp, hvx]) (.pptr b o bk _ hI hb hc) h
  · rename_i f cs hx0
    rw [hx0] at hx
    generalize hvx : a.eval x = vx at hx
    cases hx with
    | fn _ vs _ hl ha => exact .same hi (by simp [execOp, hvx]) (.fn f vs cs hl ha) h
  · exact h.elim

theorem s_binOp {op : BinOp} {t t2 : TypeId} {x y : Operand} (hi : Inv c g w σ) (hf : RFr g w a.tmps fr) (h : aval P ⟨dst, .binOp op t x y t2, ty, pos, after, guard⟩ fr.ev σ K) : ORes P c ⟨dst, .binOp op t x y t2, ty, pos, after, guard⟩ a.eval w g K := by
  simp only [aval] at h
  obtain ⟨v, av, hr, hv, hk⟩ := abin_sound h (ev_sound hf x) (ev_sound hf y) x y
  refine .same hi ?_ hv hk
  simp only [execOp]
  rw [Sem.run_bind, hr]
  rfl

theorem s_unOp {op : UnOp} {t : TypeId} {x : Operand} (hi : Inv c g w σ) (hf : RFr g w a.tmps fr) (h : aval P ⟨dst, .unOp op t x, ty, pos, after, guard⟩ fr.ev σ K) : ORes P c ⟨dst, .unOp op t x, ty, pos, after, guard⟩ a.eval w g K := by
  simp only [aval] at h
  have hx := ev_sound hf x
  split at h
  · rename_i b hx0
    rw [hx0] at hx
    generalize hvx : a.eval x = vx at hx
    cases hx with
    | c hx => cases hx; exact .same hi (v := .bool (!b)) (by simp [execOp, hvx, Op.unary]) (.c (.bool _)) h
  · rename_i k n hx0
    rw [hx0] at hx
    generalize hvx : a.eval x = vx at hx
    cases hx with
    | c hx => cases hx; exact .same hi (v := .int k (k.wrap (0 - n))) (by simp [execOp, hvx, Op.unary, Op.intArith]) (.c (.int _ _)) h
  · exact h.elim

theorem tyInt_spec {t : TypeId} {k : IntKind} (h : tyInt P t = some k) : P.underlying t = some (.int k) := by
  unfold tyInt at h
  cases hu : P.underlying t with
  | none => simp [hu] at h
  | some d => cases d <;> simp_all
theorem tyIs2 {t : TypeId} (h : tyIs P t = 2) : P.underlying t = some .string := by
  unfold tyIs at h
  cases hu : P.underlying t with
  | none => simp [hu] at h
  | some d => cases d <;> simp_all
theorem tyIs3 {t : TypeId} (h : tyIs P t = 3) : ∃ e, P.underlying t = some (.slice e) := by
  unfold tyIs at h
  cases hu : P.underlying t with
  | none => simp [hu] at h
  | some d => cases d <;> simp_all

theorem brow_ints (l : List UInt8) : ∀ (s : ByteArray), (l.map fun b => (b.toNat : Int)).foldl (fun r n => r.push (UInt8.ofNat n.toNat)) s = ⟨s.data ++ l.toArray⟩ := by
  induction l with
  | nil => intro s; simp
  | cons b l ih =>
    intro s
    simp only [List.map_cons, List.foldl_cons, ih]
    apply ByteArray.ext
    simp [ByteArray.push]

theorem bytes_str {s d : TypeId} (hs : aval.tyBytes P s) (hd : tyIs P d = 2) {v : Value} {sz : Nat} {l : List UInt8} (h : RV g.I w v (.list sz (l.map brow))) : (convert s d v).run P w = .ok (.string ⟨l.toArray⟩) w := by
  unfold aval.tyBytes at hs
  split at hs
  · rename_i e hu
    have he := tyInt_spec hs
    have hd := tyIs2 hd
    generalize hxs : l.map brow = xs at h
    cases h with
    | empty A cap sz =>
      have : l = [] := by cases l <;> simp_all
      subst this
      rw [run_convert_bytes_string w s d e A 0 cap hu he hd]
      cases A <;> simp [Conv.bytesToString, loadCells, loadCellsFrom] <;> rfl
    | row b o cap sz xs vs hsz hcap hc hv =>
      subst hxs
      rw [run_convert_bytes_string w s d e _ _ cap hu he hd]
      have hcell : ∀ j u, (l.map fun b => Value.int .u8 (b.toNat : Int))[j]? = some u → w.cell? ((⟨b, o, none⟩ : Addr).add j) = some u := by
        intro j u hu'
        rw [List.getElem?_map, Option.map_eq_some_iff] at hu'
        obtain ⟨x, hx, rfl⟩ := hu'
        have hj := (List.getElem?_eq_some_iff.1 hx).1
        have h1 : sz = 1 := by
          have := hsz (brow x) (List.mem_map.2 ⟨x, List.mem_of_getElem? hx, rfl⟩)
          simpa [brow] using this.symm
        subst h1
        rw [addr_add, (hc j (by simpa using hj)).2]
        have := hv j 0 (brow x) (.int .u8 x.toNat) (by simp [hx]) rfl
        simp only [Nat.mul_one, Nat.add_zero] at this
        generalize vs j = vj at this
        cases this
        rfl
      have hl := run_loadCells_list (P := P) w ⟨b, o, none⟩ _ hcell
      rw [List.length_map] at hl
      rw [List.length_map, run_bytesToString w ⟨b, o, none⟩ l.length cap (l.map fun b => (b.toNat : Int)) (by rw [hl, List.map_map]; rfl)]
      rw [brow_ints]
      congr 2
      apply ByteArray.ext
      simp
  · exact hs.elim

theorem s_convert {s d : TypeId} {x : Operand} (hi : Inv c g w σ) (hf : RFr g w a.tmps fr) (h : aval P ⟨dst, .convert s d x, ty, pos, after, guard⟩ fr.ev σ K) : ORes P c ⟨dst, .convert s d x, ty, pos, after, guard⟩ a.eval w g K := by
  simp only [aval] at h
  have hx := ev_sound hf x
  split at h
  · rename_i k n hx0
    rw [hx0] at hx
    generalize hvx : a.eval x = vx at hx
    split at h
    · rename_i kd ks hd hs
      cases hx with
      | c hx =>
        cases hx
        exact .same hi (v := .int kd (kd.wrap n)) (by simp [execOp, hvx, convert, run_underlying (tyInt_spec hd), run_underlying (tyInt_spec hs), Conv.intToInt]) (.c (.int _ _)) h
    · exact h.elim
  · rename_i b hx0
    rw [hx0] at hx
    generalize hvx : a.eval x = vx at hx
    obtain ⟨h1, h2, h⟩ := h
    cases hx with
    | c hx =>
      cases hx
      exact .same hi (v := .string ⟨b.toArray⟩) (by simp [execOp, hvx, convert, run_underlying (tyIs2 h1), run_underlying (tyIs2 h2)]) (.c (.str _)) h
  · rename_i sz xs hx0
    rw [hx0] at hx
    obtain ⟨h1, h2, l, rfl, h⟩ := h
    exact .same hi (by simp only [execOp, Sem.run_bind, bytes_str h1 h2 hx.c_inv, Result.andThen_ok, Sem.run_pure]) (.c (.str _)) h
  · rename_i t sz xs hx0
    rw [hx0] at hx
    obtain ⟨h1, h2, l, rfl, h⟩ := h
    exact .same hi (by simp only [execOp, Sem.run_bind, bytes_str h1 h2 hx.own_inv.rv, Result.andThen_ok, Sem.run_pure]) (.c (.str _)) h
  · rename_i hx0
    rw [hx0] at hx
    obtain ⟨h1, h2, h⟩ := h
    generalize hvx : a.eval x = vx at hx
    cases hx
    have := bytes_str (g := g) (w := w) (l := []) (sz := 1) h1 h2 (.empty .none 0 1)
    exact .same hi (by simp only [execOp, hvx, Sem.run_bind, this, Result.andThen_ok, Sem.run_pure]) (.c (.str _)) h
  · exact h.elim

theorem s_makeFunc {fn : Fn} {first captured : Array Operand} (hi : Inv c g w σ) (hf : RFr g w a.tmps fr) (h : aval P ⟨dst, .makeFunc fn first captured, ty, pos, after, guard⟩ fr.ev σ K) : ORes P c ⟨dst, .makeFunc fn first captured, ty, pos, after, guard⟩ a.eval w g K := by
  cases fn <;> simp only [aval] at h
  rename_i f
  obtain ⟨rfl, h⟩ := h
  refine .same hi (v := .func (.func f) #[] (captured.map a.eval)) (by simp [execOp, Instr.makeFunc]) (.fn f _ _ (by simp) (fun i v av hv hav => ?_)) h
  rw [Array.getElem?_map, Option.map_eq_some_iff] at hv
  obtain ⟨y, hy, rfl⟩ := hv
  rw [List.getElem?_map, Array.getElem?_toList, hy] at hav
  simp at hav
  subst hav
  exact ev_sound hf y

theorem tyField_spec {t : TypeId} {f k n : Nat} {ag : Bool} (h : tyField P t f = some (k, ag, n)) : ∃ fs x, P.underlying t = some (.struct fs) ∧ fs[f]? = some x ∧ x.offset = k ∧ tyVar P x.type = some (ag, n) ∧ n ≠ 0 := by
  unfold tyField tyFields at h
  cases hu : P.underlying t with
  | none => simp [hu] at h
  | some d =>
    cases d <;> simp only [hu] at h <;> try (cases h; done)
    rename_i fs
    cases hx : fs[f]? with
    | none => simp [hx] at h
    | some x =>
      simp only [hx] at h
      cases hv : tyVar P x.type with
      | none => simp [hv] at h
      | some p =>
        obtain ⟨ag', n'⟩ := p
        simp only [hv] at h
        split at h
        · cases h
        · rename_i hn
          simp only [Option.some.injEq, Prod.mk.injEq] at h
          obtain ⟨rfl, rfl, rfl⟩ := h
          exact ⟨fs, x, rfl, hx, rfl, hv, hn⟩

theorem s_fieldAddr {t : TypeId} {x : Operand} {f : Nat} (hi : Inv c g w σ) (hf : RFr g w a.tmps fr) (h : aval P ⟨dst, .fieldAddr t x f, ty, pos, after, guard⟩ fr.ev σ K) : ORes P c ⟨dst, .fieldAddr t x f, ty, pos, after, guard⟩ a.eval w g K := by
  simp only [aval] at h
  split at h
  · rename_i k ag n ht
    obtain ⟨fs, y, hu, hy, rfl, hv, hn⟩ := tyField_spec ht
    have hx := ev_sound hf x
    have hrun : ∀ b o, (Instr.fieldAt t (.pointer (some ⟨b, o, none⟩)) f).run P w = .ok (.pointer (some ⟨b, o + y.offset, none⟩)) w := by
      intro b o
      simp [Instr.fieldAt, run_underlying hu, hy, Instr.sureAddr, fieldPlace, (tyVar_spec hv w).2, hn, addr_add]
    split at h
    · rename_i id off hx0
      rw [hx0] at hx
      generalize hvx : a.eval x = vx at hx
      cases hx with
      | box _ _ b hb => exact .same hi (by simp only [execOp, hvx, Sem.run_bind, hrun, Result.andThen_ok, Sem.run_pure]) (.box _ _ b hb) h
    · rename_i cs off hx0
      rw [hx0] at hx
      generalize hvx : a.eval x = vx at hx
      cases hx with
      | eptr b o _ _ vs hc hv => exact .same hi (v := .pointer (some ⟨b, o + (off + y.offset), none⟩)) (by simp only [execOp, hvx, Sem.run_bind, hrun, Result.andThen_ok, Sem.run_pure, Nat.add_assoc]) (.eptr b o _ _ vs hc hv) h
    · exact h.elim
  · exact h.elim

theorem s_field {t : TypeId} {x : Operand} {f : Nat} (hi : Inv c g w σ) (hf : RFr g w a.tmps fr) (h : aval P ⟨dst, .field t x f, ty, pos, after, guard⟩ fr.ev σ K) : ORes P c ⟨dst, .field t x f, ty, pos, after, guard⟩ a.eval w g K := by
  simp only [aval] at h
  split at h
  · rename_i k ag n ht
    obtain ⟨fs, y, hu, hy, rfl, hv, hn⟩ := tyField_spec ht
    have hx := ev_sound hf x
    split at h
    · rename_i cs hx0
      rw [hx0] at hx
      generalize hvx : a.eval x = vx at hx
      cases hx with
      | agg vs _ hl ha =>
        have hrun : (Instr.field t (.agg vs) f).run P w = (part y.type vs y.offset).run P w := by simp [Instr.field, run_underlying hu, hy, asAgg]
        split at h
        · rename_i hag
          subst hag
          obtain ⟨hfit, h⟩ := h
          have hsub := RCells.sub (g := g) (w := w) ⟨hl, ha⟩ y.offset n
          exact .same hi (v := .agg (vs.extract y.offset (y.offset + n))) (by simp [execOp, hvx, hrun, part, (tyVar_spec hv w).1, (tyVar_spec hv w).2]) (.agg _ _ hsub.1 hsub.2) h
        · rename_i hag
          have hag : ag = false := by simpa using hag
          subst hag
          split at h
          · rename_i av hav
            have hlt : y.offset < vs.size := by rw [hl]; exact (List.getElem?_eq_some_iff.1 hav).1
            exact .same hi (v := vs[y.offset]) (by simp [execOp, hvx, hrun, part, (tyVar_spec hv w).1, hlt]) (ha _ _ _ (Array.getElem?_eq_getElem hlt) hav) h
          · exact h.elim
    · exact h.elim
  · exact h.elim

theorem list_elem {v : Value} {sz : Nat} {xs : List (List PV)} (h : RV g.I w v (.list sz xs)) (i : Nat) (row : List PV) (hr : xs[i]? = some row) : ∃ b o cap, v = .slice (some ⟨b, o, none⟩) xs.length cap ∧ RAV g w (.pointer (some ⟨b, o + i * sz, none⟩)) (.eptr row 0) := by
  cases h with
  | empty A cap sz => simp at hr
  | row b o cap sz xs vs hs hcap hc hv =>
    refine ⟨b, o, cap, rfl, ?_⟩
    have hi := (List.getElem?_eq_some_iff.1 hr).1
    have hl := hs row (List.mem_of_getElem? hr)
    have := RAV.eptr (g := g) (w := w) b (o + i * sz) 0 row (fun j => vs (i * sz + j)) (fun j hj => ?_) (fun j p hp => hv i j row p hr hp)
    · exact this
    · have hle : (i + 1) * sz ≤ xs.length * sz := Nat.mul_le_mul_right _ hi
      rw [Nat.add_mul] at hle
      have := hc (i * sz + j) (by omega)
      rwa [← Nat.add_assoc] at this

theorem s_indexAddr {t : TypeId} {x ix : Operand} (hi : Inv c g w σ) (hf : RFr g w a.tmps fr) (h : aval P ⟨dst, .indexAddr t x ix, ty, pos, after, guard⟩ fr.ev σ K) : ORes P c ⟨dst, .indexAddr t x ix, ty, pos, after, guard⟩ a.eval w g K := by
  simp only [aval] at h
  split at h
  · rename_i e sz bytes ht
    obtain ⟨hu, i, z, hin, _, _, _, hsz, _⟩ := tySlice_spec ht
    have hx := ev_sound hf x
    have hix := ev_sound hf ix
    split at h
    · rename_i k n hix0
      rw [hix0] at hix
      generalize hvix : a.eval ix = vix at hix
      cases hix with
      | c hix =>
        cases hix
        have hrun : ∀ b o (len cap : Nat), 0 ≤ n → n < len → (Instr.indexAt t (.slice (some ⟨b, o, none⟩) len cap) (.int k n)).run P w = .ok (.pointer (some ⟨b, o + n.toNat * sz, none⟩)) w := by
          intro b o len cap h0 h1
          simp [Instr.indexAt, asIntOf, run_underlying hu, h0, h1, sizeOf, typeInfo, hin, hsz, addr_add]
        split at h
        · rename_i sz' xs hx0
          rw [hx0] at hx
          obtain ⟨rfl, h0, h1, h⟩ := h
          have hlt : n.toNat < xs.length := by omega
          · obtain ⟨b, o, cap, hv, hr⟩ := list_elem hx.c_inv n.toNat _ (List.getElem?_eq_getElem hlt)
            exact .same hi (by simp only [execOp, hvix, hv, Sem.run_bind, hrun b o xs.length cap h0 h1, Result.andThen_ok, Sem.run_pure]) hr (h _ (List.getElem?_eq_getElem hlt))
        · rename_i t0 sz' xs hx0
          rw [hx0] at hx
          obtain ⟨rfl, h0, h1, h⟩ := h
          have hlt : n.toNat < xs.length := by omega
          · obtain ⟨b, o, cap, hv, hr⟩ := list_elem hx.own_inv.rv n.toNat _ (List.getElem?_eq_getElem hlt)
            exact .same hi (by simp only [execOp, hvix, hv, Sem.run_bind, hrun b o xs.length cap h0 h1, Result.andThen_ok, Sem.run_pure]) hr (h _ (List.getElem?_eq_getElem hlt))
        · rename_i l hx0
          rw [hx0] at hx
          obtain ⟨rfl, h0, h1, h⟩ := h
          have hlt : n.toNat < l.length := by omega
          generalize hvx : a.eval x = vx at hx
          cases hx with
          | ptrs b o cap _ hcap hc =>
            obtain ⟨hI, bk, hb, hcl⟩ := hc n.toNat _ (List.getElem?_eq_getElem hlt)
            refine .same hi (v := .pointer (some ⟨b, o + n.toNat * 1, none⟩)) (by simp only [execOp, hvix, hvx, Sem.run_bind, hrun b o l.length cap h0 h1, Result.andThen_ok, Sem.run_pure]) ?_ (h _ (List.getElem?_eq_getElem hlt))
            rw [Nat.mul_one]
            exact .pptr b _ bk _ hI hb hcl
        · exact h.elim
    · exact h.elim
  · exact h.elim

theorem s_index {t : TypeId} {x ix : Operand} (hi : Inv c g w σ) (hf : RFr g w a.tmps fr) (h : aval P ⟨dst, .index t x ix, ty, pos, after, guard⟩ fr.ev σ K) : ORes P c ⟨dst, .index t x ix, ty, pos, after, guard⟩ a.eval w g K := by
  simp only [aval] at h
  obtain ⟨h2, h⟩ := h
  have hx := ev_sound hf x
  have hix := ev_sound hf ix
  split at h
  · rename_i s k n hx0 hix0
    rw [hx0] at hx
    rw [hix0] at hix
    generalize hvix : a.eval ix = vix at hix
    generalize hvx : a.eval x = vx at hx
    obtain ⟨h0, h1, h⟩ := h
    cases hix with
    | c hix =>
      cases hix
      cases hx with
      | c hx =>
        cases hx
        have hlt : n.toNat < s.length := by omega
        have hb : (⟨s.toArray⟩ : ByteArray)[n.toNat]? = some s[n.toNat] := by
          rw [getElem?_pos (⟨s.toArray⟩ : ByteArray) n.toNat (by simpa [ByteArray.size] using hlt)]
          rfl
        exact .same hi (v := .int .u8 (s[n.toNat]).toNat) (by simp [execOp, hvix, hvx, Instr.index, asIntOf, run_underlying (tyIs2 h2), h0, hb]) (.c (.int _ _)) (h _ (List.getElem?_eq_getElem hlt))
  · exact h.elim

theorem s_extract {x : Operand} {i : Nat} (hi : Inv c g w σ) (hf : RFr g w a.tmps fr) (h : aval P ⟨dst, .extract x i, ty, pos, after, guard⟩ fr.ev σ K) : ORes P c ⟨dst, .extract x i, ty, pos, after, guard⟩ a.eval w g K := by
  simp only [aval] at h
  have hx := ev_sound hf x
  split at h
  · rename_i cs hx0
    rw [hx0] at hx
    generalize hvx : a.eval x = vx at hx
    cases hx with
    | tup vs _ hl ha =>
      split at h
      · rename_i av hav
        have hlt : i < vs.size := by rw [hl]; exact (List.getElem?_eq_some_iff.1 hav).1
        exact .same hi (v := vs[i]) (by simp [execOp, hvx, Instr.extract, hlt]) (ha _ _ _ (Array.getElem?_eq_getElem hlt) hav) h
      · exact h.elim
  · exact h.elim

end
end Go.Proofs.Ytnhchphmmdgphaa.Abs

/- A small logic over the walk's own: pure data, abstract values, and how they stand to the machine's values and memory. -/
import Derived.Below
import Derived.Laws.AppendOwn
import Derived.Laws.NewBlocks
import Derived.WalkKit
import Derived.Tactics
import Derived.KernelRfl
namespace Go.Proofs.Ytnhchphmmdgphaa.Abs
open Go
set_option linter.unusedVariables false
set_option linter.unusedSimpArgs false

/-- Pure data: what a cell reads as. A list's elements are rows of cells. -/
inductive PV where
  | bool (b : Bool)
  | int (k : IntKind) (n : Int)
  | str (s : List UInt8)
  | list (sz : Nat) (xs : List (List PV))

/-- What a slot of a frame, or a cell of a variable in memory, is known to hold. -/
inductive AV where
  | c (p : PV)
  | nil
  | own (t sz : Nat) (xs : List (List PV))
  | agg (cs : List AV)
  | tup (vs : List AV)
  | box (id off : Nat)
  | eptr (cs : List PV) (off : Nat)
  | ptrs (l : List (Nat × Nat))
  | pptr (p : Nat × Nat)
  | fn (f : FuncId) (caps : List AV)
  | nilptr
  | any

/-- Ghosts: the cells that never change again, the variables' blocks, the tokens' blocks. -/
structure G where
  I : Nat → Nat → Prop
  β : List Nat
  τ : Nat → Option Nat

abbrev St := List (List AV)
abbrev Fr := List (Nat × AV)

inductive RV (I : Nat → Nat → Prop) (w : World) : Value → PV → Prop
  | bool (b : Bool) : RV I w (.bool b) (.bool b)
  | int (k : IntKind) (n : Int) : RV I w (.int k n) (.int k n)
  | str (s : List UInt8) : RV I w (.string ⟨s.toArray⟩) (.str s)
  | empty (A : Option Addr) (cap sz : Nat) : RV I w (.slice A 0 cap) (.list sz [])
  | row (b o cap sz : Nat) (xs : List (List PV)) (vs : Nat → Value) (hs : ∀ x ∈ xs, x.length = sz) (hcap : xs.length ≤ cap)
      (hc : ∀ j, j < xs.length * sz → I b (o + j) ∧ w.cell? ⟨b, o + j, none⟩ = some (vs j))
      (hv : ∀ (i j : Nat) (x : List PV) (p : PV), xs[i]? = some x → x[j]? = some p → RV I w (vs (i * sz + j)) p) : RV I w (.slice (some ⟨b, o, none⟩) xs.length cap) (.list sz xs)

theorem RV.mono {I I' : Nat → Nat → Prop} {w w' : World} (hI : ∀ b o, I b o → I' b o) (hw : ∀ b o, I b o → w'.cell? ⟨b, o, none⟩ = w.cell? ⟨b, o, none⟩) {v : Value} {p : PV} (h : RV I w v p) : RV I' w' v p := by
  induction h with
  | bool b => exact .bool b
  | int k n => exact .int k n
  | str s => exact .str s
  | empty A cap sz => exact .empty A cap sz
  | row b o cap sz xs vs hs hcap hc _ ih => exact .row b o cap sz xs vs hs hcap (fun j hj => ⟨hI _ _ (hc j hj).1, (hw _ _ (hc j hj).1).trans (hc j hj).2⟩) ih

theorem RV.one {I : Nat → Nat → Prop} {w : World} {v : Value} {p : PV} (h : RV I w v p) : v.oneCell' = true := by cases h <;> rfl

/-- An own row: the block's head, its first cells settled, the rest nobody's. -/
def ROwn (g : G) (w : World) (v : Value) (t sz : Nat) (xs : List (List PV)) : Prop :=
  0 < sz ∧ (∀ x ∈ xs, x.length = sz) ∧ ∃ e cells, w.ownsRow 0 e sz v xs.length cells ∧
    (∀ (i j : Nat) (x : List PV) (p : PV), xs[i]? = some x → x[j]? = some p → ∃ u, cells[i * sz + j]? = some u ∧ RV g.I w u p) ∧
    ∀ b, v.ownBlock = some b → g.τ t = some b ∧ ∀ o, g.I b o ↔ o < xs.length * sz

inductive RAV (g : G) (w : World) : Value → AV → Prop
  | c {v : Value} {p : PV} (h : RV g.I w v p) : RAV g w v (.c p)
  | nil : RAV g w (.slice none 0 0) .nil
  | own {v : Value} (t sz : Nat) (xs : List (List PV)) (h : ROwn g w v t sz xs) : RAV g w v (.own t sz xs)
  | agg (vs : Array Value) (cs : List AV) (h : vs.size = cs.length) (ha : ∀ (i : Nat) (v : Value) (a : AV), vs[i]? = some v → cs[i]? = some a → RAV g w v a) : RAV g w (.agg vs) (.agg cs)
  | tup (vs : Array Value) (cs : List AV) (h : vs.size = cs.length) (ha : ∀ (i : Nat) (v : Value) (a : AV), vs[i]? = some v → cs[i]? = some a → RAV g w v a) : RAV g w (.tuple vs) (.tup cs)
  | box (id off b : Nat) (h : g.β[id]? = some b) : RAV g w (.pointer (some ⟨b, off, none⟩)) (.box id off)
  | eptr (b o off : Nat) (cs : List PV) (vs : Nat → Value) (hc : ∀ j, j < cs.length → g.I b (o + j) ∧ w.cell? ⟨b, o + j, none⟩ = some (vs j)) (hv : ∀ (j : Nat) (p : PV), cs[j]? = some p → RV g.I w (vs j) p) :
      RAV g w (.pointer (some ⟨b, o + off, none⟩)) (.eptr cs off)
  | ptrs (b o cap : Nat) (l : List (Nat × Nat)) (hcap : l.length ≤ cap)
      (hc : ∀ (i : Nat) (p : Nat × Nat), l[i]? = some p → g.I b (o + i) ∧ ∃ bk, g.β[p.1]? = some bk ∧ w.cell? ⟨b, o + i, none⟩ = some (.pointer (some ⟨bk, p.2, none⟩))) :
      RAV g w (.slice (some ⟨b, o, none⟩) l.length cap) (.ptrs l)
  | pptr (b o bk : Nat) (p : Nat × Nat) (hi : g.I b o) (hb : g.β[p.1]? = some bk) (hc : w.cell? ⟨b, o, none⟩ = some (.pointer (some ⟨bk, p.2, none⟩))) :
      RAV g w (.pointer (some ⟨b, o, none⟩)) (.pptr p)
  | fn (f : FuncId) (vs : Array Value) (cs : List AV) (h : vs.size = cs.length) (ha : ∀ (i : Nat) (v : Value) (a : AV), vs[i]? = some v → cs[i]? = some a → RAV g w v a) : RAV g w (.func (.func f) #[] vs) (.fn f cs)
  | nilptr : RAV g w (.pointer none) .nilptr
  | any {v : Value} : RAV g w v .any

/-- A step of the world that leaves alone what is known. -/
structure Stp (g : G) (w : World) (g' : G) (w' : World) : Prop where
  I : ∀ b o, g.I b o → g'.I b o
  cell : ∀ b o, g.I b o → w'.cell? ⟨b, o, none⟩ = w.cell? ⟨b, o, none⟩
  β : ∀ (id b : Nat), g.β[id]? = some b → g'.β[id]? = some b
  τ : ∀ t b, g.τ t = some b → g'.τ t = some b ∧ w'.heap[b]? = w.heap[b]? ∧ ∀ o, g'.I b o → g.I b o

theorem Stp.refl (g : G) (w : World) : Stp g w g w := ⟨fun _ _ h => h, fun _ _ _ => rfl, fun _ _ h => h, fun _ _ h => ⟨h, rfl, fun _ h => h⟩⟩

theorem ownsRow_heap {w w' : World} {base size n : Nat} {e : TypeId} {v : Value} {xs : List Value} (h : w.ownsRow base e size v n xs) (hh : ∀ b, v.ownBlock = some b → w'.heap[b]? = w.heap[b]?) : w'.ownsRow base e size v n xs := by
  refine ⟨h.1, ?_⟩
  rcases h.2 with hn | ⟨g, cap, cur, rfl, hb, hg, rest⟩
  · exact .inl hn
  · exact .inr ⟨g, cap, cur, rfl, hb, by rw [hh g rfl]; exact hg, rest⟩

theorem RV.stp {g g' : G} {w w' : World} (s : Stp g w g' w') {v : Value} {p : PV} (h : RV g.I w v p) : RV g'.I w' v p := h.mono s.I s.cell

theorem RAV.stp {g g' : G} {w w' : World} (s : Stp g w g' w') {v : Value} {a : AV} (h : RAV g w v a) : RAV g' w' v a := by
  induction h with
  | c h => exact .c (h.stp s)
  | nil => exact .nil
  | own t sz xs h =>
    obtain ⟨h0, hs, e, cells, ho, hv, hb⟩ := h
    refine .own t sz xs ⟨h0, hs, e, cells, ownsRow_heap ho (fun b hb' => (s.τ t b (hb b hb').1).2.1), fun i j x p hx hp => ?_, fun b hb' => ?_⟩
    · obtain ⟨u, hu, hr⟩ := hv i j x p hx hp
      exact ⟨u, hu, hr.stp s⟩
    · obtain ⟨h1, h2⟩ := hb b hb'
      obtain ⟨h3, _, h4⟩ := s.τ t b h1
      exact ⟨h3, fun o => ⟨fun h => (h2 o).1 (h4 o h), fun h => s.I _ _ ((h2 o).2 h)⟩⟩
  | agg vs cs h _ ih => exact .agg vs cs h ih
  | tup vs cs h _ ih => exact .tup vs cs h ih
  | box id off b h => exact .box id off b (s.β _ _ h)
  | eptr b o off cs vs hc hv => exact .eptr b o off cs vs (fun j hj => ⟨s.I _ _ (hc j hj).1, (s.cell _ _ (hc j hj).1).trans (hc j hj).2⟩) (fun j p hp => (hv j p hp).stp s)
  | ptrs b o cap l hcap hc =>
    refine .ptrs b o cap l hcap (fun i p hp => ?_)
    obtain ⟨h1, bk, h2, h3⟩ := hc i p hp
    exact ⟨s.I _ _ h1, bk, s.β _ _ h2, (s.cell _ _ h1).trans h3⟩
  | pptr b o bk p hi hb hc => exact .pptr b o bk p (s.I _ _ hi) (s.β _ _ hb) ((s.cell _ _ hi).trans hc)
  | fn f vs cs h _ ih => exact .fn f vs cs h ih
  | nilptr => exact .nilptr
  | any => exact .any

mutual
/-- A value without the tokens that f names. -/
def AV.dem (f : Nat → Bool) : AV → AV
  | .own t sz xs => if f t then .c (.list sz xs) else .own t sz xs
  | .agg cs => .agg (AV.demL f cs)
  | .tup cs => .tup (AV.demL f cs)
  | .fn g cs => .fn g (AV.demL f cs)
  | a => a
def AV.demL (f : Nat → Bool) : List AV → List AV
  | [] => []
  | a :: as => AV.dem f a :: AV.demL f as
end

theorem AV.demL_eq (f : Nat → Bool) (l : List AV) : AV.demL f l = l.map (AV.dem f) := by
  induction l with
  | nil => rfl
  | cons a l ih => simp [AV.demL, ih]

def G.dem (g : G) (f : Nat → Bool) : G := { g with τ := fun t => if f t then none else g.τ t }

theorem ROwn.rv {g : G} {w : World} {v : Value} {t sz : Nat} {xs : List (List PV)} (h : ROwn g w v t sz xs) : RV g.I w v (.list sz xs) := by
  obtain ⟨h0, hs, e, cells, ho, hv, hb⟩ := h
  rcases ho.2 with ⟨rfl, hn⟩ | ⟨b, cap, cur, rfl, _, hg, hn, _, _, _⟩
  · obtain rfl : xs = [] := List.eq_nil_of_length_eq_zero hn
    exact .empty none 0 sz
  · have hc := ho.cells (g := b) rfl
    refine .row b 0 cap sz xs (fun j => cells.getD j undef) hs hn (fun j hj => ⟨((hb b rfl).2 _).2 (by omega), ?_⟩) (fun i j x p hx hp => ?_)
    · have hj' : j < cells.length := by have := ho.1; omega
      have := hc j _ (List.getElem?_eq_getElem hj')
      rw [Addr.add_lit] at this
      simpa [List.getD_eq_getElem?_getD, List.getElem?_eq_getElem hj'] using this
    · obtain ⟨u, hu, hr⟩ := hv i j x p hx hp
      simpa [List.getD_eq_getElem?_getD, hu] using hr

theorem RAV.dem {g : G} {w : World} {v : Value} {a : AV} (f : Nat → Bool) (h : RAV g w v a) : RAV (g.dem f) w v (a.dem f) := by
  induction h with
  | c h => exact .c h
  | nil => exact .nil
  | own t sz xs h =>
    simp only [AV.dem]
    split
    · exact .c h.rv
    · rename_i hf
      obtain ⟨h0, hs, e, cells, ho, hv, hb⟩ := h
      exact .own t sz xs ⟨h0, hs, e, cells, ho, hv, fun b hb' => ⟨by simp only [G.dem, hf]; exact (hb b hb').1, (hb b hb').2⟩⟩
  | agg vs cs h _ ih =>
    simp only [AV.dem, AV.demL_eq]
    refine .agg vs _ (by simpa using h) (fun i v a hv ha => ?_)
    simp only [List.getElem?_map, Option.map_eq_some_iff] at ha
    obtain ⟨a, ha, rfl⟩ := ha
    exact ih i v a hv ha
  | tup vs cs h _ ih =>
    simp only [AV.dem, AV.demL_eq]
    refine .tup vs _ (by simpa using h) (fun i v a hv ha => ?_)
    simp only [List.getElem?_map, Option.map_eq_some_iff] at ha
    obtain ⟨a, ha, rfl⟩ := ha
    exact ih i v a hv ha
  | box id off b h => exact .box id off b h
  | eptr b o off cs vs hc hv => exact .eptr b o off cs vs hc hv
  | ptrs b o cap l hcap hc => exact .ptrs b o cap l hcap hc
  | pptr b o bk p hi hb hc => exact .pptr b o bk p hi hb hc
  | fn k vs cs h _ ih =>
    simp only [AV.dem, AV.demL_eq]
    refine .fn k vs _ (by simpa using h) (fun i v a hv ha => ?_)
    simp only [List.getElem?_map, Option.map_eq_some_iff] at ha
    obtain ⟨a, ha, rfl⟩ := ha
    exact ih i v a hv ha
  | nilptr => exact .nilptr
  | any => exact .any

/-! ### Frames and the store -/
def Fr.get : Fr → Nat → AV
  | [], _ => .any
  | (i, a) :: r, d => if d = i then a else Fr.get r d
def Fr.dem (f : Nat → Bool) : Fr → Fr
  | [] => []
  | (i, a) :: r => (i, a.dem f) :: Fr.dem f r
def Fr.put (dst : Option Tmp) (a : AV) (fr : Fr) : Fr := match dst with | none => fr | some d => (d, a) :: fr
def St.dem (f : Nat → Bool) : St → St
  | [] => []
  | cs :: r => AV.demL f cs :: St.dem f r

theorem Fr.get_dem (f : Nat → Bool) (fr : Fr) (d : Nat) : (fr.dem f).get d = (fr.get d).dem f := by
  induction fr with
  | nil => rfl
  | cons x r ih =>
    obtain ⟨i, a⟩ := x
    simp only [Fr.dem, Fr.get]
    split
    · rfl
    · exact ih

theorem St.dem_eq (f : Nat → Bool) (σ : St) : σ.dem f = σ.map (·.map (AV.dem f)) := by
  induction σ with
  | nil => rfl
  | cons x r ih => simp [St.dem, AV.demL_eq, ih]

def RFr (g : G) (w : World) (tmps : Array Value) (fr : Fr) : Prop := ∀ d, RAV g w (tmps.getD d undef) (fr.get d)

def RCells (g : G) (w : World) (vs : Array Value) (cs : List AV) : Prop :=
  vs.size = cs.length ∧ ∀ (i : Nat) (v : Value) (a : AV), vs[i]? = some v → cs[i]? = some a → RAV g w v a

def RBox (g : G) (w : World) (b : Nat) (cs : List AV) : Prop := ∃ cur e, w.heap[b]? = some (.cells cur e (0, 0)) ∧ RCells g w cur cs

theorem RFr.stp {g g' : G} {w w' : World} (s : Stp g w g' w') {tmps : Array Value} {fr : Fr} (h : RFr g w tmps fr) : RFr g' w' tmps fr := fun d => (h d).stp s
theorem RFr.dem {g : G} {w : World} (f : Nat → Bool) {tmps : Array Value} {fr : Fr} (h : RFr g w tmps fr) : RFr (g.dem f) w tmps (fr.dem f) := fun d => by
  rw [Fr.get_dem]; exact (h d).dem f
theorem RCells.stp {g g' : G} {w w' : World} (s : Stp g w g' w') {vs : Array Value} {cs : List AV} (h : RCells g w vs cs) : RCells g' w' vs cs := ⟨h.1, fun i v a hv ha => (h.2 i v a hv ha).stp s⟩
theorem RCells.dem {g : G} {w : World} (f : Nat → Bool) {vs : Array Value} {cs : List AV} (h : RCells g w vs cs) : RCells (g.dem f) w vs (cs.map (AV.dem f)) := by
  refine ⟨by simpa using h.1, fun i v a hv ha => ?_⟩
  simp only [List.getElem?_map, Option.map_eq_some_iff] at ha
  obtain ⟨a, ha, rfl⟩ := ha
  exact (h.2 i v a hv ha).dem f

theorem RFr.put {g : G} {w : World} {tmps : Array Value} {fr : Fr} (h : RFr g w tmps fr) {dst : Option Tmp} {v : Value} {av : AV} (hd : ∀ d, dst = some d → d < tmps.size) (hv : RAV g w v av) :
    RFr g w (Act.put ⟨tmps, []⟩ dst v).tmps (fr.put dst av) := by
  cases dst with
  | none => exact h
  | some d =>
    intro k
    have hlt := hd d rfl
    simp only [Act.put, Fr.put, Fr.get]
    split
    · rename_i e
      subst e
      simpa [Array.getD_eq_getD_getElem?, Array.getElem?_setIfInBounds_self_of_lt hlt] using hv
    · rename_i e
      have := h k
      simpa [Array.getD_eq_getD_getElem?, Array.getElem?_setIfInBounds_ne (Ne.symm e)] using this

/-- Where a call began: the world, the settled cells, the variables that it was handed. -/
structure Ctx where
  w0 : World
  I0 : Nat → Nat → Prop
  β0 : List Nat

structure Inv (c : Ctx) (g : G) (w : World) (σ : St) : Prop where
  os : w.os = c.w0.os
  tape : w.tape = c.w0.tape
  output : w.output = c.w0.output
  size : c.w0.heap.size ≤ w.heap.size
  old : ∀ b, b < c.w0.heap.size → b ∉ c.β0 → w.heap[b]? = c.w0.heap[b]?
  Ile : ∀ b o, c.I0 b o → g.I b o
  Iold : ∀ b o, g.I b o → b < c.w0.heap.size → c.I0 b o
  Ilt : ∀ b o, g.I b o → b < w.heap.size
  βpre : g.β.take c.β0.length = c.β0
  βnew : ∀ b ∈ g.β.drop c.β0.length, c.w0.heap.size ≤ b
  βnd : g.β.Nodup
  βlen : g.β.length = σ.length
  βI : ∀ b ∈ g.β, ∀ o, ¬ g.I b o
  βlt : ∀ b ∈ g.β, b < w.heap.size
  τnew : ∀ t b, g.τ t = some b → c.w0.heap.size ≤ b ∧ b < w.heap.size ∧ b ∉ g.β
  τinj : ∀ t t' b, g.τ t = some b → g.τ t' = some b → t = t'
  store : ∀ (id : Nat) cs b, σ[id]? = some cs → g.β[id]? = some b → RBox g w b cs

theorem Inv.dem {c : Ctx} {g : G} {w : World} {σ : St} (f : Nat → Bool) (h : Inv c g w σ) : Inv c (g.dem f) w (σ.dem f) where
  os := h.os
  tape := h.tape
  output := h.output
  size := h.size
  old := h.old
  Ile := h.Ile
  Iold := h.Iold
  Ilt := h.Ilt
  βpre := h.βpre
  βnew := h.βnew
  βnd := h.βnd
  βlen := by rw [St.dem_eq, List.length_map]; exact h.βlen
  βI := h.βI
  βlt := h.βlt
  τnew := fun t b ht => h.τnew t b (by simp only [G.dem] at ht; split at ht <;> simp_all)
  τinj := fun t t' b ht ht' => h.τinj t t' b (by simp only [G.dem] at ht; split at ht <;> simp_all) (by simp only [G.dem] at ht'; split at ht' <;> simp_all)
  store := fun id cs b hs hb => by
    rw [St.dem_eq, List.getElem?_map, Option.map_eq_some_iff] at hs
    obtain ⟨cs, hs, rfl⟩ := hs
    obtain ⟨cur, e, hh, hc⟩ := h.store id cs b hs hb
    exact ⟨cur, e, hh, hc.dem f⟩

end Go.Proofs.Ytnhchphmmdgphaa.Abs

/- The rules of the operations: what an operation does to abstract values. -/
import Derived.Test.YtnhchphmmdgphaaAbs1
import Derived.Laws.StructEq
import Derived.Laws.Build
namespace Go.Proofs.Ytnhchphmmdgphaa.Abs
open Go
set_option linter.unusedVariables false
set_option linter.unusedSimpArgs false

/-! ### Types -/
def tySlice (P : Program) (t : TypeId) : Option (TypeId × Nat × Nat) :=
  match P.underlying t with
  | some (.slice e) => match P.info? e with
    | some i => match i.zero with
      | some z => if z.cells.size = i.size ∧ 0 < i.size then some (e, i.size, i.bytes) else none
      | none => none
    | none => none
  | _ => none
def tyVar (P : Program) (t : TypeId) : Option (Bool × Nat) :=
  match P.underlying t, P.info? t with
  | some (.struct _), some i => some (true, i.size)
  | some (.array _ _), some i => some (true, i.size)
  | some _, some i => some (false, i.size)
  | _, _ => none
def tyFields (P : Program) (t : TypeId) : Option (Array Field) := match P.underlying t with | some (.struct fs) => some fs | _ => none
def tyField (P : Program) (t : TypeId) (f : Nat) : Option (Nat × Bool × Nat) :=
  match tyFields P t with
  | some fs => match fs[f]? with
    | some x => match tyVar P x.type with
      | some (ag, n) => if n = 0 then none else some (x.offset, ag, n)
      | none => none
    | none => none
  | none => none
def tyZero (P : Program) (t : TypeId) : Option (List Value) := match P.info? t with
  | some i => (match i.zero with | some z => some z.cells.toList | _ => .none)
  | _ => .none
def tyInt (P : Program) (t : TypeId) : Option IntKind := match P.underlying t with | some (.int k) => some k | _ => none
def tyIs (P : Program) (t : TypeId) : Nat :=
  match P.underlying t with
  | some d => (match d with | .int _ => 1 | .string => 2 | .slice _ => 3 | .bool => 4 | .pointer _ => 5 | .struct _ => 6 | .array _ _ => 7 | _ => 8)
  | _ => 0

theorem tySlice_spec {P : Program} {t e : TypeId} {n b : Nat} (h : tySlice P t = some (e, n, b)) :
    P.underlying t = some (.slice e) ∧ ∃ i z, P.info? e = some i ∧ i.zero = some z ∧ z.cells.size = i.size ∧ 0 < i.size ∧ i.size = n ∧ i.bytes = b := by
  unfold tySlice at h
  cases hu : P.underlying t with
  | none => simp [hu] at h
  | some d =>
    cases d <;> simp only [hu] at h <;> try (cases h; done)
    rename_i e'
    cases hi : P.info? e' with
    | none => simp [hi] at h
    | some i =>
      simp only [hi] at h
      cases hz : i.zero with
      | none => simp [hz] at h
      | some z =>
        simp only [hz] at h
        split at h
        · rename_i hc
          simp only [Option.some.injEq, Prod.mk.injEq] at h
          obtain ⟨rfl, h2, h3⟩ := h
          exact ⟨rfl, i, z, hi, hz, hc.1, hc.2, h2, h3⟩
        · cases h

theorem tyVar_spec {P : Program} {t : TypeId} {ag : Bool} {n : Nat} (h : tyVar P t = some (ag, n)) (w : World) : (isAgg t).run P w = .ok ag w ∧ (sizeOf t).run P w = .ok n w := by
  unfold tyVar at h
  cases hu : P.underlying t with
  | none => simp [hu] at h
  | some d =>
    cases hi : P.info? t with
    | none => cases d <;> simp [hu, hi] at h
    | some i =>
      have h1 : (sizeOf t).run P w = .ok i.size w := by simp [sizeOf, typeInfo, hi]
      cases d <;> simp only [hu, hi, Option.some.injEq, Prod.mk.injEq] at h <;> obtain ⟨rfl, rfl⟩ := h <;> exact ⟨by simp [isAgg, run_underlying hu], h1⟩

/-! ### Values -/
def AV.flat : AV → Bool
  | .c _ | .nil | .own .. | .box .. | .fn .. | .nilptr | .ptrs _ => true
  | _ => false
def AV.cells : AV → List AV
  | .agg cs => cs
  | a => [a]
def AV.solid : AV → Bool
  | .agg cs => cs.all AV.flat
  | a => a.flat
def AV.ofFlat : Value → AV
  | .bool b => .c (.bool b)
  | .int k n => .c (.int k n)
  | .string s => .c (.str s.data.toList)
  | .slice none 0 0 => .nil
  | .pointer none => .nilptr
  | _ => .any
def AV.ofValue : Value → AV
  | .agg cs => .agg (cs.toList.map AV.ofFlat)
  | v => AV.ofFlat v
def AV.pv? : AV → Option PV
  | .c p => some p
  | .own _ sz xs => some (.list sz xs)
  | _ => none
def AV.pvs? : List AV → Option (List PV)
  | [] => some []
  | a :: as => match a.pv? with
    | some p => match AV.pvs? as with
      | some ps => some (p :: ps)
      | none => none
    | none => none

theorem RAV.ofFlat (g : G) (w : World) (v : Value) : RAV g w v (AV.ofFlat v) := by
  unfold AV.ofFlat
  split
  · exact .c (.bool _)
  · exact .c (.int _ _)
  · rename_i s
    have h : (Value.string s) = .string ⟨s.data.toList.toArray⟩ := by simp
    rw [h]
    exact .c (.str _)
  · exact .nil
  · exact .nilptr
  · exact .any

theorem RAV.ofValue (g : G) (w : World) (v : Value) : RAV g w v (AV.ofValue v) := by
  unfold AV.ofValue
  split
  · rename_i cs
    refine .agg cs _ (by simp) (fun i v a hv ha => ?_)
    simp only [List.getElem?_map, Array.getElem?_toList, hv, Option.map_some, Option.some.injEq] at ha
    subst ha
    exact RAV.ofFlat g w v
  · exact RAV.ofFlat g w _

theorem RAV.one {g : G} {w : World} {v : Value} {a : AV} (h : RAV g w v a) (hf : a.flat = true) : v.oneCell' = true := by
  cases h with
  | c h => exact h.one
  | own t sz xs h =>
    obtain ⟨_, _, e, cells, ho, _⟩ := h
    rcases ho.2 with ⟨rfl, _⟩ | ⟨_, _, _, rfl, _⟩ <;> rfl
  | agg => simp [AV.flat] at hf
  | tup => simp [AV.flat] at hf
  | any => simp [AV.flat] at hf
  | _ => rfl

theorem oneCell_cells {v : Value} (h : v.oneCell' = true) : v.cells = #[v] := by
  cases v <;> simp_all [Value.oneCell', Value.cells]

theorem RAV.cells {g : G} {w : World} {v : Value} {a : AV} (h : RAV g w v a) (hs : a.solid = true) : RCells g w v.cells a.cells ∧ ∀ x ∈ v.cells.toList, x.oneCell' = true := by
  by_cases hf : a.flat = true
  · have h1 := h.one hf
    rw [oneCell_cells h1]
    have hc : a.cells = [a] := by cases a <;> first | rfl | simp [AV.flat] at hf
    rw [hc]
    refine ⟨⟨rfl, fun i x y hx hy => ?_⟩, by simpa using h1⟩
    cases i with
    | zero => simp at hx hy; subst hx; subst hy; exact h
    | succ i => simp at hx
  · cases h with
    | agg vs cs h ha =>
      simp only [AV.solid] at hs
      refine ⟨⟨h, ha⟩, fun x hx => ?_⟩
      simp only [Value.cells] at hx
      obtain ⟨i, hi, rfl⟩ := List.getElem_of_mem hx
      have hi' : i < vs.size := by simpa using hi
      exact (ha i _ cs[i] (by simp) (by simp)).one (List.all_eq_true.1 hs _ (List.getElem_mem _))
    | _ => simp_all [AV.solid, AV.flat]

theorem RAV.pv {g : G} {w : World} {v : Value} {a : AV} {p : PV} (h : RAV g w v a) (hp : a.pv? = some p) : RV g.I w v p := by
  cases h with
  | c h => simp [AV.pv?] at hp; exact hp ▸ h
  | own t sz xs h => simp [AV.pv?] at hp; exact hp ▸ h.rv
  | _ => simp [AV.pv?] at hp

theorem pvs_length : ∀ {l : List AV} {ps : List PV}, AV.pvs? l = some ps → ps.length = l.length
  | [], ps, h => by simp [AV.pvs?] at h; subst h; rfl
  | a :: as, ps, h => by
    simp only [AV.pvs?] at h
    split at h
    · split at h
      · rename_i q hq
        simp only [Option.some.injEq] at h
        subst h
        simp [pvs_length hq]
      · cases h
    · cases h

theorem pvs_get : ∀ {l : List AV} {ps : List PV}, AV.pvs? l = some ps → ∀ (i : Nat) (p : PV), ps[i]? = some p → ∃ a, l[i]? = some a ∧ a.pv? = some p
  | [], ps, h, i, p, hp => by simp [AV.pvs?] at h; subst h; simp at hp
  | a :: as, ps, h, i, p, hp => by
    simp only [AV.pvs?] at h
    split at h
    · rename_i q hq
      split at h
      · rename_i qs hqs
        simp only [Option.some.injEq] at h
        subst h
        cases i with
        | zero => simp at hp; subst hp; exact ⟨a, rfl, hq⟩
        | succ i => simp at hp; exact pvs_get hqs i p hp
      · cases h
    · cases h

/-! ### Operands -/
def Fr.ev (fr : Fr) : Operand → AV
  | .tmp t => fr.get t
  | .const v => AV.ofValue v
  | .func f => .fn f []
  | .global _ => .any

theorem ev_sound {g : G} {w : World} {a : Act} {fr : Fr} (h : RFr g w a.tmps fr) (x : Operand) : RAV g w (a.eval x) (fr.ev x) := by
  cases x with
  | tmp t => exact h t
  | const v => exact RAV.ofValue g w v
  | func f => exact .fn f #[] [] rfl (fun i v a hv => by simp at hv)
  | global n => exact .any

/-! ### Operations on plain values -/
def abits (op : BinOp) (k : IntKind) (x y : Int) : Int :=
  let a := BitVec.ofInt k.bits x
  let b := BitVec.ofInt k.bits y
  match op with
  | .and => k.wrap ((a &&& b).toNat : Int)
  | .or => k.wrap ((a ||| b).toNat : Int)
  | .xor => k.wrap ((a ^^^ b).toNat : Int)
  | _ => k.wrap ((a &&& ~~~b).toNat : Int)

def abin (P : Program) (op : BinOp) (t : TypeId) (x y : AV) (K : AV → Prop) : Prop :=
  match x, y with
  | .c (.int k a), .c (.int k' b) =>
    match op with
    | .shl => 0 ≤ b ∧ K (.c (.int k (k.wrap (a * 2 ^ (min b.toNat k.bits)))))
    | .shr => 0 ≤ b ∧ K (.c (.int k (a.fdiv (2 ^ (min b.toNat k.bits)))))
    | .add => k = k' ∧ K (.c (.int k (k.wrap (a + b))))
    | .sub => k = k' ∧ K (.c (.int k (k.wrap (a - b))))
    | .mul => k = k' ∧ K (.c (.int k (k.wrap (a * b))))
    | .quo => k = k' ∧ b ≠ 0 ∧ K (.c (.int k (k.wrap (a.tdiv b))))
    | .rem => k = k' ∧ b ≠ 0 ∧ K (.c (.int k (a.tmod b)))
    | .eql => k = k' ∧ K (.c (.bool (decide (a = b))))
    | .neq => k = k' ∧ K (.c (.bool (!decide (a = b))))
    | .lss => k = k' ∧ K (.c (.bool (decide (a < b))))
    | .leq => k = k' ∧ K (.c (.bool (decide (a ≤ b))))
    | .gtr => k = k' ∧ K (.c (.bool (decide (b < a))))
    | .geq => k = k' ∧ K (.c (.bool (decide (b ≤ a))))
    | .and => k = k' ∧ K (.c (.int k (abits .and k a b)))
    | .or => k = k' ∧ K (.c (.int k (abits .or k a b)))
    | .xor => k = k' ∧ K (.c (.int k (abits .xor k a b)))
    | .andNot => k = k' ∧ K (.c (.int k (abits .andNot k a b)))
  | .c (.str a), .c (.str b) =>
    match op with
    | .add => a.length + b.length ≤ 9223372036854775807 ∧ K (.c (.str (a ++ b)))
    | .eql => K (.c (.bool (decide (a = b))))
    | .neq => K (.c (.bool (!decide (a = b))))
    | .lss => K (.c (.bool (Op.bytesLess a b)))
    | .leq => K (.c (.bool (Op.bytesLess a b || decide (a = b))))
    | .gtr => K (.c (.bool (!(Op.bytesLess a b || decide (a = b)))))
    | .geq => K (.c (.bool (!Op.bytesLess a b)))
    | _ => False
  | .c (.bool a), .c (.bool b) =>
    match op with
    | .eql => tyIs P t = 4 ∧ K (.c (.bool (a == b)))
    | .neq => tyIs P t = 4 ∧ K (.c (.bool (!(a == b))))
    | _ => False
  | .box _ _, .nilptr =>
    match op with
    | .eql => tyIs P t = 5 ∧ K (.c (.bool false))
    | .neq => tyIs P t = 5 ∧ K (.c (.bool true))
    | _ => False
  | .nilptr, .nilptr =>
    match op with
    | .eql => tyIs P t = 5 ∧ K (.c (.bool true))
    | .neq => tyIs P t = 5 ∧ K (.c (.bool false))
    | _ => False
  | _, _ => False

theorem tyIs4 {P : Program} {t : TypeId} (h : tyIs P t = 4) : P.underlying t = some .bool := by
  unfold tyIs at h
  cases hu : P.underlying t with
  | none => simp [hu] at h
  | some d => cases d <;> simp_all
theorem tyIs5 {P : Program} {t : TypeId} (h : tyIs P t = 5) : ∃ e, P.underlying t = some (.pointer e) := by
  unfold tyIs at h
  cases hu : P.underlying t with
  | none => simp [hu] at h
  | some d => cases d <;> simp_all
theorem equal_bool {P : Program} {t : TypeId} (h : P.underlying t = some .bool) (a b : Bool) (w : World) : (Op.equal t (.bool a) (.bool b)).run P w = .ok (a == b) w := by
  have H : ∀ d, (Op.equalIn (d + 1) t (.bool a) (.bool b)).run P w = .ok (a == b) w := fun d => by simp [Op.equalIn, run_underlying h]
  exact H 9999
theorem equal_ptr_nil {P : Program} {t e : TypeId} (h : P.underlying t = some (.pointer e)) (a : Addr) (w : World) : (Op.equal t (.pointer (some a)) (.pointer none)).run P w = .ok false w := by
  have H : ∀ d, (Op.equalIn (d + 1) t (.pointer (some a)) (.pointer none)).run P w = .ok false w := fun d => by simp [Op.equalIn, run_underlying h]
  exact H 9999
theorem equal_nil_nil {P : Program} {t e : TypeId} (h : P.underlying t = some (.pointer e)) (w : World) : (Op.equal t (.pointer none) (.pointer none)).run P w = .ok true w := by
  have H : ∀ d, (Op.equalIn (d + 1) t (.pointer none) (.pointer none)).run P w = .ok true w := fun d => by simp [Op.equalIn, run_underlying h]
  exact H 9999

theorem str_toList (s : List UInt8) : (⟨s.toArray⟩ : ByteArray).toList = s := by
  simp

theorem str_size (s : List UInt8) : (⟨s.toArray⟩ : ByteArray).size = s.length := by simp [ByteArray.size]

theorem str_append (a b : List UInt8) : (⟨a.toArray⟩ ++ ⟨b.toArray⟩ : ByteArray) = ⟨(a ++ b).toArray⟩ := by
  apply ByteArray.ext
  simp [ByteArray.data_append]

theorem abin_sound {P : Program} {op : BinOp} {t : TypeId} {x y : AV} {K : AV → Prop} (h : abin P op t x y K) {g : G} {w : World} {vx vy : Value} (hx : RAV g w vx x) (hy : RAV g w vy y) (ox oy : Operand) :
    ∃ v a, (do eqGuard op t ox oy vx vy; binOp op t vx vy : Sem Value).run P w = .ok v w ∧ RAV g w v a ∧ K a := by
  unfold abin at h
  split at h
  · rename_i k a k' b
    obtain ⟨⟩ := hx
    obtain ⟨⟩ := hy
    rename_i hx hy
    obtain ⟨⟩ := hx
    obtain ⟨⟩ := hy
    have hg : (eqGuard op t ox oy (.int k a) (.int k' b)).run P w = .ok () w := by cases op <;> simp [eqGuard]
    simp only [Sem.run_bind, hg, Result.andThen_ok]
    cases op
    case shl =>
      obtain ⟨h1, h2⟩ := h
      exact ⟨_, _, by simp [binOp, Op.shift, show ¬ b < 0 by omega], .c (.int _ _), h2⟩
    case shr =>
      obtain ⟨h1, h2⟩ := h
      exact ⟨_, _, by simp [binOp, Op.shift, show ¬ b < 0 by omega], .c (.int _ _), h2⟩
    case quo =>
      obtain ⟨rfl, h1, h2⟩ := h
      exact ⟨_, _, by simp [binOp, Op.intDiv, h1], .c (.int _ _), h2⟩
    case rem =>
      obtain ⟨rfl, h1, h2⟩ := h
      exact ⟨_, _, by simp [binOp, Op.intDiv, h1], .c (.int _ _), h2⟩
    case add => obtain ⟨rfl, h2⟩ := h; exact ⟨_, _, by simp [binOp, Op.intArith], .c (.int _ _), h2⟩
    case sub => obtain ⟨rfl, h2⟩ := h; exact ⟨_, _, by simp [binOp, Op.intArith], .c (.int _ _), h2⟩
    case mul => obtain ⟨rfl, h2⟩ := h; exact ⟨_, _, by simp [binOp, Op.intArith], .c (.int _ _), h2⟩
    case and => obtain ⟨rfl, h2⟩ := h; exact ⟨_, _, by simp [binOp, Op.intBits, abits], .c (.int _ _), h2⟩
    case or => obtain ⟨rfl, h2⟩ := h; exact ⟨_, _, by simp [binOp, Op.intBits, abits], .c (.int _ _), h2⟩
    case xor => obtain ⟨rfl, h2⟩ := h; exact ⟨_, _, by simp [binOp, Op.intBits, abits], .c (.int _ _), h2⟩
    case andNot => obtain ⟨rfl, h2⟩ := h; exact ⟨_, _, by simp [binOp, Op.intBits, abits], .c (.int _ _), h2⟩
    case eql => obtain ⟨rfl, h2⟩ := h; exact ⟨_, _, by simp [binOp, Op.intCmp]; rfl, .c (.bool _), h2⟩
    case neq => obtain ⟨rfl, h2⟩ := h; exact ⟨_, _, by simp [binOp, Op.intCmp]; rfl, .c (.bool _), h2⟩
    case lss => obtain ⟨rfl, h2⟩ := h; exact ⟨_, _, by simp [binOp, Op.intCmp], .c (.bool _), h2⟩
    case leq => obtain ⟨rfl, h2⟩ := h; exact ⟨_, _, by simp [binOp, Op.intCmp], .c (.bool _), h2⟩
    case gtr => obtain ⟨rfl, h2⟩ := h; exact ⟨_, _, by simp [binOp, Op.intCmp], .c (.bool _), h2⟩
    case geq => obtain ⟨rfl, h2⟩ := h; exact ⟨_, _, by simp [binOp, Op.intCmp], .c (.bool _), h2⟩
  · rename_i a b
    obtain ⟨⟩ := hx
    obtain ⟨⟩ := hy
    rename_i hx hy
    obtain ⟨⟩ := hx
    obtain ⟨⟩ := hy
    have hg : (eqGuard op t ox oy (.string ⟨a.toArray⟩) (.string ⟨b.toArray⟩)).run P w = .ok () w := by cases op <;> simp [eqGuard]
    simp only [Sem.run_bind, hg, Result.andThen_ok]
    have he : (a == b) = decide (a = b) := by rw [Bool.eq_iff_iff]; simp
    cases op <;> simp only at h
    case add =>
      obtain ⟨h1, h2⟩ := h
      refine ⟨_, _, ?_, .c (.str _), h2⟩
      have h3 : ¬ (9223372036854775807 < (a.length : Int) + (b.length : Int)) := by omega
      simp [binOp, Op.stringOp, str_size, h3, str_append, show IntKind.i64.max = 9223372036854775807 from rfl]
    all_goals exact ⟨_, _, by simp only [binOp, Op.stringOp, str_toList, he, Sem.run_pure], .c (.bool _), h⟩
  · rename_i a b
    obtain ⟨⟩ := hx
    obtain ⟨⟩ := hy
    rename_i hx hy
    obtain ⟨⟩ := hx
    obtain ⟨⟩ := hy
    cases op <;> simp only at h
    case eql =>
      obtain ⟨h1, h2⟩ := h
      exact ⟨_, _, by simp [eqGuard, binOp, equal_bool (tyIs4 h1)], .c (.bool _), h2⟩
    case neq =>
      obtain ⟨h1, h2⟩ := h
      exact ⟨_, _, by simp [eqGuard, binOp, equal_bool (tyIs4 h1)], .c (.bool _), h2⟩
  · obtain ⟨⟩ := hx
    obtain ⟨⟩ := hy
    cases op <;> simp only at h
    case eql =>
      obtain ⟨h1, h2⟩ := h
      obtain ⟨e, he⟩ := tyIs5 h1
      exact ⟨_, _, by simp [eqGuard, binOp, equal_ptr_nil he], .c (.bool _), h2⟩
    case neq =>
      obtain ⟨h1, h2⟩ := h
      obtain ⟨e, he⟩ := tyIs5 h1
      exact ⟨_, _, by simp [eqGuard, binOp, equal_ptr_nil he], .c (.bool _), h2⟩
  · obtain ⟨⟩ := hx
    obtain ⟨⟩ := hy
    cases op <;> simp only at h
    case eql =>
      obtain ⟨h1, h2⟩ := h
      obtain ⟨e, he⟩ := tyIs5 h1
      exact ⟨_, _, by simp [eqGuard, binOp, equal_nil_nil he], .c (.bool _), h2⟩
    case neq =>
      obtain ⟨h1, h2⟩ := h
      obtain ⟨e, he⟩ := tyIs5 h1
      exact ⟨_, _, by simp [eqGuard, binOp, equal_nil_nil he], .c (.bool _), h2⟩
  · exact h.elim

end Go.Proofs.Ytnhchphmmdgphaa.Abs

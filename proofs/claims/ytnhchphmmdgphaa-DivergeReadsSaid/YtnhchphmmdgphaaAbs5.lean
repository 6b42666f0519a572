/- What an operation does to abstract values, and that the machine's operation does it. -/
import Derived.Test.YtnhchphmmdgphaaAbs4
namespace Go.Proofs.Ytnhchphmmdgphaa.Abs
open Go
set_option linter.unusedVariables false
set_option linter.unusedSimpArgs false

/-- The tokens that an operation with this destination gives anew. -/
def tokOf (dst : Option Tmp) : Nat := match dst with | some d => 16 * d | _ => 0
def freshOf (dst : Option Tmp) (t : Nat) : Bool := match dst with | some d => t / 16 == d | _ => false

def tyPlace (P : Program) (t : TypeId) (f : Nat) : Option (Nat × Nat) :=
  match tyFields P t with
  | some fs => (match fs[f]? with
    | some x => (match P.info? x.type with | some i => some (x.offset, i.size) | _ => .none)
    | _ => .none)
  | _ => .none

def tyOk (P : Program) (t : TypeId) : Bool := match tyFields P t with | some fs => fs.toList.all (fun f => (P.info? f.type).isSome) | _ => false

def afill (P : Program) (t : TypeId) (ev : Operand → AV) : List AV → List (Nat × Operand) → Option (List AV)
  | cs, [] => some cs
  | cs, (i, x) :: r => match tyPlace P t i with
    | some (off, n) => if (ev x).solid = true ∧ (ev x).cells.length = n ∧ off + n ≤ cs.length then afill P t ev (cs.take off ++ (ev x).cells ++ cs.drop (off + n)) r else .none
    | _ => .none

/-- A cell's plain value; n: of what size a nil slice's elements are. -/
def AV.pvh? (n : Nat) : AV → Option PV
  | .c p => some p
  | .own _ sz xs => some (.list sz xs)
  | .nil => some (.list n [])
  | _ => none
def AV.pvhs? : List Nat → List AV → Option (List PV)
  | _, [] => some []
  | hs, a :: as => match a.pvh? (hs.headD 0) with
    | some p => match AV.pvhs? hs.tail as with
      | some ps => some (p :: ps)
      | none => none
    | none => none

def arows (hs : List Nat) (sz : Nat) (ev : Operand → AV) : Nat → List (Nat × Operand) → Option (List (List PV))
  | _, [] => some []
  | k, (i, x) :: r => if i = k then (match AV.pvhs? hs (ev x).cells with
    | some ps => if ps.length = sz then (match arows hs sz ev (k + 1) r with | some rs => some (ps :: rs) | _ => .none) else .none
    | _ => .none) else .none

def aptrs (ev : Operand → AV) : Nat → List (Nat × Operand) → Option (List (Nat × Nat))
  | _, [] => some []
  | k, (i, x) :: r => if i = k then (match ev x with
    | .box id off => (match aptrs ev (k + 1) r with | some rs => some ((id, off) :: rs) | _ => .none)
    | _ => .none) else .none

def aload (ag : Bool) (n : Nat) (x : AV) (σ : St) (K : AV → Prop) : Prop :=
  match x with
  | .box id off => (match σ[id]? with
    | some cs => if ag then off + n ≤ cs.length ∧ K (.agg ((cs.drop off).take n)) else (match cs[off]? with | some a => K a | _ => False)
    | _ => False)
  | .eptr cs off => if ag then off + n ≤ cs.length ∧ K (.agg (((cs.drop off).take n).map AV.c)) else (match cs[off]? with | some p => K (.c p) | _ => False)
  | .pptr p => ag = false ∧ K (.box p.1 p.2)
  | _ => False

def aappend (P : Program) (o : Oper) (t tx : TypeId) (s x : AV) (σ : St) (K : Option (Nat → Bool) → AV → St → Prop) : Prop :=
  match tySlice P t with
  | some (_, sz, bytes) =>
    let go (f : Nat → Bool) (xs : List (List PV)) : Prop :=
      match x with
      | .c (.list sz' ys) => sz' = sz ∧ tyIs P tx = 3 ∧ (∀ y ∈ ys, y.length = sz) ∧ (xs.length + ys.length) * bytes ≤ 140737488355328 ∧ K (some f) (.own (tokOf o.dst) sz (xs ++ ys)) (σ.dem f)
      | .own _ sz' ys => sz' = sz ∧ tyIs P tx = 3 ∧ (∀ y ∈ ys, y.length = sz) ∧ (xs.length + ys.length) * bytes ≤ 140737488355328 ∧ K (some f) (.own (tokOf o.dst) sz (xs ++ ys)) (σ.dem f)
      | .nil => tyIs P tx = 3 ∧ xs.length * bytes ≤ 140737488355328 ∧ K (some f) (.own (tokOf o.dst) sz xs) (σ.dem f)
      | .c (.str b) => sz = 1 ∧ tyIs P tx = 2 ∧ (xs.length + b.length) * bytes ≤ 140737488355328 ∧ K (some f) (.own (tokOf o.dst) 1 (xs ++ b.map brow)) (σ.dem f)
      | _ => False
    0 < bytes ∧ match s with
    | .nil => go (freshOf o.dst) []
    | .own t0 sz' xs => sz' = sz ∧ go (fun t => freshOf o.dst t || t == t0) xs
    | _ => False
  | _ => False

def abounds (lo hi : Option AV) (len : Nat) (k : Nat → Nat → Prop) : Prop :=
  match lo, hi with
  | .none, .none => k 0 len
  | some (.c (.int _ l)), .none => 0 ≤ l ∧ l ≤ len ∧ k l.toNat len
  | .none, some (.c (.int _ h)) => 0 ≤ h ∧ h ≤ len ∧ k 0 h.toNat
  | some (.c (.int _ l)), some (.c (.int _ h)) => 0 ≤ l ∧ l ≤ h ∧ h ≤ len ∧ k l.toNat h.toNat
  | _, _ => False

def aslice (P : Program) (t : TypeId) (x : AV) (lo hi : Option AV) (K : AV → Prop) : Prop :=
  match x with
  | .c (.str s) => tyIs P t = 2 ∧ abounds lo hi s.length fun l h => K (.c (.str ((s.take h).drop l)))
  | .c (.list sz xs) => (match tySlice P t with | some (_, n, _) => n = sz ∧ abounds lo hi xs.length fun l h => K (.c (.list sz ((xs.take h).drop l))) | _ => False)
  | .own _ sz xs => (match tySlice P t with | some (_, n, _) => n = sz ∧ abounds lo hi xs.length fun l h => K (.c (.list sz ((xs.take h).drop l))) | _ => False)
  | _ => False

def alen (k : Nat) (x : AV) (K : AV → Prop) : Prop :=
  match x with
  | .c (.list _ xs) => k = 3 ∧ K (.c (.int .i64 xs.length))
  | .own _ _ xs => k = 3 ∧ K (.c (.int .i64 xs.length))
  | .nil => k = 3 ∧ K (.c (.int .i64 0))
  | .c (.str s) => k = 2 ∧ K (.c (.int .i64 s.length))
  | .ptrs l => k = 3 ∧ K (.c (.int .i64 l.length))
  | _ => False

/-- An operation's rule. K is told which tokens are given up, the value, the store. -/
def aval (P : Program) (o : Oper) (ev : Operand → AV) (σ : St) (K : Option (Nat → Bool) → AV → St → Prop) : Prop :=
  match o.op with
  | .move x => K .none (ev x) σ
  | .assign x => K .none (ev x) σ
  | .pick x a b => (match ev x with
    | .c (.bool t) => (match ev a, ev b with
      | .c (.bool p), .c (.bool q) => K .none (.c (.bool (if t then p else q))) σ
      | va, vb => (t = true → K .none va σ) ∧ (t = false → K .none vb σ))
    | _ => False)
  | .alloc e => (match tyZero P e with | some z => K .none (.box σ.length 0) (σ ++ [z.map AV.ofFlat]) | _ => False)
  | .box e x => (ev x).solid = true ∧ K .none (.box σ.length 0) (σ ++ [(ev x).cells])
  | .build t parts => tyIs P t = 6 ∧ tyOk P t = true ∧ (match tyZero P t with
    | some z => (match afill P t ev (z.map AV.ofFlat) parts.toList with | some cs => K .none (.agg cs) σ | _ => False)
    | _ => False)
  | .buildSlice t len parts => (match tySlice P t with
    | some (_, sz, bytes) => parts.toList.length = len ∧ len * sz ≤ 1000000 ∧ ∃ hs : List Nat, (match arows hs sz ev 0 parts.toList with
      | some rows => K (some (freshOf o.dst)) (.own (tokOf o.dst) sz rows) (σ.dem (freshOf o.dst))
      | _ => (match aptrs ev 0 parts.toList with
        | some l => sz = 1 ∧ K .none (.ptrs l) σ
        | _ => False))
    | _ => False)
  | .load t x => (match tyVar P t with | some (ag, n) => aload ag n (ev x) σ fun v => K .none v σ | _ => False)
  | .store t x y => (match tyVar P t with
    | some (_, n) => (match ev x with
      | .box id off => (ev y).solid = true ∧ (ev y).cells.length = n ∧ (match σ[id]? with
        | some cs => off + n ≤ cs.length ∧ K .none .any (σ.set id (cs.take off ++ (ev y).cells ++ cs.drop (off + n)))
        | _ => False)
      | _ => False)
    | _ => False)
  | .nilCheck x => (match ev x with
    | .box i k => K .none (.box i k) σ
    | .eptr cs k => K .none (.eptr cs k) σ
    | .pptr p => K .none (.pptr p) σ
    | .fn f cs => K .none (.fn f cs) σ
    | _ => False)
  | .binOp op t x y _ => abin P op t (ev x) (ev y) fun v => K .none v σ
  | .unOp op _ x => (match op, ev x with
    | .not, .c (.bool b) => K .none (.c (.bool (!b))) σ
    | .neg, .c (.int k n) => K .none (.c (.int k (k.wrap (0 - n)))) σ
    | _, _ => False)
  | .convert s d x => (match ev x with
    | .c (.int _ n) => (match tyInt P d, tyInt P s with | some k, some _ => K .none (.c (.int k (k.wrap n))) σ | _, _ => False)
    | .c (.str b) => tyIs P s = 2 ∧ tyIs P d = 2 ∧ K .none (.c (.str b)) σ
    | .c (.list _ xs) => tyBytes P s ∧ tyIs P d = 2 ∧ ∃ l : List UInt8, xs = l.map brow ∧ K .none (.c (.str l)) σ
    | .own _ _ xs => tyBytes P s ∧ tyIs P d = 2 ∧ ∃ l : List UInt8, xs = l.map brow ∧ K .none (.c (.str l)) σ
    | .nil => tyBytes P s ∧ tyIs P d = 2 ∧ K .none (.c (.str [])) σ
    | _ => False)
  | .makeFunc (.func f) first captured => first = #[] ∧ K .none (.fn f (captured.toList.map ev)) σ
  | .slice t x lo hi .none => tyIs P t ≠ 7 ∧ aslice P t (ev x) (lo.map ev) (hi.map ev) fun v => K .none v σ
  | .fieldAddr t x f => (match tyField P t f with
    | some (k, _, _) => (match ev x with
      | .box id off => K .none (.box id (off + k)) σ
      | .eptr cs off => K .none (.eptr cs (off + k)) σ
      | _ => False)
    | _ => False)
  | .field t x f => (match tyField P t f with
    | some (k, ag, n) => (match ev x with
      | .agg cs => if ag then k + n ≤ cs.length ∧ K .none (.agg ((cs.drop k).take n)) σ else (match cs[k]? with | some a => K .none a σ | _ => False)
      | _ => False)
    | _ => False)
  | .indexAddr t x ix => (match tySlice P t with
    | some (_, sz, _) => (match ev ix with
      | .c (.int _ i) => (match ev x with
        | .c (.list sz' xs) => sz' = sz ∧ 0 ≤ i ∧ i < xs.length ∧ ∀ row, xs[i.toNat]? = some row → K .none (.eptr row 0) σ
        | .own _ sz' xs => sz' = sz ∧ 0 ≤ i ∧ i < xs.length ∧ ∀ row, xs[i.toNat]? = some row → K .none (.eptr row 0) σ
        | .ptrs l => sz = 1 ∧ 0 ≤ i ∧ i < l.length ∧ ∀ p, l[i.toNat]? = some p → K .none (.pptr p) σ
        | _ => False)
      | _ => False)
    | _ => False)
  | .index t x ix => tyIs P t = 2 ∧ (match ev x, ev ix with
    | .c (.str s), .c (.int _ i) => 0 ≤ i ∧ i < s.length ∧ ∀ b, s[i.toNat]? = some b → K .none (.c (.int .u8 b.toNat)) σ
    | _, _ => False)
  | .extract x i => (match ev x with | .tup vs => (match vs[i]? with | some a => K .none a σ | _ => False) | _ => False)
  | .call { callee := .builtin .len, args, argTypes } => (match args.toList, argTypes.toList with
    | [x], [t] => alen (tyIs P t) (ev x) fun v => K .none v σ
    | _, _ => False)
  | .call { callee := .builtin .append, args, argTypes } => (match args.toList, argTypes.toList with
    | [s, x], [t, tx] => aappend P o t tx (ev s) (ev x) σ K
    | _, _ => False)
  | .call { callee := .builtin .max, args, argTypes } => (match args.toList with
    | [x, y] => (match ev x, ev y with | .c (.int k a), .c (.int _ b) => K .none (.c (.int k (if b > a then b else a))) σ | _, _ => False)
    | _ => False)
  | .call { callee := .builtin .min, args, argTypes } => (match args.toList with
    | [x, y] => (match ev x, ev y with | .c (.int k a), .c (.int _ b) => K .none (.c (.int k (if b < a then b else a))) σ | _, _ => False)
    | _ => False)
  | _ => False
where tyBytes (P : Program) (s : TypeId) : Prop := match P.underlying s with
  | some (.slice e) => tyInt P e = some .u8
  | _ => False

end Go.Proofs.Ytnhchphmmdgphaa.Abs

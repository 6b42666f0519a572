/- Appending: onto nothing or onto a row of the call's own; what is appended is a slice's or a string's. -/
import Derived.Test.YtnhchphmmdgphaaAbs3
import Derived.Lib.AppendStr
namespace Go.Proofs.Ytnhchphmmdgphaa.Abs
open Go
set_option linter.unusedVariables false
set_option linter.unusedSimpArgs false

/-- What is appended: m elements, the cells news. -/
structure Src (P : Program) (w : World) (size : Nat) (x : Value) (m : Nat) (news : List Value) : Prop where
  len : ∀ W, (Builtin.lenOf x).run P W = .ok m W
  first : (Builtin.firstCells size m x).run P w = .ok news.toArray w
  drew : (Builtin.firstCells size m x).run P w.drew = .ok news.toArray w.drew
  length : news.length = m * size
  one : ∀ u ∈ news, u.oneCell' = true

theorem run_append_src {P : Program} (w : World) (t tx ty e e0 : TypeId) (d : TypeDesc) (i : TypeInfo) (z : Value) (size bytes : Nat) (ht : P.underlying t = some (.slice e)) (htx : P.underlying tx = some d) (hd : d = .string ∨ ∃ e1, d = .slice e1)
    (hi : P.info? e = some i) (hz : i.zero = some z) (hsize : i.size = size) (hby : i.bytes = bytes) (hzs : z.cells.size = size)
    (v x : Value) (n m : Nat) (xs news : List Value) (hown : w.ownsRow 0 e0 size v n xs) (hs : Src P w size x m news) (hbytes : (n + m) * bytes ≤ 140737488355328) (h63 : n + m ≤ 9223372036854775807) :
    ∃ v' w' e', (Builtin.append_ #[t, tx] ty #[v, x]).run P w = .ok v' w' ∧ w'.ownsRow 0 e' size v' (n + m) (xs ++ news) ∧ w'.os = w.os ∧ w'.tape = w.tape ∧ w'.output = w.output ∧
      ((v'.ownBlock = v.ownBlock ∧ w'.heap.size = w.heap.size ∧ ∀ k, some k ≠ v.ownBlock → w'.heap[k]? = w.heap[k]?) ∨
       (v'.ownBlock = some w.heap.size ∧ w'.heap.size = w.heap.size + 1 ∧ ∀ k, k < w.heap.size → w'.heap[k]? = w.heap[k]?)) := by
  subst hsize
  subst hby
  have hlen : (xs ++ news).length = (n + m) * i.size := by rw [List.length_append, hown.1, hs.length, Nat.add_mul]
  -- a new row
  have grown : ∀ (old : Nat) (hold : old < n + m) (v0 : Value), (∀ W, (Builtin.firstCells i.size n v0).run P W = .ok xs.toArray W ∨ True) →
      (w.drew.alloc (.cells (xs.toArray ++ news.toArray ++ Builtin.zeroCells z.cells (grownCap w (n + m) old e - (n + m))) e)).ownsRow 0 e i.size
        (.slice (some ⟨w.heap.size, 0, none⟩) (n + m) (grownCap w (n + m) old e)) (n + m) (xs ++ news) := by
    intro old hold v0 _
    have hge := grownCap_ge w (n + m) old e
    have hcm : grownCap w (n + m) old e ≤ maxLen := grownCap_le_maxLen w (n + m) old e (by unfold maxLen; omega)
    refine ⟨hlen, .inr ⟨w.heap.size, _, _, rfl, Nat.zero_le _, heap_alloc_new w.drew _, hge, hcm, ?_, ?_⟩⟩
    · simp only [Array.size_append, List.size_toArray, size_zeroCells, hzs, hown.1, hs.length, ← Nat.add_mul]
      congr 1
      omega
    · simp only [Array.toList_append, List.append_assoc]
      rw [← List.append_assoc, ← hlen]
      exact List.take_left
  have hnew : ∀ (o : Obj) k, k < w.heap.size → (w.drew.alloc o).heap[k]? = w.heap[k]? := fun o k hk => Go.RowKit.Below.heap_alloc w.drew o k hk
  rcases hown.2 with ⟨rfl, rfl⟩ | ⟨g, cap, cur, rfl, hbg, hg, hnc, hcm, hcs, htake⟩
  · have hx : xs = [] := List.eq_nil_of_length_eq_zero (by simpa using hown.1)
    subst hx
    by_cases hm : m = 0
    · subst hm
      have hn : news = [] := List.eq_nil_of_length_eq_zero (by simpa using hs.length)
      subst hn
      refine ⟨.slice none 0 0, w, e, ?_, World.ownsRow_nil w 0 e i.size, rfl, rfl, rfl, .inl ⟨rfl, rfl, fun _ _ => rfl⟩⟩
      have h1 := hs.len w
      have h2 := hs.first
      rcases hd with rfl | ⟨e1, rfl⟩ <;> simp [Builtin.append_, run_underlying ht, run_underlying htx, sizeOf, typeInfo, hi, h1, h2]
    · have h63' : ¬ (9223372036854775807 < (m : Int)) := by omega
      have h48' : ¬ (281474976710656 < Builtin.nextslicecap m 0 * i.bytes) := by rw [nextslicecap_zero (by omega)]; rw [Nat.zero_add] at hbytes; omega
      have hgr := grown 0 (by omega) (.slice none 0 0) (fun _ => .inr trivial)
      have h1 := hs.len w
      have h2 := hs.drew
      simp only [Nat.zero_add, List.nil_append, Array.empty_append, List.nil_append] at hgr ⊢
      refine ⟨_, _, e, ?_, hgr, rfl, rfl, rfl, .inr ⟨rfl, by simp, fun k hk => hnew _ k hk⟩⟩
      rcases hd with rfl | ⟨e1, rfl⟩ <;> simp [Builtin.append_, run_underlying ht, run_underlying htx, sizeOf, typeInfo, zeroValue, hi, hz, h1, hm, h63', h48', Question.forced, run_firstCells_none, h2, newRow, grownCap]
  · by_cases hroom : n + m ≤ cap
    · have hfit : n * i.size + news.length ≤ cur.size := by rw [hs.length, hcs, ← Nat.add_mul]; exact Nat.mul_le_mul_right _ hroom
      have h1 := hs.len w
      have h2 := hs.first
      have hst := run_storeCells_at P g (n * i.size) e0 news 0 cur w hg (by simpa using hfit) hs.one
      simp only [Nat.add_zero] at hst
      refine ⟨.slice (some ⟨g, 0, none⟩) (n + m) cap, w.setRow g (cur.toList.take (n * i.size) ++ news ++ cur.toList.drop (n * i.size + news.length)).toArray, e0, ?_,
        ⟨hlen, .inr ⟨g, cap, _, rfl, hbg, setRow_heap w g cur _ e0 _ hg, hroom, hcm, ?_, ?_⟩⟩, rfl, rfl, rfl, .inl ⟨rfl, by simp [World.setRow], fun k hk => setRow_other w g k _ (fun h => hk (by simp [Value.ownBlock, h]))⟩⟩
      · rcases hd with rfl | ⟨e1, rfl⟩ <;> simp [Builtin.append_, run_underlying ht, run_underlying htx, sizeOf, typeInfo, hi, h1, hroom, h2, Addr.add_lit, hst]
      · simp only [List.size_toArray, List.length_append, List.length_take, List.length_drop, Array.length_toList]
        omega
      · rw [htake, ← hlen]
        exact List.take_left
    · have hn : ¬ (n + m ≤ cap) := hroom
      have h63' : ¬ (9223372036854775807 < ((n : Int) + (m : Int))) := by omega
      have hfits : Builtin.nextslicecap (n + m) cap * i.bytes ≤ 281474976710656 := growslice_fits (by omega) hbytes
      have h48' : ¬ (281474976710656 < Builtin.nextslicecap (n + m) cap * i.bytes) := by omega
      have holds : ∀ j u, xs[j]? = some u → w.cell? ((⟨g, 0, none⟩ : Addr).add j) = some u := hown.cells (g := g) rfl
      have hfo := run_firstCells_some (P := P) w.drew i.size n ⟨g, 0, none⟩ n cap xs hown.1 (by simpa using holds)
      have h1 := hs.len w
      have h2 := hs.drew
      refine ⟨_, _, e, ?_, grown cap (by omega) (.slice none 0 0) (fun _ => .inr trivial), rfl, rfl, rfl, .inr ⟨rfl, by simp, fun k hk => hnew _ k hk⟩⟩
      rcases hd with rfl | ⟨e1, rfl⟩
      all_goals
        simp [Builtin.append_, run_underlying ht, run_underlying htx, sizeOf, typeInfo, zeroValue, hi, hz, h1, hn, h63', h48', Question.forced, hfo, h2, newRow, grownCap]
        congr 2
        apply Array.ext'
        simp [List.append_assoc]

/-- A slice's elements as what is appended. -/
theorem Src.list {P : Program} {w : World} {I : Nat → Nat → Prop} {v : Value} {sz : Nat} {ys : List (List PV)} (h : RV I w v (.list sz ys)) : ∃ news, Src P w sz v ys.length news ∧
    ∀ (i j : Nat) (x : List PV) (p : PV), ys[i]? = some x → x[j]? = some p → ∃ u, news[i * sz + j]? = some u ∧ RV I w u p := by
  cases h with
  | empty A cap sz =>
    refine ⟨[], ⟨fun W => rfl, ?_, ?_, by simp, by simp⟩, by simp⟩
    · cases A <;> simp [Builtin.firstCells, loadCells, loadCellsFrom]
    · cases A <;> simp [Builtin.firstCells, loadCells, loadCellsFrom]
  | row b o cap sz xs vs hs hcap hc hv =>
    have hl : ((List.range (ys.length * sz)).map vs).length = ys.length * sz := by simp
    have hcell : ∀ j u, ((List.range (ys.length * sz)).map vs)[j]? = some u → w.cell? ((⟨b, o, none⟩ : Addr).add j) = some u := by
      intro j u hu
      rw [List.getElem?_map, Option.map_eq_some_iff] at hu
      obtain ⟨k, hk, rfl⟩ := hu
      have hlt := (List.getElem?_eq_some_iff.1 hk).1
      have hkj := (List.getElem?_eq_some_iff.1 hk).2
      simp at hlt hkj
      subst hkj
      rw [addr_add]
      exact (hc j hlt).2
    have key : ∀ (i j : Nat) (x : List PV) (p : PV), ys[i]? = some x → x[j]? = some p → ∃ u, ((List.range (ys.length * sz)).map vs)[i * sz + j]? = some u ∧ RV I w u p := by
      intro i j x p hx hp
      have hi := (List.getElem?_eq_some_iff.1 hx).1
      have hj := (List.getElem?_eq_some_iff.1 hp).1
      have hlx := hs x (List.mem_of_getElem? hx)
      have : i * sz + j < ys.length * sz := by
        have : (i + 1) * sz ≤ ys.length * sz := Nat.mul_le_mul_right _ hi
        rw [Nat.add_mul] at this
        omega
      exact ⟨vs (i * sz + j), by simp [this], hv i j x p hx hp⟩
    refine ⟨_, ⟨fun W => rfl, run_firstCells_some w sz _ _ _ _ _ hl hcell, run_firstCells_some w.drew sz _ _ _ _ _ hl (by simpa using hcell), hl, fun u hu => ?_⟩, key⟩
    obtain ⟨k, hk, rfl⟩ := List.mem_map.1 hu
    have hk' : k < ys.length * sz := by simpa using hk
    have hsz : 0 < sz := by
      rcases Nat.eq_zero_or_pos sz with h0 | h0
      · subst h0
        simp at hk'
      · exact h0
    have h1 : k / sz < ys.length := (Nat.div_lt_iff_lt_mul hsz).2 hk'
    have hlx := hs _ (List.getElem_mem h1)
    have h2 : k % sz < (ys[k / sz]).length := by rw [hlx]; exact Nat.mod_lt _ hsz
    have := hv (k / sz) (k % sz) _ _ (List.getElem?_eq_getElem h1) (List.getElem?_eq_getElem h2)
    rw [Nat.div_add_mod'] at this
    exact this.one

def brow (b : UInt8) : List PV := [.int .u8 b.toNat]

/-- A string's bytes. -/
theorem Src.str {P : Program} {w : World} {I : Nat → Nat → Prop} (s : List UInt8) : ∃ news, Src P w 1 (.string ⟨s.toArray⟩) s.length news ∧
    ∀ (i j : Nat) (x : List PV) (p : PV), (s.map brow)[i]? = some x → x[j]? = some p → ∃ u, news[i * 1 + j]? = some u ∧ RV I w u p := by
  refine ⟨Lib.strCells ⟨s.toArray⟩, ⟨fun W => by simp [Builtin.lenOf, str_size], ?_, ?_, by simp [Lib.strCells], Lib.strCells_oneCell _⟩, fun i j x p hx hp => ?_⟩
  · have := Lib.run_firstCells_string (P := P) w 1 ⟨s.toArray⟩
    rwa [str_size] at this
  · have := Lib.run_firstCells_string (P := P) w.drew 1 ⟨s.toArray⟩
    rwa [str_size] at this
  · rw [List.getElem?_map, Option.map_eq_some_iff] at hx
    obtain ⟨b, hb, rfl⟩ := hx
    cases j with
    | zero =>
      simp [brow] at hp
      subst hp
      exact ⟨_, by simp [Lib.strCells, hb], .int _ _⟩
    | succ j => simp [brow] at hp

/-- An append, as the rules tell it: the old token (if any) and the new one's range are given up, the new row is the new token's. -/
theorem append_sound {P : Program} {c : Ctx} {g : G} {w : World} {σ : St} (hi : Inv c g w σ) (f : Nat → Bool) (T : Nat) (hT : f T = true)
    {t tx ty e : TypeId} {d : TypeDesc} {sz bytes : Nat} (ht : tySlice P t = some (e, sz, bytes)) (htx : P.underlying tx = some d) (hd : d = .string ∨ ∃ e1, d = .slice e1)
    {v x : Value} {xs ys : List (List PV)} (hv : (v = .slice none 0 0 ∧ xs = []) ∨ ∃ t0, f t0 = true ∧ ROwn g w v t0 sz xs) {news : List Value} (hs : Src P w sz x ys.length news)
    (hn : ∀ (i j : Nat) (x : List PV) (p : PV), ys[i]? = some x → x[j]? = some p → ∃ u, news[i * sz + j]? = some u ∧ RV g.I w u p) (hrows : ∀ y ∈ ys, y.length = sz) (hb : (xs.length + ys.length) * bytes ≤ 140737488355328) (h63 : xs.length + ys.length ≤ 9223372036854775807) :
    ∃ v' w' g', (Builtin.append_ #[t, tx] ty #[v, x]).run P w = .ok v' w' ∧ Inv c g' w' (σ.dem f) ∧ Stp (g.dem f) w g' w' ∧ RAV g' w' v' (.own T sz (xs ++ ys)) := by
  obtain ⟨hu, i, z, hinf, hz, hzs, hpos, hsz, hby⟩ := tySlice_spec ht
  have hpos' : 0 < sz := hsz ▸ hpos
  -- the row
  obtain ⟨e0, cells, hown, hcells, hblk, hxrows, ho⟩ : ∃ e0 cells, w.ownsRow 0 e0 sz v xs.length cells ∧
      (∀ (i j : Nat) (x : List PV) (p : PV), xs[i]? = some x → x[j]? = some p → ∃ u, cells[i * sz + j]? = some u ∧ RV g.I w u p) ∧
      (∀ b, v.ownBlock = some b → (∀ o, g.I b o ↔ o < xs.length * sz)) ∧ (∀ y ∈ xs, y.length = sz) ∧ (∀ b, v.ownBlock = some b → ∃ t0, f t0 = true ∧ g.τ t0 = some b) := by
    rcases hv with ⟨rfl, rfl⟩ | ⟨t0, hf, h0, hrow, e0, cells, hown, hc, hb⟩
    · exact ⟨e, [], World.ownsRow_nil w 0 e sz, by simp, by simp [Value.ownBlock], by simp, by simp [Value.ownBlock]⟩
    · exact ⟨e0, cells, hown, hc, fun b hb' => (hb b hb').2, hrow, fun b hb' => ⟨t0, hf, (hb b hb').1⟩⟩
  obtain ⟨v', w', e', hrun, hown', hos, htape, hout, halt⟩ := run_append_src w t tx ty e e0 d i z sz bytes hu htx hd hinf hz hsz hby (hsz ▸ hzs) v x xs.length ys.length cells news hown hs hb h63
  have hlt : ∀ b, v.ownBlock = some b → b < w.heap.size := fun b hb => (hown.lt b hb).2
  -- what is settled stays
  have hsame : ∀ b o, g.I b o → w'.cell? ⟨b, o, none⟩ = w.cell? ⟨b, o, none⟩ := by
    intro b o hI
    have hbl := hi.Ilt b o hI
    rcases halt with ⟨hbo, hsz', hk⟩ | ⟨_, _, hk⟩
    · by_cases hvb : v.ownBlock = some b
      · have hoo := (hblk b hvb o).1 hI
        have h1 := hown'.cells (g := b) (hbo.trans hvb)
        have h2 := hown.cells (g := b) hvb
        have hol : o < cells.length := by rw [hown.1]; exact hoo
        have e1 := h1 o cells[o] (by rw [List.getElem?_append_left hol, List.getElem?_eq_getElem hol])
        have e2 := h2 o cells[o] (List.getElem?_eq_getElem hol)
        rw [Addr.add_lit, Nat.zero_add] at e1 e2
        rw [e1, e2]
      · simp [World.cell?, hk b (fun h => hvb h.symm)]
    · simp [World.cell?, hk b hbl]
  have hsizele : w.heap.size ≤ w'.heap.size := by rcases halt with ⟨_, h, _⟩ | ⟨_, h, _⟩ <;> omega
  have hother : ∀ k, k < w.heap.size → v.ownBlock ≠ some k → w'.heap[k]? = w.heap[k]? := by
    intro k hk hne
    rcases halt with ⟨_, _, h⟩ | ⟨_, _, h⟩
    · exact h k (fun h => hne h.symm)
    · exact h k hk
  have hv'blk : ∀ b, v'.ownBlock = some b → (v.ownBlock = some b ∨ b = w.heap.size) ∧ b < w'.heap.size := by
    intro b hb
    refine ⟨?_, (hown'.lt b hb).2⟩
    rcases halt with ⟨h, _, _⟩ | ⟨h, _, _⟩
    · exact .inl (h ▸ hb)
    · right; rw [h] at hb; exact (Option.some.inj hb).symm
  -- the new ghosts
  let I' : Nat → Nat → Prop := fun b o => g.I b o ∨ (v'.ownBlock = some b ∧ o < (xs.length + ys.length) * sz)
  let g' : G := { I := I', β := g.β, τ := fun t => if t = T then v'.ownBlock else if f t then none else g.τ t }
  have hfresh : ∀ t b, g.τ t = some b → f t = false → v.ownBlock ≠ some b := by
    intro t b ht hft hvb
    obtain ⟨t0, hf0, ht0⟩ := ho b hvb
    have := hi.τinj t t0 b ht ht0
    subst this
    rw [hft] at hf0
    cases hf0
  have st : Stp (g.dem f) w g' w' := by
    refine ⟨fun b o h => .inl h, hsame, fun _ _ h => h, fun t b htb => ?_⟩
    simp only [G.dem] at htb
    split at htb
    · cases htb
    · rename_i hft
      have hft : f t = false := by simpa using hft
      have hne := hfresh t b htb hft
      have hbl := (hi.τnew t b htb).2.1
      refine ⟨?_, hother b hbl hne, fun o h => ?_⟩
      · show (if t = T then v'.ownBlock else if f t then none else g.τ t) = some b
        rw [if_neg (by rintro rfl; rw [hT] at hft; cases hft), if_neg (by simp [hft])]
        exact htb
      · rcases h with h | ⟨h, _⟩
        · exact h
        · rcases (hv'blk b h).1 with h1 | h1
          · exact absurd h1 hne
          · omega
  have hβne : ∀ b ∈ g.β, v.ownBlock ≠ some b := by
    intro b hb hvb
    obtain ⟨t0, _, ht0⟩ := ho b hvb
    exact (hi.τnew t0 b ht0).2.2 hb
  have hv0 : ∀ b, v.ownBlock = some b → c.w0.heap.size ≤ b := by
    intro b hvb
    obtain ⟨t0, _, ht0⟩ := ho b hvb
    exact (hi.τnew t0 b ht0).1
  have hnewge : ∀ b, v'.ownBlock = some b → c.w0.heap.size ≤ b := by
    intro b hb
    rcases (hv'blk b hb).1 with h | rfl
    · exact hv0 b h
    · exact hi.size
  have hβ' : ∀ b ∈ g.β, v'.ownBlock ≠ some b := by
    intro b hb hvb
    rcases (hv'blk b hvb).1 with h | h
    · exact hβne b hb h
    · have := hi.βlt b hb
      omega
  have inv : Inv c g' w' (σ.dem f) := by
    refine ⟨hos.trans hi.os, htape.trans hi.tape, hout.trans hi.output, Nat.le_trans hi.size hsizele, fun b hb hn => ?_, fun b o h => .inl (hi.Ile b o h), fun b o h hb => ?_, fun b o h => ?_, hi.βpre, hi.βnew, hi.βnd, ?_, fun b hb o h => ?_,
      fun b hb => Nat.lt_of_lt_of_le (hi.βlt b hb) hsizele, fun t b htb => ?_, fun t t' b h1 h2 => ?_, fun id cs b hs' hb' => ?_⟩
    · rw [hother b (Nat.lt_of_lt_of_le hb hi.size) (fun h => by have := hv0 b h; omega)]
      exact hi.old b hb hn
    · rcases h with h | ⟨h, _⟩
      · exact hi.Iold b o h hb
      · have := hnewge b h
        omega
    · rcases h with h | ⟨h, _⟩
      · exact Nat.lt_of_lt_of_le (hi.Ilt b o h) hsizele
      · exact (hv'blk b h).2
    · rw [St.dem_eq, List.length_map]
      exact hi.βlen
    · rcases h with h | ⟨h, _⟩
      · exact hi.βI b hb o h
      · exact hβ' b hb h
    · change (if t = T then v'.ownBlock else if f t then none else g.τ t) = some b at htb
      split at htb
      · exact ⟨hnewge b htb, (hv'blk b htb).2, fun hb => hβ' b hb htb⟩
      · split at htb
        · cases htb
        · obtain ⟨h1, h2, h3⟩ := hi.τnew t b htb
          exact ⟨h1, Nat.lt_of_lt_of_le h2 hsizele, h3⟩
    · change (if t = T then v'.ownBlock else if f t then none else g.τ t) = some b at h1
      change (if t' = T then v'.ownBlock else if f t' then none else g.τ t') = some b at h2
      have key : ∀ s, f s = false → g.τ s = some b → v'.ownBlock ≠ some b := by
        intro s hfs hs' hvb
        rcases (hv'blk b hvb).1 with h | h
        · exact hfresh s b hs' hfs h
        · have := (hi.τnew s b hs').2.1
          omega
      split at h1
      · rename_i e1
        split at h2
        · rename_i e2
          rw [e1, e2]
        · split at h2
          · cases h2
          · rename_i hf2
            exact absurd h1 (key t' (by simpa using hf2) h2)
      · split at h1
        · cases h1
        · rename_i hf1
          split at h2
          · exact absurd h2 (key t (by simpa using hf1) h1)
          · split at h2
            · cases h2
            · exact hi.τinj t t' b h1 h2
    · obtain ⟨cur, e1, hh, hr⟩ := (hi.dem f).store id cs b hs' hb'
      have hmem : b ∈ g.β := List.mem_of_getElem? hb'
      exact ⟨cur, e1, (hother b (hi.βlt b hmem) (hβne b hmem)).trans hh, hr.stp st⟩
  refine ⟨v', w', g', hrun, inv, st, .own T sz (xs ++ ys) ⟨hpos', ?_, e', cells ++ news, by rw [List.length_append]; exact hown', ?_, fun b hb => ⟨?_, fun o => ?_⟩⟩⟩
  · intro y hy
    rcases List.mem_append.1 hy with h | h
    · exact hxrows y h
    · exact hrows y h
  · intro i j y p hy hp
    have hcl : cells.length = xs.length * sz := hown.1
    by_cases hil : i < xs.length
    · rw [List.getElem?_append_left hil] at hy
      obtain ⟨u, hu', hr⟩ := hcells i j y p hy hp
      have hj := (List.getElem?_eq_some_iff.1 hp).1
      have hlx := hxrows y (List.mem_of_getElem? hy)
      refine ⟨u, ?_, hr.mono (fun _ _ h => .inl h) hsame⟩
      rw [List.getElem?_append_left (List.getElem?_eq_some_iff.1 hu').1]
      exact hu'
    · rw [List.getElem?_append_right (by omega)] at hy
      obtain ⟨u, hu', hr⟩ := hn _ j y p hy hp
      refine ⟨u, ?_, hr.mono (fun _ _ h => .inl h) hsame⟩
      have hge : xs.length * sz ≤ i * sz := Nat.mul_le_mul_right _ (by omega)
      rw [List.getElem?_append_right (by omega), hcl, ← hu']
      congr 1
      rw [Nat.sub_mul]
      omega
  · show (if T = T then v'.ownBlock else _) = some b
    simp [hb]
  · rw [List.length_append]
    constructor
    · rintro (h | ⟨_, h⟩)
      · rcases (hv'blk b hb).1 with h1 | h1
        · have := (hblk b h1 o).1 h
          rw [Nat.add_mul]
          omega
        · have := hi.Ilt b o h
          omega
      · exact h
    · intro h
      exact .inr ⟨hb, h⟩

end Go.Proofs.Ytnhchphmmdgphaa.Abs

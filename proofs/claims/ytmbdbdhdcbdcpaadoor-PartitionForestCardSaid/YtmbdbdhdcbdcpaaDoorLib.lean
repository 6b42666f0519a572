/- The listed variables, and calls into the library that are walked here. -/
import Derived.Test.YtmbdbdhdcbdcpaaDoorShelf
import Derived.Test.YtmbdbdhdcbdcpaaDoorAbs29
import Derived.Lib.AtoiErrMem
import Derived.Lib.AppendIntMem
import Derived.Lib.ItoaLen
import Derived.Lib.LastIndexByte
import Derived.OwnWalk
namespace Go.Proofs.YtmbdbdhdcbdcpaaDoor
open Go Abs RowKit
set_option maxRecDepth 100000
set_option linter.unusedVariables false
set_option linter.unusedSimpArgs false

theorem gSyn : Tryd.prog.globalNamed "strconv.ErrSyntax" = some 1 := by kernel_rfl
theorem gRng : Tryd.prog.globalNamed "strconv.ErrRange" = some 2 := by kernel_rfl
theorem gPow : Tryd.prog.globalNamed "internal/strconv.uint64pow10" = some 3 := by kernel_rfl
theorem glo_syn {I : Nat → Nat → Prop} {w : World} (h : Glo I w) : ∃ t p, w.var? Tryd.prog "strconv.ErrSyntax" = some #[.iface t p] := by
  obtain ⟨cs, h1, t, p, rfl⟩ := glo_var h (.head _) gSyn
  exact ⟨t, p, h1⟩
theorem glo_rng {I : Nat → Nat → Prop} {w : World} (h : Glo I w) : ∃ t p, w.var? Tryd.prog "strconv.ErrRange" = some #[.iface t p] := by
  obtain ⟨cs, h1, t, p, rfl⟩ := glo_var h (.tail _ (.head _)) gRng
  exact ⟨t, p, h1⟩
theorem glo_tab {I : Nat → Nat → Prop} {w : World} (h : Glo I w) : Lib.TabIs Tryd.prog w "internal/strconv.uint64pow10" .u64 Lib.pow10Tab := by
  obtain ⟨cs, h1, h2⟩ := glo_var h (.tail _ (.tail _ (.head _))) gPow
  unfold Lib.TabIs
  rw [h1, h2]
  rfl
theorem glo_below {I : Nat → Nat → Prop} {w w' : World} (hI : ∀ b o, I b o → b < w.heap.size) (h : Glo I w) (hb : Below w.heap.size w w') : Glo I w' :=
  h.mono (fun _ _ h => h) fun b o ho => by simp [World.cell?, hb.block b (hI b o ho)]
theorem rav_pair {g : G} {w : World} {u v : Value} {a b : AV} (h1 : RAV g w u a) (h2 : RAV g w v b) : RAV g w (.tuple #[u, v]) (.tup [a, b]) :=
  .tup _ _ rfl fun i x y hx hy => by
    match i with
    | 0 => simp at hx hy; subst hx hy; exact h1
    | 1 => simp at hx hy; subst hx hy; exact h2
    | i + 2 => simp at hx

theorem rav_trip {g : G} {w : World} {u v x : Value} {a b c : AV} (h1 : RAV g w u a) (h2 : RAV g w v b) (h3 : RAV g w x c) : RAV g w (.tuple #[u, v, x]) (.tup [a, b, c]) :=
  .tup _ _ rfl fun i y z hy hz => by
    match i with
    | 0 => simp at hy hz; subst hy hz; exact h1
    | 1 => simp at hy hz; subst hy hz; exact h2
    | 2 => simp at hy hz; subst hy hz; exact h3
    | i + 3 => simp at hy
theorem atoi_i64 {l : List UInt8} {v : Int} (h : Lib.atoiAll l = .ok v) : -9223372036854775808 ≤ v ∧ v ≤ 9223372036854775807 := by
  unfold Lib.atoiAll at h
  split at h
  · cases h
  · simp only at h
    split at h
    · cases h
    · cases h
    · split at h
      · cases h
      · split at h
        · cases h
        · cases h
          split <;> omega
def lastAt (s : List UInt8) : Int := Lib.lastIndexByte ⟨s.toArray⟩ 35
def pnameS (q : List UInt8) (i : Int) : List UInt8 := if 0 ≤ i ∧ i < 16 then (q ++ [35]) ++ Lib.itoa i else []
def splitPS (s : List UInt8) : List UInt8 × Int × Bool := if lastAt s < 0 then ([], 0, false) else match Lib.atoiAll (s.drop ((lastAt s).toNat + 1)) with
  | .ok v => if pnameS (s.take (lastAt s).toNat) v = s then (s.take (lastAt s).toNat, v, true) else ([], 0, false)
  | _ => ([], 0, false)
theorem known_yes {i : Int} (h0 : 0 ≤ i) (h1 : i < 16) (w : World) : Calls Tryd.prog 35 #[.int .i64 i] w fun e w' => e = .returned (.bool true) ∧ w' = w := by
  go_enter Tryd.func35, Tryd.ntmps35
  go_wp2
  all_goals first
    | (go_ret; exact ⟨rfl, rfl⟩)
    | (go_ret; refine ⟨?_, rfl⟩; show Ending.returned (Value.bool (decide (i < 16))) = _; rw [decide_eq_true h1])
    | (exfalso; omega)
theorem known_no {i : Int} (h : ¬ (0 ≤ i ∧ i < 16)) (w : World) : Calls Tryd.prog 35 #[.int .i64 i] w fun e w' => e = .returned (.bool false) ∧ w' = w := by
  go_enter Tryd.func35, Tryd.ntmps35
  go_wp2
  all_goals first
    | (go_ret; refine ⟨?_, rfl⟩; show Ending.returned (Value.bool (decide (i < 16))) = _; rw [decide_eq_false (by omega)])
    | (go_ret; exact ⟨rfl, rfl⟩)
theorem pname_calls {q : List UInt8} (hq : q.length ≤ 140737488355328) (i : Int) (h0 : -9223372036854775808 ≤ i) (h1 : i ≤ 9223372036854775807) (w : World) (htab : Lib.TabIs Tryd.prog w "internal/strconv.uint64pow10" .u64 Lib.pow10Tab) :
    Calls Tryd.prog 27 #[.string ⟨q.toArray⟩, .int .i64 i] w fun e w' => e = .returned (.string ⟨(pnameS q i).toArray⟩) ∧ Below w.heap.size w w' := by
  have hsz : (⟨q.toArray⟩ : ByteArray).size = q.length := rfl
  have hlen := Lib.itoa_length_le i h0 h1
  unfold pnameS
  by_cases hk : 0 ≤ i ∧ i < 16
  · rw [if_pos hk]
    go_enter Tryd.func27, Tryd.ntmps27
    go_wp2_with (first
      | (go_at_call 35; refine (known_yes hk.1 hk.2 _).mono ?_; rintro e w' ⟨rfl, hw'⟩; obtain rfl := hw'.symm)
      | (go_at_call 53; refine (Tryd.strconv_Itoa i h0 h1 _ htab).mono ?_; rintro e W1 ⟨rfl, k, os, rfl⟩))
    all_goals
      go_ret
      refine ⟨?_, Lib.below_grow _ _ (Nat.le_refl _) k os⟩
      show Ending.returned (Value.string (({ data := q.toArray } ++ { data := #[35] } : ByteArray) ++ { data := (Lib.itoa i).toArray })) = _
      rw [show (({ data := q.toArray } ++ { data := #[35] } : ByteArray) ++ { data := (Lib.itoa i).toArray }) = { data := ((q ++ [35]) ++ Lib.itoa i).toArray } from ByteArray.ext (by simp)]
  · rw [if_neg hk]
    go_enter Tryd.func27, Tryd.ntmps27
    go_wp2_with (go_at_call 35; refine (known_no hk _).mono ?_; rintro e w' ⟨rfl, hw'⟩; obtain rfl := hw'.symm)
    all_goals (go_ret; exact ⟨rfl, Below.refl _ _⟩)
theorem split_calls {s : List UInt8} (hl : s.length ≤ 140737488355328) {g : G} (w : World) (hI : ∀ b o, g.I b o → b < w.heap.size) (hg : Glo g.I w) :
    Calls Tryd.prog 33 #[.string ⟨s.toArray⟩] w fun e w' => e = .returned (.tuple #[.string ⟨(splitPS s).1.toArray⟩, .int .i64 (splitPS s).2.1, .bool (splitPS s).2.2]) ∧ Below w.heap.size w w' := by
  have hsz : (⟨s.toArray⟩ : ByteArray).size = s.length := rfl
  have hs : (⟨s.toArray⟩ : ByteArray).size < 4611686018427387904 := by show s.length < _; omega
  unfold splitPS
  by_cases hn : lastAt s < 0
  · rw [if_pos hn]
    unfold lastAt at hn
    go_enter Tryd.func33, Tryd.ntmps33
    go_wp2_with (go_at_call 68; refine (Tryd.strings_LastIndexByte _ _ hs _).mono ?_; (rintro e w' ⟨rfl, hw'⟩; obtain rfl := hw'.symm))
    all_goals first
      | (go_ret3; exact ⟨rfl, Below.refl _ _⟩)
  · rw [if_neg hn]
    obtain ⟨k, hk⟩ : ∃ k : Nat, lastAt s = (k : Int) := ⟨(lastAt s).toNat, by omega⟩
    have hkl : k < s.length := by
      have hk2 : Lib.lastIndexByte (⟨s.toArray⟩ : ByteArray) 35 = (k : Int) := hk
      rcases Lib.lastIndexByte_spec (⟨s.toArray⟩ : ByteArray) 35 with ⟨h, _⟩ | ⟨i, h, h2, _⟩
      · omega
      · rw [hsz] at h; omega
    rw [hk]
    rw [Int.toNat_natCast]
    have hk' : Lib.lastIndexByte (⟨s.toArray⟩ : ByteArray) 35 = (k : Int) := hk
    have hd : (({ data := s.toArray } : ByteArray).extract (k + 1) s.length).data.toList = s.drop (k + 1) := by
      rw [ByteArray.data_extract]
      simp only [List.extract_toArray, List.extract_eq_take_drop]
      exact List.take_of_length_le (by simp)
    have ht : ({ data := s.toArray } : ByteArray).extract 0 k = { data := (s.take k).toArray } := ByteArray.ext (by
      rw [ByteArray.data_extract]
      simp)
    have hdz : (({ data := s.toArray } : ByteArray).extract (k + 1) s.length).size ≤ 281474976710656 := by
      rw [ByteArray.size_extract]; omega
    cases ha : Lib.atoiAll (s.drop (k + 1)) with
    | ok v =>
      have hv := atoi_i64 ha
      go_enter Tryd.func33, Tryd.ntmps33
      go_wp2_with (first
        | (go_at_call 68; refine (Tryd.strings_LastIndexByte _ _ hs _).mono ?_; (rintro e w' ⟨rfl, hw'⟩; obtain rfl := hw'.symm; rw [hk']))
        | (go_at_call 69; refine (Tryd.strconv_Atoi_ok _ (by omega) v (by rw [hd]; exact ha) _).mono ?_))
      rintro e W1 ⟨rfl, hw⟩
      have hb1 : Below w.heap.size w W1 := by
        rcases hw with rfl | ⟨t, rfl⟩
        · exact Below.refl _ _
        · exact Lib.bytesWorld_below _ _ _
      have hg1 := glo_below hI hg hb1
      clear hw
      go_wp2_with (go_at_call 27; rw [ht])
      refine (pname_calls (q := s.take k) (by rw [List.length_take]; omega) v hv.1 hv.2 _ (glo_tab hg1)).mono ?_
      rintro e W2 ⟨rfl, hb2⟩
      have hb : Below w.heap.size w W2 := hb1.trans (hb2.mono hb1.size)
      clear hb2
      go_wp2
      all_goals first
        | (go_ret3; exact ⟨rfl, hb⟩)
        | (exfalso; simp_all; done)
    | range =>
      obtain ⟨te, pe, hvar⟩ := glo_rng hg
      go_enter Tryd.func33, Tryd.ntmps33
      go_wp2_with (first
        | (go_at_call 68; refine (Tryd.strings_LastIndexByte _ _ hs _).mono ?_; (rintro e w' ⟨rfl, hw'⟩; obtain rfl := hw'.symm; rw [hk']))
        | (go_at_call 69; refine (Tryd.strconv_Atoi_range_var _ hdz (by rw [hd]; exact ha) te pe _ hvar).mono ?_; rintro e W1 ⟨k, rfl, -, -, hb⟩))
      all_goals first
        | (go_ret3; exact ⟨rfl, hb⟩)
    | _ =>
      have ha2 : (∀ v, Lib.atoiAll (({ data := s.toArray } : ByteArray).extract (k + 1) s.length).data.toList ≠ .ok v) ∧ Lib.atoiAll (({ data := s.toArray } : ByteArray).extract (k + 1) s.length).data.toList ≠ .range := ⟨fun v e => (by rw [hd, ha] at e; cases e), fun e => (by rw [hd, ha] at e; cases e)⟩
      obtain ⟨te, pe, hvar⟩ := glo_syn hg
      go_enter Tryd.func33, Tryd.ntmps33
      go_wp2_with (first
        | (go_at_call 68; refine (Tryd.strings_LastIndexByte _ _ hs _).mono ?_; (rintro e w' ⟨rfl, hw'⟩; obtain rfl := hw'.symm; rw [hk']))
        | (go_at_call 69; refine (Tryd.strconv_Atoi_syntax_var _ hdz ha2 te pe _ hvar).mono ?_; rintro e W1 ⟨k, rfl, -, -, hb⟩))
      all_goals first
        | (go_ret3; exact ⟨rfl, hb⟩)
end Go.Proofs.YtmbdbdhdcbdcpaaDoor

import Derived.Test.YtnhchphmmdgphaaGATy
import Derived.Test.YtnhchphmmdgphaaGAF4
import Derived.Test.YtnhchphmmdgphaaGAF5
namespace Go.Proofs.Ytnhchphmmdgphaa
open Go Abs
set_option maxRecDepth 100000
set_option linter.unusedVariables false
set_option linter.unusedSimpArgs false
noncomputable def slices_IndexFunc_api_Value_api_Value_v2_l1 (rec_value_formed_1 : ApiValue → Bool → Option Bool) (p0s : (List ApiValue)) (p100vx0 : Bool) (s4 : Int) : Option (Step Int (Fl Int Unit)) :=
 cond (decide (s4 < ((p0s).length : Int))) ((idx p0s s4).bind fun (x6 : ApiValue) => (rec_value_formed_1 x6 p100vx0).bind fun (x8 : Bool) => cond x8 (some (Step.out (Fl.done s4))) (some (Step.next (IntKind.wrap .i64 (s4 + (1 : Int)))))) (some (Step.out (Fl.go ())))
mutual
noncomputable def slices_ContainsFunc_api_Value_api_Value_v2F : Nat → (List ApiValue) → Bool → Option Bool
 | 0, _, _ => none
 | n + 1, p0s, p100vx0 =>
  ((slices_IndexFunc_api_Value_api_Value_v2F n) p0s p100vx0).bind fun (x1 : Int) => some (decide ((0 : Int) ≤ x1))
noncomputable def slices_IndexFunc_api_Value_api_Value_v2F : Nat → (List ApiValue) → Bool → Option Int
 | 0, _, _ => none
 | n + 1, p0s, p100vx0 =>
  ((loopO (slices_IndexFunc_api_Value_api_Value_v2_l1 (value_formed_1F n) p0s p100vx0) ((0 : Int))) : Option (Fl Int Unit)).bind fun (x1 : (Fl Int Unit)) => Fl.next x1 (fun (j3 : Unit) => (some (-1 : Int)))
noncomputable def value_formedF : Nat → ApiValue → Bool → Option Bool
 | 0, _, _ => none
 | n + 1, p0C, p1o =>
  ((cond (decide (p0C.Kind = (0 : Int))) (some (Fl.done (cond (cond (cond (!(!decide (p0C.Int = (0 : Int)))) (!(!decide (p0C.Text = ([] : List UInt8)))) false) (!(decide ((0 : Int) < ((p0C.Items).length : Int)))) false) (!(decide ((0 : Int) < ((p0C.Keys).length : Int)))) false))) (cond (decide (p0C.Kind = (1 : Int))) (some (Fl.done (cond (cond (cond (cond (decide (p0C.Int = (0 : Int))) true (decide (p0C.Int = (1 : Int)))) (!(!decide (p0C.Text = ([] : List UInt8)))) false) (!(decide ((0 : Int) < ((p0C.Items).length : Int)))) false) (!(decide ((0 : Int) < ((p0C.Keys).length : Int)))) false))) (cond (decide (p0C.Kind = (2 : Int))) (some (Fl.done (cond (cond (!(!decide (p0C.Text = ([] : List UInt8)))) (!(decide ((0 : Int) < ((p0C.Items).length : Int)))) false) (!(decide ((0 : Int) < ((p0C.Keys).length : Int)))) false))) (cond (decide (p0C.Kind = (6 : Int))) (some (Fl.done (cond (cond (cond (cond p1o (decide ((0 : Int) ≤ p0C.Int)) false) (!(!decide (p0C.Text = ([] : List UInt8)))) false) (!(decide ((0 : Int) < ((p0C.Items).length : Int)))) false) (!(decide ((0 : Int) < ((p0C.Keys).length : Int)))) false))) (cond (decide (p0C.Kind = (3 : Int))) (some (Fl.done (cond (cond (!(!decide (p0C.Int = (0 : Int)))) (!(decide ((0 : Int) < ((p0C.Items).length : Int)))) false) (!(decide ((0 : Int) < ((p0C.Keys).length : Int)))) false))) (cond (decide (p0C.Kind = (4 : Int))) (cond (cond (cond (!decide (p0C.Int = (0 : Int))) true (!decide (p0C.Text = ([] : List UInt8)))) true (decide ((0 : Int) < ((p0C.Keys).length : Int)))) (some (Fl.done false)) (some (Fl.go ()))) (cond (decide (p0C.Kind = (5 : Int))) ((gd ((cond (cond (!decide (p0C.Int = (0 : Int))) true (!decide (p0C.Text = ([] : List UInt8)))) true (!decide (((p0C.Keys).length : Int) = ((p0C.Items).length : Int)))) == false) (value_ascending p0C.Keys)).bind fun (x24 : Bool) => cond (cond (cond (cond (!decide (p0C.Int = (0 : Int))) true (!decide (p0C.Text = ([] : List UInt8)))) true (!decide (((p0C.Keys).length : Int) = ((p0C.Items).length : Int)))) true (!x24)) (some (Fl.done false)) (some (Fl.go ()))) (some (Fl.done false))))))))) : Option (Fl Bool Unit)).bind fun (x1 : (Fl Bool Unit)) => Fl.next x1 (fun (j3 : Unit) => (((slices_ContainsFunc_api_Value_api_Value_v2F n) p0C.Items p1o).bind fun (x32 : Bool) => some (!x32)))
noncomputable def value_formed_1F : Nat → ApiValue → Bool → Option Bool
 | 0, _, _ => none
 | n + 1, p0x, p100vx0 =>
  ((value_formedF n) p0x p100vx0).bind fun (x1 : Bool) => some (!x1)
end
theorem wF_slices_ContainsFunc_api_Value_api_Value_v2 : ∀ n : Nat, (∀ {p0s : (List ApiValue)} {p100vx0 : Bool} {res : Bool}, slices_ContainsFunc_api_Value_api_Value_v2F n p0s p100vx0 = some res → ACalls Try.prog 108 [.c (PV.ls 5 rowApiValue p0s), .fn 109 [.box 0 0]] [[.c (.bool p100vx0)]] (.c (.bool res)) [[.c (.bool p100vx0)]]) ∧ (∀ {p0s : (List ApiValue)} {p100vx0 : Bool} {res : Int}, slices_IndexFunc_api_Value_api_Value_v2F n p0s p100vx0 = some res → ACalls Try.prog 114 [.c (PV.ls 5 rowApiValue p0s), .fn 109 [.box 0 0]] [[.c (.bool p100vx0)]] (.c (.int .i64 res)) [[.c (.bool p100vx0)]]) ∧ (∀ {p0C : ApiValue} {p1o : Bool} {res : Bool}, value_formedF n p0C p1o = some res → ACalls Try.prog 92 [.agg (AV.cs (exApiValue p0C)), .c (.bool p1o)] [] (.c (.bool res)) []) ∧ (∀ {p0x : ApiValue} {p100vx0 : Bool} {res : Bool}, value_formed_1F n p0x p100vx0 = some res → ACalls Try.prog 109 [.agg (AV.cs (exApiValue p0x)), .box 0 0] [[.c (.bool p100vx0)]] (.c (.bool res)) [[.c (.bool p100vx0)]]) := by
 intro n
 induction n with
 | zero => exact ⟨fun {p0s p100vx0 res} h => absurd h (by simp [slices_ContainsFunc_api_Value_api_Value_v2F]), fun {p0s p100vx0 res} h => absurd h (by simp [slices_IndexFunc_api_Value_api_Value_v2F]), fun {p0C p1o res} h => absurd h (by simp [value_formedF]), fun {p0x p100vx0 res} h => absurd h (by simp [value_formed_1F])⟩
 | succ n ih =>
  obtain ⟨ih_slices_ContainsFunc_api_Value_api_Value_v2, ih_slices_IndexFunc_api_Value_api_Value_v2, ih_value_formed, ih_value_formed_1⟩ := ih
  refine ⟨?_, ?_, ?_, ?_⟩
  ·
   intro p0s p100vx0 res h
   rw [slices_ContainsFunc_api_Value_api_Value_v2F] at h
   refine acalls (fn := Try.f108) [0, 1, 4] (by kernel_rfl) Try.func108 rfl (by kernel_rfl) (by kernel_rfl) ?_
   refine w_seqw ?_
   refine w_region ?_
   refine o_p rfl (p_assign (v := aB) rfl) ?_
   refine o_end (fr' := [(0, aL), (1, .fn _ [.box 0 0]), (4, aB)]) rfl ?_
   refine e_kw ?_
   refine w_seqw ?_
   refine w_region ?_
   refine o_p rfl (p_move (v := aL) rfl) ?_
   refine o_p rfl (p_move (v := .fn _ [.box 0 0]) rfl) ?_
   obtain ⟨x1, hx1, h2⟩ := bind_s h
   refine o_call (v := aI) (σ' := [[aB]]) [0] rfl (ih_slices_IndexFunc_api_Value_api_Value_v2 hx1) rfl rfl ⟨(AV.le_refl _), (le_fnp rfl ⟨(AV.le_refl _), trivial⟩), trivial⟩ (st_p ⟨(AV.le_refl _), trivial⟩ st_nil) rfl rfl rfl ?_
   refine o_p rfl (p_geq rfl rfl) ?_
   refine o_p rfl (p_assign (v := aB) rfl) ?_
   refine o_end (fr' := [(0, aL), (1, .fn _ [.box 0 0]), (4, aB)]) rfl ?_
   refine e_kw ?_
   refine w_ret ?_
   have he3 := Option.some.inj h2
   subst he3
   refine e_ret (rs' := [.tmp 4]) rfl ?_
   refine r_tmp (v := aB) rfl ?_
   refine r_nil ?_
   exact fin_gen [] rfl rfl rfl (AV.le_refl _) (st_r rfl st_nil)
  ·
   intro p0s p100vx0 res h
   rw [slices_IndexFunc_api_Value_api_Value_v2F] at h
   refine acalls (fn := Try.f114) [0, 1, 4, 5, 7, 8, 9, 16] (by kernel_rfl) Try.func114 rfl (by kernel_rfl) (by kernel_rfl) ?_
   refine w_seqw ?_
   refine w_region ?_
   refine o_p rfl (p_assign (v := aI) rfl) ?_
   refine o_end (fr' := [(0, aL), (1, .fn _ [.box 0 0]), (4, aI)]) rfl ?_
   refine e_kw ?_
   refine w_seqw ?_
   refine w_seqw ?_
   refine w_region ?_
   refine o_p rfl (p_move (v := aL) rfl) ?_
   refine o_p rfl (p_len ti37 (isl_c rfl)) ?_
   refine o_p rfl (p_move (v := aI) rfl) ?_
   refine o_end (fr' := [(0, aL), (1, .fn _ [.box 0 0]), (4, aI), (7, aI), (8, aI)]) rfl ?_
   refine e_kw ?_
   obtain ⟨x1, hx1, h2⟩ := bind_s h
   refine w_jtail cl_kw (fun j3 => x1 = Fl.go j3) (fun (j3 : Unit) => ([] : Fr)) (fun (j3 : Unit) => ([[.c (.bool p100vx0)]] : St)) ?_ ?_
   ·
    refine w_block ?_
    refine w_loopo _ (fun (s4 : Int) => ([(0, .c (PV.ls 5 rowApiValue p0s)), (1, .fn 109 [.box 0 0]), (7, .c (.int .i64 ((p0s).length : Int))), (8, .c (.int .i64 s4))] : Fr)) (fun (s4 : Int) => ([[.c (.bool p100vx0)]] : St)) hx1 (w_weak [] 1 rfl rfl rfl rfl ⟨(AV.le_refl _), (AV.le_refl _), (AV.le_refl _), (AV.le_refl _), trivial⟩ (st_r rfl st_nil)) ?_
    intro s4 st4 hs4 ho4
    unfold slices_IndexFunc_api_Value_api_Value_v2_l1 at hs4
    refine w_seqw ?_
    refine w_region ?_
    refine o_p rfl (p_lss rfl rfl) ?_
    refine o_end (fr' := [(0, aL), (1, .fn _ [.box 0 0]), (7, aI), (8, aI), (9, aB)]) rfl ?_
    refine e_kw ?_
    refine w_seqw ?_
    refine w_cond _ rfl (fun hb5 => ?_) (fun hb5 => ?_)
    ·
     have h5 := cond_t (b := (decide (s4 < ((p0s).length : Int)))) hb5 hs4
     refine w_skip ?_
     refine e_kw ?_
     refine w_seqw ?_
     refine w_block ?_
     refine w_seqw ?_
     refine w_region ?_
     refine o_p rfl (p_move (v := aI) rfl) ?_
     refine o_p rfl (p_assign (v := aI) rfl) ?_
     refine o_end (fr' := [(0, aL), (1, .fn _ [.box 0 0]), (5, aI), (7, aI), (8, aI), (9, aB)]) rfl ?_
     refine e_kw ?_
     refine w_seqw ?_
     refine w_region ?_
     refine o_p rfl (p_move (v := .fn _ [.box 0 0]) rfl) ?_
     refine o_p rfl (p_move (v := aL) rfl) ?_
     refine o_p rfl (p_move (v := aI) rfl) ?_
     obtain ⟨x6, hx6, h7⟩ := bind_s h5
     refine o_p rfl (p_ia (cs := [.int _ _, .int _ _, .str _, PV.ls _ _ _, PV.ls _ _ _]) ts37 (isl_c rfl) rfl hx6 (rowApiValue_eq _)) ?_
     refine o_p rfl (p_loades (us := [.int _ _, .int _ _, .str _, PV.ls _ _ _, PV.ls _ _ _]) tv40 rfl rfl rfl) ?_
     obtain ⟨x8, hx8, h9⟩ := bind_s h7
     refine o_call (v := aB) (σ' := [[aB]]) [0] rfl (ih_value_formed_1 hx8) rfl rfl ⟨(le_aggc rfl ⟨rfl, rfl, rfl, rfl, rfl, trivial⟩), (AV.le_refl _), trivial⟩ (st_p ⟨(AV.le_refl _), trivial⟩ st_nil) rfl rfl rfl ?_
     refine o_end (fr' := [(0, aL), (1, .fn _ [.box 0 0]), (5, aI), (7, aI), (8, aI), (9, aB), (16, aB)]) rfl ?_
     refine e_kw ?_
     refine w_cond _ rfl (fun hb10 => ?_) (fun hb10 => ?_)
     ·
      have h10 := cond_t (b := x8) hb10 h9
      refine w_seqw ?_
      refine w_region ?_
      refine o_p rfl (p_move (v := aI) rfl) ?_
      refine o_p rfl (p_assign (v := aI) rfl) ?_
      refine o_end (fr' := [(0, aL), (1, .fn _ [.box 0 0]), (4, aI), (5, aI), (7, aI), (8, aI), (9, aB), (16, aB)]) rfl ?_
      refine e_kw ?_
      refine w_ret ?_
      refine e_blk_r ?_
      refine e_seq_r ?_
      refine e_seq_r ?_
      refine e_blk_r ?_
      refine e_seq_r ?_
      refine e_seq_r ?_
      have h11 := un_out h10 ho4
      have h12 := un_done h11 h2
      have he13 := Option.some.inj h12
      subst he13
      refine e_ret (rs' := [.tmp 4]) rfl ?_
      refine r_tmp (v := aI) rfl ?_
      refine r_nil ?_
      exact fin_gen [] rfl rfl rfl (AV.le_refl _) (st_r rfl st_nil)
     ·
      have h10 := cond_f (b := x8) hb10 h9
      refine w_skip ?_
      refine e_blk_n ?_
      refine e_kw ?_
      refine w_region ?_
      refine o_p rfl (p_add rfl rfl) ?_
      refine o_p rfl (p_move (v := aI) rfl) ?_
      refine o_end (fr' := [(0, aL), (1, .fn _ [.box 0 0]), (5, aI), (7, aI), (8, aI), (9, aB), (16, aB)]) rfl ?_
      exact e_l _ (Option.some.inj h10).symm (w_weak [] 1 rfl rfl rfl rfl ⟨(AV.le_refl _), (AV.le_refl _), (AV.le_refl _), (AV.le_refl _), trivial⟩ (st_r rfl st_nil))
    ·
     have h5 := cond_f (b := (decide (s4 < ((p0s).length : Int)))) hb5 hs4
     refine w_exit ?_
     refine e_seq_x ?_
     refine e_seq_x ?_
     refine e_blk_h ?_
     have h14 := un_out h5 ho4
     exact e_j _ (Option.some.inj h14).symm (w_weak [] 1 rfl rfl rfl rfl trivial (st_r rfl st_nil))
   ·
    intro j3 hj15
    have h15 := un_go hj15 h2
    refine e_kw ?_
    refine w_seqw ?_
    refine w_region ?_
    refine o_p rfl (p_assign (v := aI) rfl) ?_
    refine o_end (fr' := [(4, aI)]) rfl ?_
    refine e_kw ?_
    refine w_ret ?_
    have he16 := Option.some.inj h15
    subst he16
    refine e_ret (rs' := [.tmp 4]) rfl ?_
    refine r_tmp (v := aI) rfl ?_
    refine r_nil ?_
    exact fin_gen [] rfl rfl rfl (AV.le_refl _) (st_r rfl st_nil)
  ·
   intro p0C p1o res h
   rw [value_formedF] at h
   refine acalls (fn := Try.f92) [0, 1, 2, 3, 4, 5, 6, 7, 8, 24, 25, 41, 63, 75, 95, 107, 115, 116, 136] (by kernel_rfl) Try.func92 rfl (by kernel_rfl) (by kernel_rfl) ?_
   refine w_seqw ?_
   refine w_region ?_
   refine o_box (v := .agg [aI, aI, aS, aL, aL]) (n := 0) (cs := [aI, aI, aS, aL, aL]) (σ' := [[aI, aI, aS, aL, aL]]) rfl rfl rfl rfl rfl ?_
   refine o_box (v := aB) (n := 1) (cs := [aB]) (σ' := [[aI, aI, aS, aL, aL], [aB]]) rfl rfl rfl rfl rfl ?_
   refine o_p rfl (p_assign (v := aB) rfl) ?_
   refine o_end (fr' := [(0, .agg [aI, aI, aS, aL, aL]), (1, aB), (2, .box 0 0), (3, .box 1 0), (4, aB)]) rfl ?_
   refine e_kw ?_
   refine w_seqw ?_
   refine w_region ?_
   refine o_p rfl (p_fa tf40x1 rfl) ?_
   refine o_p rfl (p_load (v := aI) tv3 rfl rfl rfl) ?_
   refine o_p rfl (p_neq rfl rfl) ?_
   refine o_p rfl (p_assign (v := aB) rfl) ?_
   refine o_end (fr' := [(0, .agg [aI, aI, aS, aL, aL]), (1, aB), (2, .box 0 0), (3, .box 1 0), (4, aB), (5, aB)]) rfl ?_
   refine e_kw ?_
   refine w_seqw ?_
   refine w_region ?_
   refine o_p rfl (p_fa tf40x2 rfl) ?_
   refine o_p rfl (p_load (v := aS) tv9 rfl rfl rfl) ?_
   refine o_p rfl (p_sneq rfl rfl) ?_
   refine o_p rfl (p_assign (v := aB) rfl) ?_
   refine o_end (fr' := [(0, .agg [aI, aI, aS, aL, aL]), (1, aB), (2, .box 0 0), (3, .box 1 0), (4, aB), (5, aB), (6, aB)]) rfl ?_
   refine e_kw ?_
   refine w_seqw ?_
   refine w_region ?_
   refine o_p rfl (p_fa tf40x3 rfl) ?_
   refine o_p rfl (p_load (v := aL) tv37 rfl rfl rfl) ?_
   refine o_p rfl (p_len ti37 (isl_c rfl)) ?_
   refine o_p rfl (p_gtr rfl rfl) ?_
   refine o_p rfl (p_assign (v := aB) rfl) ?_
   refine o_end (fr' := [(0, .agg [aI, aI, aS, aL, aL]), (1, aB), (2, .box 0 0), (3, .box 1 0), (4, aB), (5, aB), (6, aB), (7, aB)]) rfl ?_
   refine e_kw ?_
   refine w_seqw ?_
   refine w_region ?_
   refine o_p rfl (p_fa tf40x4 rfl) ?_
   refine o_p rfl (p_load (v := aL) tv38 rfl rfl rfl) ?_
   refine o_p rfl (p_len ti38 (isl_c rfl)) ?_
   refine o_p rfl (p_gtr rfl rfl) ?_
   refine o_p rfl (p_assign (v := aB) rfl) ?_
   refine o_end (fr' := [(0, .agg [aI, aI, aS, aL, aL]), (1, aB), (2, .box 0 0), (3, .box 1 0), (4, aB), (5, aB), (6, aB), (7, aB), (8, aB)]) rfl ?_
   refine e_kw ?_
   obtain ⟨x1, hx1, h2⟩ := bind_s h
   refine w_join (fun j3 => x1 = Fl.go j3) (fun (j3 : Unit) => ([(2, .box 0 0), (3, .box 1 0)] : Fr)) (fun (j3 : Unit) => ([[.c (.int .i64 p0C.Kind), .c (.int .i64 p0C.Int), .c (.str p0C.Text), .c (PV.ls 5 rowApiValue p0C.Items), .c (PV.ls 1 rowS p0C.Keys)], [.c (.bool p1o)]] : St)) ?_ ?_
   ·
    refine w_seqw ?_
    refine w_region ?_
    refine o_p rfl (p_fa tf40x0 rfl) ?_
    refine o_p rfl (p_load (v := aI) tv3 rfl rfl rfl) ?_
    refine o_end (fr' := [(0, .agg [aI, aI, aS, aL, aL]), (1, aB), (2, .box 0 0), (3, .box 1 0), (4, aB), (5, aB), (6, aB), (7, aB), (8, aB), (24, aI)]) rfl ?_
    refine e_kw ?_
    refine w_block ?_
    refine w_seqw ?_
    refine w_region ?_
    refine o_p rfl (p_eql rfl rfl) ?_
    refine o_p rfl (p_assign (v := aB) rfl) ?_
    refine o_end (fr' := [(0, .agg [aI, aI, aS, aL, aL]), (1, aB), (2, .box 0 0), (3, .box 1 0), (4, aB), (5, aB), (6, aB), (7, aB), (8, aB), (24, aI), (25, aB)]) rfl ?_
    refine e_kw ?_
    refine w_cond _ rfl (fun hb4 => ?_) (fun hb4 => ?_)
    ·
     have h4 := cond_t (b := (decide (p0C.Kind = (0 : Int)))) hb4 hx1
     refine w_seqw ?_
     refine w_region ?_
     refine o_p rfl (p_move (v := aB) rfl) ?_
     refine o_p rfl (p_not rfl) ?_
     refine o_p rfl (p_move (v := aB) rfl) ?_
     refine o_g rfl rfl (fun hc => ov_p rfl (p_move (v := aB) rfl)) ?_
     refine o_g rfl rfl (fun hc => ov_p rfl (p_not (gx rfl hc))) ?_
     refine o_p rfl (p_picky rfl rfl rfl (fun e => keq e)) ?_
     refine o_p rfl (p_move (v := aB) rfl) ?_
     refine o_g rfl rfl (fun hc => ov_p rfl (p_move (v := aB) rfl)) ?_
     refine o_g rfl rfl (fun hc => ov_p rfl (p_not (gx rfl hc))) ?_
     refine o_p rfl (p_picky rfl rfl rfl (fun e => keq e)) ?_
     refine o_p rfl (p_move (v := aB) rfl) ?_
     refine o_g rfl rfl (fun hc => ov_p rfl (p_move (v := aB) rfl)) ?_
     refine o_g rfl rfl (fun hc => ov_p rfl (p_not (gx rfl hc))) ?_
     refine o_p rfl (p_picky rfl rfl rfl (fun e => keq e)) ?_
     refine o_p rfl (p_assign (v := aB) rfl) ?_
     refine o_end (fr' := [(0, .agg [aI, aI, aS, aL, aL]), (1, aB), (2, .box 0 0), (3, .box 1 0), (4, aB), (5, aB), (6, aB), (7, aB), (8, aB), (24, aI), (25, aB)]) rfl ?_
     refine e_kw ?_
     refine w_ret ?_
     refine e_blk_r ?_
     refine e_seq_r ?_
     have h5 := un_done h4 h2
     have he6 := Option.some.inj h5
     subst he6
     refine e_ret (rs' := [.tmp 4]) rfl ?_
     refine r_tmp (v := aB) rfl ?_
     refine r_nil ?_
     exact fin_gen [] rfl rfl rfl (AV.le_refl _) st_nil
    ·
     have h4 := cond_f (b := (decide (p0C.Kind = (0 : Int)))) hb4 hx1
     refine w_seqw ?_
     refine w_region ?_
     refine o_p rfl (p_eql rfl rfl) ?_
     refine o_p rfl (p_assign (v := aB) rfl) ?_
     refine o_end (fr' := [(0, .agg [aI, aI, aS, aL, aL]), (1, aB), (2, .box 0 0), (3, .box 1 0), (4, aB), (5, aB), (6, aB), (7, aB), (8, aB), (24, aI), (25, aB), (41, aB)]) rfl ?_
     refine e_kw ?_
     refine w_cond _ rfl (fun hb7 => ?_) (fun hb7 => ?_)
     ·
      have h7 := cond_t (b := (decide (p0C.Kind = (1 : Int)))) hb7 h4
      refine w_seqw ?_
      refine w_region ?_
      refine o_p rfl (p_fa tf40x1 rfl) ?_
      refine o_p rfl (p_load (v := aI) tv3 rfl rfl rfl) ?_
      refine o_p rfl (p_eql rfl rfl) ?_
      refine o_p rfl (p_move (v := aB) rfl) ?_
      refine o_g rfl rfl (fun hc => ov_p rfl (p_fa tf40x1 rfl)) ?_
      refine o_g rfl rfl (fun hc => ov_p rfl (p_load (v := aI) tv3 (gx rfl hc) rfl rfl)) ?_
      refine o_g rfl rfl (fun hc => ov_p rfl (p_eql (gx rfl hc) rfl)) ?_
      refine o_p rfl (p_pickz rfl rfl rfl (fun e => keq e)) ?_
      refine o_p rfl (p_move (v := aB) rfl) ?_
      refine o_g rfl rfl (fun hc => ov_p rfl (p_move (v := aB) rfl)) ?_
      refine o_g rfl rfl (fun hc => ov_p rfl (p_not (gx rfl hc))) ?_
      refine o_p rfl (p_picky rfl rfl rfl (fun e => keq e)) ?_
      refine o_p rfl (p_move (v := aB) rfl) ?_
      refine o_g rfl rfl (fun hc => ov_p rfl (p_move (v := aB) rfl)) ?_
      refine o_g rfl rfl (fun hc => ov_p rfl (p_not (gx rfl hc))) ?_
      refine o_p rfl (p_picky rfl rfl rfl (fun e => keq e)) ?_
      refine o_p rfl (p_move (v := aB) rfl) ?_
      refine o_g rfl rfl (fun hc => ov_p rfl (p_move (v := aB) rfl)) ?_
      refine o_g rfl rfl (fun hc => ov_p rfl (p_not (gx rfl hc))) ?_
      refine o_p rfl (p_picky rfl rfl rfl (fun e => keq e)) ?_
      refine o_p rfl (p_assign (v := aB) rfl) ?_
      refine o_end (fr' := [(0, .agg [aI, aI, aS, aL, aL]), (1, aB), (2, .box 0 0), (3, .box 1 0), (4, aB), (5, aB), (6, aB), (7, aB), (8, aB), (24, aI), (25, aB), (41, aB)]) rfl ?_
      refine e_kw ?_
      refine w_ret ?_
      refine e_blk_r ?_
      refine e_seq_r ?_
      have h8 := un_done h7 h2
      have he9 := Option.some.inj h8
      subst he9
      refine e_ret (rs' := [.tmp 4]) rfl ?_
      refine r_tmp (v := aB) rfl ?_
      refine r_nil ?_
      exact fin_gen [] rfl rfl rfl (AV.le_refl _) st_nil
     ·
      have h7 := cond_f (b := (decide (p0C.Kind = (1 : Int)))) hb7 h4
      refine w_seqw ?_
      refine w_region ?_
      refine o_p rfl (p_eql rfl rfl) ?_
      refine o_p rfl (p_assign (v := aB) rfl) ?_
      refine o_end (fr' := [(0, .agg [aI, aI, aS, aL, aL]), (1, aB), (2, .box 0 0), (3, .box 1 0), (4, aB), (5, aB), (6, aB), (7, aB), (8, aB), (24, aI), (25, aB), (41, aB), (63, aB)]) rfl ?_
      refine e_kw ?_
      refine w_cond _ rfl (fun hb10 => ?_) (fun hb10 => ?_)
      ·
       have h10 := cond_t (b := (decide (p0C.Kind = (2 : Int)))) hb10 h7
       refine w_seqw ?_
       refine w_region ?_
       refine o_p rfl (p_move (v := aB) rfl) ?_
       refine o_p rfl (p_not rfl) ?_
       refine o_p rfl (p_move (v := aB) rfl) ?_
       refine o_g rfl rfl (fun hc => ov_p rfl (p_move (v := aB) rfl)) ?_
       refine o_g rfl rfl (fun hc => ov_p rfl (p_not (gx rfl hc))) ?_
       refine o_p rfl (p_picky rfl rfl rfl (fun e => keq e)) ?_
       refine o_p rfl (p_move (v := aB) rfl) ?_
       refine o_g rfl rfl (fun hc => ov_p rfl (p_move (v := aB) rfl)) ?_
       refine o_g rfl rfl (fun hc => ov_p rfl (p_not (gx rfl hc))) ?_
       refine o_p rfl (p_picky rfl rfl rfl (fun e => keq e)) ?_
       refine o_p rfl (p_assign (v := aB) rfl) ?_
       refine o_end (fr' := [(0, .agg [aI, aI, aS, aL, aL]), (1, aB), (2, .box 0 0), (3, .box 1 0), (4, aB), (5, aB), (6, aB), (7, aB), (8, aB), (24, aI), (25, aB), (41, aB), (63, aB)]) rfl ?_
       refine e_kw ?_
       refine w_ret ?_
       refine e_blk_r ?_
       refine e_seq_r ?_
       have h11 := un_done h10 h2
       have he12 := Option.some.inj h11
       subst he12
       refine e_ret (rs' := [.tmp 4]) rfl ?_
       refine r_tmp (v := aB) rfl ?_
       refine r_nil ?_
       exact fin_gen [] rfl rfl rfl (AV.le_refl _) st_nil
      ·
       have h10 := cond_f (b := (decide (p0C.Kind = (2 : Int)))) hb10 h7
       refine w_seqw ?_
       refine w_region ?_
       refine o_p rfl (p_eql rfl rfl) ?_
       refine o_p rfl (p_assign (v := aB) rfl) ?_
       refine o_end (fr' := [(0, .agg [aI, aI, aS, aL, aL]), (1, aB), (2, .box 0 0), (3, .box 1 0), (4, aB), (5, aB), (6, aB), (7, aB), (8, aB), (24, aI), (25, aB), (41, aB), (63, aB), (75, aB)]) rfl ?_
       refine e_kw ?_
       refine w_cond _ rfl (fun hb13 => ?_) (fun hb13 => ?_)
       ·
        have h13 := cond_t (b := (decide (p0C.Kind = (6 : Int)))) hb13 h10
        refine w_seqw ?_
        refine w_region ?_
        refine o_p rfl (p_load (v := aB) tv4 rfl rfl rfl) ?_
        refine o_p rfl (p_move (v := aB) rfl) ?_
        refine o_g rfl rfl (fun hc => ov_p rfl (p_fa tf40x1 rfl)) ?_
        refine o_g rfl rfl (fun hc => ov_p rfl (p_load (v := aI) tv3 (gx rfl hc) rfl rfl)) ?_
        refine o_g rfl rfl (fun hc => ov_p rfl (p_geq (gx rfl hc) rfl)) ?_
        refine o_p rfl (p_picky rfl rfl rfl (fun e => keq e)) ?_
        refine o_p rfl (p_move (v := aB) rfl) ?_
        refine o_g rfl rfl (fun hc => ov_p rfl (p_move (v := aB) rfl)) ?_
        refine o_g rfl rfl (fun hc => ov_p rfl (p_not (gx rfl hc))) ?_
        refine o_p rfl (p_picky rfl rfl rfl (fun e => keq e)) ?_
        refine o_p rfl (p_move (v := aB) rfl) ?_
        refine o_g rfl rfl (fun hc => ov_p rfl (p_move (v := aB) rfl)) ?_
        refine o_g rfl rfl (fun hc => ov_p rfl (p_not (gx rfl hc))) ?_
        refine o_p rfl (p_picky rfl rfl rfl (fun e => keq e)) ?_
        refine o_p rfl (p_move (v := aB) rfl) ?_
        refine o_g rfl rfl (fun hc => ov_p rfl (p_move (v := aB) rfl)) ?_
        refine o_g rfl rfl (fun hc => ov_p rfl (p_not (gx rfl hc))) ?_
        refine o_p rfl (p_picky rfl rfl rfl (fun e => keq e)) ?_
        refine o_p rfl (p_assign (v := aB) rfl) ?_
        refine o_end (fr' := [(0, .agg [aI, aI, aS, aL, aL]), (1, aB), (2, .box 0 0), (3, .box 1 0), (4, aB), (5, aB), (6, aB), (7, aB), (8, aB), (24, aI), (25, aB), (41, aB), (63, aB), (75, aB)]) rfl ?_
        refine e_kw ?_
        refine w_ret ?_
        refine e_blk_r ?_
        refine e_seq_r ?_
        have h14 := un_done h13 h2
        have he15 := Option.some.inj h14
        subst he15
        refine e_ret (rs' := [.tmp 4]) rfl ?_
        refine r_tmp (v := aB) rfl ?_
        refine r_nil ?_
        exact fin_gen [] rfl rfl rfl (AV.le_refl _) st_nil
       ·
        have h13 := cond_f (b := (decide (p0C.Kind = (6 : Int)))) hb13 h10
        refine w_seqw ?_
        refine w_region ?_
        refine o_p rfl (p_eql rfl rfl) ?_
        refine o_p rfl (p_assign (v := aB) rfl) ?_
        refine o_end (fr' := [(0, .agg [aI, aI, aS, aL, aL]), (1, aB), (2, .box 0 0), (3, .box 1 0), (4, aB), (5, aB), (6, aB), (7, aB), (8, aB), (24, aI), (25, aB), (41, aB), (63, aB), (75, aB), (95, aB)]) rfl ?_
        refine e_kw ?_
        refine w_cond _ rfl (fun hb16 => ?_) (fun hb16 => ?_)
        ·
         have h16 := cond_t (b := (decide (p0C.Kind = (3 : Int)))) hb16 h13
         refine w_seqw ?_
         refine w_region ?_
         refine o_p rfl (p_move (v := aB) rfl) ?_
         refine o_p rfl (p_not rfl) ?_
         refine o_p rfl (p_move (v := aB) rfl) ?_
         refine o_g rfl rfl (fun hc => ov_p rfl (p_move (v := aB) rfl)) ?_
         refine o_g rfl rfl (fun hc => ov_p rfl (p_not (gx rfl hc))) ?_
         refine o_p rfl (p_picky rfl rfl rfl (fun e => keq e)) ?_
         refine o_p rfl (p_move (v := aB) rfl) ?_
         refine o_g rfl rfl (fun hc => ov_p rfl (p_move (v := aB) rfl)) ?_
         refine o_g rfl rfl (fun hc => ov_p rfl (p_not (gx rfl hc))) ?_
         refine o_p rfl (p_picky rfl rfl rfl (fun e => keq e)) ?_
         refine o_p rfl (p_assign (v := aB) rfl) ?_
         refine o_end (fr' := [(0, .agg [aI, aI, aS, aL, aL]), (1, aB), (2, .box 0 0), (3, .box 1 0), (4, aB), (5, aB), (6, aB), (7, aB), (8, aB), (24, aI), (25, aB), (41, aB), (63, aB), (75, aB), (95, aB)]) rfl ?_
         refine e_kw ?_
         refine w_ret ?_
         refine e_blk_r ?_
         refine e_seq_r ?_
         have h17 := un_done h16 h2
         have he18 := Option.some.inj h17
         subst he18
         refine e_ret (rs' := [.tmp 4]) rfl ?_
         refine r_tmp (v := aB) rfl ?_
         refine r_nil ?_
         exact fin_gen [] rfl rfl rfl (AV.le_refl _) st_nil
        ·
         have h16 := cond_f (b := (decide (p0C.Kind = (3 : Int)))) hb16 h13
         refine w_seqw ?_
         refine w_region ?_
         refine o_p rfl (p_eql rfl rfl) ?_
         refine o_p rfl (p_assign (v := aB) rfl) ?_
         refine o_end (fr' := [(0, .agg [aI, aI, aS, aL, aL]), (1, aB), (2, .box 0 0), (3, .box 1 0), (4, aB), (5, aB), (6, aB), (7, aB), (8, aB), (24, aI), (25, aB), (41, aB), (63, aB), (75, aB), (95, aB), (107, aB)]) rfl ?_
         refine e_kw ?_
         refine w_cond _ rfl (fun hb19 => ?_) (fun hb19 => ?_)
         ·
          have h19 := cond_t (b := (decide (p0C.Kind = (4 : Int)))) hb19 h16
          refine w_seqw ?_
          refine w_region ?_
          refine o_p rfl (p_move (v := aB) rfl) ?_
          refine o_p rfl (p_move (v := aB) rfl) ?_
          refine o_g rfl rfl (fun hc => ov_p rfl (p_move (v := aB) rfl)) ?_
          refine o_p rfl (p_pickz rfl rfl rfl (fun e => keq e)) ?_
          refine o_p rfl (p_move (v := aB) rfl) ?_
          refine o_g rfl rfl (fun hc => ov_p rfl (p_move (v := aB) rfl)) ?_
          refine o_p rfl (p_pickz rfl rfl rfl (fun e => keq e)) ?_
          refine o_end (fr' := [(0, .agg [aI, aI, aS, aL, aL]), (1, aB), (2, .box 0 0), (3, .box 1 0), (4, aB), (5, aB), (6, aB), (7, aB), (8, aB), (24, aI), (25, aB), (41, aB), (63, aB), (75, aB), (95, aB), (107, aB), (115, aB)]) rfl ?_
          refine e_kw ?_
          refine w_cond _ rfl (fun hb20 => ?_) (fun hb20 => ?_)
          ·
           have h20 := cond_t (b := (cond (cond (!decide (p0C.Int = (0 : Int))) true (!decide (p0C.Text = ([] : List UInt8)))) true (decide ((0 : Int) < ((p0C.Keys).length : Int))))) hb20 h19
           refine w_seqw ?_
           refine w_region ?_
           refine o_p rfl (p_assign (v := aB) rfl) ?_
           refine o_end (fr' := [(0, .agg [aI, aI, aS, aL, aL]), (1, aB), (2, .box 0 0), (3, .box 1 0), (4, aB), (5, aB), (6, aB), (7, aB), (8, aB), (24, aI), (25, aB), (41, aB), (63, aB), (75, aB), (95, aB), (107, aB), (115, aB)]) rfl ?_
           refine e_kw ?_
           refine w_ret ?_
           refine e_blk_r ?_
           refine e_seq_r ?_
           have h21 := un_done h20 h2
           have he22 := Option.some.inj h21
           subst he22
           refine e_ret (rs' := [.tmp 4]) rfl ?_
           refine r_tmp (v := aB) rfl ?_
           refine r_nil ?_
           exact fin_gen [] rfl rfl rfl (AV.le_refl _) st_nil
          ·
           have h20 := cond_f (b := (cond (cond (!decide (p0C.Int = (0 : Int))) true (!decide (p0C.Text = ([] : List UInt8)))) true (decide ((0 : Int) < ((p0C.Keys).length : Int))))) hb20 h19
           refine w_skip ?_
           refine e_blk_n ?_
           exact e_j _ (Option.some.inj h20).symm (w_weak [] 2 rfl rfl rfl rfl ⟨(AV.le_refl _), (AV.le_refl _), trivial⟩ (st_r rfl (st_r rfl st_nil)))
         ·
          have h19 := cond_f (b := (decide (p0C.Kind = (4 : Int)))) hb19 h16
          refine w_seqw ?_
          refine w_region ?_
          refine o_p rfl (p_eql rfl rfl) ?_
          refine o_p rfl (p_assign (v := aB) rfl) ?_
          refine o_end (fr' := [(0, .agg [aI, aI, aS, aL, aL]), (1, aB), (2, .box 0 0), (3, .box 1 0), (4, aB), (5, aB), (6, aB), (7, aB), (8, aB), (24, aI), (25, aB), (41, aB), (63, aB), (75, aB), (95, aB), (107, aB), (116, aB)]) rfl ?_
          refine e_kw ?_
          refine w_cond _ rfl (fun hb23 => ?_) (fun hb23 => ?_)
          ·
           have h23 := cond_t (b := (decide (p0C.Kind = (5 : Int)))) hb23 h19
           refine w_seqw ?_
           refine w_region ?_
           refine o_p rfl (p_move (v := aB) rfl) ?_
           refine o_p rfl (p_move (v := aB) rfl) ?_
           refine o_g rfl rfl (fun hc => ov_p rfl (p_move (v := aB) rfl)) ?_
           refine o_p rfl (p_pickz rfl rfl rfl (fun e => keq e)) ?_
           refine o_p rfl (p_move (v := aB) rfl) ?_
           refine o_g rfl rfl (fun hc => ov_p rfl (p_fa tf40x4 rfl)) ?_
           refine o_g rfl rfl (fun hc => ov_p rfl (p_load (v := aL) tv38 (gx rfl hc) rfl rfl)) ?_
           refine o_g rfl rfl (fun hc => ov_p rfl (p_len ti38 (isl_c (gx rfl hc)))) ?_
           refine o_g rfl rfl (fun hc => ov_p rfl (p_fa tf40x3 rfl)) ?_
           refine o_g rfl rfl (fun hc => ov_p rfl (p_load (v := aL) tv37 (gx rfl hc) rfl rfl)) ?_
           refine o_g rfl rfl (fun hc => ov_p rfl (p_len ti37 (isl_c (gx rfl hc)))) ?_
           refine o_g rfl rfl (fun hc => ov_p rfl (p_neq (gx rfl hc) (gx rfl hc))) ?_
           refine o_p rfl (p_pickz rfl rfl rfl (fun e => keq e)) ?_
           refine o_p rfl (p_move (v := aB) rfl) ?_
           refine o_g rfl rfl (fun hc => ov_p rfl (p_fa tf40x4 rfl)) ?_
           refine o_g rfl rfl (fun hc => ov_p rfl (p_load (v := aL) tv38 (gx rfl hc) rfl rfl)) ?_
           obtain ⟨x24, hx24, h25⟩ := bind_s h23
           refine o_g rfl rfl (fun hc => ov_call (v := aB) rfl (w_value_ascending (gd_some hx24 hc)) ⟨(le_gv (gx rfl hc) (AV.le_refl _)), trivial⟩ (ok_eq (by repeat (first | exact ok_nil | refine ok_cons rfl ?_ | refine ok_cons (dgv rfl) ?_))) rfl rfl) ?_
           refine o_g rfl rfl (fun hc => ov_p rfl (p_not (gx rfl hc))) ?_
           refine o_p rfl (p_pickz rfl rfl rfl (fun e => keq e)) ?_
           refine o_end (fr' := [(0, .agg [aI, aI, aS, aL, aL]), (1, aB), (2, .box 0 0), (3, .box 1 0), (4, aB), (5, aB), (6, aB), (7, aB), (8, aB), (24, aI), (25, aB), (41, aB), (63, aB), (75, aB), (95, aB), (107, aB), (116, aB), (136, aB)]) rfl ?_
           refine e_kw ?_
           refine w_cond _ rfl (fun hb26 => ?_) (fun hb26 => ?_)
           ·
            have h26 := cond_t (b := (cond (cond (cond (!decide (p0C.Int = (0 : Int))) true (!decide (p0C.Text = ([] : List UInt8)))) true (!decide (((p0C.Keys).length : Int) = ((p0C.Items).length : Int)))) true (!x24))) hb26 h25
            refine w_seqw ?_
            refine w_region ?_
            refine o_p rfl (p_assign (v := aB) rfl) ?_
            refine o_end (fr' := [(0, .agg [aI, aI, aS, aL, aL]), (1, aB), (2, .box 0 0), (3, .box 1 0), (4, aB), (5, aB), (6, aB), (7, aB), (8, aB), (24, aI), (25, aB), (41, aB), (63, aB), (75, aB), (95, aB), (107, aB), (116, aB), (136, aB)]) rfl ?_
            refine e_kw ?_
            refine w_ret ?_
            refine e_blk_r ?_
            refine e_seq_r ?_
            have h27 := un_done h26 h2
            have he28 := Option.some.inj h27
            subst he28
            refine e_ret (rs' := [.tmp 4]) rfl ?_
            refine r_tmp (v := aB) rfl ?_
            refine r_nil ?_
            exact fin_gen [] rfl rfl rfl (AV.le_refl _) st_nil
           ·
            have h26 := cond_f (b := (cond (cond (cond (!decide (p0C.Int = (0 : Int))) true (!decide (p0C.Text = ([] : List UInt8)))) true (!decide (((p0C.Keys).length : Int) = ((p0C.Items).length : Int)))) true (!x24))) hb26 h25
            refine w_skip ?_
            refine e_blk_n ?_
            exact e_j _ (Option.some.inj h26).symm (w_weak [] 2 rfl rfl rfl rfl ⟨(AV.le_refl _), (AV.le_refl _), trivial⟩ (st_r rfl (st_r rfl st_nil)))
          ·
           have h23 := cond_f (b := (decide (p0C.Kind = (5 : Int)))) hb23 h19
           refine w_seqw ?_
           refine w_region ?_
           refine o_p rfl (p_assign (v := aB) rfl) ?_
           refine o_end (fr' := [(0, .agg [aI, aI, aS, aL, aL]), (1, aB), (2, .box 0 0), (3, .box 1 0), (4, aB), (5, aB), (6, aB), (7, aB), (8, aB), (24, aI), (25, aB), (41, aB), (63, aB), (75, aB), (95, aB), (107, aB), (116, aB)]) rfl ?_
           refine e_kw ?_
           refine w_ret ?_
           refine e_blk_r ?_
           refine e_seq_r ?_
           have h29 := un_done h23 h2
           have he30 := Option.some.inj h29
           subst he30
           refine e_ret (rs' := [.tmp 4]) rfl ?_
           refine r_tmp (v := aB) rfl ?_
           refine r_nil ?_
           exact fin_gen [] rfl rfl rfl (AV.le_refl _) st_nil
   ·
    intro j3 hj31
    have h31 := un_go hj31 h2
    refine w_seqw ?_
    refine w_region ?_
    refine o_p rfl (p_fa tf40x3 rfl) ?_
    refine o_p rfl (p_load (v := aL) tv37 rfl rfl rfl) ?_
    refine o_p rfl (p_func (cs := [.box 1 0]) rfl rfl) ?_
    obtain ⟨x32, hx32, h33⟩ := bind_s h31
    refine o_call (v := aB) (σ' := [[aI, aI, aS, aL, aL], [aB]]) [1] rfl (ih_slices_ContainsFunc_api_Value_api_Value_v2 hx32) rfl rfl ⟨(AV.le_refl _), (le_fnp rfl ⟨(AV.le_refl _), trivial⟩), trivial⟩ (st_p ⟨(AV.le_refl _), trivial⟩ st_nil) rfl rfl rfl ?_
    refine o_p rfl (p_not rfl) ?_
    refine o_p rfl (p_assign (v := aB) rfl) ?_
    refine o_end (fr' := [(2, .box 0 0), (3, .box 1 0), (4, aB)]) rfl ?_
    refine e_kw ?_
    refine w_ret ?_
    have he34 := Option.some.inj h33
    subst he34
    refine e_ret (rs' := [.tmp 4]) rfl ?_
    refine r_tmp (v := aB) rfl ?_
    refine r_nil ?_
    exact fin_gen [] rfl rfl rfl (AV.le_refl _) st_nil
  ·
   intro p0x p100vx0 res h
   rw [value_formed_1F] at h
   refine acalls (fn := Try.f109) [0, 1, 2, 3] (by kernel_rfl) Try.func109 rfl (by kernel_rfl) (by kernel_rfl) ?_
   refine w_seqw ?_
   refine w_region ?_
   refine o_box (v := .agg [aI, aI, aS, aL, aL]) (n := 1) (cs := [aI, aI, aS, aL, aL]) (σ' := [[aB], [aI, aI, aS, aL, aL]]) rfl rfl rfl rfl rfl ?_
   refine o_p rfl (p_assign (v := aB) rfl) ?_
   refine o_end (fr' := [(0, .agg [aI, aI, aS, aL, aL]), (1, .box 0 0), (2, .box 1 0), (3, aB)]) rfl ?_
   refine e_kw ?_
   refine w_seqw ?_
   refine w_region ?_
   refine o_p rfl (p_loads (us := [aI, aI, aS, aL, aL]) tv40 rfl rfl rfl rfl) ?_
   refine o_p rfl (p_load (v := aB) tv4 rfl rfl rfl) ?_
   obtain ⟨x1, hx1, h2⟩ := bind_s h
   refine o_v (ov_call (v := aB) rfl (ih_value_formed hx1) ⟨(le_aggc rfl ⟨rfl, rfl, rfl, rfl, rfl, trivial⟩), (AV.le_refl _), trivial⟩ rfl rfl rfl) ?_
   refine o_p rfl (p_not rfl) ?_
   refine o_p rfl (p_assign (v := aB) rfl) ?_
   refine o_end (fr' := [(0, .agg [aI, aI, aS, aL, aL]), (1, .box 0 0), (2, .box 1 0), (3, aB)]) rfl ?_
   refine e_kw ?_
   refine w_ret ?_
   have he3 := Option.some.inj h2
   subst he3
   refine e_ret (rs' := [.tmp 3]) rfl ?_
   refine r_tmp (v := aB) rfl ?_
   refine r_nil ?_
   exact fin_gen [] rfl rfl rfl (AV.le_refl _) (st_r rfl st_nil)
noncomputable def slices_ContainsFunc_api_Value_api_Value_v2 (p0s : (List ApiValue)) (p100vx0 : Bool) : Option Bool := lim fun n => slices_ContainsFunc_api_Value_api_Value_v2F n p0s p100vx0
theorem w_slices_ContainsFunc_api_Value_api_Value_v2 {p0s : (List ApiValue)} {p100vx0 : Bool} {res : Bool} (h : slices_ContainsFunc_api_Value_api_Value_v2 p0s p100vx0 = some res) : ACalls Try.prog 108 [.c (PV.ls 5 rowApiValue p0s), .fn 109 [.box 0 0]] [[.c (.bool p100vx0)]] (.c (.bool res)) [[.c (.bool p100vx0)]] := by
 obtain ⟨n, hn⟩ := lim_some h
 exact (wF_slices_ContainsFunc_api_Value_api_Value_v2 n).1 hn
noncomputable def slices_IndexFunc_api_Value_api_Value_v2 (p0s : (List ApiValue)) (p100vx0 : Bool) : Option Int := lim fun n => slices_IndexFunc_api_Value_api_Value_v2F n p0s p100vx0
theorem w_slices_IndexFunc_api_Value_api_Value_v2 {p0s : (List ApiValue)} {p100vx0 : Bool} {res : Int} (h : slices_IndexFunc_api_Value_api_Value_v2 p0s p100vx0 = some res) : ACalls Try.prog 114 [.c (PV.ls 5 rowApiValue p0s), .fn 109 [.box 0 0]] [[.c (.bool p100vx0)]] (.c (.int .i64 res)) [[.c (.bool p100vx0)]] := by
 obtain ⟨n, hn⟩ := lim_some h
 exact (wF_slices_ContainsFunc_api_Value_api_Value_v2 n).2.1 hn
noncomputable def value_formed (p0C : ApiValue) (p1o : Bool) : Option Bool := lim fun n => value_formedF n p0C p1o
theorem w_value_formed {p0C : ApiValue} {p1o : Bool} {res : Bool} (h : value_formed p0C p1o = some res) : ACalls Try.prog 92 [.agg (AV.cs (exApiValue p0C)), .c (.bool p1o)] [] (.c (.bool res)) [] := by
 obtain ⟨n, hn⟩ := lim_some h
 exact (wF_slices_ContainsFunc_api_Value_api_Value_v2 n).2.2.1 hn
noncomputable def value_formed_1 (p0x : ApiValue) (p100vx0 : Bool) : Option Bool := lim fun n => value_formed_1F n p0x p100vx0
theorem w_value_formed_1 {p0x : ApiValue} {p100vx0 : Bool} {res : Bool} (h : value_formed_1 p0x p100vx0 = some res) : ACalls Try.prog 109 [.agg (AV.cs (exApiValue p0x)), .box 0 0] [[.c (.bool p100vx0)]] (.c (.bool res)) [[.c (.bool p100vx0)]] := by
 obtain ⟨n, hn⟩ := lim_some h
 exact (wF_slices_ContainsFunc_api_Value_api_Value_v2 n).2.2.2 hn
noncomputable def value_Right (p0v : ApiValue) : Option Bool :=
 (value_within p0v).bind fun (x1 : Bool) => (gd (x1 == true) (value_formed p0v false)).bind fun (x3 : Bool) => some (cond x1 x3 false)
theorem w_value_Right {p0v : ApiValue} {res : Bool} (h : value_Right p0v = some res) : ACalls Try.prog 77 [.agg (AV.cs (exApiValue p0v))] [] (.c (.bool res)) [] := by
 unfold value_Right at h
 refine acalls (fn := Try.f77) [0, 1, 2] (by kernel_rfl) Try.func77 rfl (by kernel_rfl) (by kernel_rfl) ?_
 refine w_seqw ?_
 refine w_region ?_
 refine o_box (v := .agg [aI, aI, aS, aL, aL]) (n := 0) (cs := [aI, aI, aS, aL, aL]) (σ' := [[aI, aI, aS, aL, aL]]) rfl rfl rfl rfl rfl ?_
 refine o_p rfl (p_assign (v := aB) rfl) ?_
 refine o_end (fr' := [(0, .agg [aI, aI, aS, aL, aL]), (1, .box 0 0), (2, aB)]) rfl ?_
 refine e_kw ?_
 refine w_seqw ?_
 refine w_region ?_
 refine o_p rfl (p_loads (us := [aI, aI, aS, aL, aL]) tv40 rfl rfl rfl rfl) ?_
 obtain ⟨x1, hx1, h2⟩ := bind_s h
 refine o_v (ov_call (v := aB) rfl (w_value_within hx1) ⟨(le_aggc rfl ⟨rfl, rfl, rfl, rfl, rfl, trivial⟩), trivial⟩ rfl rfl rfl) ?_
 refine o_p rfl (p_move (v := aB) rfl) ?_
 refine o_g rfl rfl (fun hc => ov_p rfl (p_loads (us := [aI, aI, aS, aL, aL]) tv40 rfl rfl rfl rfl)) ?_
 obtain ⟨x3, hx3, h4⟩ := bind_s h2
 refine o_g rfl rfl (fun hc => ov_call (v := aB) rfl (w_value_formed (gd_some hx3 hc)) ⟨(le_gv (gx rfl hc) (le_aggc rfl ⟨rfl, rfl, rfl, rfl, rfl, trivial⟩)), (AV.le_refl _), trivial⟩ (ok_eq (by repeat (first | exact ok_nil | refine ok_cons rfl ?_ | refine ok_cons (dgv rfl) ?_))) rfl rfl) ?_
 refine o_p rfl (p_picky rfl rfl rfl (fun e => keq e)) ?_
 refine o_p rfl (p_assign (v := aB) rfl) ?_
 refine o_end (fr' := [(0, .agg [aI, aI, aS, aL, aL]), (1, .box 0 0), (2, aB)]) rfl ?_
 refine e_kw ?_
 refine w_ret ?_
 have he5 := Option.some.inj h4
 subst he5
 refine e_ret (rs' := [.tmp 2]) rfl ?_
 refine r_tmp (v := aB) rfl ?_
 refine r_nil ?_
 exact fin_gen [] rfl rfl rfl (AV.le_refl _) st_nil
noncomputable def name_letter (p0c : Int) : Option Bool :=
 some (cond (cond (cond (decide ((97 : Int) ≤ p0c)) (decide (p0c ≤ (122 : Int))) false) true (cond (decide ((65 : Int) ≤ p0c)) (decide (p0c ≤ (90 : Int))) false)) true (decide (p0c = (95 : Int))))
theorem w_name_letter {p0c : Int} {res : Bool} (h : name_letter p0c = some res) : ACalls Try.prog 95 [.c (.int .u8 p0c)] [] (.c (.bool res)) [] := by
 unfold name_letter at h
 refine acalls (fn := Try.f95) [0, 2] (by kernel_rfl) Try.func95 rfl (by kernel_rfl) (by kernel_rfl) ?_
 refine w_seqw ?_
 refine w_region ?_
 refine o_p rfl (p_assign (v := aB) rfl) ?_
 refine o_end (fr' := [(0, aI), (2, aB)]) rfl ?_
 refine e_kw ?_
 refine w_seqw ?_
 refine w_region ?_
 refine o_p rfl (p_move (v := aI) rfl) ?_
 refine o_p rfl (p_geq rfl rfl) ?_
 refine o_p rfl (p_move (v := aB) rfl) ?_
 refine o_g rfl rfl (fun hc => ov_p rfl (p_move (v := aI) rfl)) ?_
 refine o_g rfl rfl (fun hc => ov_p rfl (p_leq (gx rfl hc) rfl)) ?_
 refine o_p rfl (p_picky rfl rfl rfl (fun e => keq e)) ?_
 refine o_p rfl (p_move (v := aB) rfl) ?_
 refine o_g rfl rfl (fun hc => ov_p rfl (p_move (v := aI) rfl)) ?_
 refine o_g rfl rfl (fun hc => ov_p rfl (p_geq (gx rfl hc) rfl)) ?_
 refine o_g rfl rfl (fun hc => ov_p rfl (p_move (v := aB) (gx rfl hc))) ?_
 refine o_gg rfl rfl (fun hc => ov_p rfl (p_move (v := aI) rfl)) ?_
 refine o_gg rfl rfl (fun hc => ov_p rfl (p_leq (gx rfl hc) rfl)) ?_
 refine o_g rfl rfl (fun hc => ov_p rfl (p_picky (gx rfl hc) rfl rfl (fun e => band hc (keq e)))) ?_
 refine o_p rfl (p_pickz rfl rfl rfl (fun e => keq e)) ?_
 refine o_p rfl (p_move (v := aB) rfl) ?_
 refine o_g rfl rfl (fun hc => ov_p rfl (p_move (v := aI) rfl)) ?_
 refine o_g rfl rfl (fun hc => ov_p rfl (p_eql (gx rfl hc) rfl)) ?_
 refine o_p rfl (p_pickz rfl rfl rfl (fun e => keq e)) ?_
 refine o_p rfl (p_assign (v := aB) rfl) ?_
 refine o_end (fr' := [(0, aI), (2, aB)]) rfl ?_
 refine e_kw ?_
 refine w_ret ?_
 have he1 := Option.some.inj h
 subst he1
 refine e_ret (rs' := [.tmp 2]) rfl ?_
 refine r_tmp (v := aB) rfl ?_
 refine r_nil ?_
 exact fin_gen [] rfl rfl rfl (AV.le_refl _) st_nil
noncomputable def name_Right_l1 (p0s : (List UInt8)) (s6 : Int) : Option (Step Int (Fl Bool Unit)) :=
 cond (decide (s6 < ((p0s).length : Int))) ((idx p0s s6).bind fun (x8 : UInt8) => (name_letter ((x8).toNat : Int)).bind fun (x10 : Bool) => (gd (((!x10) == true) && ((decide (s6 = (0 : Int))) == false)) (idx p0s s6)).bind fun (x12 : UInt8) => (gd (((!x10) == true) && ((cond (decide (s6 = (0 : Int))) true (decide (((x12).toNat : Int) < (48 : Int)))) == false)) (idx p0s s6)).bind fun (x14 : UInt8) => cond (cond (!x10) (cond (cond (decide (s6 = (0 : Int))) true (decide (((x12).toNat : Int) < (48 : Int)))) true (decide ((57 : Int) < ((x14).toNat : Int)))) false) (some (Step.out (Fl.done false))) (some (Step.next (IntKind.wrap .i64 (s6 + (1 : Int)))))) (some (Step.out (Fl.go ())))
noncomputable def name_Right (p0s : (List UInt8)) : Option Bool :=
 cond (cond (decide (p0s = ([] : List UInt8))) true (decide ((64 : Int) < ((p0s).length : Int)))) (some false) (((loopO (name_Right_l1 p0s) ((0 : Int))) : Option (Fl Bool Unit)).bind fun (x3 : (Fl Bool Unit)) => Fl.next x3 (fun (j5 : Unit) => (some true)))
theorem w_name_Right {p0s : (List UInt8)} {res : Bool} (h : name_Right p0s = some res) : ACalls Try.prog 80 [.c (.str p0s)] [] (.c (.bool res)) [] := by
 unfold name_Right at h
 refine acalls (fn := Try.f80) [0, 2, 3, 10, 12, 13, 14, 36] (by kernel_rfl) Try.func80 rfl (by kernel_rfl) (by kernel_rfl) ?_
 refine w_seqw ?_
 refine w_region ?_
 refine o_p rfl (p_assign (v := aB) rfl) ?_
 refine o_end (fr' := [(0, aS), (2, aB)]) rfl ?_
 refine e_kw ?_
 refine w_seqw ?_
 refine w_seqw ?_
 refine w_region ?_
 refine o_p rfl (p_move (v := aS) rfl) ?_
 refine o_p rfl (p_seql rfl rfl) ?_
 refine o_p rfl (p_move (v := aB) rfl) ?_
 refine o_g rfl rfl (fun hc => ov_p rfl (p_move (v := aS) rfl)) ?_
 refine o_g rfl rfl (fun hc => ov_p rfl (p_lens ti9 (gx rfl hc))) ?_
 refine o_g rfl rfl (fun hc => ov_p rfl (p_gtr (gx rfl hc) rfl)) ?_
 refine o_p rfl (p_pickz rfl rfl rfl (fun e => keq e)) ?_
 refine o_end (fr' := [(0, aS), (2, aB), (10, aB)]) rfl ?_
 refine e_kw ?_
 refine w_cond _ rfl (fun hb1 => ?_) (fun hb1 => ?_)
 ·
  have h1 := cond_t (b := (cond (decide (p0s = ([] : List UInt8))) true (decide ((64 : Int) < ((p0s).length : Int))))) hb1 h
  refine w_seqw ?_
  refine w_region ?_
  refine o_p rfl (p_assign (v := aB) rfl) ?_
  refine o_end (fr' := [(0, aS), (2, aB), (10, aB)]) rfl ?_
  refine e_kw ?_
  refine w_ret ?_
  refine e_seq_r ?_
  have he2 := Option.some.inj h1
  subst he2
  refine e_ret (rs' := [.tmp 2]) rfl ?_
  refine r_tmp (v := aB) rfl ?_
  refine r_nil ?_
  exact fin_gen [] rfl rfl rfl (AV.le_refl _) st_nil
 ·
  have h1 := cond_f (b := (cond (decide (p0s = ([] : List UInt8))) true (decide ((64 : Int) < ((p0s).length : Int))))) hb1 h
  refine w_skip ?_
  refine e_kw ?_
  refine w_seqw ?_
  refine w_seqw ?_
  refine w_region ?_
  refine o_p rfl (p_move (v := aS) rfl) ?_
  refine o_p rfl (p_lens ti9 rfl) ?_
  refine o_p rfl (p_move (v := aI) rfl) ?_
  refine o_end (fr' := [(0, aS), (2, aB), (10, aB), (12, aI), (13, aI)]) rfl ?_
  refine e_kw ?_
  obtain ⟨x3, hx3, h4⟩ := bind_s h1
  refine w_jtail cl_kw (fun j5 => x3 = Fl.go j5) (fun (j5 : Unit) => ([] : Fr)) (fun (j5 : Unit) => ([] : St)) ?_ ?_
  ·
   refine w_block ?_
   refine w_loopo _ (fun (s6 : Int) => ([(0, .c (.str p0s)), (12, .c (.int .i64 ((p0s).length : Int))), (13, .c (.int .i64 s6))] : Fr)) (fun (s6 : Int) => ([] : St)) hx3 (w_weak [] 0 rfl rfl rfl rfl ⟨(AV.le_refl _), (AV.le_refl _), (AV.le_refl _), trivial⟩ st_nil) ?_
   intro s6 st6 hs6 ho6
   unfold name_Right_l1 at hs6
   refine w_seqw ?_
   refine w_region ?_
   refine o_p rfl (p_lss rfl rfl) ?_
   refine o_end (fr' := [(0, aS), (12, aI), (13, aI), (14, aB)]) rfl ?_
   refine e_kw ?_
   refine w_seqw ?_
   refine w_cond _ rfl (fun hb7 => ?_) (fun hb7 => ?_)
   ·
    have h7 := cond_t (b := (decide (s6 < ((p0s).length : Int)))) hb7 hs6
    refine w_skip ?_
    refine e_kw ?_
    refine w_seqw ?_
    refine w_block ?_
    refine w_seqw ?_
    refine w_region ?_
    refine o_p rfl (p_move (v := aI) rfl) ?_
    refine o_p rfl (p_assign (v := aI) rfl) ?_
    refine o_end (fr' := [(0, aS), (3, aI), (12, aI), (13, aI), (14, aB)]) rfl ?_
    refine e_kw ?_
    refine w_seqw ?_
    refine w_region ?_
    refine o_p rfl (p_move (v := aS) rfl) ?_
    refine o_p rfl (p_move (v := aI) rfl) ?_
    obtain ⟨x8, hx8, h9⟩ := bind_s h7
    refine o_p rfl (p_is ti9 rfl rfl hx8) ?_
    obtain ⟨x10, hx10, h11⟩ := bind_s h9
    refine o_v (ov_call (v := aB) rfl (w_name_letter hx10) ⟨(AV.le_refl _), trivial⟩ rfl rfl rfl) ?_
    refine o_p rfl (p_not rfl) ?_
    refine o_p rfl (p_move (v := aB) rfl) ?_
    refine o_g rfl rfl (fun hc => ov_p rfl (p_move (v := aI) rfl)) ?_
    refine o_g rfl rfl (fun hc => ov_p rfl (p_eql (gx rfl hc) rfl)) ?_
    refine o_g rfl rfl (fun hc => ov_p rfl (p_move (v := aB) (gx rfl hc))) ?_
    refine o_gg rfl rfl (fun hc => ov_p rfl (p_move (v := aS) rfl)) ?_
    refine o_gg rfl rfl (fun hc => ov_p rfl (p_move (v := aI) rfl)) ?_
    obtain ⟨x12, hx12, h13⟩ := bind_s h11
    refine o_gg rfl rfl (fun hc => ov_p rfl (p_is ti9 (gx rfl hc) (gx rfl hc) (gd_some hx12 hc))) ?_
    refine o_gg rfl rfl (fun hc => ov_p rfl (p_lss (gx rfl hc) rfl)) ?_
    refine o_g rfl rfl (fun hc => ov_p rfl (p_pickz (gx rfl hc) rfl rfl (fun e => band hc (keq e)))) ?_
    refine o_g rfl rfl (fun hc => ov_p rfl (p_move (v := aB) (gx rfl hc))) ?_
    refine o_gg rfl rfl (fun hc => ov_p rfl (p_move (v := aS) rfl)) ?_
    refine o_gg rfl rfl (fun hc => ov_p rfl (p_move (v := aI) rfl)) ?_
    obtain ⟨x14, hx14, h15⟩ := bind_s h13
    refine o_gg rfl rfl (fun hc => ov_p rfl (p_is ti9 (gx rfl hc) (gx rfl hc) (gd_some hx14 hc))) ?_
    refine o_gg rfl rfl (fun hc => ov_p rfl (p_gtr (gx rfl hc) rfl)) ?_
    refine o_g rfl rfl (fun hc => ov_p rfl (p_pickz (gx rfl hc) rfl rfl (fun e => band hc (keq e)))) ?_
    refine o_p rfl (p_picky rfl rfl rfl (fun e => keq e)) ?_
    refine o_end (fr' := [(0, aS), (3, aI), (12, aI), (13, aI), (14, aB), (36, aB)]) rfl ?_
    refine e_kw ?_
    refine w_cond _ rfl (fun hb16 => ?_) (fun hb16 => ?_)
    ·
     have h16 := cond_t (b := (cond (!x10) (cond (cond (decide (s6 = (0 : Int))) true (decide (((x12).toNat : Int) < (48 : Int)))) true (decide ((57 : Int) < ((x14).toNat : Int)))) false)) hb16 h15
     refine w_seqw ?_
     refine w_region ?_
     refine o_p rfl (p_assign (v := aB) rfl) ?_
     refine o_end (fr' := [(0, aS), (2, aB), (3, aI), (12, aI), (13, aI), (14, aB), (36, aB)]) rfl ?_
     refine e_kw ?_
     refine w_ret ?_
     refine e_blk_r ?_
     refine e_seq_r ?_
     refine e_seq_r ?_
     refine e_blk_r ?_
     refine e_seq_r ?_
     refine e_seq_r ?_
     have h17 := un_out h16 ho6
     have h18 := un_done h17 h4
     have he19 := Option.some.inj h18
     subst he19
     refine e_ret (rs' := [.tmp 2]) rfl ?_
     refine r_tmp (v := aB) rfl ?_
     refine r_nil ?_
     exact fin_gen [] rfl rfl rfl (AV.le_refl _) st_nil
    ·
     have h16 := cond_f (b := (cond (!x10) (cond (cond (decide (s6 = (0 : Int))) true (decide (((x12).toNat : Int) < (48 : Int)))) true (decide ((57 : Int) < ((x14).toNat : Int)))) false)) hb16 h15
     refine w_skip ?_
     refine e_blk_n ?_
     refine e_kw ?_
     refine w_region ?_
     refine o_p rfl (p_add rfl rfl) ?_
     refine o_p rfl (p_move (v := aI) rfl) ?_
     refine o_end (fr' := [(0, aS), (3, aI), (12, aI), (13, aI), (14, aB), (36, aB)]) rfl ?_
     exact e_l _ (Option.some.inj h16).symm (w_weak [] 0 rfl rfl rfl rfl ⟨(AV.le_refl _), (AV.le_refl _), (AV.le_refl _), trivial⟩ st_nil)
   ·
    have h7 := cond_f (b := (decide (s6 < ((p0s).length : Int)))) hb7 hs6
    refine w_exit ?_
    refine e_seq_x ?_
    refine e_seq_x ?_
    refine e_blk_h ?_
    have h20 := un_out h7 ho6
    exact e_j _ (Option.some.inj h20).symm (w_weak [] 0 rfl rfl rfl rfl trivial st_nil)
  ·
   intro j5 hj21
   have h21 := un_go hj21 h4
   refine e_kw ?_
   refine w_seqw ?_
   refine w_region ?_
   refine o_p rfl (p_assign (v := aB) rfl) ?_
   refine o_end (fr' := [(2, aB)]) rfl ?_
   refine e_kw ?_
   refine w_ret ?_
   have he22 := Option.some.inj h21
   subst he22
   refine e_ret (rs' := [.tmp 2]) rfl ?_
   refine r_tmp (v := aB) rfl ?_
   refine r_nil ?_
   exact fin_gen [] rfl rfl rfl (AV.le_refl _) st_nil
noncomputable def command_RightPolicy_1 (p0s : (List UInt8)) : Option Bool :=
 some (decide ((4096 : Int) < ((p0s).length : Int)))
theorem w_command_RightPolicy_1 {p0s : (List UInt8)} {res : Bool} (h : command_RightPolicy_1 p0s = some res) : ACalls Try.prog 94 [.c (.str p0s)] [] (.c (.bool res)) [] := by
 unfold command_RightPolicy_1 at h
 refine acalls (fn := Try.f94) [0, 2] (by kernel_rfl) Try.func94 rfl (by kernel_rfl) (by kernel_rfl) ?_
 refine w_seqw ?_
 refine w_region ?_
 refine o_p rfl (p_assign (v := aB) rfl) ?_
 refine o_end (fr' := [(0, aS), (2, aB)]) rfl ?_
 refine e_kw ?_
 refine w_seqw ?_
 refine w_region ?_
 refine o_p rfl (p_move (v := aS) rfl) ?_
 refine o_p rfl (p_lens ti9 rfl) ?_
 refine o_p rfl (p_gtr rfl rfl) ?_
 refine o_p rfl (p_assign (v := aB) rfl) ?_
 refine o_end (fr' := [(0, aS), (2, aB)]) rfl ?_
 refine e_kw ?_
 refine w_ret ?_
 have he1 := Option.some.inj h
 subst he1
 refine e_ret (rs' := [.tmp 2]) rfl ?_
 refine r_tmp (v := aB) rfl ?_
 refine r_nil ?_
 exact fin_gen [] rfl rfl rfl (AV.le_refl _) st_nil
noncomputable def slices_IndexFunc_string_string_v2_l1 (p0s : (List (List UInt8))) (s4 : Int) : Option (Step Int (Fl Int Unit)) :=
 cond (decide (s4 < ((p0s).length : Int))) ((idx p0s s4).bind fun (x6 : (List UInt8)) => (command_RightPolicy_1 x6).bind fun (x8 : Bool) => cond x8 (some (Step.out (Fl.done s4))) (some (Step.next (IntKind.wrap .i64 (s4 + (1 : Int)))))) (some (Step.out (Fl.go ())))
noncomputable def slices_IndexFunc_string_string_v2 (p0s : (List (List UInt8))) : Option Int :=
 ((loopO (slices_IndexFunc_string_string_v2_l1 p0s) ((0 : Int))) : Option (Fl Int Unit)).bind fun (x1 : (Fl Int Unit)) => Fl.next x1 (fun (j3 : Unit) => (some (-1 : Int)))
theorem w_slices_IndexFunc_string_string_v2 {p0s : (List (List UInt8))} {res : Int} (h : slices_IndexFunc_string_string_v2 p0s = some res) : ACalls Try.prog 110 [.c (PV.ls 1 rowS p0s), .fn 94 []] [] (.c (.int .i64 res)) [] := by
 unfold slices_IndexFunc_string_string_v2 at h
 refine acalls (fn := Try.f110) [0, 1, 4, 5, 7, 8, 9, 16] (by kernel_rfl) Try.func110 rfl (by kernel_rfl) (by kernel_rfl) ?_
 refine w_seqw ?_
 refine w_region ?_
 refine o_p rfl (p_assign (v := aI) rfl) ?_
 refine o_end (fr' := [(0, aL), (1, .fn _ []), (4, aI)]) rfl ?_
 refine e_kw ?_
 refine w_seqw ?_
 refine w_seqw ?_
 refine w_region ?_
 refine o_p rfl (p_move (v := aL) rfl) ?_
 refine o_p rfl (p_len ti38 (isl_c rfl)) ?_
 refine o_p rfl (p_move (v := aI) rfl) ?_
 refine o_end (fr' := [(0, aL), (1, .fn _ []), (4, aI), (7, aI), (8, aI)]) rfl ?_
 refine e_kw ?_
 obtain ⟨x1, hx1, h2⟩ := bind_s h
 refine w_jtail cl_kw (fun j3 => x1 = Fl.go j3) (fun (j3 : Unit) => ([] : Fr)) (fun (j3 : Unit) => ([] : St)) ?_ ?_
 ·
  refine w_block ?_
  refine w_loopo _ (fun (s4 : Int) => ([(0, .c (PV.ls 1 rowS p0s)), (1, .fn 94 []), (7, .c (.int .i64 ((p0s).length : Int))), (8, .c (.int .i64 s4))] : Fr)) (fun (s4 : Int) => ([] : St)) hx1 (w_weak [] 0 rfl rfl rfl rfl ⟨(AV.le_refl _), (AV.le_refl _), (AV.le_refl _), (AV.le_refl _), trivial⟩ st_nil) ?_
  intro s4 st4 hs4 ho4
  unfold slices_IndexFunc_string_string_v2_l1 at hs4
  refine w_seqw ?_
  refine w_region ?_
  refine o_p rfl (p_lss rfl rfl) ?_
  refine o_end (fr' := [(0, aL), (1, .fn _ []), (7, aI), (8, aI), (9, aB)]) rfl ?_
  refine e_kw ?_
  refine w_seqw ?_
  refine w_cond _ rfl (fun hb5 => ?_) (fun hb5 => ?_)
  ·
   have h5 := cond_t (b := (decide (s4 < ((p0s).length : Int)))) hb5 hs4
   refine w_skip ?_
   refine e_kw ?_
   refine w_seqw ?_
   refine w_block ?_
   refine w_seqw ?_
   refine w_region ?_
   refine o_p rfl (p_move (v := aI) rfl) ?_
   refine o_p rfl (p_assign (v := aI) rfl) ?_
   refine o_end (fr' := [(0, aL), (1, .fn _ []), (5, aI), (7, aI), (8, aI), (9, aB)]) rfl ?_
   refine e_kw ?_
   refine w_seqw ?_
   refine w_region ?_
   refine o_p rfl (p_move (v := .fn _ []) rfl) ?_
   refine o_p rfl (p_move (v := aL) rfl) ?_
   refine o_p rfl (p_move (v := aI) rfl) ?_
   obtain ⟨x6, hx6, h7⟩ := bind_s h5
   refine o_p rfl (p_ia (cs := [.str _]) ts38 (isl_c rfl) rfl hx6 rfl) ?_
   refine o_p rfl (p_loade (p := .str _) tv9 rfl rfl) ?_
   obtain ⟨x8, hx8, h9⟩ := bind_s h7
   refine o_v (ov_call (v := aB) rfl (w_command_RightPolicy_1 hx8) ⟨(AV.le_refl _), trivial⟩ rfl rfl rfl) ?_
   refine o_end (fr' := [(0, aL), (1, .fn _ []), (5, aI), (7, aI), (8, aI), (9, aB), (16, aB)]) rfl ?_
   refine e_kw ?_
   refine w_cond _ rfl (fun hb10 => ?_) (fun hb10 => ?_)
   ·
    have h10 := cond_t (b := x8) hb10 h9
    refine w_seqw ?_
    refine w_region ?_
    refine o_p rfl (p_move (v := aI) rfl) ?_
    refine o_p rfl (p_assign (v := aI) rfl) ?_
    refine o_end (fr' := [(0, aL), (1, .fn _ []), (4, aI), (5, aI), (7, aI), (8, aI), (9, aB), (16, aB)]) rfl ?_
    refine e_kw ?_
    refine w_ret ?_
    refine e_blk_r ?_
    refine e_seq_r ?_
    refine e_seq_r ?_
    refine e_blk_r ?_
    refine e_seq_r ?_
    refine e_seq_r ?_
    have h11 := un_out h10 ho4
    have h12 := un_done h11 h2
    have he13 := Option.some.inj h12
    subst he13
    refine e_ret (rs' := [.tmp 4]) rfl ?_
    refine r_tmp (v := aI) rfl ?_
    refine r_nil ?_
    exact fin_gen [] rfl rfl rfl (AV.le_refl _) st_nil
   ·
    have h10 := cond_f (b := x8) hb10 h9
    refine w_skip ?_
    refine e_blk_n ?_
    refine e_kw ?_
    refine w_region ?_
    refine o_p rfl (p_add rfl rfl) ?_
    refine o_p rfl (p_move (v := aI) rfl) ?_
    refine o_end (fr' := [(0, aL), (1, .fn _ []), (5, aI), (7, aI), (8, aI), (9, aB), (16, aB)]) rfl ?_
    exact e_l _ (Option.some.inj h10).symm (w_weak [] 0 rfl rfl rfl rfl ⟨(AV.le_refl _), (AV.le_refl _), (AV.le_refl _), (AV.le_refl _), trivial⟩ st_nil)
  ·
   have h5 := cond_f (b := (decide (s4 < ((p0s).length : Int)))) hb5 hs4
   refine w_exit ?_
   refine e_seq_x ?_
   refine e_seq_x ?_
   refine e_blk_h ?_
   have h14 := un_out h5 ho4
   exact e_j _ (Option.some.inj h14).symm (w_weak [] 0 rfl rfl rfl rfl trivial st_nil)
 ·
  intro j3 hj15
  have h15 := un_go hj15 h2
  refine e_kw ?_
  refine w_seqw ?_
  refine w_region ?_
  refine o_p rfl (p_assign (v := aI) rfl) ?_
  refine o_end (fr' := [(4, aI)]) rfl ?_
  refine e_kw ?_
  refine w_ret ?_
  have he16 := Option.some.inj h15
  subst he16
  refine e_ret (rs' := [.tmp 4]) rfl ?_
  refine r_tmp (v := aI) rfl ?_
  refine r_nil ?_
  exact fin_gen [] rfl rfl rfl (AV.le_refl _) st_nil
noncomputable def slices_ContainsFunc_string_string_v2 (p0s : (List (List UInt8))) : Option Bool :=
 (slices_IndexFunc_string_string_v2 p0s).bind fun (x1 : Int) => some (decide ((0 : Int) ≤ x1))
theorem w_slices_ContainsFunc_string_string_v2 {p0s : (List (List UInt8))} {res : Bool} (h : slices_ContainsFunc_string_string_v2 p0s = some res) : ACalls Try.prog 93 [.c (PV.ls 1 rowS p0s), .fn 94 []] [] (.c (.bool res)) [] := by
 unfold slices_ContainsFunc_string_string_v2 at h
 refine acalls (fn := Try.f93) [0, 1, 4] (by kernel_rfl) Try.func93 rfl (by kernel_rfl) (by kernel_rfl) ?_
 refine w_seqw ?_
 refine w_region ?_
 refine o_p rfl (p_assign (v := aB) rfl) ?_
 refine o_end (fr' := [(0, aL), (1, .fn _ []), (4, aB)]) rfl ?_
 refine e_kw ?_
 refine w_seqw ?_
 refine w_region ?_
 refine o_p rfl (p_move (v := aL) rfl) ?_
 refine o_p rfl (p_move (v := .fn _ []) rfl) ?_
 obtain ⟨x1, hx1, h2⟩ := bind_s h
 refine o_v (ov_call (v := aI) rfl (w_slices_IndexFunc_string_string_v2 hx1) ⟨(AV.le_refl _), (AV.le_refl _), trivial⟩ rfl rfl rfl) ?_
 refine o_p rfl (p_geq rfl rfl) ?_
 refine o_p rfl (p_assign (v := aB) rfl) ?_
 refine o_end (fr' := [(0, aL), (1, .fn _ []), (4, aB)]) rfl ?_
 refine e_kw ?_
 refine w_ret ?_
 have he3 := Option.some.inj h2
 subst he3
 refine e_ret (rs' := [.tmp 4]) rfl ?_
 refine r_tmp (v := aB) rfl ?_
 refine r_nil ?_
 exact fin_gen [] rfl rfl rfl (AV.le_refl _) st_nil
noncomputable def command_RightPolicy_l1 (p0o : ApiPolicy) (s8 : Int) : Option (Step Int (Fl Bool Unit)) :=
 cond (decide (s8 < ((([p0o.ToStart, p0o.ToClose, p0o.Total, p0o.Beat, p0o.First, p0o.Most] : List Int)).length : Int))) ((idx ([p0o.ToStart, p0o.ToClose, p0o.Total, p0o.Beat, p0o.First, p0o.Most] : List Int) s8).bind fun (x10 : Int) => (command_in x10 (0 : Int) (1099511627776 : Int)).bind fun (x12 : Bool) => cond (!x12) (some (Step.out (Fl.done false))) (some (Step.next (IntKind.wrap .i64 (s8 + (1 : Int)))))) (some (Step.out (Fl.go ())))
noncomputable def command_RightPolicy (p0o : ApiPolicy) : Option Bool :=
 (gd ((!decide (p0o.Queue = ([] : List UInt8))) == true) (name_Right p0o.Queue)).bind fun (x1 : Bool) => cond (cond (cond (!decide (p0o.Queue = ([] : List UInt8))) (!x1) false) true (decide ((64 : Int) < ((p0o.Fatal).length : Int)))) (some false) (((loopO (command_RightPolicy_l1 p0o) ((0 : Int))) : Option (Fl Bool Unit)).bind fun (x5 : (Fl Bool Unit)) => Fl.next x5 (fun (j7 : Unit) => ((command_in p0o.Coef (0 : Int) (10000 : Int)).bind fun (x20 : Bool) => (gd (x20 == true) (command_in p0o.Attempts (0 : Int) (1000 : Int))).bind fun (x22 : Bool) => (gd ((cond x20 x22 false) == true) (slices_ContainsFunc_string_string_v2 p0o.Fatal)).bind fun (x24 : Bool) => some (cond (cond x20 x22 false) (!x24) false))))
theorem w_command_RightPolicy {p0o : ApiPolicy} {res : Bool} (h : command_RightPolicy p0o = some res) : ACalls Try.prog 78 [.agg (AV.cs (rowApiPolicy p0o))] [] (.c (.bool res)) [] := by
 unfold command_RightPolicy at h
 refine acalls (fn := Try.f78) [0, 1, 2, 4, 19, 32, 33, 34, 35, 40] (by kernel_rfl) Try.func78 rfl (by kernel_rfl) (by kernel_rfl) ?_
 refine w_seqw ?_
 refine w_region ?_
 refine o_box (v := .agg [aS, aI, aI, aI, aI, aI, aI, aI, aI, aL]) (n := 0) (cs := [aS, aI, aI, aI, aI, aI, aI, aI, aI, aL]) (σ' := [[aS, aI, aI, aI, aI, aI, aI, aI, aI, aL]]) rfl rfl rfl rfl rfl ?_
 refine o_p rfl (p_assign (v := aB) rfl) ?_
 refine o_end (fr' := [(0, .agg [aS, aI, aI, aI, aI, aI, aI, aI, aI, aL]), (1, .box 0 0), (2, aB)]) rfl ?_
 refine e_kw ?_
 refine w_seqw ?_
 refine w_seqw ?_
 refine w_region ?_
 refine o_p rfl (p_fa tf42x0 rfl) ?_
 refine o_p rfl (p_load (v := aS) tv9 rfl rfl rfl) ?_
 refine o_p rfl (p_sneq rfl rfl) ?_
 refine o_p rfl (p_move (v := aB) rfl) ?_
 refine o_g rfl rfl (fun hc => ov_p rfl (p_fa tf42x0 rfl)) ?_
 refine o_g rfl rfl (fun hc => ov_p rfl (p_load (v := aS) tv9 (gx rfl hc) rfl rfl)) ?_
 obtain ⟨x1, hx1, h2⟩ := bind_s h
 refine o_g rfl rfl (fun hc => ov_call (v := aB) rfl (w_name_Right (gd_some hx1 hc)) ⟨(le_gv (gx rfl hc) (AV.le_refl _)), trivial⟩ (ok_eq (by repeat (first | exact ok_nil | refine ok_cons rfl ?_ | refine ok_cons (dgv rfl) ?_))) rfl rfl) ?_
 refine o_g rfl rfl (fun hc => ov_p rfl (p_not (gx rfl hc))) ?_
 refine o_p rfl (p_picky rfl rfl rfl (fun e => keq e)) ?_
 refine o_p rfl (p_move (v := aB) rfl) ?_
 refine o_g rfl rfl (fun hc => ov_p rfl (p_fa tf42x9 rfl)) ?_
 refine o_g rfl rfl (fun hc => ov_p rfl (p_load (v := aL) tv38 (gx rfl hc) rfl rfl)) ?_
 refine o_g rfl rfl (fun hc => ov_p rfl (p_len ti38 (isl_c (gx rfl hc)))) ?_
 refine o_g rfl rfl (fun hc => ov_p rfl (p_gtr (gx rfl hc) rfl)) ?_
 refine o_p rfl (p_pickz rfl rfl rfl (fun e => keq e)) ?_
 refine o_end (fr' := [(0, .agg [aS, aI, aI, aI, aI, aI, aI, aI, aI, aL]), (1, .box 0 0), (2, aB), (19, aB)]) rfl ?_
 refine e_kw ?_
 refine w_cond _ rfl (fun hb3 => ?_) (fun hb3 => ?_)
 ·
  have h3 := cond_t (b := (cond (cond (!decide (p0o.Queue = ([] : List UInt8))) (!x1) false) true (decide ((64 : Int) < ((p0o.Fatal).length : Int))))) hb3 h2
  refine w_seqw ?_
  refine w_region ?_
  refine o_p rfl (p_assign (v := aB) rfl) ?_
  refine o_end (fr' := [(0, .agg [aS, aI, aI, aI, aI, aI, aI, aI, aI, aL]), (1, .box 0 0), (2, aB), (19, aB)]) rfl ?_
  refine e_kw ?_
  refine w_ret ?_
  refine e_seq_r ?_
  have he4 := Option.some.inj h3
  subst he4
  refine e_ret (rs' := [.tmp 2]) rfl ?_
  refine r_tmp (v := aB) rfl ?_
  refine r_nil ?_
  exact fin_gen [] rfl rfl rfl (AV.le_refl _) st_nil
 ·
  have h3 := cond_f (b := (cond (cond (!decide (p0o.Queue = ([] : List UInt8))) (!x1) false) true (decide ((64 : Int) < ((p0o.Fatal).length : Int))))) hb3 h2
  refine w_skip ?_
  refine e_kw ?_
  refine w_seqw ?_
  refine w_seqw ?_
  refine w_region ?_
  refine o_p rfl (p_fa tf42x1 rfl) ?_
  refine o_p rfl (p_load (v := aI) tv3 rfl rfl rfl) ?_
  refine o_p rfl (p_fa tf42x2 rfl) ?_
  refine o_p rfl (p_load (v := aI) tv3 rfl rfl rfl) ?_
  refine o_p rfl (p_fa tf42x3 rfl) ?_
  refine o_p rfl (p_load (v := aI) tv3 rfl rfl rfl) ?_
  refine o_p rfl (p_fa tf42x4 rfl) ?_
  refine o_p rfl (p_load (v := aI) tv3 rfl rfl rfl) ?_
  refine o_p rfl (p_fa tf42x5 rfl) ?_
  refine o_p rfl (p_load (v := aI) tv3 rfl rfl rfl) ?_
  refine o_p rfl (p_fa tf42x7 rfl) ?_
  refine o_p rfl (p_load (v := aI) tv3 rfl rfl rfl) ?_
  refine o_rows (row := (rowI .i64)) (xs := ([p0o.ToStart, p0o.ToClose, p0o.Total, p0o.Beat, p0o.First, p0o.Most] : List Int)) (rows := [[_], [_], [_], [_], [_], [_]]) (σ' := [[aS, aI, aI, aI, aI, aI, aI, aI, aI, aL]]) [0] ts105 rfl rfl rfl (arow_cons rfl (arow_cons rfl (arow_cons rfl (arow_cons rfl (arow_cons rfl (arow_cons rfl arow_nil)))))) (ok_eq (by repeat (first | exact ok_nil | refine ok_cons rfl ?_ | refine ok_cons (dgv rfl) ?_))) rfl ?_
  refine o_p rfl (p_len ti105 (isl_o rfl)) ?_
  refine o_p rfl (p_move (v := aI) rfl) ?_
  refine o_end (fr' := [(0, .agg [aS, aI, aI, aI, aI, aI, aI, aI, aI, aL]), (1, .box 0 0), (2, aB), (19, aB), (32, aO), (33, aI), (34, aI)]) rfl ?_
  refine e_kw ?_
  obtain ⟨x5, hx5, h6⟩ := bind_s h3
  refine w_jtail cl_kw (fun j7 => x5 = Fl.go j7) (fun (j7 : Unit) => ([(1, .box 0 0)] : Fr)) (fun (j7 : Unit) => ([[.c (.str p0o.Queue), .c (.int .i64 p0o.ToStart), .c (.int .i64 p0o.ToClose), .c (.int .i64 p0o.Total), .c (.int .i64 p0o.Beat), .c (.int .i64 p0o.First), .c (.int .i64 p0o.Coef), .c (.int .i64 p0o.Most), .c (.int .i64 p0o.Attempts), .c (PV.ls 1 rowS p0o.Fatal)]] : St)) ?_ ?_
  ·
   refine w_block ?_
   refine w_loopo _ (fun (s8 : Int) => ([(1, .box 0 0), (32, AV.os 0 1 (rowI .i64) ([p0o.ToStart, p0o.ToClose, p0o.Total, p0o.Beat, p0o.First, p0o.Most] : List Int)), (33, .c (.int .i64 ((([p0o.ToStart, p0o.ToClose, p0o.Total, p0o.Beat, p0o.First, p0o.Most] : List Int)).length : Int))), (34, .c (.int .i64 s8))] : Fr)) (fun (s8 : Int) => ([[.c (.str p0o.Queue), .c (.int .i64 p0o.ToStart), .c (.int .i64 p0o.ToClose), .c (.int .i64 p0o.Total), .c (.int .i64 p0o.Beat), .c (.int .i64 p0o.First), .c (.int .i64 p0o.Coef), .c (.int .i64 p0o.Most), .c (.int .i64 p0o.Attempts), .c (PV.ls 1 rowS p0o.Fatal)]] : St)) hx5 (w_weak [512] 1 rfl rfl rfl rfl ⟨(AV.le_refl _), (AV.le_refl _), (AV.le_refl _), (AV.le_refl _), trivial⟩ (st_r rfl st_nil)) ?_
   intro s8 st8 hs8 ho8
   unfold command_RightPolicy_l1 at hs8
   refine w_seqw ?_
   refine w_region ?_
   refine o_p rfl (p_lss rfl rfl) ?_
   refine o_end (fr' := [(1, .box 0 0), (32, aO), (33, aI), (34, aI), (35, aB)]) rfl ?_
   refine e_kw ?_
   refine w_seqw ?_
   refine w_cond _ rfl (fun hb9 => ?_) (fun hb9 => ?_)
   ·
    have h9 := cond_t (b := (decide (s8 < ((([p0o.ToStart, p0o.ToClose, p0o.Total, p0o.Beat, p0o.First, p0o.Most] : List Int)).length : Int)))) hb9 hs8
    refine w_skip ?_
    refine e_kw ?_
    refine w_seqw ?_
    refine w_block ?_
    refine w_seqw ?_
    refine w_region ?_
    obtain ⟨x10, hx10, h11⟩ := bind_s h9
    refine o_p rfl (p_ia (cs := [.int _ _]) ts105 (isl_o rfl) rfl hx10 rfl) ?_
    refine o_p rfl (p_loade (p := .int _ _) tv3 rfl rfl) ?_
    refine o_p rfl (p_assign (v := aI) rfl) ?_
    refine o_end (fr' := [(1, .box 0 0), (4, aI), (32, aO), (33, aI), (34, aI), (35, aB)]) rfl ?_
    refine e_kw ?_
    refine w_seqw ?_
    refine w_region ?_
    refine o_p rfl (p_move (v := aI) rfl) ?_
    obtain ⟨x12, hx12, h13⟩ := bind_s h11
    refine o_v (ov_call (v := aB) rfl (w_command_in hx12) ⟨(AV.le_refl _), (AV.le_refl _), (AV.le_refl _), trivial⟩ rfl rfl rfl) ?_
    refine o_p rfl (p_not rfl) ?_
    refine o_end (fr' := [(1, .box 0 0), (4, aI), (32, aO), (33, aI), (34, aI), (35, aB), (40, aB)]) rfl ?_
    refine e_kw ?_
    refine w_cond _ rfl (fun hb14 => ?_) (fun hb14 => ?_)
    ·
     have h14 := cond_t (b := (!x12)) hb14 h13
     refine w_seqw ?_
     refine w_region ?_
     refine o_p rfl (p_assign (v := aB) rfl) ?_
     refine o_end (fr' := [(1, .box 0 0), (2, aB), (4, aI), (32, aO), (33, aI), (34, aI), (35, aB), (40, aB)]) rfl ?_
     refine e_kw ?_
     refine w_ret ?_
     refine e_blk_r ?_
     refine e_seq_r ?_
     refine e_seq_r ?_
     refine e_blk_r ?_
     refine e_seq_r ?_
     refine e_seq_r ?_
     have h15 := un_out h14 ho8
     have h16 := un_done h15 h6
     have he17 := Option.some.inj h16
     subst he17
     refine e_ret (rs' := [.tmp 2]) rfl ?_
     refine r_tmp (v := aB) rfl ?_
     refine r_nil ?_
     exact fin_gen [] rfl rfl rfl (AV.le_refl _) st_nil
    ·
     have h14 := cond_f (b := (!x12)) hb14 h13
     refine w_skip ?_
     refine e_blk_n ?_
     refine e_kw ?_
     refine w_region ?_
     refine o_p rfl (p_add rfl rfl) ?_
     refine o_p rfl (p_move (v := aI) rfl) ?_
     refine o_end (fr' := [(1, .box 0 0), (4, aI), (32, aO), (33, aI), (34, aI), (35, aB), (40, aB)]) rfl ?_
     exact e_l _ (Option.some.inj h14).symm (w_weak [0] 1 rfl rfl rfl rfl ⟨(AV.le_refl _), (AV.le_refl _), (AV.le_refl _), (AV.le_refl _), trivial⟩ (st_r rfl st_nil))
   ·
    have h9 := cond_f (b := (decide (s8 < ((([p0o.ToStart, p0o.ToClose, p0o.Total, p0o.Beat, p0o.First, p0o.Most] : List Int)).length : Int)))) hb9 hs8
    refine w_exit ?_
    refine e_seq_x ?_
    refine e_seq_x ?_
    refine e_blk_h ?_
    have h18 := un_out h9 ho8
    exact e_j _ (Option.some.inj h18).symm (w_weak [] 1 rfl rfl rfl rfl ⟨(AV.le_refl _), trivial⟩ (st_r rfl st_nil))
  ·
   intro j7 hj19
   have h19 := un_go hj19 h6
   refine e_kw ?_
   refine w_seqw ?_
   refine w_region ?_
   refine o_p rfl (p_fa tf42x6 rfl) ?_
   refine o_p rfl (p_load (v := aI) tv3 rfl rfl rfl) ?_
   obtain ⟨x20, hx20, h21⟩ := bind_s h19
   refine o_v (ov_call (v := aB) rfl (w_command_in hx20) ⟨(AV.le_refl _), (AV.le_refl _), (AV.le_refl _), trivial⟩ rfl rfl rfl) ?_
   refine o_p rfl (p_move (v := aB) rfl) ?_
   refine o_g rfl rfl (fun hc => ov_p rfl (p_fa tf42x8 rfl)) ?_
   refine o_g rfl rfl (fun hc => ov_p rfl (p_load (v := aI) tv3 (gx rfl hc) rfl rfl)) ?_
   obtain ⟨x22, hx22, h23⟩ := bind_s h21
   refine o_g rfl rfl (fun hc => ov_call (v := aB) rfl (w_command_in (gd_some hx22 hc)) ⟨(le_gv (gx rfl hc) (AV.le_refl _)), (AV.le_refl _), (AV.le_refl _), trivial⟩ (ok_eq (by repeat (first | exact ok_nil | refine ok_cons rfl ?_ | refine ok_cons (dgv rfl) ?_))) rfl rfl) ?_
   refine o_p rfl (p_picky rfl rfl rfl (fun e => keq e)) ?_
   refine o_p rfl (p_move (v := aB) rfl) ?_
   refine o_g rfl rfl (fun hc => ov_p rfl (p_fa tf42x9 rfl)) ?_
   refine o_g rfl rfl (fun hc => ov_p rfl (p_load (v := aL) tv38 (gx rfl hc) rfl rfl)) ?_
   obtain ⟨x24, hx24, h25⟩ := bind_s h23
   refine o_g rfl rfl (fun hc => ov_call (v := aB) rfl (w_slices_ContainsFunc_string_string_v2 (gd_some hx24 hc)) ⟨(le_gv (gx rfl hc) (AV.le_refl _)), (AV.le_refl _), trivial⟩ (ok_eq (by repeat (first | exact ok_nil | refine ok_cons rfl ?_ | refine ok_cons (dgv rfl) ?_))) rfl rfl) ?_
   refine o_g rfl rfl (fun hc => ov_p rfl (p_not (gx rfl hc))) ?_
   refine o_p rfl (p_picky rfl rfl rfl (fun e => keq e)) ?_
   refine o_p rfl (p_assign (v := aB) rfl) ?_
   refine o_end (fr' := [(1, .box 0 0), (2, aB)]) rfl ?_
   refine e_kw ?_
   refine w_ret ?_
   have he26 := Option.some.inj h25
   subst he26
   refine e_ret (rs' := [.tmp 2]) rfl ?_
   refine r_tmp (v := aB) rfl ?_
   refine r_nil ?_
   exact fin_gen [] rfl rfl rfl (AV.le_refl _) st_nil
noncomputable def command_ident_l1 (p0s : (List UInt8)) (s4 : Int) : Option (Step Int (Fl Bool Unit)) :=
 cond (decide (s4 < ((p0s).length : Int))) ((idx p0s s4).bind fun (x6 : UInt8) => (gd ((decide (((x6).toNat : Int) < (33 : Int))) == false) (idx p0s s4)).bind fun (x8 : UInt8) => (gd ((cond (decide (((x6).toNat : Int) < (33 : Int))) true (decide ((126 : Int) < ((x8).toNat : Int)))) == false) (idx p0s s4)).bind fun (x10 : UInt8) => (gd ((cond (cond (decide (((x6).toNat : Int) < (33 : Int))) true (decide ((126 : Int) < ((x8).toNat : Int)))) true (decide (((x10).toNat : Int) = (47 : Int)))) == false) (idx p0s s4)).bind fun (x12 : UInt8) => cond (cond (cond (cond (decide (((x6).toNat : Int) < (33 : Int))) true (decide ((126 : Int) < ((x8).toNat : Int)))) true (decide (((x10).toNat : Int) = (47 : Int)))) true (decide (((x12).toNat : Int) = (34 : Int)))) (some (Step.out (Fl.done false))) (some (Step.next (IntKind.wrap .i64 (s4 + (1 : Int)))))) (some (Step.out (Fl.go ())))
noncomputable def command_ident (p0s : (List UInt8)) : Option Bool :=
 ((loopO (command_ident_l1 p0s) ((0 : Int))) : Option (Fl Bool Unit)).bind fun (x1 : (Fl Bool Unit)) => Fl.next x1 (fun (j3 : Unit) => ((command_in ((p0s).length : Int) (1 : Int) (64 : Int)).bind fun (x20 : Bool) => some x20))
theorem w_command_ident {p0s : (List UInt8)} {res : Bool} (h : command_ident p0s = some res) : ACalls Try.prog 79 [.c (.str p0s)] [] (.c (.bool res)) [] := by
 unfold command_ident at h
 refine acalls (fn := Try.f79) [0, 2, 3, 5, 6, 7, 30] (by kernel_rfl) Try.func79 rfl (by kernel_rfl) (by kernel_rfl) ?_
 refine w_seqw ?_
 refine w_region ?_
 refine o_p rfl (p_assign (v := aB) rfl) ?_
 refine o_end (fr' := [(0, aS), (2, aB)]) rfl ?_
 refine e_kw ?_
 refine w_seqw ?_
 refine w_seqw ?_
 refine w_region ?_
 refine o_p rfl (p_move (v := aS) rfl) ?_
 refine o_p rfl (p_lens ti9 rfl) ?_
 refine o_p rfl (p_move (v := aI) rfl) ?_
 refine o_end (fr' := [(0, aS), (2, aB), (5, aI), (6, aI)]) rfl ?_
 refine e_kw ?_
 obtain ⟨x1, hx1, h2⟩ := bind_s h
 refine w_jtail cl_kw (fun j3 => x1 = Fl.go j3) (fun (j3 : Unit) => ([(0, .c (.str p0s))] : Fr)) (fun (j3 : Unit) => ([] : St)) ?_ ?_
 ·
  refine w_block ?_
  refine w_loopo _ (fun (s4 : Int) => ([(0, .c (.str p0s)), (5, .c (.int .i64 ((p0s).length : Int))), (6, .c (.int .i64 s4))] : Fr)) (fun (s4 : Int) => ([] : St)) hx1 (w_weak [] 0 rfl rfl rfl rfl ⟨(AV.le_refl _), (AV.le_refl _), (AV.le_refl _), trivial⟩ st_nil) ?_
  intro s4 st4 hs4 ho4
  unfold command_ident_l1 at hs4
  refine w_seqw ?_
  refine w_region ?_
  refine o_p rfl (p_lss rfl rfl) ?_
  refine o_end (fr' := [(0, aS), (5, aI), (6, aI), (7, aB)]) rfl ?_
  refine e_kw ?_
  refine w_seqw ?_
  refine w_cond _ rfl (fun hb5 => ?_) (fun hb5 => ?_)
  ·
   have h5 := cond_t (b := (decide (s4 < ((p0s).length : Int)))) hb5 hs4
   refine w_skip ?_
   refine e_kw ?_
   refine w_seqw ?_
   refine w_block ?_
   refine w_seqw ?_
   refine w_region ?_
   refine o_p rfl (p_move (v := aI) rfl) ?_
   refine o_p rfl (p_assign (v := aI) rfl) ?_
   refine o_end (fr' := [(0, aS), (3, aI), (5, aI), (6, aI), (7, aB)]) rfl ?_
   refine e_kw ?_
   refine w_seqw ?_
   refine w_region ?_
   refine o_p rfl (p_move (v := aS) rfl) ?_
   refine o_p rfl (p_move (v := aI) rfl) ?_
   obtain ⟨x6, hx6, h7⟩ := bind_s h5
   refine o_p rfl (p_is ti9 rfl rfl hx6) ?_
   refine o_p rfl (p_lss rfl rfl) ?_
   refine o_p rfl (p_move (v := aB) rfl) ?_
   refine o_g rfl rfl (fun hc => ov_p rfl (p_move (v := aS) rfl)) ?_
   refine o_g rfl rfl (fun hc => ov_p rfl (p_move (v := aI) rfl)) ?_
   obtain ⟨x8, hx8, h9⟩ := bind_s h7
   refine o_g rfl rfl (fun hc => ov_p rfl (p_is ti9 (gx rfl hc) (gx rfl hc) (gd_some hx8 hc))) ?_
   refine o_g rfl rfl (fun hc => ov_p rfl (p_gtr (gx rfl hc) rfl)) ?_
   refine o_p rfl (p_pickz rfl rfl rfl (fun e => keq e)) ?_
   refine o_p rfl (p_move (v := aB) rfl) ?_
   refine o_g rfl rfl (fun hc => ov_p rfl (p_move (v := aS) rfl)) ?_
   refine o_g rfl rfl (fun hc => ov_p rfl (p_move (v := aI) rfl)) ?_
   obtain ⟨x10, hx10, h11⟩ := bind_s h9
   refine o_g rfl rfl (fun hc => ov_p rfl (p_is ti9 (gx rfl hc) (gx rfl hc) (gd_some hx10 hc))) ?_
   refine o_g rfl rfl (fun hc => ov_p rfl (p_eql (gx rfl hc) rfl)) ?_
   refine o_p rfl (p_pickz rfl rfl rfl (fun e => keq e)) ?_
   refine o_p rfl (p_move (v := aB) rfl) ?_
   refine o_g rfl rfl (fun hc => ov_p rfl (p_move (v := aS) rfl)) ?_
   refine o_g rfl rfl (fun hc => ov_p rfl (p_move (v := aI) rfl)) ?_
   obtain ⟨x12, hx12, h13⟩ := bind_s h11
   refine o_g rfl rfl (fun hc => ov_p rfl (p_is ti9 (gx rfl hc) (gx rfl hc) (gd_some hx12 hc))) ?_
   refine o_g rfl rfl (fun hc => ov_p rfl (p_eql (gx rfl hc) rfl)) ?_
   refine o_p rfl (p_pickz rfl rfl rfl (fun e => keq e)) ?_
   refine o_end (fr' := [(0, aS), (3, aI), (5, aI), (6, aI), (7, aB), (30, aB)]) rfl ?_
   refine e_kw ?_
   refine w_cond _ rfl (fun hb14 => ?_) (fun hb14 => ?_)
   ·
    have h14 := cond_t (b := (cond (cond (cond (decide (((x6).toNat : Int) < (33 : Int))) true (decide ((126 : Int) < ((x8).toNat : Int)))) true (decide (((x10).toNat : Int) = (47 : Int)))) true (decide (((x12).toNat : Int) = (34 : Int))))) hb14 h13
    refine w_seqw ?_
    refine w_region ?_
    refine o_p rfl (p_assign (v := aB) rfl) ?_
    refine o_end (fr' := [(0, aS), (2, aB), (3, aI), (5, aI), (6, aI), (7, aB), (30, aB)]) rfl ?_
    refine e_kw ?_
    refine w_ret ?_
    refine e_blk_r ?_
    refine e_seq_r ?_
    refine e_seq_r ?_
    refine e_blk_r ?_
    refine e_seq_r ?_
    refine e_seq_r ?_
    have h15 := un_out h14 ho4
    have h16 := un_done h15 h2
    have he17 := Option.some.inj h16
    subst he17
    refine e_ret (rs' := [.tmp 2]) rfl ?_
    refine r_tmp (v := aB) rfl ?_
    refine r_nil ?_
    exact fin_gen [] rfl rfl rfl (AV.le_refl _) st_nil
   ·
    have h14 := cond_f (b := (cond (cond (cond (decide (((x6).toNat : Int) < (33 : Int))) true (decide ((126 : Int) < ((x8).toNat : Int)))) true (decide (((x10).toNat : Int) = (47 : Int)))) true (decide (((x12).toNat : Int) = (34 : Int))))) hb14 h13
    refine w_skip ?_
    refine e_blk_n ?_
    refine e_kw ?_
    refine w_region ?_
    refine o_p rfl (p_add rfl rfl) ?_
    refine o_p rfl (p_move (v := aI) rfl) ?_
    refine o_end (fr' := [(0, aS), (3, aI), (5, aI), (6, aI), (7, aB), (30, aB)]) rfl ?_
    exact e_l _ (Option.some.inj h14).symm (w_weak [] 0 rfl rfl rfl rfl ⟨(AV.le_refl _), (AV.le_refl _), (AV.le_refl _), trivial⟩ st_nil)
  ·
   have h5 := cond_f (b := (decide (s4 < ((p0s).length : Int)))) hb5 hs4
   refine w_exit ?_
   refine e_seq_x ?_
   refine e_seq_x ?_
   refine e_blk_h ?_
   have h18 := un_out h5 ho4
   exact e_j _ (Option.some.inj h18).symm (w_weak [] 0 rfl rfl rfl rfl ⟨(AV.le_refl _), trivial⟩ st_nil)
 ·
  intro j3 hj19
  have h19 := un_go hj19 h2
  refine e_kw ?_
  refine w_seqw ?_
  refine w_region ?_
  refine o_p rfl (p_move (v := aS) rfl) ?_
  refine o_p rfl (p_lens ti9 rfl) ?_
  obtain ⟨x20, hx20, h21⟩ := bind_s h19
  refine o_v (ov_call (v := aB) rfl (w_command_in hx20) ⟨(AV.le_refl _), (AV.le_refl _), (AV.le_refl _), trivial⟩ rfl rfl rfl) ?_
  refine o_p rfl (p_assign (v := aB) rfl) ?_
  refine o_end (fr' := [(0, aS), (2, aB)]) rfl ?_
  refine e_kw ?_
  refine w_ret ?_
  have he22 := Option.some.inj h21
  subst he22
  refine e_ret (rs' := [.tmp 2]) rfl ?_
  refine r_tmp (v := aB) rfl ?_
  refine r_nil ?_
  exact fin_gen [] rfl rfl rfl (AV.le_refl _) st_nil
noncomputable def command_input_1 (p0x : ApiValue) : Option Bool :=
 (gd ((cond (!decide (p0x.Kind = (4 : Int))) true (!decide (((p0x.Items).length : Int) = (2 : Int)))) == false) (idx p0x.Items (0 : Int))).bind fun (x1 : ApiValue) => (gd ((cond (cond (!decide (p0x.Kind = (4 : Int))) true (!decide (((p0x.Items).length : Int) = (2 : Int)))) true (!decide (x1.Kind = (3 : Int)))) == false) (idx p0x.Items (0 : Int))).bind fun (x3 : ApiValue) => (gd ((cond (cond (!decide (p0x.Kind = (4 : Int))) true (!decide (((p0x.Items).length : Int) = (2 : Int)))) true (!decide (x1.Kind = (3 : Int)))) == false) (name_Right x3.Text)).bind fun (x5 : Bool) => some (cond (cond (cond (!decide (p0x.Kind = (4 : Int))) true (!decide (((p0x.Items).length : Int) = (2 : Int)))) true (!decide (x1.Kind = (3 : Int)))) true (!x5))
theorem w_command_input_1 {p0x : ApiValue} {res : Bool} (h : command_input_1 p0x = some res) : ACalls Try.prog 111 [.agg (AV.cs (exApiValue p0x))] [] (.c (.bool res)) [] := by
 unfold command_input_1 at h
 refine acalls (fn := Try.f111) [0, 1, 2] (by kernel_rfl) Try.func111 rfl (by kernel_rfl) (by kernel_rfl) ?_
 refine w_seqw ?_
 refine w_region ?_
 refine o_box (v := .agg [aI, aI, aS, aL, aL]) (n := 0) (cs := [aI, aI, aS, aL, aL]) (σ' := [[aI, aI, aS, aL, aL]]) rfl rfl rfl rfl rfl ?_
 refine o_p rfl (p_assign (v := aB) rfl) ?_
 refine o_end (fr' := [(0, .agg [aI, aI, aS, aL, aL]), (1, .box 0 0), (2, aB)]) rfl ?_
 refine e_kw ?_
 refine w_seqw ?_
 refine w_region ?_
 refine o_p rfl (p_fa tf40x0 rfl) ?_
 refine o_p rfl (p_load (v := aI) tv3 rfl rfl rfl) ?_
 refine o_p rfl (p_neq rfl rfl) ?_
 refine o_p rfl (p_move (v := aB) rfl) ?_
 refine o_g rfl rfl (fun hc => ov_p rfl (p_fa tf40x3 rfl)) ?_
 refine o_g rfl rfl (fun hc => ov_p rfl (p_load (v := aL) tv37 (gx rfl hc) rfl rfl)) ?_
 refine o_g rfl rfl (fun hc => ov_p rfl (p_len ti37 (isl_c (gx rfl hc)))) ?_
 refine o_g rfl rfl (fun hc => ov_p rfl (p_neq (gx rfl hc) rfl)) ?_
 refine o_p rfl (p_pickz rfl rfl rfl (fun e => keq e)) ?_
 refine o_p rfl (p_move (v := aB) rfl) ?_
 refine o_g rfl rfl (fun hc => ov_p rfl (p_fa tf40x3 rfl)) ?_
 refine o_g rfl rfl (fun hc => ov_p rfl (p_load (v := aL) tv37 (gx rfl hc) rfl rfl)) ?_
 obtain ⟨x1, hx1, h2⟩ := bind_s h
 refine o_g rfl rfl (fun hc => ov_p rfl (p_ia (cs := [.int _ _, .int _ _, .str _, PV.ls _ _ _, PV.ls _ _ _]) ts37 (isl_c (gx rfl hc)) rfl (gd_some hx1 hc) (rowApiValue_eq _))) ?_
 refine o_g rfl rfl (fun hc => ov_p rfl (p_fae tf40x0 (gx rfl hc))) ?_
 refine o_g rfl rfl (fun hc => ov_p rfl (p_loade (p := .int _ _) tv3 (gx rfl hc) rfl)) ?_
 refine o_g rfl rfl (fun hc => ov_p rfl (p_neq (gx rfl hc) rfl)) ?_
 refine o_p rfl (p_pickz rfl rfl rfl (fun e => keq e)) ?_
 refine o_p rfl (p_move (v := aB) rfl) ?_
 refine o_g rfl rfl (fun hc => ov_p rfl (p_fa tf40x3 rfl)) ?_
 refine o_g rfl rfl (fun hc => ov_p rfl (p_load (v := aL) tv37 (gx rfl hc) rfl rfl)) ?_
 obtain ⟨x3, hx3, h4⟩ := bind_s h2
 refine o_g rfl rfl (fun hc => ov_p rfl (p_ia (cs := [.int _ _, .int _ _, .str _, PV.ls _ _ _, PV.ls _ _ _]) ts37 (isl_c (gx rfl hc)) rfl (gd_some hx3 hc) (rowApiValue_eq _))) ?_
 refine o_g rfl rfl (fun hc => ov_p rfl (p_fae tf40x2 (gx rfl hc))) ?_
 refine o_g rfl rfl (fun hc => ov_p rfl (p_loade (p := .str _) tv9 (gx rfl hc) rfl)) ?_
 obtain ⟨x5, hx5, h6⟩ := bind_s h4
 refine o_g rfl rfl (fun hc => ov_call (v := aB) rfl (w_name_Right (gd_some hx5 hc)) ⟨(le_gv (gx rfl hc) (AV.le_refl _)), trivial⟩ (ok_eq (by repeat (first | exact ok_nil | refine ok_cons rfl ?_ | refine ok_cons (dgv rfl) ?_))) rfl rfl) ?_
 refine o_g rfl rfl (fun hc => ov_p rfl (p_not (gx rfl hc))) ?_
 refine o_p rfl (p_pickz rfl rfl rfl (fun e => keq e)) ?_
 refine o_p rfl (p_assign (v := aB) rfl) ?_
 refine o_end (fr' := [(0, .agg [aI, aI, aS, aL, aL]), (1, .box 0 0), (2, aB)]) rfl ?_
 refine e_kw ?_
 refine w_ret ?_
 have he7 := Option.some.inj h6
 subst he7
 refine e_ret (rs' := [.tmp 2]) rfl ?_
 refine r_tmp (v := aB) rfl ?_
 refine r_nil ?_
 exact fin_gen [] rfl rfl rfl (AV.le_refl _) st_nil
noncomputable def slices_IndexFunc_api_Value_api_Value_v3_l1 (p0s : (List ApiValue)) (s4 : Int) : Option (Step Int (Fl Int Unit)) :=
 cond (decide (s4 < ((p0s).length : Int))) ((idx p0s s4).bind fun (x6 : ApiValue) => (command_input_1 x6).bind fun (x8 : Bool) => cond x8 (some (Step.out (Fl.done s4))) (some (Step.next (IntKind.wrap .i64 (s4 + (1 : Int)))))) (some (Step.out (Fl.go ())))
noncomputable def slices_IndexFunc_api_Value_api_Value_v3 (p0s : (List ApiValue)) : Option Int :=
 ((loopO (slices_IndexFunc_api_Value_api_Value_v3_l1 p0s) ((0 : Int))) : Option (Fl Int Unit)).bind fun (x1 : (Fl Int Unit)) => Fl.next x1 (fun (j3 : Unit) => (some (-1 : Int)))
theorem w_slices_IndexFunc_api_Value_api_Value_v3 {p0s : (List ApiValue)} {res : Int} (h : slices_IndexFunc_api_Value_api_Value_v3 p0s = some res) : ACalls Try.prog 114 [.c (PV.ls 5 rowApiValue p0s), .fn 111 []] [] (.c (.int .i64 res)) [] := by
 unfold slices_IndexFunc_api_Value_api_Value_v3 at h
 refine acalls (fn := Try.f114) [0, 1, 4, 5, 7, 8, 9, 16] (by kernel_rfl) Try.func114 rfl (by kernel_rfl) (by kernel_rfl) ?_
 refine w_seqw ?_
 refine w_region ?_
 refine o_p rfl (p_assign (v := aI) rfl) ?_
 refine o_end (fr' := [(0, aL), (1, .fn _ []), (4, aI)]) rfl ?_
 refine e_kw ?_
 refine w_seqw ?_
 refine w_seqw ?_
 refine w_region ?_
 refine o_p rfl (p_move (v := aL) rfl) ?_
 refine o_p rfl (p_len ti37 (isl_c rfl)) ?_
 refine o_p rfl (p_move (v := aI) rfl) ?_
 refine o_end (fr' := [(0, aL), (1, .fn _ []), (4, aI), (7, aI), (8, aI)]) rfl ?_
 refine e_kw ?_
 obtain ⟨x1, hx1, h2⟩ := bind_s h
 refine w_jtail cl_kw (fun j3 => x1 = Fl.go j3) (fun (j3 : Unit) => ([] : Fr)) (fun (j3 : Unit) => ([] : St)) ?_ ?_
 ·
  refine w_block ?_
  refine w_loopo _ (fun (s4 : Int) => ([(0, .c (PV.ls 5 rowApiValue p0s)), (1, .fn 111 []), (7, .c (.int .i64 ((p0s).length : Int))), (8, .c (.int .i64 s4))] : Fr)) (fun (s4 : Int) => ([] : St)) hx1 (w_weak [] 0 rfl rfl rfl rfl ⟨(AV.le_refl _), (AV.le_refl _), (AV.le_refl _), (AV.le_refl _), trivial⟩ st_nil) ?_
  intro s4 st4 hs4 ho4
  unfold slices_IndexFunc_api_Value_api_Value_v3_l1 at hs4
  refine w_seqw ?_
  refine w_region ?_
  refine o_p rfl (p_lss rfl rfl) ?_
  refine o_end (fr' := [(0, aL), (1, .fn _ []), (7, aI), (8, aI), (9, aB)]) rfl ?_
  refine e_kw ?_
  refine w_seqw ?_
  refine w_cond _ rfl (fun hb5 => ?_) (fun hb5 => ?_)
  ·
   have h5 := cond_t (b := (decide (s4 < ((p0s).length : Int)))) hb5 hs4
   refine w_skip ?_
   refine e_kw ?_
   refine w_seqw ?_
   refine w_block ?_
   refine w_seqw ?_
   refine w_region ?_
   refine o_p rfl (p_move (v := aI) rfl) ?_
   refine o_p rfl (p_assign (v := aI) rfl) ?_
   refine o_end (fr' := [(0, aL), (1, .fn _ []), (5, aI), (7, aI), (8, aI), (9, aB)]) rfl ?_
   refine e_kw ?_
   refine w_seqw ?_
   refine w_region ?_
   refine o_p rfl (p_move (v := .fn _ []) rfl) ?_
   refine o_p rfl (p_move (v := aL) rfl) ?_
   refine o_p rfl (p_move (v := aI) rfl) ?_
   obtain ⟨x6, hx6, h7⟩ := bind_s h5
   refine o_p rfl (p_ia (cs := [.int _ _, .int _ _, .str _, PV.ls _ _ _, PV.ls _ _ _]) ts37 (isl_c rfl) rfl hx6 (rowApiValue_eq _)) ?_
   refine o_p rfl (p_loades (us := [.int _ _, .int _ _, .str _, PV.ls _ _ _, PV.ls _ _ _]) tv40 rfl rfl rfl) ?_
   obtain ⟨x8, hx8, h9⟩ := bind_s h7
   refine o_v (ov_call (v := aB) rfl (w_command_input_1 hx8) ⟨(le_aggc rfl ⟨rfl, rfl, rfl, rfl, rfl, trivial⟩), trivial⟩ rfl rfl rfl) ?_
   refine o_end (fr' := [(0, aL), (1, .fn _ []), (5, aI), (7, aI), (8, aI), (9, aB), (16, aB)]) rfl ?_
   refine e_kw ?_
   refine w_cond _ rfl (fun hb10 => ?_) (fun hb10 => ?_)
   ·
    have h10 := cond_t (b := x8) hb10 h9
    refine w_seqw ?_
    refine w_region ?_
    refine o_p rfl (p_move (v := aI) rfl) ?_
    refine o_p rfl (p_assign (v := aI) rfl) ?_
    refine o_end (fr' := [(0, aL), (1, .fn _ []), (4, aI), (5, aI), (7, aI), (8, aI), (9, aB), (16, aB)]) rfl ?_
    refine e_kw ?_
    refine w_ret ?_
    refine e_blk_r ?_
    refine e_seq_r ?_
    refine e_seq_r ?_
    refine e_blk_r ?_
    refine e_seq_r ?_
    refine e_seq_r ?_
    have h11 := un_out h10 ho4
    have h12 := un_done h11 h2
    have he13 := Option.some.inj h12
    subst he13
    refine e_ret (rs' := [.tmp 4]) rfl ?_
    refine r_tmp (v := aI) rfl ?_
    refine r_nil ?_
    exact fin_gen [] rfl rfl rfl (AV.le_refl _) st_nil
   ·
    have h10 := cond_f (b := x8) hb10 h9
    refine w_skip ?_
    refine e_blk_n ?_
    refine e_kw ?_
    refine w_region ?_
    refine o_p rfl (p_add rfl rfl) ?_
    refine o_p rfl (p_move (v := aI) rfl) ?_
    refine o_end (fr' := [(0, aL), (1, .fn _ []), (5, aI), (7, aI), (8, aI), (9, aB), (16, aB)]) rfl ?_
    exact e_l _ (Option.some.inj h10).symm (w_weak [] 0 rfl rfl rfl rfl ⟨(AV.le_refl _), (AV.le_refl _), (AV.le_refl _), (AV.le_refl _), trivial⟩ st_nil)
  ·
   have h5 := cond_f (b := (decide (s4 < ((p0s).length : Int)))) hb5 hs4
   refine w_exit ?_
   refine e_seq_x ?_
   refine e_seq_x ?_
   refine e_blk_h ?_
   have h14 := un_out h5 ho4
   exact e_j _ (Option.some.inj h14).symm (w_weak [] 0 rfl rfl rfl rfl trivial st_nil)
 ·
  intro j3 hj15
  have h15 := un_go hj15 h2
  refine e_kw ?_
  refine w_seqw ?_
  refine w_region ?_
  refine o_p rfl (p_assign (v := aI) rfl) ?_
  refine o_end (fr' := [(4, aI)]) rfl ?_
  refine e_kw ?_
  refine w_ret ?_
  have he16 := Option.some.inj h15
  subst he16
  refine e_ret (rs' := [.tmp 4]) rfl ?_
  refine r_tmp (v := aI) rfl ?_
  refine r_nil ?_
  exact fin_gen [] rfl rfl rfl (AV.le_refl _) st_nil
noncomputable def slices_ContainsFunc_api_Value_api_Value_v3 (p0s : (List ApiValue)) : Option Bool :=
 (slices_IndexFunc_api_Value_api_Value_v3 p0s).bind fun (x1 : Int) => some (decide ((0 : Int) ≤ x1))
theorem w_slices_ContainsFunc_api_Value_api_Value_v3 {p0s : (List ApiValue)} {res : Bool} (h : slices_ContainsFunc_api_Value_api_Value_v3 p0s = some res) : ACalls Try.prog 108 [.c (PV.ls 5 rowApiValue p0s), .fn 111 []] [] (.c (.bool res)) [] := by
 unfold slices_ContainsFunc_api_Value_api_Value_v3 at h
 refine acalls (fn := Try.f108) [0, 1, 4] (by kernel_rfl) Try.func108 rfl (by kernel_rfl) (by kernel_rfl) ?_
 refine w_seqw ?_
 refine w_region ?_
 refine o_p rfl (p_assign (v := aB) rfl) ?_
 refine o_end (fr' := [(0, aL), (1, .fn _ []), (4, aB)]) rfl ?_
 refine e_kw ?_
 refine w_seqw ?_
 refine w_region ?_
 refine o_p rfl (p_move (v := aL) rfl) ?_
 refine o_p rfl (p_move (v := .fn _ []) rfl) ?_
 obtain ⟨x1, hx1, h2⟩ := bind_s h
 refine o_v (ov_call (v := aI) rfl (w_slices_IndexFunc_api_Value_api_Value_v3 hx1) ⟨(AV.le_refl _), (AV.le_refl _), trivial⟩ rfl rfl rfl) ?_
 refine o_p rfl (p_geq rfl rfl) ?_
 refine o_p rfl (p_assign (v := aB) rfl) ?_
 refine o_end (fr' := [(0, aL), (1, .fn _ []), (4, aB)]) rfl ?_
 refine e_kw ?_
 refine w_ret ?_
 have he3 := Option.some.inj h2
 subst he3
 refine e_ret (rs' := [.tmp 4]) rfl ?_
 refine r_tmp (v := aB) rfl ?_
 refine r_nil ?_
 exact fin_gen [] rfl rfl rfl (AV.le_refl _) st_nil
noncomputable def command_input (p0v : ApiValue) : Option Bool :=
 (gd ((cond (!decide (p0v.Kind = (4 : Int))) true (!decide (((p0v.Items).length : Int) = (2 : Int)))) == false) (idx p0v.Items (1 : Int))).bind fun (x1 : ApiValue) => cond (cond (cond (!decide (p0v.Kind = (4 : Int))) true (!decide (((p0v.Items).length : Int) = (2 : Int)))) true (!decide (x1.Kind = (4 : Int)))) (some false) ((idx p0v.Items (1 : Int)).bind fun (x5 : ApiValue) => (slices_ContainsFunc_api_Value_api_Value_v3 x5.Items).bind fun (x7 : Bool) => some (!x7))
theorem w_command_input {p0v : ApiValue} {res : Bool} (h : command_input p0v = some res) : ACalls Try.prog 96 [.agg (AV.cs (exApiValue p0v))] [] (.c (.bool res)) [] := by
 unfold command_input at h
 refine acalls (fn := Try.f96) [0, 1, 2, 19] (by kernel_rfl) Try.func96 rfl (by kernel_rfl) (by kernel_rfl) ?_
 refine w_seqw ?_
 refine w_region ?_
 refine o_box (v := .agg [aI, aI, aS, aL, aL]) (n := 0) (cs := [aI, aI, aS, aL, aL]) (σ' := [[aI, aI, aS, aL, aL]]) rfl rfl rfl rfl rfl ?_
 refine o_p rfl (p_assign (v := aB) rfl) ?_
 refine o_end (fr' := [(0, .agg [aI, aI, aS, aL, aL]), (1, .box 0 0), (2, aB)]) rfl ?_
 refine e_kw ?_
 refine w_seqw ?_
 refine w_seqw ?_
 refine w_region ?_
 refine o_p rfl (p_fa tf40x0 rfl) ?_
 refine o_p rfl (p_load (v := aI) tv3 rfl rfl rfl) ?_
 refine o_p rfl (p_neq rfl rfl) ?_
 refine o_p rfl (p_move (v := aB) rfl) ?_
 refine o_g rfl rfl (fun hc => ov_p rfl (p_fa tf40x3 rfl)) ?_
 refine o_g rfl rfl (fun hc => ov_p rfl (p_load (v := aL) tv37 (gx rfl hc) rfl rfl)) ?_
 refine o_g rfl rfl (fun hc => ov_p rfl (p_len ti37 (isl_c (gx rfl hc)))) ?_
 refine o_g rfl rfl (fun hc => ov_p rfl (p_neq (gx rfl hc) rfl)) ?_
 refine o_p rfl (p_pickz rfl rfl rfl (fun e => keq e)) ?_
 refine o_p rfl (p_move (v := aB) rfl) ?_
 refine o_g rfl rfl (fun hc => ov_p rfl (p_fa tf40x3 rfl)) ?_
 refine o_g rfl rfl (fun hc => ov_p rfl (p_load (v := aL) tv37 (gx rfl hc) rfl rfl)) ?_
 obtain ⟨x1, hx1, h2⟩ := bind_s h
 refine o_g rfl rfl (fun hc => ov_p rfl (p_ia (cs := [.int _ _, .int _ _, .str _, PV.ls _ _ _, PV.ls _ _ _]) ts37 (isl_c (gx rfl hc)) rfl (gd_some hx1 hc) (rowApiValue_eq _))) ?_
 refine o_g rfl rfl (fun hc => ov_p rfl (p_fae tf40x0 (gx rfl hc))) ?_
 refine o_g rfl rfl (fun hc => ov_p rfl (p_loade (p := .int _ _) tv3 (gx rfl hc) rfl)) ?_
 refine o_g rfl rfl (fun hc => ov_p rfl (p_neq (gx rfl hc) rfl)) ?_
 refine o_p rfl (p_pickz rfl rfl rfl (fun e => keq e)) ?_
 refine o_end (fr' := [(0, .agg [aI, aI, aS, aL, aL]), (1, .box 0 0), (2, aB), (19, aB)]) rfl ?_
 refine e_kw ?_
 refine w_cond _ rfl (fun hb3 => ?_) (fun hb3 => ?_)
 ·
  have h3 := cond_t (b := (cond (cond (!decide (p0v.Kind = (4 : Int))) true (!decide (((p0v.Items).length : Int) = (2 : Int)))) true (!decide (x1.Kind = (4 : Int))))) hb3 h2
  refine w_seqw ?_
  refine w_region ?_
  refine o_p rfl (p_assign (v := aB) rfl) ?_
  refine o_end (fr' := [(0, .agg [aI, aI, aS, aL, aL]), (1, .box 0 0), (2, aB), (19, aB)]) rfl ?_
  refine e_kw ?_
  refine w_ret ?_
  refine e_seq_r ?_
  have he4 := Option.some.inj h3
  subst he4
  refine e_ret (rs' := [.tmp 2]) rfl ?_
  refine r_tmp (v := aB) rfl ?_
  refine r_nil ?_
  exact fin_gen [] rfl rfl rfl (AV.le_refl _) st_nil
 ·
  have h3 := cond_f (b := (cond (cond (!decide (p0v.Kind = (4 : Int))) true (!decide (((p0v.Items).length : Int) = (2 : Int)))) true (!decide (x1.Kind = (4 : Int))))) hb3 h2
  refine w_skip ?_
  refine e_kw ?_
  refine w_seqw ?_
  refine w_region ?_
  refine o_p rfl (p_fa tf40x3 rfl) ?_
  refine o_p rfl (p_load (v := aL) tv37 rfl rfl rfl) ?_
  obtain ⟨x5, hx5, h6⟩ := bind_s h3
  refine o_p rfl (p_ia (cs := [.int _ _, .int _ _, .str _, PV.ls _ _ _, PV.ls _ _ _]) ts37 (isl_c rfl) rfl hx5 (rowApiValue_eq _)) ?_
  refine o_p rfl (p_fae tf40x3 rfl) ?_
  refine o_p rfl (p_loade (p := PV.ls _ _ _) tv37 rfl rfl) ?_
  obtain ⟨x7, hx7, h8⟩ := bind_s h6
  refine o_v (ov_call (v := aB) rfl (w_slices_ContainsFunc_api_Value_api_Value_v3 hx7) ⟨(AV.le_refl _), (AV.le_refl _), trivial⟩ (ok_eq (by repeat (first | exact ok_nil | refine ok_cons rfl ?_ | refine ok_cons (dgv rfl) ?_))) rfl rfl) ?_
  refine o_p rfl (p_not rfl) ?_
  refine o_p rfl (p_assign (v := aB) rfl) ?_
  refine o_end (fr' := [(0, .agg [aI, aI, aS, aL, aL]), (1, .box 0 0), (2, aB), (19, aB)]) rfl ?_
  refine e_kw ?_
  refine w_ret ?_
  have he9 := Option.some.inj h8
  subst he9
  refine e_ret (rs' := [.tmp 2]) rfl ?_
  refine r_tmp (v := aB) rfl ?_
  refine r_nil ?_
  exact fin_gen [] rfl rfl rfl (AV.le_refl _) st_nil
end Go.Proofs.Ytnhchphmmdgphaa

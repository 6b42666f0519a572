import Derived.Test.YtnhchphmmdgphaaGATy
import Derived.Test.YtnhchphmmdgphaaGAF4
namespace Go.Proofs.Ytnhchphmmdgphaa
open Go Abs
set_option maxRecDepth 100000
set_option linter.unusedVariables false
set_option linter.unusedSimpArgs false
noncomputable def command_SamePolicy (p0a : ApiPolicy) (p1b : ApiPolicy) : Option Bool :=
 (command_numbers p0a).bind fun (x1 : Unit) => (command_numbers p1b).bind fun (x3 : Unit) => cond (!decide (p0a.ToStart = p1b.ToStart)) (some false) (cond (!decide (p0a.ToClose = p1b.ToClose)) (some false) (cond (!decide (p0a.Total = p1b.Total)) (some false) (cond (!decide (p0a.Beat = p1b.Beat)) (some false) (cond (!decide (p0a.First = p1b.First)) (some false) (cond (!decide (p0a.Coef = p1b.Coef)) (some false) (cond (!decide (p0a.Most = p1b.Most)) (some false) (cond (!decide (p0a.Attempts = p1b.Attempts)) (some false) ((gd ((decide (p0a.Queue = p1b.Queue)) == true) (slices_Equal_string_string p0a.Fatal p1b.Fatal)).bind fun (x21 : Bool) => some (cond (decide (p0a.Queue = p1b.Queue)) x21 false)))))))))
theorem w_command_SamePolicy {p0a : ApiPolicy} {p1b : ApiPolicy} {res : Bool} (h : command_SamePolicy p0a p1b = some res) : ACalls Try.prog 90 [.agg (AV.cs (rowApiPolicy p0a)), .agg (AV.cs (rowApiPolicy p1b))] [] (.c (.bool res)) [] := by
 unfold command_SamePolicy at h
 refine acalls (fn := Try.f90) [0, 1, 2, 3, 4, 5, 6, 7, 11, 12, 13, 27] (by kernel_rfl) Try.func90 rfl (by kernel_rfl) (by kernel_rfl) ?_
 refine w_seqw ?_
 refine w_region ?_
 refine o_box (v := .agg [aS, aI, aI, aI, aI, aI, aI, aI, aI, aL]) (n := 0) (cs := [aS, aI, aI, aI, aI, aI, aI, aI, aI, aL]) (σ' := [[aS, aI, aI, aI, aI, aI, aI, aI, aI, aL]]) rfl rfl rfl rfl rfl ?_
 refine o_box (v := .agg [aS, aI, aI, aI, aI, aI, aI, aI, aI, aL]) (n := 1) (cs := [aS, aI, aI, aI, aI, aI, aI, aI, aI, aL]) (σ' := [[aS, aI, aI, aI, aI, aI, aI, aI, aI, aL], [aS, aI, aI, aI, aI, aI, aI, aI, aI, aL]]) rfl rfl rfl rfl rfl ?_
 refine o_p rfl (p_assign (v := aB) rfl) ?_
 refine o_end (fr' := [(0, .agg [aS, aI, aI, aI, aI, aI, aI, aI, aI, aL]), (1, .agg [aS, aI, aI, aI, aI, aI, aI, aI, aI, aL]), (2, .box 0 0), (3, .box 1 0), (4, aB)]) rfl ?_
 refine e_kw ?_
 refine w_seqw ?_
 refine w_region ?_
 obtain ⟨x1, hx1, h2⟩ := bind_s h
 refine o_call (v := .ptrs [(0, 1), (0, 2), (0, 3), (0, 4), (0, 5), (0, 6), (0, 7), (0, 8)]) (σ' := [[aS, aI, aI, aI, aI, aI, aI, aI, aI, aL], [aS, aI, aI, aI, aI, aI, aI, aI, aI, aL]]) [0] rfl (w_command_numbers hx1) rfl rfl ⟨(AV.le_refl _), trivial⟩ (st_c ⟨rfl, rfl, rfl, rfl, rfl, rfl, rfl, rfl, rfl, rfl, trivial⟩ st_nil) rfl rfl rfl ?_
 obtain ⟨x3, hx3, h4⟩ := bind_s h2
 refine o_call (v := .ptrs [(1, 1), (1, 2), (1, 3), (1, 4), (1, 5), (1, 6), (1, 7), (1, 8)]) (σ' := [[aS, aI, aI, aI, aI, aI, aI, aI, aI, aL], [aS, aI, aI, aI, aI, aI, aI, aI, aI, aL]]) [1] rfl (w_command_numbers hx3) rfl rfl ⟨(AV.le_refl _), trivial⟩ (st_c ⟨rfl, rfl, rfl, rfl, rfl, rfl, rfl, rfl, rfl, rfl, trivial⟩ st_nil) rfl rfl rfl ?_
 refine o_p rfl (p_assign (v := .ptrs [(0, 1), (0, 2), (0, 3), (0, 4), (0, 5), (0, 6), (0, 7), (0, 8)]) rfl) ?_
 refine o_p rfl (p_assign (v := .ptrs [(1, 1), (1, 2), (1, 3), (1, 4), (1, 5), (1, 6), (1, 7), (1, 8)]) rfl) ?_
 refine o_end (fr' := [(0, .agg [aS, aI, aI, aI, aI, aI, aI, aI, aI, aL]), (1, .agg [aS, aI, aI, aI, aI, aI, aI, aI, aI, aL]), (2, .box 0 0), (3, .box 1 0), (4, aB), (5, .ptrs [(0, 1), (0, 2), (0, 3), (0, 4), (0, 5), (0, 6), (0, 7), (0, 8)]), (6, .ptrs [(1, 1), (1, 2), (1, 3), (1, 4), (1, 5), (1, 6), (1, 7), (1, 8)])]) rfl ?_
 refine e_kw ?_
 refine w_seqw ?_
 refine w_seqw ?_
 refine w_region ?_
 refine o_p rfl (p_move (v := .ptrs [(0, 1), (0, 2), (0, 3), (0, 4), (0, 5), (0, 6), (0, 7), (0, 8)]) rfl) ?_
 refine o_p rfl (p_lenp ti115 rfl) ?_
 refine o_p rfl (p_move (v := aI) rfl) ?_
 refine o_end (fr' := [(0, .agg [aS, aI, aI, aI, aI, aI, aI, aI, aI, aL]), (1, .agg [aS, aI, aI, aI, aI, aI, aI, aI, aI, aL]), (2, .box 0 0), (3, .box 1 0), (4, aB), (5, .ptrs [(0, 1), (0, 2), (0, 3), (0, 4), (0, 5), (0, 6), (0, 7), (0, 8)]), (6, .ptrs [(1, 1), (1, 2), (1, 3), (1, 4), (1, 5), (1, 6), (1, 7), (1, 8)]), (11, aI), (12, aI)]) rfl ?_
 refine e_kw ?_
 refine w_block ?_
 refine w_unr 64 ?_
 refine lu_s ?_
 refine w_seqw ?_
 refine w_region ?_
 refine o_p rfl (p_k (p_lss rfl rfl) (show _ = .bool true from rfl)) ?_
 refine o_end (fr' := [(0, .agg [aS, aI, aI, aI, aI, aI, aI, aI, aI, aL]), (1, .agg [aS, aI, aI, aI, aI, aI, aI, aI, aI, aL]), (2, .box 0 0), (3, .box 1 0), (4, aB), (5, .ptrs [(0, 1), (0, 2), (0, 3), (0, 4), (0, 5), (0, 6), (0, 7), (0, 8)]), (6, .ptrs [(1, 1), (1, 2), (1, 3), (1, 4), (1, 5), (1, 6), (1, 7), (1, 8)]), (11, aI), (12, aI), (13, aB)]) rfl ?_
 refine e_kw ?_
 refine w_seqw ?_
 refine w_cond_t rfl ?_
 refine w_skip ?_
 refine e_kw ?_
 refine w_seqw ?_
 refine w_block ?_
 refine w_seqw ?_
 refine w_region ?_
 refine o_p rfl (p_move (v := aI) rfl) ?_
 refine o_p rfl (p_assign (v := aI) rfl) ?_
 refine o_end (fr' := [(0, .agg [aS, aI, aI, aI, aI, aI, aI, aI, aI, aL]), (1, .agg [aS, aI, aI, aI, aI, aI, aI, aI, aI, aL]), (2, .box 0 0), (3, .box 1 0), (4, aB), (5, .ptrs [(0, 1), (0, 2), (0, 3), (0, 4), (0, 5), (0, 6), (0, 7), (0, 8)]), (6, .ptrs [(1, 1), (1, 2), (1, 3), (1, 4), (1, 5), (1, 6), (1, 7), (1, 8)]), (7, aI), (11, aI), (12, aI), (13, aB)]) rfl ?_
 refine e_kw ?_
 refine w_seqw ?_
 refine w_planT [.q 0, .q 1, .q 2, .q 3, .q 4, .q 5, .q 6, .q 7, .q 8, .q 9, .q 10, .q 11, .q 12] [(some 15, [5]), (some 16, [7]), (some 17, [15, 16]), (some 18, [17]), (some 19, [18]), (some 20, [19]), (some 21, [6]), (some 22, [7]), (some 23, [21, 22]), (some 24, [23]), (some 25, [24]), (some 26, [25]), (some 27, [20, 26])] [0, 0, 3, 7, 15, 31, 0, 0, 192, 448, 960, 1984, 4095] (by kernel_rfl) ?_
 refine d_q rfl (qv_p rfl (p_move (v := .ptrs [(0, 1), (0, 2), (0, 3), (0, 4), (0, 5), (0, 6), (0, 7), (0, 8)]) rfl)) ?_
 refine d_q rfl (qv_p rfl (p_move (v := aI) rfl)) ?_
 refine d_q rfl (qv_p rfl (p_iap (p := (0, 1)) ts115 rfl rfl rfl)) ?_
 refine d_q rfl (qv_p rfl (p_loadp tv118 rfl)) ?_
 refine d_q rfl (qv_p rfl (p_nc rfl)) ?_
 refine d_q rfl (qv_p rfl (p_load (v := aI) tv3 rfl rfl rfl)) ?_
 refine d_q rfl (qv_p rfl (p_move (v := .ptrs [(1, 1), (1, 2), (1, 3), (1, 4), (1, 5), (1, 6), (1, 7), (1, 8)]) rfl)) ?_
 refine d_q rfl (qv_p rfl (p_move (v := aI) rfl)) ?_
 refine d_q rfl (qv_p rfl (p_iap (p := (1, 1)) ts115 rfl rfl rfl)) ?_
 refine d_q rfl (qv_p rfl (p_loadp tv118 rfl)) ?_
 refine d_q rfl (qv_p rfl (p_nc rfl)) ?_
 refine d_q rfl (qv_p rfl (p_load (v := aI) tv3 rfl rfl rfl)) ?_
 refine d_q rfl (qv_p rfl (p_neq rfl rfl)) ?_
 refine d_end (fr' := [(0, .agg [aS, aI, aI, aI, aI, aI, aI, aI, aI, aL]), (1, .agg [aS, aI, aI, aI, aI, aI, aI, aI, aI, aL]), (2, .box 0 0), (3, .box 1 0), (4, aB), (5, .ptrs [(0, 1), (0, 2), (0, 3), (0, 4), (0, 5), (0, 6), (0, 7), (0, 8)]), (6, .ptrs [(1, 1), (1, 2), (1, 3), (1, 4), (1, 5), (1, 6), (1, 7), (1, 8)]), (7, aI), (11, aI), (12, aI), (13, aB), (27, aB)]) rfl ?_
 refine e_kw ?_
 refine w_cond _ rfl (fun hb5 => ?_) (fun hb5 => ?_)
 ·
  have h5 := cond_t (b := (!decide (p0a.ToStart = p1b.ToStart))) hb5 h4
  refine w_seqw ?_
  refine w_region ?_
  refine o_p rfl (p_assign (v := aB) rfl) ?_
  refine o_end (fr' := [(0, .agg [aS, aI, aI, aI, aI, aI, aI, aI, aI, aL]), (1, .agg [aS, aI, aI, aI, aI, aI, aI, aI, aI, aL]), (2, .box 0 0), (3, .box 1 0), (4, aB), (5, .ptrs [(0, 1), (0, 2), (0, 3), (0, 4), (0, 5), (0, 6), (0, 7), (0, 8)]), (6, .ptrs [(1, 1), (1, 2), (1, 3), (1, 4), (1, 5), (1, 6), (1, 7), (1, 8)]), (7, aI), (11, aI), (12, aI), (13, aB), (27, aB)]) rfl ?_
  refine e_kw ?_
  refine w_ret ?_
  refine e_blk_r ?_
  refine e_seq_r ?_
  refine e_seq_r ?_
  refine e_blk_r ?_
  refine e_seq_r ?_
  have he6 := Option.some.inj h5
  subst he6
  refine e_ret (rs' := [.tmp 4]) rfl ?_
  refine r_tmp (v := aB) rfl ?_
  refine r_nil ?_
  exact fin_gen [] rfl rfl rfl (AV.le_refl _) st_nil
 ·
  have h5 := cond_f (b := (!decide (p0a.ToStart = p1b.ToStart))) hb5 h4
  refine w_skip ?_
  refine e_blk_n ?_
  refine e_kw ?_
  refine w_region ?_
  refine o_p rfl (p_k (p_add rfl rfl) (show _ = .int .i64 (1 : Int) from rfl)) ?_
  refine o_p rfl (p_move (v := aI) rfl) ?_
  refine o_end (fr' := [(0, .agg [aS, aI, aI, aI, aI, aI, aI, aI, aI, aL]), (1, .agg [aS, aI, aI, aI, aI, aI, aI, aI, aI, aL]), (2, .box 0 0), (3, .box 1 0), (4, aB), (5, .ptrs [(0, 1), (0, 2), (0, 3), (0, 4), (0, 5), (0, 6), (0, 7), (0, 8)]), (6, .ptrs [(1, 1), (1, 2), (1, 3), (1, 4), (1, 5), (1, 6), (1, 7), (1, 8)]), (7, aI), (11, aI), (12, aI), (13, aB), (27, aB)]) rfl ?_
  refine e_seq_n ?_
  refine lu_s ?_
  refine w_seqw ?_
  refine w_region ?_
  refine o_p rfl (p_k (p_lss rfl rfl) (show _ = .bool true from rfl)) ?_
  refine o_end (fr' := [(0, .agg [aS, aI, aI, aI, aI, aI, aI, aI, aI, aL]), (1, .agg [aS, aI, aI, aI, aI, aI, aI, aI, aI, aL]), (2, .box 0 0), (3, .box 1 0), (4, aB), (5, .ptrs [(0, 1), (0, 2), (0, 3), (0, 4), (0, 5), (0, 6), (0, 7), (0, 8)]), (6, .ptrs [(1, 1), (1, 2), (1, 3), (1, 4), (1, 5), (1, 6), (1, 7), (1, 8)]), (7, aI), (11, aI), (12, aI), (13, aB), (27, aB)]) rfl ?_
  refine e_kw ?_
  refine w_seqw ?_
  refine w_cond_t rfl ?_
  refine w_skip ?_
  refine e_kw ?_
  refine w_seqw ?_
  refine w_block ?_
  refine w_seqw ?_
  refine w_region ?_
  refine o_p rfl (p_move (v := aI) rfl) ?_
  refine o_p rfl (p_assign (v := aI) rfl) ?_
  refine o_end (fr' := [(0, .agg [aS, aI, aI, aI, aI, aI, aI, aI, aI, aL]), (1, .agg [aS, aI, aI, aI, aI, aI, aI, aI, aI, aL]), (2, .box 0 0), (3, .box 1 0), (4, aB), (5, .ptrs [(0, 1), (0, 2), (0, 3), (0, 4), (0, 5), (0, 6), (0, 7), (0, 8)]), (6, .ptrs [(1, 1), (1, 2), (1, 3), (1, 4), (1, 5), (1, 6), (1, 7), (1, 8)]), (7, aI), (11, aI), (12, aI), (13, aB), (27, aB)]) rfl ?_
  refine e_kw ?_
  refine w_seqw ?_
  refine w_planT [.q 0, .q 1, .q 2, .q 3, .q 4, .q 5, .q 6, .q 7, .q 8, .q 9, .q 10, .q 11, .q 12] [(some 15, [5]), (some 16, [7]), (some 17, [15, 16]), (some 18, [17]), (some 19, [18]), (some 20, [19]), (some 21, [6]), (some 22, [7]), (some 23, [21, 22]), (some 24, [23]), (some 25, [24]), (some 26, [25]), (some 27, [20, 26])] [0, 0, 3, 7, 15, 31, 0, 0, 192, 448, 960, 1984, 4095] (by kernel_rfl) ?_
  refine d_q rfl (qv_p rfl (p_move (v := .ptrs [(0, 1), (0, 2), (0, 3), (0, 4), (0, 5), (0, 6), (0, 7), (0, 8)]) rfl)) ?_
  refine d_q rfl (qv_p rfl (p_move (v := aI) rfl)) ?_
  refine d_q rfl (qv_p rfl (p_iap (p := (0, 2)) ts115 rfl rfl rfl)) ?_
  refine d_q rfl (qv_p rfl (p_loadp tv118 rfl)) ?_
  refine d_q rfl (qv_p rfl (p_nc rfl)) ?_
  refine d_q rfl (qv_p rfl (p_load (v := aI) tv3 rfl rfl rfl)) ?_
  refine d_q rfl (qv_p rfl (p_move (v := .ptrs [(1, 1), (1, 2), (1, 3), (1, 4), (1, 5), (1, 6), (1, 7), (1, 8)]) rfl)) ?_
  refine d_q rfl (qv_p rfl (p_move (v := aI) rfl)) ?_
  refine d_q rfl (qv_p rfl (p_iap (p := (1, 2)) ts115 rfl rfl rfl)) ?_
  refine d_q rfl (qv_p rfl (p_loadp tv118 rfl)) ?_
  refine d_q rfl (qv_p rfl (p_nc rfl)) ?_
  refine d_q rfl (qv_p rfl (p_load (v := aI) tv3 rfl rfl rfl)) ?_
  refine d_q rfl (qv_p rfl (p_neq rfl rfl)) ?_
  refine d_end (fr' := [(0, .agg [aS, aI, aI, aI, aI, aI, aI, aI, aI, aL]), (1, .agg [aS, aI, aI, aI, aI, aI, aI, aI, aI, aL]), (2, .box 0 0), (3, .box 1 0), (4, aB), (5, .ptrs [(0, 1), (0, 2), (0, 3), (0, 4), (0, 5), (0, 6), (0, 7), (0, 8)]), (6, .ptrs [(1, 1), (1, 2), (1, 3), (1, 4), (1, 5), (1, 6), (1, 7), (1, 8)]), (7, aI), (11, aI), (12, aI), (13, aB), (27, aB)]) rfl ?_
  refine e_kw ?_
  refine w_cond _ rfl (fun hb7 => ?_) (fun hb7 => ?_)
  ·
   have h7 := cond_t (b := (!decide (p0a.ToClose = p1b.ToClose))) hb7 h5
   refine w_seqw ?_
   refine w_region ?_
   refine o_p rfl (p_assign (v := aB) rfl) ?_
   refine o_end (fr' := [(0, .agg [aS, aI, aI, aI, aI, aI, aI, aI, aI, aL]), (1, .agg [aS, aI, aI, aI, aI, aI, aI, aI, aI, aL]), (2, .box 0 0), (3, .box 1 0), (4, aB), (5, .ptrs [(0, 1), (0, 2), (0, 3), (0, 4), (0, 5), (0, 6), (0, 7), (0, 8)]), (6, .ptrs [(1, 1), (1, 2), (1, 3), (1, 4), (1, 5), (1, 6), (1, 7), (1, 8)]), (7, aI), (11, aI), (12, aI), (13, aB), (27, aB)]) rfl ?_
   refine e_kw ?_
   refine w_ret ?_
   refine e_blk_r ?_
   refine e_seq_r ?_
   refine e_seq_r ?_
   refine e_blk_r ?_
   refine e_seq_r ?_
   have he8 := Option.some.inj h7
   subst he8
   refine e_ret (rs' := [.tmp 4]) rfl ?_
   refine r_tmp (v := aB) rfl ?_
   refine r_nil ?_
   exact fin_gen [] rfl rfl rfl (AV.le_refl _) st_nil
  ·
   have h7 := cond_f (b := (!decide (p0a.ToClose = p1b.ToClose))) hb7 h5
   refine w_skip ?_
   refine e_blk_n ?_
   refine e_kw ?_
   refine w_region ?_
   refine o_p rfl (p_k (p_add rfl rfl) (show _ = .int .i64 (2 : Int) from rfl)) ?_
   refine o_p rfl (p_move (v := aI) rfl) ?_
   refine o_end (fr' := [(0, .agg [aS, aI, aI, aI, aI, aI, aI, aI, aI, aL]), (1, .agg [aS, aI, aI, aI, aI, aI, aI, aI, aI, aL]), (2, .box 0 0), (3, .box 1 0), (4, aB), (5, .ptrs [(0, 1), (0, 2), (0, 3), (0, 4), (0, 5), (0, 6), (0, 7), (0, 8)]), (6, .ptrs [(1, 1), (1, 2), (1, 3), (1, 4), (1, 5), (1, 6), (1, 7), (1, 8)]), (7, aI), (11, aI), (12, aI), (13, aB), (27, aB)]) rfl ?_
   refine e_seq_n ?_
   refine lu_s ?_
   refine w_seqw ?_
   refine w_region ?_
   refine o_p rfl (p_k (p_lss rfl rfl) (show _ = .bool true from rfl)) ?_
   refine o_end (fr' := [(0, .agg [aS, aI, aI, aI, aI, aI, aI, aI, aI, aL]), (1, .agg [aS, aI, aI, aI, aI, aI, aI, aI, aI, aL]), (2, .box 0 0), (3, .box 1 0), (4, aB), (5, .ptrs [(0, 1), (0, 2), (0, 3), (0, 4), (0, 5), (0, 6), (0, 7), (0, 8)]), (6, .ptrs [(1, 1), (1, 2), (1, 3), (1, 4), (1, 5), (1, 6), (1, 7), (1, 8)]), (7, aI), (11, aI), (12, aI), (13, aB), (27, aB)]) rfl ?_
   refine e_kw ?_
   refine w_seqw ?_
   refine w_cond_t rfl ?_
   refine w_skip ?_
   refine e_kw ?_
   refine w_seqw ?_
   refine w_block ?_
   refine w_seqw ?_
   refine w_region ?_
   refine o_p rfl (p_move (v := aI) rfl) ?_
   refine o_p rfl (p_assign (v := aI) rfl) ?_
   refine o_end (fr' := [(0, .agg [aS, aI, aI, aI, aI, aI, aI, aI, aI, aL]), (1, .agg [aS, aI, aI, aI, aI, aI, aI, aI, aI, aL]), (2, .box 0 0), (3, .box 1 0), (4, aB), (5, .ptrs [(0, 1), (0, 2), (0, 3), (0, 4), (0, 5), (0, 6), (0, 7), (0, 8)]), (6, .ptrs [(1, 1), (1, 2), (1, 3), (1, 4), (1, 5), (1, 6), (1, 7), (1, 8)]), (7, aI), (11, aI), (12, aI), (13, aB), (27, aB)]) rfl ?_
   refine e_kw ?_
   refine w_seqw ?_
   refine w_planT [.q 0, .q 1, .q 2, .q 3, .q 4, .q 5, .q 6, .q 7, .q 8, .q 9, .q 10, .q 11, .q 12] [(some 15, [5]), (some 16, [7]), (some 17, [15, 16]), (some 18, [17]), (some 19, [18]), (some 20, [19]), (some 21, [6]), (some 22, [7]), (some 23, [21, 22]), (some 24, [23]), (some 25, [24]), (some 26, [25]), (some 27, [20, 26])] [0, 0, 3, 7, 15, 31, 0, 0, 192, 448, 960, 1984, 4095] (by kernel_rfl) ?_
   refine d_q rfl (qv_p rfl (p_move (v := .ptrs [(0, 1), (0, 2), (0, 3), (0, 4), (0, 5), (0, 6), (0, 7), (0, 8)]) rfl)) ?_
   refine d_q rfl (qv_p rfl (p_move (v := aI) rfl)) ?_
   refine d_q rfl (qv_p rfl (p_iap (p := (0, 3)) ts115 rfl rfl rfl)) ?_
   refine d_q rfl (qv_p rfl (p_loadp tv118 rfl)) ?_
   refine d_q rfl (qv_p rfl (p_nc rfl)) ?_
   refine d_q rfl (qv_p rfl (p_load (v := aI) tv3 rfl rfl rfl)) ?_
   refine d_q rfl (qv_p rfl (p_move (v := .ptrs [(1, 1), (1, 2), (1, 3), (1, 4), (1, 5), (1, 6), (1, 7), (1, 8)]) rfl)) ?_
   refine d_q rfl (qv_p rfl (p_move (v := aI) rfl)) ?_
   refine d_q rfl (qv_p rfl (p_iap (p := (1, 3)) ts115 rfl rfl rfl)) ?_
   refine d_q rfl (qv_p rfl (p_loadp tv118 rfl)) ?_
   refine d_q rfl (qv_p rfl (p_nc rfl)) ?_
   refine d_q rfl (qv_p rfl (p_load (v := aI) tv3 rfl rfl rfl)) ?_
   refine d_q rfl (qv_p rfl (p_neq rfl rfl)) ?_
   refine d_end (fr' := [(0, .agg [aS, aI, aI, aI, aI, aI, aI, aI, aI, aL]), (1, .agg [aS, aI, aI, aI, aI, aI, aI, aI, aI, aL]), (2, .box 0 0), (3, .box 1 0), (4, aB), (5, .ptrs [(0, 1), (0, 2), (0, 3), (0, 4), (0, 5), (0, 6), (0, 7), (0, 8)]), (6, .ptrs [(1, 1), (1, 2), (1, 3), (1, 4), (1, 5), (1, 6), (1, 7), (1, 8)]), (7, aI), (11, aI), (12, aI), (13, aB), (27, aB)]) rfl ?_
   refine e_kw ?_
   refine w_cond _ rfl (fun hb9 => ?_) (fun hb9 => ?_)
   ·
    have h9 := cond_t (b := (!decide (p0a.Total = p1b.Total))) hb9 h7
    refine w_seqw ?_
    refine w_region ?_
    refine o_p rfl (p_assign (v := aB) rfl) ?_
    refine o_end (fr' := [(0, .agg [aS, aI, aI, aI, aI, aI, aI, aI, aI, aL]), (1, .agg [aS, aI, aI, aI, aI, aI, aI, aI, aI, aL]), (2, .box 0 0), (3, .box 1 0), (4, aB), (5, .ptrs [(0, 1), (0, 2), (0, 3), (0, 4), (0, 5), (0, 6), (0, 7), (0, 8)]), (6, .ptrs [(1, 1), (1, 2), (1, 3), (1, 4), (1, 5), (1, 6), (1, 7), (1, 8)]), (7, aI), (11, aI), (12, aI), (13, aB), (27, aB)]) rfl ?_
    refine e_kw ?_
    refine w_ret ?_
    refine e_blk_r ?_
    refine e_seq_r ?_
    refine e_seq_r ?_
    refine e_blk_r ?_
    refine e_seq_r ?_
    have he10 := Option.some.inj h9
    subst he10
    refine e_ret (rs' := [.tmp 4]) rfl ?_
    refine r_tmp (v := aB) rfl ?_
    refine r_nil ?_
    exact fin_gen [] rfl rfl rfl (AV.le_refl _) st_nil
   ·
    have h9 := cond_f (b := (!decide (p0a.Total = p1b.Total))) hb9 h7
    refine w_skip ?_
    refine e_blk_n ?_
    refine e_kw ?_
    refine w_region ?_
    refine o_p rfl (p_k (p_add rfl rfl) (show _ = .int .i64 (3 : Int) from rfl)) ?_
    refine o_p rfl (p_move (v := aI) rfl) ?_
    refine o_end (fr' := [(0, .agg [aS, aI, aI, aI, aI, aI, aI, aI, aI, aL]), (1, .agg [aS, aI, aI, aI, aI, aI, aI, aI, aI, aL]), (2, .box 0 0), (3, .box 1 0), (4, aB), (5, .ptrs [(0, 1), (0, 2), (0, 3), (0, 4), (0, 5), (0, 6), (0, 7), (0, 8)]), (6, .ptrs [(1, 1), (1, 2), (1, 3), (1, 4), (1, 5), (1, 6), (1, 7), (1, 8)]), (7, aI), (11, aI), (12, aI), (13, aB), (27, aB)]) rfl ?_
    refine e_seq_n ?_
    refine lu_s ?_
    refine w_seqw ?_
    refine w_region ?_
    refine o_p rfl (p_k (p_lss rfl rfl) (show _ = .bool true from rfl)) ?_
    refine o_end (fr' := [(0, .agg [aS, aI, aI, aI, aI, aI, aI, aI, aI, aL]), (1, .agg [aS, aI, aI, aI, aI, aI, aI, aI, aI, aL]), (2, .box 0 0), (3, .box 1 0), (4, aB), (5, .ptrs [(0, 1), (0, 2), (0, 3), (0, 4), (0, 5), (0, 6), (0, 7), (0, 8)]), (6, .ptrs [(1, 1), (1, 2), (1, 3), (1, 4), (1, 5), (1, 6), (1, 7), (1, 8)]), (7, aI), (11, aI), (12, aI), (13, aB), (27, aB)]) rfl ?_
    refine e_kw ?_
    refine w_seqw ?_
    refine w_cond_t rfl ?_
    refine w_skip ?_
    refine e_kw ?_
    refine w_seqw ?_
    refine w_block ?_
    refine w_seqw ?_
    refine w_region ?_
    refine o_p rfl (p_move (v := aI) rfl) ?_
    refine o_p rfl (p_assign (v := aI) rfl) ?_
    refine o_end (fr' := [(0, .agg [aS, aI, aI, aI, aI, aI, aI, aI, aI, aL]), (1, .agg [aS, aI, aI, aI, aI, aI, aI, aI, aI, aL]), (2, .box 0 0), (3, .box 1 0), (4, aB), (5, .ptrs [(0, 1), (0, 2), (0, 3), (0, 4), (0, 5), (0, 6), (0, 7), (0, 8)]), (6, .ptrs [(1, 1), (1, 2), (1, 3), (1, 4), (1, 5), (1, 6), (1, 7), (1, 8)]), (7, aI), (11, aI), (12, aI), (13, aB), (27, aB)]) rfl ?_
    refine e_kw ?_
    refine w_seqw ?_
    refine w_planT [.q 0, .q 1, .q 2, .q 3, .q 4, .q 5, .q 6, .q 7, .q 8, .q 9, .q 10, .q 11, .q 12] [(some 15, [5]), (some 16, [7]), (some 17, [15, 16]), (some 18, [17]), (some 19, [18]), (some 20, [19]), (some 21, [6]), (some 22, [7]), (some 23, [21, 22]), (some 24, [23]), (some 25, [24]), (some 26, [25]), (some 27, [20, 26])] [0, 0, 3, 7, 15, 31, 0, 0, 192, 448, 960, 1984, 4095] (by kernel_rfl) ?_
    refine d_q rfl (qv_p rfl (p_move (v := .ptrs [(0, 1), (0, 2), (0, 3), (0, 4), (0, 5), (0, 6), (0, 7), (0, 8)]) rfl)) ?_
    refine d_q rfl (qv_p rfl (p_move (v := aI) rfl)) ?_
    refine d_q rfl (qv_p rfl (p_iap (p := (0, 4)) ts115 rfl rfl rfl)) ?_
    refine d_q rfl (qv_p rfl (p_loadp tv118 rfl)) ?_
    refine d_q rfl (qv_p rfl (p_nc rfl)) ?_
    refine d_q rfl (qv_p rfl (p_load (v := aI) tv3 rfl rfl rfl)) ?_
    refine d_q rfl (qv_p rfl (p_move (v := .ptrs [(1, 1), (1, 2), (1, 3), (1, 4), (1, 5), (1, 6), (1, 7), (1, 8)]) rfl)) ?_
    refine d_q rfl (qv_p rfl (p_move (v := aI) rfl)) ?_
    refine d_q rfl (qv_p rfl (p_iap (p := (1, 4)) ts115 rfl rfl rfl)) ?_
    refine d_q rfl (qv_p rfl (p_loadp tv118 rfl)) ?_
    refine d_q rfl (qv_p rfl (p_nc rfl)) ?_
    refine d_q rfl (qv_p rfl (p_load (v := aI) tv3 rfl rfl rfl)) ?_
    refine d_q rfl (qv_p rfl (p_neq rfl rfl)) ?_
    refine d_end (fr' := [(0, .agg [aS, aI, aI, aI, aI, aI, aI, aI, aI, aL]), (1, .agg [aS, aI, aI, aI, aI, aI, aI, aI, aI, aL]), (2, .box 0 0), (3, .box 1 0), (4, aB), (5, .ptrs [(0, 1), (0, 2), (0, 3), (0, 4), (0, 5), (0, 6), (0, 7), (0, 8)]), (6, .ptrs [(1, 1), (1, 2), (1, 3), (1, 4), (1, 5), (1, 6), (1, 7), (1, 8)]), (7, aI), (11, aI), (12, aI), (13, aB), (27, aB)]) rfl ?_
    refine e_kw ?_
    refine w_cond _ rfl (fun hb11 => ?_) (fun hb11 => ?_)
    ·
     have h11 := cond_t (b := (!decide (p0a.Beat = p1b.Beat))) hb11 h9
     refine w_seqw ?_
     refine w_region ?_
     refine o_p rfl (p_assign (v := aB) rfl) ?_
     refine o_end (fr' := [(0, .agg [aS, aI, aI, aI, aI, aI, aI, aI, aI, aL]), (1, .agg [aS, aI, aI, aI, aI, aI, aI, aI, aI, aL]), (2, .box 0 0), (3, .box 1 0), (4, aB), (5, .ptrs [(0, 1), (0, 2), (0, 3), (0, 4), (0, 5), (0, 6), (0, 7), (0, 8)]), (6, .ptrs [(1, 1), (1, 2), (1, 3), (1, 4), (1, 5), (1, 6), (1, 7), (1, 8)]), (7, aI), (11, aI), (12, aI), (13, aB), (27, aB)]) rfl ?_
     refine e_kw ?_
     refine w_ret ?_
     refine e_blk_r ?_
     refine e_seq_r ?_
     refine e_seq_r ?_
     refine e_blk_r ?_
     refine e_seq_r ?_
     have he12 := Option.some.inj h11
     subst he12
     refine e_ret (rs' := [.tmp 4]) rfl ?_
     refine r_tmp (v := aB) rfl ?_
     refine r_nil ?_
     exact fin_gen [] rfl rfl rfl (AV.le_refl _) st_nil
    ·
     have h11 := cond_f (b := (!decide (p0a.Beat = p1b.Beat))) hb11 h9
     refine w_skip ?_
     refine e_blk_n ?_
     refine e_kw ?_
     refine w_region ?_
     refine o_p rfl (p_k (p_add rfl rfl) (show _ = .int .i64 (4 : Int) from rfl)) ?_
     refine o_p rfl (p_move (v := aI) rfl) ?_
     refine o_end (fr' := [(0, .agg [aS, aI, aI, aI, aI, aI, aI, aI, aI, aL]), (1, .agg [aS, aI, aI, aI, aI, aI, aI, aI, aI, aL]), (2, .box 0 0), (3, .box 1 0), (4, aB), (5, .ptrs [(0, 1), (0, 2), (0, 3), (0, 4), (0, 5), (0, 6), (0, 7), (0, 8)]), (6, .ptrs [(1, 1), (1, 2), (1, 3), (1, 4), (1, 5), (1, 6), (1, 7), (1, 8)]), (7, aI), (11, aI), (12, aI), (13, aB), (27, aB)]) rfl ?_
     refine e_seq_n ?_
     refine lu_s ?_
     refine w_seqw ?_
     refine w_region ?_
     refine o_p rfl (p_k (p_lss rfl rfl) (show _ = .bool true from rfl)) ?_
     refine o_end (fr' := [(0, .agg [aS, aI, aI, aI, aI, aI, aI, aI, aI, aL]), (1, .agg [aS, aI, aI, aI, aI, aI, aI, aI, aI, aL]), (2, .box 0 0), (3, .box 1 0), (4, aB), (5, .ptrs [(0, 1), (0, 2), (0, 3), (0, 4), (0, 5), (0, 6), (0, 7), (0, 8)]), (6, .ptrs [(1, 1), (1, 2), (1, 3), (1, 4), (1, 5), (1, 6), (1, 7), (1, 8)]), (7, aI), (11, aI), (12, aI), (13, aB), (27, aB)]) rfl ?_
     refine e_kw ?_
     refine w_seqw ?_
     refine w_cond_t rfl ?_
     refine w_skip ?_
     refine e_kw ?_
     refine w_seqw ?_
     refine w_block ?_
     refine w_seqw ?_
     refine w_region ?_
     refine o_p rfl (p_move (v := aI) rfl) ?_
     refine o_p rfl (p_assign (v := aI) rfl) ?_
     refine o_end (fr' := [(0, .agg [aS, aI, aI, aI, aI, aI, aI, aI, aI, aL]), (1, .agg [aS, aI, aI, aI, aI, aI, aI, aI, aI, aL]), (2, .box 0 0), (3, .box 1 0), (4, aB), (5, .ptrs [(0, 1), (0, 2), (0, 3), (0, 4), (0, 5), (0, 6), (0, 7), (0, 8)]), (6, .ptrs [(1, 1), (1, 2), (1, 3), (1, 4), (1, 5), (1, 6), (1, 7), (1, 8)]), (7, aI), (11, aI), (12, aI), (13, aB), (27, aB)]) rfl ?_
     refine e_kw ?_
     refine w_seqw ?_
     refine w_planT [.q 0, .q 1, .q 2, .q 3, .q 4, .q 5, .q 6, .q 7, .q 8, .q 9, .q 10, .q 11, .q 12] [(some 15, [5]), (some 16, [7]), (some 17, [15, 16]), (some 18, [17]), (some 19, [18]), (some 20, [19]), (some 21, [6]), (some 22, [7]), (some 23, [21, 22]), (some 24, [23]), (some 25, [24]), (some 26, [25]), (some 27, [20, 26])] [0, 0, 3, 7, 15, 31, 0, 0, 192, 448, 960, 1984, 4095] (by kernel_rfl) ?_
     refine d_q rfl (qv_p rfl (p_move (v := .ptrs [(0, 1), (0, 2), (0, 3), (0, 4), (0, 5), (0, 6), (0, 7), (0, 8)]) rfl)) ?_
     refine d_q rfl (qv_p rfl (p_move (v := aI) rfl)) ?_
     refine d_q rfl (qv_p rfl (p_iap (p := (0, 5)) ts115 rfl rfl rfl)) ?_
     refine d_q rfl (qv_p rfl (p_loadp tv118 rfl)) ?_
     refine d_q rfl (qv_p rfl (p_nc rfl)) ?_
     refine d_q rfl (qv_p rfl (p_load (v := aI) tv3 rfl rfl rfl)) ?_
     refine d_q rfl (qv_p rfl (p_move (v := .ptrs [(1, 1), (1, 2), (1, 3), (1, 4), (1, 5), (1, 6), (1, 7), (1, 8)]) rfl)) ?_
     refine d_q rfl (qv_p rfl (p_move (v := aI) rfl)) ?_
     refine d_q rfl (qv_p rfl (p_iap (p := (1, 5)) ts115 rfl rfl rfl)) ?_
     refine d_q rfl (qv_p rfl (p_loadp tv118 rfl)) ?_
     refine d_q rfl (qv_p rfl (p_nc rfl)) ?_
     refine d_q rfl (qv_p rfl (p_load (v := aI) tv3 rfl rfl rfl)) ?_
     refine d_q rfl (qv_p rfl (p_neq rfl rfl)) ?_
     refine d_end (fr' := [(0, .agg [aS, aI, aI, aI, aI, aI, aI, aI, aI, aL]), (1, .agg [aS, aI, aI, aI, aI, aI, aI, aI, aI, aL]), (2, .box 0 0), (3, .box 1 0), (4, aB), (5, .ptrs [(0, 1), (0, 2), (0, 3), (0, 4), (0, 5), (0, 6), (0, 7), (0, 8)]), (6, .ptrs [(1, 1), (1, 2), (1, 3), (1, 4), (1, 5), (1, 6), (1, 7), (1, 8)]), (7, aI), (11, aI), (12, aI), (13, aB), (27, aB)]) rfl ?_
     refine e_kw ?_
     refine w_cond _ rfl (fun hb13 => ?_) (fun hb13 => ?_)
     ·
      have h13 := cond_t (b := (!decide (p0a.First = p1b.First))) hb13 h11
      refine w_seqw ?_
      refine w_region ?_
      refine o_p rfl (p_assign (v := aB) rfl) ?_
      refine o_end (fr' := [(0, .agg [aS, aI, aI, aI, aI, aI, aI, aI, aI, aL]), (1, .agg [aS, aI, aI, aI, aI, aI, aI, aI, aI, aL]), (2, .box 0 0), (3, .box 1 0), (4, aB), (5, .ptrs [(0, 1), (0, 2), (0, 3), (0, 4), (0, 5), (0, 6), (0, 7), (0, 8)]), (6, .ptrs [(1, 1), (1, 2), (1, 3), (1, 4), (1, 5), (1, 6), (1, 7), (1, 8)]), (7, aI), (11, aI), (12, aI), (13, aB), (27, aB)]) rfl ?_
      refine e_kw ?_
      refine w_ret ?_
      refine e_blk_r ?_
      refine e_seq_r ?_
      refine e_seq_r ?_
      refine e_blk_r ?_
      refine e_seq_r ?_
      have he14 := Option.some.inj h13
      subst he14
      refine e_ret (rs' := [.tmp 4]) rfl ?_
      refine r_tmp (v := aB) rfl ?_
      refine r_nil ?_
      exact fin_gen [] rfl rfl rfl (AV.le_refl _) st_nil
     ·
      have h13 := cond_f (b := (!decide (p0a.First = p1b.First))) hb13 h11
      refine w_skip ?_
      refine e_blk_n ?_
      refine e_kw ?_
      refine w_region ?_
      refine o_p rfl (p_k (p_add rfl rfl) (show _ = .int .i64 (5 : Int) from rfl)) ?_
      refine o_p rfl (p_move (v := aI) rfl) ?_
      refine o_end (fr' := [(0, .agg [aS, aI, aI, aI, aI, aI, aI, aI, aI, aL]), (1, .agg [aS, aI, aI, aI, aI, aI, aI, aI, aI, aL]), (2, .box 0 0), (3, .box 1 0), (4, aB), (5, .ptrs [(0, 1), (0, 2), (0, 3), (0, 4), (0, 5), (0, 6), (0, 7), (0, 8)]), (6, .ptrs [(1, 1), (1, 2), (1, 3), (1, 4), (1, 5), (1, 6), (1, 7), (1, 8)]), (7, aI), (11, aI), (12, aI), (13, aB), (27, aB)]) rfl ?_
      refine e_seq_n ?_
      refine lu_s ?_
      refine w_seqw ?_
      refine w_region ?_
      refine o_p rfl (p_k (p_lss rfl rfl) (show _ = .bool true from rfl)) ?_
      refine o_end (fr' := [(0, .agg [aS, aI, aI, aI, aI, aI, aI, aI, aI, aL]), (1, .agg [aS, aI, aI, aI, aI, aI, aI, aI, aI, aL]), (2, .box 0 0), (3, .box 1 0), (4, aB), (5, .ptrs [(0, 1), (0, 2), (0, 3), (0, 4), (0, 5), (0, 6), (0, 7), (0, 8)]), (6, .ptrs [(1, 1), (1, 2), (1, 3), (1, 4), (1, 5), (1, 6), (1, 7), (1, 8)]), (7, aI), (11, aI), (12, aI), (13, aB), (27, aB)]) rfl ?_
      refine e_kw ?_
      refine w_seqw ?_
      refine w_cond_t rfl ?_
      refine w_skip ?_
      refine e_kw ?_
      refine w_seqw ?_
      refine w_block ?_
      refine w_seqw ?_
      refine w_region ?_
      refine o_p rfl (p_move (v := aI) rfl) ?_
      refine o_p rfl (p_assign (v := aI) rfl) ?_
      refine o_end (fr' := [(0, .agg [aS, aI, aI, aI, aI, aI, aI, aI, aI, aL]), (1, .agg [aS, aI, aI, aI, aI, aI, aI, aI, aI, aL]), (2, .box 0 0), (3, .box 1 0), (4, aB), (5, .ptrs [(0, 1), (0, 2), (0, 3), (0, 4), (0, 5), (0, 6), (0, 7), (0, 8)]), (6, .ptrs [(1, 1), (1, 2), (1, 3), (1, 4), (1, 5), (1, 6), (1, 7), (1, 8)]), (7, aI), (11, aI), (12, aI), (13, aB), (27, aB)]) rfl ?_
      refine e_kw ?_
      refine w_seqw ?_
      refine w_planT [.q 0, .q 1, .q 2, .q 3, .q 4, .q 5, .q 6, .q 7, .q 8, .q 9, .q 10, .q 11, .q 12] [(some 15, [5]), (some 16, [7]), (some 17, [15, 16]), (some 18, [17]), (some 19, [18]), (some 20, [19]), (some 21, [6]), (some 22, [7]), (some 23, [21, 22]), (some 24, [23]), (some 25, [24]), (some 26, [25]), (some 27, [20, 26])] [0, 0, 3, 7, 15, 31, 0, 0, 192, 448, 960, 1984, 4095] (by kernel_rfl) ?_
      refine d_q rfl (qv_p rfl (p_move (v := .ptrs [(0, 1), (0, 2), (0, 3), (0, 4), (0, 5), (0, 6), (0, 7), (0, 8)]) rfl)) ?_
      refine d_q rfl (qv_p rfl (p_move (v := aI) rfl)) ?_
      refine d_q rfl (qv_p rfl (p_iap (p := (0, 6)) ts115 rfl rfl rfl)) ?_
      refine d_q rfl (qv_p rfl (p_loadp tv118 rfl)) ?_
      refine d_q rfl (qv_p rfl (p_nc rfl)) ?_
      refine d_q rfl (qv_p rfl (p_load (v := aI) tv3 rfl rfl rfl)) ?_
      refine d_q rfl (qv_p rfl (p_move (v := .ptrs [(1, 1), (1, 2), (1, 3), (1, 4), (1, 5), (1, 6), (1, 7), (1, 8)]) rfl)) ?_
      refine d_q rfl (qv_p rfl (p_move (v := aI) rfl)) ?_
      refine d_q rfl (qv_p rfl (p_iap (p := (1, 6)) ts115 rfl rfl rfl)) ?_
      refine d_q rfl (qv_p rfl (p_loadp tv118 rfl)) ?_
      refine d_q rfl (qv_p rfl (p_nc rfl)) ?_
      refine d_q rfl (qv_p rfl (p_load (v := aI) tv3 rfl rfl rfl)) ?_
      refine d_q rfl (qv_p rfl (p_neq rfl rfl)) ?_
      refine d_end (fr' := [(0, .agg [aS, aI, aI, aI, aI, aI, aI, aI, aI, aL]), (1, .agg [aS, aI, aI, aI, aI, aI, aI, aI, aI, aL]), (2, .box 0 0), (3, .box 1 0), (4, aB), (5, .ptrs [(0, 1), (0, 2), (0, 3), (0, 4), (0, 5), (0, 6), (0, 7), (0, 8)]), (6, .ptrs [(1, 1), (1, 2), (1, 3), (1, 4), (1, 5), (1, 6), (1, 7), (1, 8)]), (7, aI), (11, aI), (12, aI), (13, aB), (27, aB)]) rfl ?_
      refine e_kw ?_
      refine w_cond _ rfl (fun hb15 => ?_) (fun hb15 => ?_)
      ·
       have h15 := cond_t (b := (!decide (p0a.Coef = p1b.Coef))) hb15 h13
       refine w_seqw ?_
       refine w_region ?_
       refine o_p rfl (p_assign (v := aB) rfl) ?_
       refine o_end (fr' := [(0, .agg [aS, aI, aI, aI, aI, aI, aI, aI, aI, aL]), (1, .agg [aS, aI, aI, aI, aI, aI, aI, aI, aI, aL]), (2, .box 0 0), (3, .box 1 0), (4, aB), (5, .ptrs [(0, 1), (0, 2), (0, 3), (0, 4), (0, 5), (0, 6), (0, 7), (0, 8)]), (6, .ptrs [(1, 1), (1, 2), (1, 3), (1, 4), (1, 5), (1, 6), (1, 7), (1, 8)]), (7, aI), (11, aI), (12, aI), (13, aB), (27, aB)]) rfl ?_
       refine e_kw ?_
       refine w_ret ?_
       refine e_blk_r ?_
       refine e_seq_r ?_
       refine e_seq_r ?_
       refine e_blk_r ?_
       refine e_seq_r ?_
       have he16 := Option.some.inj h15
       subst he16
       refine e_ret (rs' := [.tmp 4]) rfl ?_
       refine r_tmp (v := aB) rfl ?_
       refine r_nil ?_
       exact fin_gen [] rfl rfl rfl (AV.le_refl _) st_nil
      ·
       have h15 := cond_f (b := (!decide (p0a.Coef = p1b.Coef))) hb15 h13
       refine w_skip ?_
       refine e_blk_n ?_
       refine e_kw ?_
       refine w_region ?_
       refine o_p rfl (p_k (p_add rfl rfl) (show _ = .int .i64 (6 : Int) from rfl)) ?_
       refine o_p rfl (p_move (v := aI) rfl) ?_
       refine o_end (fr' := [(0, .agg [aS, aI, aI, aI, aI, aI, aI, aI, aI, aL]), (1, .agg [aS, aI, aI, aI, aI, aI, aI, aI, aI, aL]), (2, .box 0 0), (3, .box 1 0), (4, aB), (5, .ptrs [(0, 1), (0, 2), (0, 3), (0, 4), (0, 5), (0, 6), (0, 7), (0, 8)]), (6, .ptrs [(1, 1), (1, 2), (1, 3), (1, 4), (1, 5), (1, 6), (1, 7), (1, 8)]), (7, aI), (11, aI), (12, aI), (13, aB), (27, aB)]) rfl ?_
       refine e_seq_n ?_
       refine lu_s ?_
       refine w_seqw ?_
       refine w_region ?_
       refine o_p rfl (p_k (p_lss rfl rfl) (show _ = .bool true from rfl)) ?_
       refine o_end (fr' := [(0, .agg [aS, aI, aI, aI, aI, aI, aI, aI, aI, aL]), (1, .agg [aS, aI, aI, aI, aI, aI, aI, aI, aI, aL]), (2, .box 0 0), (3, .box 1 0), (4, aB), (5, .ptrs [(0, 1), (0, 2), (0, 3), (0, 4), (0, 5), (0, 6), (0, 7), (0, 8)]), (6, .ptrs [(1, 1), (1, 2), (1, 3), (1, 4), (1, 5), (1, 6), (1, 7), (1, 8)]), (7, aI), (11, aI), (12, aI), (13, aB), (27, aB)]) rfl ?_
       refine e_kw ?_
       refine w_seqw ?_
       refine w_cond_t rfl ?_
       refine w_skip ?_
       refine e_kw ?_
       refine w_seqw ?_
       refine w_block ?_
       refine w_seqw ?_
       refine w_region ?_
       refine o_p rfl (p_move (v := aI) rfl) ?_
       refine o_p rfl (p_assign (v := aI) rfl) ?_
       refine o_end (fr' := [(0, .agg [aS, aI, aI, aI, aI, aI, aI, aI, aI, aL]), (1, .agg [aS, aI, aI, aI, aI, aI, aI, aI, aI, aL]), (2, .box 0 0), (3, .box 1 0), (4, aB), (5, .ptrs [(0, 1), (0, 2), (0, 3), (0, 4), (0, 5), (0, 6), (0, 7), (0, 8)]), (6, .ptrs [(1, 1), (1, 2), (1, 3), (1, 4), (1, 5), (1, 6), (1, 7), (1, 8)]), (7, aI), (11, aI), (12, aI), (13, aB), (27, aB)]) rfl ?_
       refine e_kw ?_
       refine w_seqw ?_
       refine w_planT [.q 0, .q 1, .q 2, .q 3, .q 4, .q 5, .q 6, .q 7, .q 8, .q 9, .q 10, .q 11, .q 12] [(some 15, [5]), (some 16, [7]), (some 17, [15, 16]), (some 18, [17]), (some 19, [18]), (some 20, [19]), (some 21, [6]), (some 22, [7]), (some 23, [21, 22]), (some 24, [23]), (some 25, [24]), (some 26, [25]), (some 27, [20, 26])] [0, 0, 3, 7, 15, 31, 0, 0, 192, 448, 960, 1984, 4095] (by kernel_rfl) ?_
       refine d_q rfl (qv_p rfl (p_move (v := .ptrs [(0, 1), (0, 2), (0, 3), (0, 4), (0, 5), (0, 6), (0, 7), (0, 8)]) rfl)) ?_
       refine d_q rfl (qv_p rfl (p_move (v := aI) rfl)) ?_
       refine d_q rfl (qv_p rfl (p_iap (p := (0, 7)) ts115 rfl rfl rfl)) ?_
       refine d_q rfl (qv_p rfl (p_loadp tv118 rfl)) ?_
       refine d_q rfl (qv_p rfl (p_nc rfl)) ?_
       refine d_q rfl (qv_p rfl (p_load (v := aI) tv3 rfl rfl rfl)) ?_
       refine d_q rfl (qv_p rfl (p_move (v := .ptrs [(1, 1), (1, 2), (1, 3), (1, 4), (1, 5), (1, 6), (1, 7), (1, 8)]) rfl)) ?_
       refine d_q rfl (qv_p rfl (p_move (v := aI) rfl)) ?_
       refine d_q rfl (qv_p rfl (p_iap (p := (1, 7)) ts115 rfl rfl rfl)) ?_
       refine d_q rfl (qv_p rfl (p_loadp tv118 rfl)) ?_
       refine d_q rfl (qv_p rfl (p_nc rfl)) ?_
       refine d_q rfl (qv_p rfl (p_load (v := aI) tv3 rfl rfl rfl)) ?_
       refine d_q rfl (qv_p rfl (p_neq rfl rfl)) ?_
       refine d_end (fr' := [(0, .agg [aS, aI, aI, aI, aI, aI, aI, aI, aI, aL]), (1, .agg [aS, aI, aI, aI, aI, aI, aI, aI, aI, aL]), (2, .box 0 0), (3, .box 1 0), (4, aB), (5, .ptrs [(0, 1), (0, 2), (0, 3), (0, 4), (0, 5), (0, 6), (0, 7), (0, 8)]), (6, .ptrs [(1, 1), (1, 2), (1, 3), (1, 4), (1, 5), (1, 6), (1, 7), (1, 8)]), (7, aI), (11, aI), (12, aI), (13, aB), (27, aB)]) rfl ?_
       refine e_kw ?_
       refine w_cond _ rfl (fun hb17 => ?_) (fun hb17 => ?_)
       ·
        have h17 := cond_t (b := (!decide (p0a.Most = p1b.Most))) hb17 h15
        refine w_seqw ?_
        refine w_region ?_
        refine o_p rfl (p_assign (v := aB) rfl) ?_
        refine o_end (fr' := [(0, .agg [aS, aI, aI, aI, aI, aI, aI, aI, aI, aL]), (1, .agg [aS, aI, aI, aI, aI, aI, aI, aI, aI, aL]), (2, .box 0 0), (3, .box 1 0), (4, aB), (5, .ptrs [(0, 1), (0, 2), (0, 3), (0, 4), (0, 5), (0, 6), (0, 7), (0, 8)]), (6, .ptrs [(1, 1), (1, 2), (1, 3), (1, 4), (1, 5), (1, 6), (1, 7), (1, 8)]), (7, aI), (11, aI), (12, aI), (13, aB), (27, aB)]) rfl ?_
        refine e_kw ?_
        refine w_ret ?_
        refine e_blk_r ?_
        refine e_seq_r ?_
        refine e_seq_r ?_
        refine e_blk_r ?_
        refine e_seq_r ?_
        have he18 := Option.some.inj h17
        subst he18
        refine e_ret (rs' := [.tmp 4]) rfl ?_
        refine r_tmp (v := aB) rfl ?_
        refine r_nil ?_
        exact fin_gen [] rfl rfl rfl (AV.le_refl _) st_nil
       ·
        have h17 := cond_f (b := (!decide (p0a.Most = p1b.Most))) hb17 h15
        refine w_skip ?_
        refine e_blk_n ?_
        refine e_kw ?_
        refine w_region ?_
        refine o_p rfl (p_k (p_add rfl rfl) (show _ = .int .i64 (7 : Int) from rfl)) ?_
        refine o_p rfl (p_move (v := aI) rfl) ?_
        refine o_end (fr' := [(0, .agg [aS, aI, aI, aI, aI, aI, aI, aI, aI, aL]), (1, .agg [aS, aI, aI, aI, aI, aI, aI, aI, aI, aL]), (2, .box 0 0), (3, .box 1 0), (4, aB), (5, .ptrs [(0, 1), (0, 2), (0, 3), (0, 4), (0, 5), (0, 6), (0, 7), (0, 8)]), (6, .ptrs [(1, 1), (1, 2), (1, 3), (1, 4), (1, 5), (1, 6), (1, 7), (1, 8)]), (7, aI), (11, aI), (12, aI), (13, aB), (27, aB)]) rfl ?_
        refine e_seq_n ?_
        refine lu_s ?_
        refine w_seqw ?_
        refine w_region ?_
        refine o_p rfl (p_k (p_lss rfl rfl) (show _ = .bool true from rfl)) ?_
        refine o_end (fr' := [(0, .agg [aS, aI, aI, aI, aI, aI, aI, aI, aI, aL]), (1, .agg [aS, aI, aI, aI, aI, aI, aI, aI, aI, aL]), (2, .box 0 0), (3, .box 1 0), (4, aB), (5, .ptrs [(0, 1), (0, 2), (0, 3), (0, 4), (0, 5), (0, 6), (0, 7), (0, 8)]), (6, .ptrs [(1, 1), (1, 2), (1, 3), (1, 4), (1, 5), (1, 6), (1, 7), (1, 8)]), (7, aI), (11, aI), (12, aI), (13, aB), (27, aB)]) rfl ?_
        refine e_kw ?_
        refine w_seqw ?_
        refine w_cond_t rfl ?_
        refine w_skip ?_
        refine e_kw ?_
        refine w_seqw ?_
        refine w_block ?_
        refine w_seqw ?_
        refine w_region ?_
        refine o_p rfl (p_move (v := aI) rfl) ?_
        refine o_p rfl (p_assign (v := aI) rfl) ?_
        refine o_end (fr' := [(0, .agg [aS, aI, aI, aI, aI, aI, aI, aI, aI, aL]), (1, .agg [aS, aI, aI, aI, aI, aI, aI, aI, aI, aL]), (2, .box 0 0), (3, .box 1 0), (4, aB), (5, .ptrs [(0, 1), (0, 2), (0, 3), (0, 4), (0, 5), (0, 6), (0, 7), (0, 8)]), (6, .ptrs [(1, 1), (1, 2), (1, 3), (1, 4), (1, 5), (1, 6), (1, 7), (1, 8)]), (7, aI), (11, aI), (12, aI), (13, aB), (27, aB)]) rfl ?_
        refine e_kw ?_
        refine w_seqw ?_
        refine w_planT [.q 0, .q 1, .q 2, .q 3, .q 4, .q 5, .q 6, .q 7, .q 8, .q 9, .q 10, .q 11, .q 12] [(some 15, [5]), (some 16, [7]), (some 17, [15, 16]), (some 18, [17]), (some 19, [18]), (some 20, [19]), (some 21, [6]), (some 22, [7]), (some 23, [21, 22]), (some 24, [23]), (some 25, [24]), (some 26, [25]), (some 27, [20, 26])] [0, 0, 3, 7, 15, 31, 0, 0, 192, 448, 960, 1984, 4095] (by kernel_rfl) ?_
        refine d_q rfl (qv_p rfl (p_move (v := .ptrs [(0, 1), (0, 2), (0, 3), (0, 4), (0, 5), (0, 6), (0, 7), (0, 8)]) rfl)) ?_
        refine d_q rfl (qv_p rfl (p_move (v := aI) rfl)) ?_
        refine d_q rfl (qv_p rfl (p_iap (p := (0, 8)) ts115 rfl rfl rfl)) ?_
        refine d_q rfl (qv_p rfl (p_loadp tv118 rfl)) ?_
        refine d_q rfl (qv_p rfl (p_nc rfl)) ?_
        refine d_q rfl (qv_p rfl (p_load (v := aI) tv3 rfl rfl rfl)) ?_
        refine d_q rfl (qv_p rfl (p_move (v := .ptrs [(1, 1), (1, 2), (1, 3), (1, 4), (1, 5), (1, 6), (1, 7), (1, 8)]) rfl)) ?_
        refine d_q rfl (qv_p rfl (p_move (v := aI) rfl)) ?_
        refine d_q rfl (qv_p rfl (p_iap (p := (1, 8)) ts115 rfl rfl rfl)) ?_
        refine d_q rfl (qv_p rfl (p_loadp tv118 rfl)) ?_
        refine d_q rfl (qv_p rfl (p_nc rfl)) ?_
        refine d_q rfl (qv_p rfl (p_load (v := aI) tv3 rfl rfl rfl)) ?_
        refine d_q rfl (qv_p rfl (p_neq rfl rfl)) ?_
        refine d_end (fr' := [(0, .agg [aS, aI, aI, aI, aI, aI, aI, aI, aI, aL]), (1, .agg [aS, aI, aI, aI, aI, aI, aI, aI, aI, aL]), (2, .box 0 0), (3, .box 1 0), (4, aB), (5, .ptrs [(0, 1), (0, 2), (0, 3), (0, 4), (0, 5), (0, 6), (0, 7), (0, 8)]), (6, .ptrs [(1, 1), (1, 2), (1, 3), (1, 4), (1, 5), (1, 6), (1, 7), (1, 8)]), (7, aI), (11, aI), (12, aI), (13, aB), (27, aB)]) rfl ?_
        refine e_kw ?_
        refine w_cond _ rfl (fun hb19 => ?_) (fun hb19 => ?_)
        ·
         have h19 := cond_t (b := (!decide (p0a.Attempts = p1b.Attempts))) hb19 h17
         refine w_seqw ?_
         refine w_region ?_
         refine o_p rfl (p_assign (v := aB) rfl) ?_
         refine o_end (fr' := [(0, .agg [aS, aI, aI, aI, aI, aI, aI, aI, aI, aL]), (1, .agg [aS, aI, aI, aI, aI, aI, aI, aI, aI, aL]), (2, .box 0 0), (3, .box 1 0), (4, aB), (5, .ptrs [(0, 1), (0, 2), (0, 3), (0, 4), (0, 5), (0, 6), (0, 7), (0, 8)]), (6, .ptrs [(1, 1), (1, 2), (1, 3), (1, 4), (1, 5), (1, 6), (1, 7), (1, 8)]), (7, aI), (11, aI), (12, aI), (13, aB), (27, aB)]) rfl ?_
         refine e_kw ?_
         refine w_ret ?_
         refine e_blk_r ?_
         refine e_seq_r ?_
         refine e_seq_r ?_
         refine e_blk_r ?_
         refine e_seq_r ?_
         have he20 := Option.some.inj h19
         subst he20
         refine e_ret (rs' := [.tmp 4]) rfl ?_
         refine r_tmp (v := aB) rfl ?_
         refine r_nil ?_
         exact fin_gen [] rfl rfl rfl (AV.le_refl _) st_nil
        ·
         have h19 := cond_f (b := (!decide (p0a.Attempts = p1b.Attempts))) hb19 h17
         refine w_skip ?_
         refine e_blk_n ?_
         refine e_kw ?_
         refine w_region ?_
         refine o_p rfl (p_k (p_add rfl rfl) (show _ = .int .i64 (8 : Int) from rfl)) ?_
         refine o_p rfl (p_move (v := aI) rfl) ?_
         refine o_end (fr' := [(0, .agg [aS, aI, aI, aI, aI, aI, aI, aI, aI, aL]), (1, .agg [aS, aI, aI, aI, aI, aI, aI, aI, aI, aL]), (2, .box 0 0), (3, .box 1 0), (4, aB), (5, .ptrs [(0, 1), (0, 2), (0, 3), (0, 4), (0, 5), (0, 6), (0, 7), (0, 8)]), (6, .ptrs [(1, 1), (1, 2), (1, 3), (1, 4), (1, 5), (1, 6), (1, 7), (1, 8)]), (7, aI), (11, aI), (12, aI), (13, aB), (27, aB)]) rfl ?_
         refine e_seq_n ?_
         refine lu_s ?_
         refine w_seqw ?_
         refine w_region ?_
         refine o_p rfl (p_k (p_lss rfl rfl) (show _ = .bool false from rfl)) ?_
         refine o_end (fr' := [(0, .agg [aS, aI, aI, aI, aI, aI, aI, aI, aI, aL]), (1, .agg [aS, aI, aI, aI, aI, aI, aI, aI, aI, aL]), (2, .box 0 0), (3, .box 1 0), (4, aB), (5, .ptrs [(0, 1), (0, 2), (0, 3), (0, 4), (0, 5), (0, 6), (0, 7), (0, 8)]), (6, .ptrs [(1, 1), (1, 2), (1, 3), (1, 4), (1, 5), (1, 6), (1, 7), (1, 8)]), (7, aI), (11, aI), (12, aI), (13, aB), (27, aB)]) rfl ?_
         refine e_kw ?_
         refine w_seqw ?_
         refine w_cond_f rfl ?_
         refine w_exit ?_
         refine e_seq_x ?_
         refine e_seq_x ?_
         refine e_blk_h ?_
         refine e_kw ?_
         refine w_seqw ?_
         refine w_region ?_
         refine o_p rfl (p_fa tf42x0 rfl) ?_
         refine o_p rfl (p_load (v := aS) tv9 rfl rfl rfl) ?_
         refine o_p rfl (p_fa tf42x0 rfl) ?_
         refine o_p rfl (p_load (v := aS) tv9 rfl rfl rfl) ?_
         refine o_p rfl (p_seql rfl rfl) ?_
         refine o_p rfl (p_move (v := aB) rfl) ?_
         refine o_g rfl rfl (fun hc => ov_p rfl (p_fa tf42x9 rfl)) ?_
         refine o_g rfl rfl (fun hc => ov_p rfl (p_load (v := aL) tv38 (gx rfl hc) rfl rfl)) ?_
         refine o_g rfl rfl (fun hc => ov_p rfl (p_fa tf42x9 rfl)) ?_
         refine o_g rfl rfl (fun hc => ov_p rfl (p_load (v := aL) tv38 (gx rfl hc) rfl rfl)) ?_
         obtain ⟨x21, hx21, h22⟩ := bind_s h19
         refine o_g rfl rfl (fun hc => ov_call (v := aB) rfl (w_slices_Equal_string_string (gd_some hx21 hc)) ⟨(le_gv (gx rfl hc) (AV.le_refl _)), (le_gv (gx rfl hc) (AV.le_refl _)), trivial⟩ (ok_eq (by repeat (first | exact ok_nil | refine ok_cons rfl ?_ | refine ok_cons (dgv rfl) ?_))) rfl rfl) ?_
         refine o_p rfl (p_picky rfl rfl rfl (fun e => keq e)) ?_
         refine o_p rfl (p_assign (v := aB) rfl) ?_
         refine o_end (fr' := [(0, .agg [aS, aI, aI, aI, aI, aI, aI, aI, aI, aL]), (1, .agg [aS, aI, aI, aI, aI, aI, aI, aI, aI, aL]), (2, .box 0 0), (3, .box 1 0), (4, aB), (5, .ptrs [(0, 1), (0, 2), (0, 3), (0, 4), (0, 5), (0, 6), (0, 7), (0, 8)]), (6, .ptrs [(1, 1), (1, 2), (1, 3), (1, 4), (1, 5), (1, 6), (1, 7), (1, 8)]), (7, aI), (11, aI), (12, aI), (13, aB), (27, aB)]) rfl ?_
         refine e_kw ?_
         refine w_ret ?_
         have he23 := Option.some.inj h22
         subst he23
         refine e_ret (rs' := [.tmp 4]) rfl ?_
         refine r_tmp (v := aB) rfl ?_
         refine r_nil ?_
         exact fin_gen [] rfl rfl rfl (AV.le_refl _) st_nil
noncomputable def command_bare (p0c : ApiCommand) (p1u : CommandUses) : Option Bool :=
 (gd (((cond (cond (cond (cond p1u.seq_ true (decide (p0c.Seq = (0 : Int)))) (cond p1u.name_ true (decide (p0c.Name = ([] : List UInt8)))) false) (cond p1u.key_ true (decide (p0c.Key = ([] : List UInt8)))) false) (cond p1u.n_ true (decide (p0c.N = (0 : Int)))) false) == true) && (p1u.data_ == false)) (value_Same p0c.Data (ApiValue.mk (0 : Int) (0 : Int) ([] : List UInt8) ([] : (List ApiValue)) ([] : (List (List UInt8)))))).bind fun (x1 : Bool) => (gd (((cond (cond (cond (cond (cond p1u.seq_ true (decide (p0c.Seq = (0 : Int)))) (cond p1u.name_ true (decide (p0c.Name = ([] : List UInt8)))) false) (cond p1u.key_ true (decide (p0c.Key = ([] : List UInt8)))) false) (cond p1u.n_ true (decide (p0c.N = (0 : Int)))) false) (cond p1u.data_ true x1) false) == true) && (p1u.opts_ == false)) (command_SamePolicy p0c.Opts (ApiPolicy.mk ([] : List UInt8) (0 : Int) (0 : Int) (0 : Int) (0 : Int) (0 : Int) (0 : Int) (0 : Int) (0 : Int) ([] : (List (List UInt8)))))).bind fun (x3 : Bool) => some (cond (cond (cond (cond (cond (cond p1u.seq_ true (decide (p0c.Seq = (0 : Int)))) (cond p1u.name_ true (decide (p0c.Name = ([] : List UInt8)))) false) (cond p1u.key_ true (decide (p0c.Key = ([] : List UInt8)))) false) (cond p1u.n_ true (decide (p0c.N = (0 : Int)))) false) (cond p1u.data_ true x1) false) (cond p1u.opts_ true x3) false)
theorem w_command_bare {p0c : ApiCommand} {p1u : CommandUses} {res : Bool} (h : command_bare p0c p1u = some res) : ACalls Try.prog 76 [.agg (AV.cs (rowApiCommand p0c)), .agg (AV.cs (rowCommandUses p1u))] [] (.c (.bool res)) [] := by
 unfold command_bare at h
 refine acalls (fn := Try.f76) [0, 1, 2, 3, 4] (by kernel_rfl) Try.func76 rfl (by kernel_rfl) (by kernel_rfl) ?_
 refine w_seqw ?_
 refine w_region ?_
 refine o_box (v := .agg [aI, aI, aS, aS, aI, aI, aI, aS, aL, aL, aS, aI, aI, aI, aI, aI, aI, aI, aI, aL]) (n := 0) (cs := [aI, aI, aS, aS, aI, aI, aI, aS, aL, aL, aS, aI, aI, aI, aI, aI, aI, aI, aI, aL]) (σ' := [[aI, aI, aS, aS, aI, aI, aI, aS, aL, aL, aS, aI, aI, aI, aI, aI, aI, aI, aI, aL]]) rfl rfl rfl rfl rfl ?_
 refine o_box (v := .agg [aB, aB, aB, aB, aB, aB]) (n := 1) (cs := [aB, aB, aB, aB, aB, aB]) (σ' := [[aI, aI, aS, aS, aI, aI, aI, aS, aL, aL, aS, aI, aI, aI, aI, aI, aI, aI, aI, aL], [aB, aB, aB, aB, aB, aB]]) rfl rfl rfl rfl rfl ?_
 refine o_p rfl (p_assign (v := aB) rfl) ?_
 refine o_end (fr' := [(0, .agg [aI, aI, aS, aS, aI, aI, aI, aS, aL, aL, aS, aI, aI, aI, aI, aI, aI, aI, aI, aL]), (1, .agg [aB, aB, aB, aB, aB, aB]), (2, .box 0 0), (3, .box 1 0), (4, aB)]) rfl ?_
 refine e_kw ?_
 refine w_seqw ?_
 refine w_region ?_
 refine o_p rfl (p_fa tf102x0 rfl) ?_
 refine o_p rfl (p_load (v := aB) tv4 rfl rfl rfl) ?_
 refine o_p rfl (p_move (v := aB) rfl) ?_
 refine o_g rfl rfl (fun hc => ov_p rfl (p_fa tf44x1 rfl)) ?_
 refine o_g rfl rfl (fun hc => ov_p rfl (p_load (v := aI) tv3 (gx rfl hc) rfl rfl)) ?_
 refine o_g rfl rfl (fun hc => ov_p rfl (p_eql (gx rfl hc) rfl)) ?_
 refine o_p rfl (p_pickz rfl rfl rfl (fun e => keq e)) ?_
 refine o_p rfl (p_move (v := aB) rfl) ?_
 refine o_g rfl rfl (fun hc => ov_p rfl (p_fa tf102x1 rfl)) ?_
 refine o_g rfl rfl (fun hc => ov_p rfl (p_load (v := aB) tv4 (gx rfl hc) rfl rfl)) ?_
 refine o_g rfl rfl (fun hc => ov_p rfl (p_move (v := aB) (gx rfl hc))) ?_
 refine o_gg rfl rfl (fun hc => ov_p rfl (p_fa tf44x2 rfl)) ?_
 refine o_gg rfl rfl (fun hc => ov_p rfl (p_load (v := aS) tv9 (gx rfl hc) rfl rfl)) ?_
 refine o_gg rfl rfl (fun hc => ov_p rfl (p_seql (gx rfl hc) rfl)) ?_
 refine o_g rfl rfl (fun hc => ov_p rfl (p_pickz (gx rfl hc) rfl rfl (fun e => band hc (keq e)))) ?_
 refine o_p rfl (p_picky rfl rfl rfl (fun e => keq e)) ?_
 refine o_p rfl (p_move (v := aB) rfl) ?_
 refine o_g rfl rfl (fun hc => ov_p rfl (p_fa tf102x2 rfl)) ?_
 refine o_g rfl rfl (fun hc => ov_p rfl (p_load (v := aB) tv4 (gx rfl hc) rfl rfl)) ?_
 refine o_g rfl rfl (fun hc => ov_p rfl (p_move (v := aB) (gx rfl hc))) ?_
 refine o_gg rfl rfl (fun hc => ov_p rfl (p_fa tf44x3 rfl)) ?_
 refine o_gg rfl rfl (fun hc => ov_p rfl (p_load (v := aS) tv9 (gx rfl hc) rfl rfl)) ?_
 refine o_gg rfl rfl (fun hc => ov_p rfl (p_seql (gx rfl hc) rfl)) ?_
 refine o_g rfl rfl (fun hc => ov_p rfl (p_pickz (gx rfl hc) rfl rfl (fun e => band hc (keq e)))) ?_
 refine o_p rfl (p_picky rfl rfl rfl (fun e => keq e)) ?_
 refine o_p rfl (p_move (v := aB) rfl) ?_
 refine o_g rfl rfl (fun hc => ov_p rfl (p_fa tf102x3 rfl)) ?_
 refine o_g rfl rfl (fun hc => ov_p rfl (p_load (v := aB) tv4 (gx rfl hc) rfl rfl)) ?_
 refine o_g rfl rfl (fun hc => ov_p rfl (p_move (v := aB) (gx rfl hc))) ?_
 refine o_gg rfl rfl (fun hc => ov_p rfl (p_fa tf44x4 rfl)) ?_
 refine o_gg rfl rfl (fun hc => ov_p rfl (p_load (v := aI) tv3 (gx rfl hc) rfl rfl)) ?_
 refine o_gg rfl rfl (fun hc => ov_p rfl (p_eql (gx rfl hc) rfl)) ?_
 refine o_g rfl rfl (fun hc => ov_p rfl (p_pickz (gx rfl hc) rfl rfl (fun e => band hc (keq e)))) ?_
 refine o_p rfl (p_picky rfl rfl rfl (fun e => keq e)) ?_
 refine o_p rfl (p_move (v := aB) rfl) ?_
 refine o_g rfl rfl (fun hc => ov_p rfl (p_fa tf102x4 rfl)) ?_
 refine o_g rfl rfl (fun hc => ov_p rfl (p_load (v := aB) tv4 (gx rfl hc) rfl rfl)) ?_
 refine o_g rfl rfl (fun hc => ov_p rfl (p_move (v := aB) (gx rfl hc))) ?_
 refine o_gg rfl rfl (fun hc => ov_p rfl (p_fa tf44x5 rfl)) ?_
 refine o_gg rfl rfl (fun hc => ov_p rfl (p_loads (us := [aI, aI, aS, aL, aL]) tv40 (gx rfl hc) rfl rfl rfl)) ?_
 refine o_gg rfl rfl (fun hc => ov_p rfl (p_build (cs := [aI, aI, aS, .nil, .nil]) tb40 rfl)) ?_
 obtain ⟨x1, hx1, h2⟩ := bind_s h
 refine o_gg rfl rfl (fun hc => ov_call (v := aB) rfl (w_value_Same (gd_some hx1 hc)) ⟨(le_gv (gx rfl hc) (le_aggc rfl ⟨rfl, rfl, rfl, rfl, rfl, trivial⟩)), (le_gv (gx rfl hc) (le_aggc rfl ⟨rfl, rfl, rfl, ⟨_, rfl⟩, ⟨_, rfl⟩, trivial⟩)), trivial⟩ (ok_eq (by repeat (first | exact ok_nil | refine ok_cons rfl ?_ | refine ok_cons (dgv rfl) ?_))) rfl rfl) ?_
 refine o_g rfl rfl (fun hc => ov_p rfl (p_pickz (gx rfl hc) rfl rfl (fun e => band hc (keq e)))) ?_
 refine o_p rfl (p_picky rfl rfl rfl (fun e => keq e)) ?_
 refine o_p rfl (p_move (v := aB) rfl) ?_
 refine o_g rfl rfl (fun hc => ov_p rfl (p_fa tf102x5 rfl)) ?_
 refine o_g rfl rfl (fun hc => ov_p rfl (p_load (v := aB) tv4 (gx rfl hc) rfl rfl)) ?_
 refine o_g rfl rfl (fun hc => ov_p rfl (p_move (v := aB) (gx rfl hc))) ?_
 refine o_gg rfl rfl (fun hc => ov_p rfl (p_fa tf44x6 rfl)) ?_
 refine o_gg rfl rfl (fun hc => ov_p rfl (p_loads (us := [aS, aI, aI, aI, aI, aI, aI, aI, aI, aL]) tv42 (gx rfl hc) rfl rfl rfl)) ?_
 refine o_gg rfl rfl (fun hc => ov_p rfl (p_buildc (c0 := [aS, aI, aI, aI, aI, aI, aI, aI, aI, .nil]) (cs := [aS, aI, aI, aI, aI, aI, aI, aI, aI, .nil]) tb42 rfl fill_nil)) ?_
 obtain ⟨x3, hx3, h4⟩ := bind_s h2
 refine o_gg rfl rfl (fun hc => ov_call (v := aB) rfl (w_command_SamePolicy (gd_some hx3 hc)) ⟨(le_gv (gx rfl hc) (le_aggc rfl ⟨rfl, rfl, rfl, rfl, rfl, rfl, rfl, rfl, rfl, rfl, trivial⟩)), (le_gv (gx rfl hc) (le_aggc rfl ⟨rfl, rfl, rfl, rfl, rfl, rfl, rfl, rfl, rfl, ⟨_, rfl⟩, trivial⟩)), trivial⟩ (ok_eq (by repeat (first | exact ok_nil | refine ok_cons rfl ?_ | refine ok_cons (dgv rfl) ?_))) rfl rfl) ?_
 refine o_g rfl rfl (fun hc => ov_p rfl (p_pickz (gx rfl hc) rfl rfl (fun e => band hc (keq e)))) ?_
 refine o_p rfl (p_picky rfl rfl rfl (fun e => keq e)) ?_
 refine o_p rfl (p_assign (v := aB) rfl) ?_
 refine o_end (fr' := [(0, .agg [aI, aI, aS, aS, aI, aI, aI, aS, aL, aL, aS, aI, aI, aI, aI, aI, aI, aI, aI, aL]), (1, .agg [aB, aB, aB, aB, aB, aB]), (2, .box 0 0), (3, .box 1 0), (4, aB)]) rfl ?_
 refine e_kw ?_
 refine w_ret ?_
 have he5 := Option.some.inj h4
 subst he5
 refine e_ret (rs' := [.tmp 4]) rfl ?_
 refine r_tmp (v := aB) rfl ?_
 refine r_nil ?_
 exact fin_gen [] rfl rfl rfl (AV.le_refl _) st_nil
noncomputable def value_Depth_l1 (rec_value_Depth : ApiValue → Option Int) (p0v : ApiValue) (s4 : (Int × Int)) : Option (Step (Int × Int) Int) :=
 cond (decide (s4.2 < ((p0v.Items).length : Int))) ((idx p0v.Items s4.2).bind fun (x6 : ApiValue) => (rec_value_Depth x6).bind fun (x8 : Int) => some (Step.next ((if x8 > s4.1 then x8 else s4.1), (IntKind.wrap .i64 (s4.2 + (1 : Int)))))) (some (Step.out s4.1))
noncomputable def value_DepthF : Nat → ApiValue → Option Int
 | 0, _ => none
 | n + 1, p0v =>
  ((loopO (value_Depth_l1 (value_DepthF n) p0v) (((0 : Int), (0 : Int)))) : Option Int).bind fun (x1 : Int) => (some (IntKind.wrap .i64 (x1 + (1 : Int))))
theorem wF_value_Depth : ∀ n : Nat, (∀ {p0v : ApiValue} {res : Int}, value_DepthF n p0v = some res → ACalls Try.prog 104 [.agg (AV.cs (exApiValue p0v))] [] (.c (.int .i64 res)) []) := by
 intro n
 induction n with
 | zero => exact fun {p0v res} h => absurd h (by simp [value_DepthF])
 | succ n ih =>
  have ih_value_Depth := @ih
  intro p0v res h
  rw [value_DepthF] at h
  refine acalls (fn := Try.f104) [0, 1, 2, 3, 5, 7, 8, 9, 10] (by kernel_rfl) Try.func104 rfl (by kernel_rfl) (by kernel_rfl) ?_
  refine w_seqw ?_
  refine w_region ?_
  refine o_box (v := .agg [aI, aI, aS, aL, aL]) (n := 0) (cs := [aI, aI, aS, aL, aL]) (σ' := [[aI, aI, aS, aL, aL]]) rfl rfl rfl rfl rfl ?_
  refine o_p rfl (p_assign (v := aI) rfl) ?_
  refine o_end (fr' := [(0, .agg [aI, aI, aS, aL, aL]), (1, .box 0 0), (2, aI)]) rfl ?_
  refine e_kw ?_
  refine w_seqw ?_
  refine w_region ?_
  refine o_p rfl (p_assign (v := aI) rfl) ?_
  refine o_end (fr' := [(0, .agg [aI, aI, aS, aL, aL]), (1, .box 0 0), (2, aI), (3, aI)]) rfl ?_
  refine e_kw ?_
  refine w_seqw ?_
  refine w_seqw ?_
  refine w_region ?_
  refine o_p rfl (p_fa tf40x3 rfl) ?_
  refine o_p rfl (p_load (v := aL) tv37 rfl rfl rfl) ?_
  refine o_p rfl (p_len ti37 (isl_c rfl)) ?_
  refine o_p rfl (p_move (v := aI) rfl) ?_
  refine o_end (fr' := [(0, .agg [aI, aI, aS, aL, aL]), (1, .box 0 0), (2, aI), (3, aI), (7, aL), (8, aI), (9, aI)]) rfl ?_
  refine e_kw ?_
  obtain ⟨x1, hx1, h2⟩ := bind_s h
  refine w_jtail cl_kw (fun j3 => x1 = j3) (fun (j3 : Int) => ([(3, .c (.int .i64 j3))] : Fr)) (fun (j3 : Int) => ([[.c (.int .i64 p0v.Kind), .c (.int .i64 p0v.Int), .c (.str p0v.Text), .c (PV.ls 5 rowApiValue p0v.Items), .c (PV.ls 1 rowS p0v.Keys)]] : St)) ?_ ?_
  ·
   refine w_block ?_
   refine w_loopo _ (fun (s4 : (Int × Int)) => ([(3, .c (.int .i64 s4.1)), (7, .c (PV.ls 5 rowApiValue p0v.Items)), (8, .c (.int .i64 ((p0v.Items).length : Int))), (9, .c (.int .i64 s4.2))] : Fr)) (fun (s4 : (Int × Int)) => ([[.c (.int .i64 p0v.Kind), .c (.int .i64 p0v.Int), .c (.str p0v.Text), .c (PV.ls 5 rowApiValue p0v.Items), .c (PV.ls 1 rowS p0v.Keys)]] : St)) hx1 (w_weak [] 1 rfl rfl rfl rfl ⟨(AV.le_refl _), (AV.le_refl _), (AV.le_refl _), (AV.le_refl _), trivial⟩ (st_r rfl st_nil)) ?_
   intro s4 st4 hs4 ho4
   unfold value_Depth_l1 at hs4
   refine w_seqw ?_
   refine w_region ?_
   refine o_p rfl (p_lss rfl rfl) ?_
   refine o_end (fr' := [(3, aI), (7, aL), (8, aI), (9, aI), (10, aB)]) rfl ?_
   refine e_kw ?_
   refine w_seqw ?_
   refine w_cond _ rfl (fun hb5 => ?_) (fun hb5 => ?_)
   ·
    have h5 := cond_t (b := (decide (s4.2 < ((p0v.Items).length : Int)))) hb5 hs4
    refine w_skip ?_
    refine e_kw ?_
    refine w_seqw ?_
    refine w_block ?_
    refine w_seqw ?_
    refine w_region ?_
    obtain ⟨x6, hx6, h7⟩ := bind_s h5
    refine o_p rfl (p_ia (cs := [.int _ _, .int _ _, .str _, PV.ls _ _ _, PV.ls _ _ _]) ts37 (isl_c rfl) rfl hx6 (rowApiValue_eq _)) ?_
    refine o_p rfl (p_loades (us := [.int _ _, .int _ _, .str _, PV.ls _ _ _, PV.ls _ _ _]) tv40 rfl rfl rfl) ?_
    refine o_alloc (n := 1) (cs := [aI, aI, aS, .nil, .nil]) (σ' := [[aI, aI, aS, aL, aL], [aI, aI, aS, .nil, .nil]]) tz40 rfl rfl rfl ?_
    refine o_store (v := .agg [aI, aI, aS, aL, aL]) (us := [aI, aI, aS, aL, aL]) (cs := [aI, aI, aS, .nil, .nil]) (σ' := [[aI, aI, aS, aL, aL], [aI, aI, aS, aL, aL]]) rfl tv40 rfl rfl rfl rfl rfl rfl rfl rfl ?_
    refine o_end (fr' := [(3, aI), (5, .box 1 0), (7, aL), (8, aI), (9, aI), (10, aB)]) rfl ?_
    refine e_kw ?_
    refine w_region ?_
    refine o_p rfl (p_move (v := aI) rfl) ?_
    refine o_p rfl (p_loads (us := [aI, aI, aS, aL, aL]) tv40 rfl rfl rfl rfl) ?_
    obtain ⟨x8, hx8, h9⟩ := bind_s h7
    refine o_v (ov_call (v := aI) rfl (ih_value_Depth hx8) ⟨(le_aggc rfl ⟨rfl, rfl, rfl, rfl, rfl, trivial⟩), trivial⟩ rfl rfl rfl) ?_
    refine o_p rfl (p_max rfl rfl) ?_
    refine o_p rfl (p_assign (v := aI) rfl) ?_
    refine o_end (fr' := [(3, aI), (5, .box 1 0), (7, aL), (8, aI), (9, aI), (10, aB)]) rfl ?_
    refine e_blk_n ?_
    refine e_kw ?_
    refine w_region ?_
    refine o_p rfl (p_add rfl rfl) ?_
    refine o_p rfl (p_move (v := aI) rfl) ?_
    refine o_end (fr' := [(3, aI), (5, .box 1 0), (7, aL), (8, aI), (9, aI), (10, aB)]) rfl ?_
    exact e_l _ (Option.some.inj h9).symm (w_weak [] 1 rfl rfl rfl rfl ⟨(AV.le_refl _), (AV.le_refl _), (AV.le_refl _), (AV.le_refl _), trivial⟩ (st_r rfl st_nil))
   ·
    have h5 := cond_f (b := (decide (s4.2 < ((p0v.Items).length : Int)))) hb5 hs4
    refine w_exit ?_
    refine e_seq_x ?_
    refine e_seq_x ?_
    refine e_blk_h ?_
    have h10 := un_out h5 ho4
    exact e_j _ (Option.some.inj h10).symm (w_weak [] 1 rfl rfl rfl rfl ⟨(AV.le_refl _), trivial⟩ (st_r rfl st_nil))
  ·
   intro j3 hj11
   subst hj11
   refine e_kw ?_
   refine w_seqw ?_
   refine w_region ?_
   refine o_p rfl (p_move (v := aI) rfl) ?_
   refine o_p rfl (p_add rfl rfl) ?_
   refine o_p rfl (p_assign (v := aI) rfl) ?_
   refine o_end (fr' := [(2, aI), (3, aI)]) rfl ?_
   refine e_kw ?_
   refine w_ret ?_
   have he12 := Option.some.inj h2
   subst he12
   refine e_ret (rs' := [.tmp 2]) rfl ?_
   refine r_tmp (v := aI) rfl ?_
   refine r_nil ?_
   exact fin_gen [] rfl rfl rfl (AV.le_refl _) st_nil
noncomputable def value_Depth (p0v : ApiValue) : Option Int := lim fun n => value_DepthF n p0v
theorem w_value_Depth {p0v : ApiValue} {res : Int} (h : value_Depth p0v = some res) : ACalls Try.prog 104 [.agg (AV.cs (exApiValue p0v))] [] (.c (.int .i64 res)) [] := by
 obtain ⟨n, hn⟩ := lim_some h
 exact (wF_value_Depth n) hn
noncomputable def value_Size_l1 (rec_value_Size : ApiValue → Option Int) (p0v : ApiValue) (s4 : (Int × Int)) : Option (Step (Int × Int) Int) :=
 cond (decide (s4.2 < ((p0v.Items).length : Int))) ((idx p0v.Items s4.2).bind fun (x6 : ApiValue) => (rec_value_Size x6).bind fun (x8 : Int) => some (Step.next ((IntKind.wrap .i64 (s4.1 + x8)), (IntKind.wrap .i64 (s4.2 + (1 : Int)))))) (some (Step.out s4.1))
noncomputable def value_SizeF : Nat → ApiValue → Option Int
 | 0, _ => none
 | n + 1, p0v =>
  ((loopO (value_Size_l1 (value_SizeF n) p0v) (((1 : Int), (0 : Int)))) : Option Int).bind fun (x1 : Int) => (some x1)
theorem wF_value_Size : ∀ n : Nat, (∀ {p0v : ApiValue} {res : Int}, value_SizeF n p0v = some res → ACalls Try.prog 105 [.agg (AV.cs (exApiValue p0v))] [] (.c (.int .i64 res)) []) := by
 intro n
 induction n with
 | zero => exact fun {p0v res} h => absurd h (by simp [value_SizeF])
 | succ n ih =>
  have ih_value_Size := @ih
  intro p0v res h
  rw [value_SizeF] at h
  refine acalls (fn := Try.f105) [0, 1, 2, 3, 5, 7, 8, 9, 10] (by kernel_rfl) Try.func105 rfl (by kernel_rfl) (by kernel_rfl) ?_
  refine w_seqw ?_
  refine w_region ?_
  refine o_box (v := .agg [aI, aI, aS, aL, aL]) (n := 0) (cs := [aI, aI, aS, aL, aL]) (σ' := [[aI, aI, aS, aL, aL]]) rfl rfl rfl rfl rfl ?_
  refine o_p rfl (p_assign (v := aI) rfl) ?_
  refine o_end (fr' := [(0, .agg [aI, aI, aS, aL, aL]), (1, .box 0 0), (2, aI)]) rfl ?_
  refine e_kw ?_
  refine w_seqw ?_
  refine w_region ?_
  refine o_p rfl (p_assign (v := aI) rfl) ?_
  refine o_end (fr' := [(0, .agg [aI, aI, aS, aL, aL]), (1, .box 0 0), (2, aI), (3, aI)]) rfl ?_
  refine e_kw ?_
  refine w_seqw ?_
  refine w_seqw ?_
  refine w_region ?_
  refine o_p rfl (p_fa tf40x3 rfl) ?_
  refine o_p rfl (p_load (v := aL) tv37 rfl rfl rfl) ?_
  refine o_p rfl (p_len ti37 (isl_c rfl)) ?_
  refine o_p rfl (p_move (v := aI) rfl) ?_
  refine o_end (fr' := [(0, .agg [aI, aI, aS, aL, aL]), (1, .box 0 0), (2, aI), (3, aI), (7, aL), (8, aI), (9, aI)]) rfl ?_
  refine e_kw ?_
  obtain ⟨x1, hx1, h2⟩ := bind_s h
  refine w_jtail cl_kw (fun j3 => x1 = j3) (fun (j3 : Int) => ([(3, .c (.int .i64 j3))] : Fr)) (fun (j3 : Int) => ([[.c (.int .i64 p0v.Kind), .c (.int .i64 p0v.Int), .c (.str p0v.Text), .c (PV.ls 5 rowApiValue p0v.Items), .c (PV.ls 1 rowS p0v.Keys)]] : St)) ?_ ?_
  ·
   refine w_block ?_
   refine w_loopo _ (fun (s4 : (Int × Int)) => ([(3, .c (.int .i64 s4.1)), (7, .c (PV.ls 5 rowApiValue p0v.Items)), (8, .c (.int .i64 ((p0v.Items).length : Int))), (9, .c (.int .i64 s4.2))] : Fr)) (fun (s4 : (Int × Int)) => ([[.c (.int .i64 p0v.Kind), .c (.int .i64 p0v.Int), .c (.str p0v.Text), .c (PV.ls 5 rowApiValue p0v.Items), .c (PV.ls 1 rowS p0v.Keys)]] : St)) hx1 (w_weak [] 1 rfl rfl rfl rfl ⟨(AV.le_refl _), (AV.le_refl _), (AV.le_refl _), (AV.le_refl _), trivial⟩ (st_r rfl st_nil)) ?_
   intro s4 st4 hs4 ho4
   unfold value_Size_l1 at hs4
   refine w_seqw ?_
   refine w_region ?_
   refine o_p rfl (p_lss rfl rfl) ?_
   refine o_end (fr' := [(3, aI), (7, aL), (8, aI), (9, aI), (10, aB)]) rfl ?_
   refine e_kw ?_
   refine w_seqw ?_
   refine w_cond _ rfl (fun hb5 => ?_) (fun hb5 => ?_)
   ·
    have h5 := cond_t (b := (decide (s4.2 < ((p0v.Items).length : Int)))) hb5 hs4
    refine w_skip ?_
    refine e_kw ?_
    refine w_seqw ?_
    refine w_block ?_
    refine w_seqw ?_
    refine w_region ?_
    obtain ⟨x6, hx6, h7⟩ := bind_s h5
    refine o_p rfl (p_ia (cs := [.int _ _, .int _ _, .str _, PV.ls _ _ _, PV.ls _ _ _]) ts37 (isl_c rfl) rfl hx6 (rowApiValue_eq _)) ?_
    refine o_p rfl (p_loades (us := [.int _ _, .int _ _, .str _, PV.ls _ _ _, PV.ls _ _ _]) tv40 rfl rfl rfl) ?_
    refine o_alloc (n := 1) (cs := [aI, aI, aS, .nil, .nil]) (σ' := [[aI, aI, aS, aL, aL], [aI, aI, aS, .nil, .nil]]) tz40 rfl rfl rfl ?_
    refine o_store (v := .agg [aI, aI, aS, aL, aL]) (us := [aI, aI, aS, aL, aL]) (cs := [aI, aI, aS, .nil, .nil]) (σ' := [[aI, aI, aS, aL, aL], [aI, aI, aS, aL, aL]]) rfl tv40 rfl rfl rfl rfl rfl rfl rfl rfl ?_
    refine o_end (fr' := [(3, aI), (5, .box 1 0), (7, aL), (8, aI), (9, aI), (10, aB)]) rfl ?_
    refine e_kw ?_
    refine w_region ?_
    refine o_p rfl (p_move (v := aI) rfl) ?_
    refine o_p rfl (p_loads (us := [aI, aI, aS, aL, aL]) tv40 rfl rfl rfl rfl) ?_
    obtain ⟨x8, hx8, h9⟩ := bind_s h7
    refine o_v (ov_call (v := aI) rfl (ih_value_Size hx8) ⟨(le_aggc rfl ⟨rfl, rfl, rfl, rfl, rfl, trivial⟩), trivial⟩ rfl rfl rfl) ?_
    refine o_p rfl (p_add rfl rfl) ?_
    refine o_p rfl (p_assign (v := aI) rfl) ?_
    refine o_end (fr' := [(3, aI), (5, .box 1 0), (7, aL), (8, aI), (9, aI), (10, aB)]) rfl ?_
    refine e_blk_n ?_
    refine e_kw ?_
    refine w_region ?_
    refine o_p rfl (p_add rfl rfl) ?_
    refine o_p rfl (p_move (v := aI) rfl) ?_
    refine o_end (fr' := [(3, aI), (5, .box 1 0), (7, aL), (8, aI), (9, aI), (10, aB)]) rfl ?_
    exact e_l _ (Option.some.inj h9).symm (w_weak [] 1 rfl rfl rfl rfl ⟨(AV.le_refl _), (AV.le_refl _), (AV.le_refl _), (AV.le_refl _), trivial⟩ (st_r rfl st_nil))
   ·
    have h5 := cond_f (b := (decide (s4.2 < ((p0v.Items).length : Int)))) hb5 hs4
    refine w_exit ?_
    refine e_seq_x ?_
    refine e_seq_x ?_
    refine e_blk_h ?_
    have h10 := un_out h5 ho4
    exact e_j _ (Option.some.inj h10).symm (w_weak [] 1 rfl rfl rfl rfl ⟨(AV.le_refl _), trivial⟩ (st_r rfl st_nil))
  ·
   intro j3 hj11
   subst hj11
   refine e_kw ?_
   refine w_seqw ?_
   refine w_region ?_
   refine o_p rfl (p_move (v := aI) rfl) ?_
   refine o_p rfl (p_assign (v := aI) rfl) ?_
   refine o_end (fr' := [(2, aI), (3, aI)]) rfl ?_
   refine e_kw ?_
   refine w_ret ?_
   have he12 := Option.some.inj h2
   subst he12
   refine e_ret (rs' := [.tmp 2]) rfl ?_
   refine r_tmp (v := aI) rfl ?_
   refine r_nil ?_
   exact fin_gen [] rfl rfl rfl (AV.le_refl _) st_nil
noncomputable def value_Size (p0v : ApiValue) : Option Int := lim fun n => value_SizeF n p0v
theorem w_value_Size {p0v : ApiValue} {res : Int} (h : value_Size p0v = some res) : ACalls Try.prog 105 [.agg (AV.cs (exApiValue p0v))] [] (.c (.int .i64 res)) [] := by
 obtain ⟨n, hn⟩ := lim_some h
 exact (wF_value_Size n) hn
noncomputable def value_short_1 (p0k : (List UInt8)) : Option Bool :=
 some (decide ((4096 : Int) < ((p0k).length : Int)))
theorem w_value_short_1 {p0k : (List UInt8)} {res : Bool} (h : value_short_1 p0k = some res) : ACalls Try.prog 112 [.c (.str p0k)] [] (.c (.bool res)) [] := by
 unfold value_short_1 at h
 refine acalls (fn := Try.f112) [0, 2] (by kernel_rfl) Try.func112 rfl (by kernel_rfl) (by kernel_rfl) ?_
 refine w_seqw ?_
 refine w_region ?_
 refine o_p rfl (p_assign (v := aB) rfl) ?_
 refine o_end (fr' := [(0, aS), (2, aB)]) rfl ?_
 refine e_kw ?_
 refine w_seqw ?_
 refine w_region ?_
 refine o_p rfl (p_move (v := aS) rfl) ?_
 refine o_p rfl (p_lens ti9 rfl) ?_
 refine o_p rfl (p_gtr rfl rfl) ?_
 refine o_p rfl (p_assign (v := aB) rfl) ?_
 refine o_end (fr' := [(0, aS), (2, aB)]) rfl ?_
 refine e_kw ?_
 refine w_ret ?_
 have he1 := Option.some.inj h
 subst he1
 refine e_ret (rs' := [.tmp 2]) rfl ?_
 refine r_tmp (v := aB) rfl ?_
 refine r_nil ?_
 exact fin_gen [] rfl rfl rfl (AV.le_refl _) st_nil
noncomputable def slices_IndexFunc_string_string_l1 (p0s : (List (List UInt8))) (s4 : Int) : Option (Step Int (Fl Int Unit)) :=
 cond (decide (s4 < ((p0s).length : Int))) ((idx p0s s4).bind fun (x6 : (List UInt8)) => (value_short_1 x6).bind fun (x8 : Bool) => cond x8 (some (Step.out (Fl.done s4))) (some (Step.next (IntKind.wrap .i64 (s4 + (1 : Int)))))) (some (Step.out (Fl.go ())))
noncomputable def slices_IndexFunc_string_string (p0s : (List (List UInt8))) : Option Int :=
 ((loopO (slices_IndexFunc_string_string_l1 p0s) ((0 : Int))) : Option (Fl Int Unit)).bind fun (x1 : (Fl Int Unit)) => Fl.next x1 (fun (j3 : Unit) => (some (-1 : Int)))
theorem w_slices_IndexFunc_string_string {p0s : (List (List UInt8))} {res : Int} (h : slices_IndexFunc_string_string p0s = some res) : ACalls Try.prog 110 [.c (PV.ls 1 rowS p0s), .fn 112 []] [] (.c (.int .i64 res)) [] := by
 unfold slices_IndexFunc_string_string at h
 refine acalls (fn := Try.f110) [0, 1, 4, 5, 7, 8, 9, 16] (by kernel_rfl) Try.func110 rfl (by kernel_rfl) (by kernel_rfl) ?_
 refine w_seqw ?_
 refine w_region ?_
 refine o_p rfl (p_assign (v := aI) rfl) ?_
 refine o_end (fr' := [(0, aL), (1, .fn _ []), (4, aI)]) rfl ?_
 refine e_kw ?_
 refine w_seqw ?_
 refine w_seqw ?_
 refine w_region ?_
 refine o_p rfl (p_move (v := aL) rfl) ?_
 refine o_p rfl (p_len ti38 (isl_c rfl)) ?_
 refine o_p rfl (p_move (v := aI) rfl) ?_
 refine o_end (fr' := [(0, aL), (1, .fn _ []), (4, aI), (7, aI), (8, aI)]) rfl ?_
 refine e_kw ?_
 obtain ⟨x1, hx1, h2⟩ := bind_s h
 refine w_jtail cl_kw (fun j3 => x1 = Fl.go j3) (fun (j3 : Unit) => ([] : Fr)) (fun (j3 : Unit) => ([] : St)) ?_ ?_
 ·
  refine w_block ?_
  refine w_loopo _ (fun (s4 : Int) => ([(0, .c (PV.ls 1 rowS p0s)), (1, .fn 112 []), (7, .c (.int .i64 ((p0s).length : Int))), (8, .c (.int .i64 s4))] : Fr)) (fun (s4 : Int) => ([] : St)) hx1 (w_weak [] 0 rfl rfl rfl rfl ⟨(AV.le_refl _), (AV.le_refl _), (AV.le_refl _), (AV.le_refl _), trivial⟩ st_nil) ?_
  intro s4 st4 hs4 ho4
  unfold slices_IndexFunc_string_string_l1 at hs4
  refine w_seqw ?_
  refine w_region ?_
  refine o_p rfl (p_lss rfl rfl) ?_
  refine o_end (fr' := [(0, aL), (1, .fn _ []), (7, aI), (8, aI), (9, aB)]) rfl ?_
  refine e_kw ?_
  refine w_seqw ?_
  refine w_cond _ rfl (fun hb5 => ?_) (fun hb5 => ?_)
  ·
   have h5 := cond_t (b := (decide (s4 < ((p0s).length : Int)))) hb5 hs4
   refine w_skip ?_
   refine e_kw ?_
   refine w_seqw ?_
   refine w_block ?_
   refine w_seqw ?_
   refine w_region ?_
   refine o_p rfl (p_move (v := aI) rfl) ?_
   refine o_p rfl (p_assign (v := aI) rfl) ?_
   refine o_end (fr' := [(0, aL), (1, .fn _ []), (5, aI), (7, aI), (8, aI), (9, aB)]) rfl ?_
   refine e_kw ?_
   refine w_seqw ?_
   refine w_region ?_
   refine o_p rfl (p_move (v := .fn _ []) rfl) ?_
   refine o_p rfl (p_move (v := aL) rfl) ?_
   refine o_p rfl (p_move (v := aI) rfl) ?_
   obtain ⟨x6, hx6, h7⟩ := bind_s h5
   refine o_p rfl (p_ia (cs := [.str _]) ts38 (isl_c rfl) rfl hx6 rfl) ?_
   refine o_p rfl (p_loade (p := .str _) tv9 rfl rfl) ?_
   obtain ⟨x8, hx8, h9⟩ := bind_s h7
   refine o_v (ov_call (v := aB) rfl (w_value_short_1 hx8) ⟨(AV.le_refl _), trivial⟩ rfl rfl rfl) ?_
   refine o_end (fr' := [(0, aL), (1, .fn _ []), (5, aI), (7, aI), (8, aI), (9, aB), (16, aB)]) rfl ?_
   refine e_kw ?_
   refine w_cond _ rfl (fun hb10 => ?_) (fun hb10 => ?_)
   ·
    have h10 := cond_t (b := x8) hb10 h9
    refine w_seqw ?_
    refine w_region ?_
    refine o_p rfl (p_move (v := aI) rfl) ?_
    refine o_p rfl (p_assign (v := aI) rfl) ?_
    refine o_end (fr' := [(0, aL), (1, .fn _ []), (4, aI), (5, aI), (7, aI), (8, aI), (9, aB), (16, aB)]) rfl ?_
    refine e_kw ?_
    refine w_ret ?_
    refine e_blk_r ?_
    refine e_seq_r ?_
    refine e_seq_r ?_
    refine e_blk_r ?_
    refine e_seq_r ?_
    refine e_seq_r ?_
    have h11 := un_out h10 ho4
    have h12 := un_done h11 h2
    have he13 := Option.some.inj h12
    subst he13
    refine e_ret (rs' := [.tmp 4]) rfl ?_
    refine r_tmp (v := aI) rfl ?_
    refine r_nil ?_
    exact fin_gen [] rfl rfl rfl (AV.le_refl _) st_nil
   ·
    have h10 := cond_f (b := x8) hb10 h9
    refine w_skip ?_
    refine e_blk_n ?_
    refine e_kw ?_
    refine w_region ?_
    refine o_p rfl (p_add rfl rfl) ?_
    refine o_p rfl (p_move (v := aI) rfl) ?_
    refine o_end (fr' := [(0, aL), (1, .fn _ []), (5, aI), (7, aI), (8, aI), (9, aB), (16, aB)]) rfl ?_
    exact e_l _ (Option.some.inj h10).symm (w_weak [] 0 rfl rfl rfl rfl ⟨(AV.le_refl _), (AV.le_refl _), (AV.le_refl _), (AV.le_refl _), trivial⟩ st_nil)
  ·
   have h5 := cond_f (b := (decide (s4 < ((p0s).length : Int)))) hb5 hs4
   refine w_exit ?_
   refine e_seq_x ?_
   refine e_seq_x ?_
   refine e_blk_h ?_
   have h14 := un_out h5 ho4
   exact e_j _ (Option.some.inj h14).symm (w_weak [] 0 rfl rfl rfl rfl trivial st_nil)
 ·
  intro j3 hj15
  have h15 := un_go hj15 h2
  refine e_kw ?_
  refine w_seqw ?_
  refine w_region ?_
  refine o_p rfl (p_assign (v := aI) rfl) ?_
  refine o_end (fr' := [(4, aI)]) rfl ?_
  refine e_kw ?_
  refine w_ret ?_
  have he16 := Option.some.inj h15
  subst he16
  refine e_ret (rs' := [.tmp 4]) rfl ?_
  refine r_tmp (v := aI) rfl ?_
  refine r_nil ?_
  exact fin_gen [] rfl rfl rfl (AV.le_refl _) st_nil
noncomputable def slices_ContainsFunc_string_string (p0s : (List (List UInt8))) : Option Bool :=
 (slices_IndexFunc_string_string p0s).bind fun (x1 : Int) => some (decide ((0 : Int) ≤ x1))
theorem w_slices_ContainsFunc_string_string {p0s : (List (List UInt8))} {res : Bool} (h : slices_ContainsFunc_string_string p0s = some res) : ACalls Try.prog 93 [.c (PV.ls 1 rowS p0s), .fn 112 []] [] (.c (.bool res)) [] := by
 unfold slices_ContainsFunc_string_string at h
 refine acalls (fn := Try.f93) [0, 1, 4] (by kernel_rfl) Try.func93 rfl (by kernel_rfl) (by kernel_rfl) ?_
 refine w_seqw ?_
 refine w_region ?_
 refine o_p rfl (p_assign (v := aB) rfl) ?_
 refine o_end (fr' := [(0, aL), (1, .fn _ []), (4, aB)]) rfl ?_
 refine e_kw ?_
 refine w_seqw ?_
 refine w_region ?_
 refine o_p rfl (p_move (v := aL) rfl) ?_
 refine o_p rfl (p_move (v := .fn _ []) rfl) ?_
 obtain ⟨x1, hx1, h2⟩ := bind_s h
 refine o_v (ov_call (v := aI) rfl (w_slices_IndexFunc_string_string hx1) ⟨(AV.le_refl _), (AV.le_refl _), trivial⟩ rfl rfl rfl) ?_
 refine o_p rfl (p_geq rfl rfl) ?_
 refine o_p rfl (p_assign (v := aB) rfl) ?_
 refine o_end (fr' := [(0, aL), (1, .fn _ []), (4, aB)]) rfl ?_
 refine e_kw ?_
 refine w_ret ?_
 have he3 := Option.some.inj h2
 subst he3
 refine e_ret (rs' := [.tmp 4]) rfl ?_
 refine r_tmp (v := aB) rfl ?_
 refine r_nil ?_
 exact fin_gen [] rfl rfl rfl (AV.le_refl _) st_nil
noncomputable def slices_IndexFunc_api_Value_api_Value_l1 (rec_value_short_2 : ApiValue → Option Bool) (p0s : (List ApiValue)) (s4 : Int) : Option (Step Int (Fl Int Unit)) :=
 cond (decide (s4 < ((p0s).length : Int))) ((idx p0s s4).bind fun (x6 : ApiValue) => (rec_value_short_2 x6).bind fun (x8 : Bool) => cond x8 (some (Step.out (Fl.done s4))) (some (Step.next (IntKind.wrap .i64 (s4 + (1 : Int)))))) (some (Step.out (Fl.go ())))
mutual
noncomputable def slices_ContainsFunc_api_Value_api_ValueF : Nat → (List ApiValue) → Option Bool
 | 0, _ => none
 | n + 1, p0s =>
  ((slices_IndexFunc_api_Value_api_ValueF n) p0s).bind fun (x1 : Int) => some (decide ((0 : Int) ≤ x1))
noncomputable def slices_IndexFunc_api_Value_api_ValueF : Nat → (List ApiValue) → Option Int
 | 0, _ => none
 | n + 1, p0s =>
  ((loopO (slices_IndexFunc_api_Value_api_Value_l1 (value_short_2F n) p0s) ((0 : Int))) : Option (Fl Int Unit)).bind fun (x1 : (Fl Int Unit)) => Fl.next x1 (fun (j3 : Unit) => (some (-1 : Int)))
noncomputable def value_shortF : Nat → ApiValue → Option Bool
 | 0, _ => none
 | n + 1, p0v =>
  (gd ((decide ((4096 : Int) < ((p0v.Text).length : Int))) == false) (slices_ContainsFunc_string_string p0v.Keys)).bind fun (x1 : Bool) => cond (cond (decide ((4096 : Int) < ((p0v.Text).length : Int))) true x1) (some false) (((slices_ContainsFunc_api_Value_api_ValueF n) p0v.Items).bind fun (x5 : Bool) => some (!x5))
noncomputable def value_short_2F : Nat → ApiValue → Option Bool
 | 0, _ => none
 | n + 1, p0x =>
  ((value_shortF n) p0x).bind fun (x1 : Bool) => some (!x1)
end
theorem wF_slices_ContainsFunc_api_Value_api_Value : ∀ n : Nat, (∀ {p0s : (List ApiValue)} {res : Bool}, slices_ContainsFunc_api_Value_api_ValueF n p0s = some res → ACalls Try.prog 108 [.c (PV.ls 5 rowApiValue p0s), .fn 113 []] [] (.c (.bool res)) []) ∧ (∀ {p0s : (List ApiValue)} {res : Int}, slices_IndexFunc_api_Value_api_ValueF n p0s = some res → ACalls Try.prog 114 [.c (PV.ls 5 rowApiValue p0s), .fn 113 []] [] (.c (.int .i64 res)) []) ∧ (∀ {p0v : ApiValue} {res : Bool}, value_shortF n p0v = some res → ACalls Try.prog 106 [.agg (AV.cs (exApiValue p0v))] [] (.c (.bool res)) []) ∧ (∀ {p0x : ApiValue} {res : Bool}, value_short_2F n p0x = some res → ACalls Try.prog 113 [.agg (AV.cs (exApiValue p0x))] [] (.c (.bool res)) []) := by
 intro n
 induction n with
 | zero => exact ⟨fun {p0s res} h => absurd h (by simp [slices_ContainsFunc_api_Value_api_ValueF]), fun {p0s res} h => absurd h (by simp [slices_IndexFunc_api_Value_api_ValueF]), fun {p0v res} h => absurd h (by simp [value_shortF]), fun {p0x res} h => absurd h (by simp [value_short_2F])⟩
 | succ n ih =>
  obtain ⟨ih_slices_ContainsFunc_api_Value_api_Value, ih_slices_IndexFunc_api_Value_api_Value, ih_value_short, ih_value_short_2⟩ := ih
  refine ⟨?_, ?_, ?_, ?_⟩
  ·
   intro p0s res h
   rw [slices_ContainsFunc_api_Value_api_ValueF] at h
   refine acalls (fn := Try.f108) [0, 1, 4] (by kernel_rfl) Try.func108 rfl (by kernel_rfl) (by kernel_rfl) ?_
   refine w_seqw ?_
   refine w_region ?_
   refine o_p rfl (p_assign (v := aB) rfl) ?_
   refine o_end (fr' := [(0, aL), (1, .fn _ []), (4, aB)]) rfl ?_
   refine e_kw ?_
   refine w_seqw ?_
   refine w_region ?_
   refine o_p rfl (p_move (v := aL) rfl) ?_
   refine o_p rfl (p_move (v := .fn _ []) rfl) ?_
   obtain ⟨x1, hx1, h2⟩ := bind_s h
   refine o_v (ov_call (v := aI) rfl (ih_slices_IndexFunc_api_Value_api_Value hx1) ⟨(AV.le_refl _), (AV.le_refl _), trivial⟩ rfl rfl rfl) ?_
   refine o_p rfl (p_geq rfl rfl) ?_
   refine o_p rfl (p_assign (v := aB) rfl) ?_
   refine o_end (fr' := [(0, aL), (1, .fn _ []), (4, aB)]) rfl ?_
   refine e_kw ?_
   refine w_ret ?_
   have he3 := Option.some.inj h2
   subst he3
   refine e_ret (rs' := [.tmp 4]) rfl ?_
   refine r_tmp (v := aB) rfl ?_
   refine r_nil ?_
   exact fin_gen [] rfl rfl rfl (AV.le_refl _) st_nil
  ·
   intro p0s res h
   rw [slices_IndexFunc_api_Value_api_ValueF] at h
   refine acalls (fn := Try.f114) [0, 1, 4, 5, 7, 8, 9, 16] (by kernel_rfl) Try.func114 rfl (by kernel_rfl) (by kernel_rfl) ?_
   refine w_seqw ?_
   refine w_region ?_
   refine o_p rfl (p_assign (v := aI) rfl) ?_
   refine o_end (fr' := [(0, aL), (1, .fn _ []), (4, aI)]) rfl ?_
   refine e_kw ?_
   refine w_seqw ?_
   refine w_seqw ?_
   refine w_region ?_
   refine o_p rfl (p_move (v := aL) rfl) ?_
   refine o_p rfl (p_len ti37 (isl_c rfl)) ?_
   refine o_p rfl (p_move (v := aI) rfl) ?_
   refine o_end (fr' := [(0, aL), (1, .fn _ []), (4, aI), (7, aI), (8, aI)]) rfl ?_
   refine e_kw ?_
   obtain ⟨x1, hx1, h2⟩ := bind_s h
   refine w_jtail cl_kw (fun j3 => x1 = Fl.go j3) (fun (j3 : Unit) => ([] : Fr)) (fun (j3 : Unit) => ([] : St)) ?_ ?_
   ·
    refine w_block ?_
    refine w_loopo _ (fun (s4 : Int) => ([(0, .c (PV.ls 5 rowApiValue p0s)), (1, .fn 113 []), (7, .c (.int .i64 ((p0s).length : Int))), (8, .c (.int .i64 s4))] : Fr)) (fun (s4 : Int) => ([] : St)) hx1 (w_weak [] 0 rfl rfl rfl rfl ⟨(AV.le_refl _), (AV.le_refl _), (AV.le_refl _), (AV.le_refl _), trivial⟩ st_nil) ?_
    intro s4 st4 hs4 ho4
    unfold slices_IndexFunc_api_Value_api_Value_l1 at hs4
    refine w_seqw ?_
    refine w_region ?_
    refine o_p rfl (p_lss rfl rfl) ?_
    refine o_end (fr' := [(0, aL), (1, .fn _ []), (7, aI), (8, aI), (9, aB)]) rfl ?_
    refine e_kw ?_
    refine w_seqw ?_
    refine w_cond _ rfl (fun hb5 => ?_) (fun hb5 => ?_)
    ·
     have h5 := cond_t (b := (decide (s4 < ((p0s).length : Int)))) hb5 hs4
     refine w_skip ?_
     refine e_kw ?_
     refine w_seqw ?_
     refine w_block ?_
     refine w_seqw ?_
     refine w_region ?_
     refine o_p rfl (p_move (v := aI) rfl) ?_
     refine o_p rfl (p_assign (v := aI) rfl) ?_
     refine o_end (fr' := [(0, aL), (1, .fn _ []), (5, aI), (7, aI), (8, aI), (9, aB)]) rfl ?_
     refine e_kw ?_
     refine w_seqw ?_
     refine w_region ?_
     refine o_p rfl (p_move (v := .fn _ []) rfl) ?_
     refine o_p rfl (p_move (v := aL) rfl) ?_
     refine o_p rfl (p_move (v := aI) rfl) ?_
     obtain ⟨x6, hx6, h7⟩ := bind_s h5
     refine o_p rfl (p_ia (cs := [.int _ _, .int _ _, .str _, PV.ls _ _ _, PV.ls _ _ _]) ts37 (isl_c rfl) rfl hx6 (rowApiValue_eq _)) ?_
     refine o_p rfl (p_loades (us := [.int _ _, .int _ _, .str _, PV.ls _ _ _, PV.ls _ _ _]) tv40 rfl rfl rfl) ?_
     obtain ⟨x8, hx8, h9⟩ := bind_s h7
     refine o_v (ov_call (v := aB) rfl (ih_value_short_2 hx8) ⟨(le_aggc rfl ⟨rfl, rfl, rfl, rfl, rfl, trivial⟩), trivial⟩ rfl rfl rfl) ?_
     refine o_end (fr' := [(0, aL), (1, .fn _ []), (5, aI), (7, aI), (8, aI), (9, aB), (16, aB)]) rfl ?_
     refine e_kw ?_
     refine w_cond _ rfl (fun hb10 => ?_) (fun hb10 => ?_)
     ·
      have h10 := cond_t (b := x8) hb10 h9
      refine w_seqw ?_
      refine w_region ?_
      refine o_p rfl (p_move (v := aI) rfl) ?_
      refine o_p rfl (p_assign (v := aI) rfl) ?_
      refine o_end (fr' := [(0, aL), (1, .fn _ []), (4, aI), (5, aI), (7, aI), (8, aI), (9, aB), (16, aB)]) rfl ?_
      refine e_kw ?_
      refine w_ret ?_
      refine e_blk_r ?_
      refine e_seq_r ?_
      refine e_seq_r ?_
      refine e_blk_r ?_
      refine e_seq_r ?_
      refine e_seq_r ?_
      have h11 := un_out h10 ho4
      have h12 := un_done h11 h2
      have he13 := Option.some.inj h12
      subst he13
      refine e_ret (rs' := [.tmp 4]) rfl ?_
      refine r_tmp (v := aI) rfl ?_
      refine r_nil ?_
      exact fin_gen [] rfl rfl rfl (AV.le_refl _) st_nil
     ·
      have h10 := cond_f (b := x8) hb10 h9
      refine w_skip ?_
      refine e_blk_n ?_
      refine e_kw ?_
      refine w_region ?_
      refine o_p rfl (p_add rfl rfl) ?_
      refine o_p rfl (p_move (v := aI) rfl) ?_
      refine o_end (fr' := [(0, aL), (1, .fn _ []), (5, aI), (7, aI), (8, aI), (9, aB), (16, aB)]) rfl ?_
      exact e_l _ (Option.some.inj h10).symm (w_weak [] 0 rfl rfl rfl rfl ⟨(AV.le_refl _), (AV.le_refl _), (AV.le_refl _), (AV.le_refl _), trivial⟩ st_nil)
    ·
     have h5 := cond_f (b := (decide (s4 < ((p0s).length : Int)))) hb5 hs4
     refine w_exit ?_
     refine e_seq_x ?_
     refine e_seq_x ?_
     refine e_blk_h ?_
     have h14 := un_out h5 ho4
     exact e_j _ (Option.some.inj h14).symm (w_weak [] 0 rfl rfl rfl rfl trivial st_nil)
   ·
    intro j3 hj15
    have h15 := un_go hj15 h2
    refine e_kw ?_
    refine w_seqw ?_
    refine w_region ?_
    refine o_p rfl (p_assign (v := aI) rfl) ?_
    refine o_end (fr' := [(4, aI)]) rfl ?_
    refine e_kw ?_
    refine w_ret ?_
    have he16 := Option.some.inj h15
    subst he16
    refine e_ret (rs' := [.tmp 4]) rfl ?_
    refine r_tmp (v := aI) rfl ?_
    refine r_nil ?_
    exact fin_gen [] rfl rfl rfl (AV.le_refl _) st_nil
  ·
   intro p0v res h
   rw [value_shortF] at h
   refine acalls (fn := Try.f106) [0, 1, 2, 11] (by kernel_rfl) Try.func106 rfl (by kernel_rfl) (by kernel_rfl) ?_
   refine w_seqw ?_
   refine w_region ?_
   refine o_box (v := .agg [aI, aI, aS, aL, aL]) (n := 0) (cs := [aI, aI, aS, aL, aL]) (σ' := [[aI, aI, aS, aL, aL]]) rfl rfl rfl rfl rfl ?_
   refine o_p rfl (p_assign (v := aB) rfl) ?_
   refine o_end (fr' := [(0, .agg [aI, aI, aS, aL, aL]), (1, .box 0 0), (2, aB)]) rfl ?_
   refine e_kw ?_
   refine w_seqw ?_
   refine w_seqw ?_
   refine w_region ?_
   refine o_p rfl (p_fa tf40x2 rfl) ?_
   refine o_p rfl (p_load (v := aS) tv9 rfl rfl rfl) ?_
   refine o_p rfl (p_lens ti9 rfl) ?_
   refine o_p rfl (p_gtr rfl rfl) ?_
   refine o_p rfl (p_move (v := aB) rfl) ?_
   refine o_g rfl rfl (fun hc => ov_p rfl (p_fa tf40x4 rfl)) ?_
   refine o_g rfl rfl (fun hc => ov_p rfl (p_load (v := aL) tv38 (gx rfl hc) rfl rfl)) ?_
   obtain ⟨x1, hx1, h2⟩ := bind_s h
   refine o_g rfl rfl (fun hc => ov_call (v := aB) rfl (w_slices_ContainsFunc_string_string (gd_some hx1 hc)) ⟨(le_gv (gx rfl hc) (AV.le_refl _)), (AV.le_refl _), trivial⟩ (ok_eq (by repeat (first | exact ok_nil | refine ok_cons rfl ?_ | refine ok_cons (dgv rfl) ?_))) rfl rfl) ?_
   refine o_p rfl (p_pickz rfl rfl rfl (fun e => keq e)) ?_
   refine o_end (fr' := [(0, .agg [aI, aI, aS, aL, aL]), (1, .box 0 0), (2, aB), (11, aB)]) rfl ?_
   refine e_kw ?_
   refine w_cond _ rfl (fun hb3 => ?_) (fun hb3 => ?_)
   ·
    have h3 := cond_t (b := (cond (decide ((4096 : Int) < ((p0v.Text).length : Int))) true x1)) hb3 h2
    refine w_seqw ?_
    refine w_region ?_
    refine o_p rfl (p_assign (v := aB) rfl) ?_
    refine o_end (fr' := [(0, .agg [aI, aI, aS, aL, aL]), (1, .box 0 0), (2, aB), (11, aB)]) rfl ?_
    refine e_kw ?_
    refine w_ret ?_
    refine e_seq_r ?_
    have he4 := Option.some.inj h3
    subst he4
    refine e_ret (rs' := [.tmp 2]) rfl ?_
    refine r_tmp (v := aB) rfl ?_
    refine r_nil ?_
    exact fin_gen [] rfl rfl rfl (AV.le_refl _) st_nil
   ·
    have h3 := cond_f (b := (cond (decide ((4096 : Int) < ((p0v.Text).length : Int))) true x1)) hb3 h2
    refine w_skip ?_
    refine e_kw ?_
    refine w_seqw ?_
    refine w_region ?_
    refine o_p rfl (p_fa tf40x3 rfl) ?_
    refine o_p rfl (p_load (v := aL) tv37 rfl rfl rfl) ?_
    obtain ⟨x5, hx5, h6⟩ := bind_s h3
    refine o_v (ov_call (v := aB) rfl (ih_slices_ContainsFunc_api_Value_api_Value hx5) ⟨(AV.le_refl _), (AV.le_refl _), trivial⟩ (ok_eq (by repeat (first | exact ok_nil | refine ok_cons rfl ?_ | refine ok_cons (dgv rfl) ?_))) rfl rfl) ?_
    refine o_p rfl (p_not rfl) ?_
    refine o_p rfl (p_assign (v := aB) rfl) ?_
    refine o_end (fr' := [(0, .agg [aI, aI, aS, aL, aL]), (1, .box 0 0), (2, aB), (11, aB)]) rfl ?_
    refine e_kw ?_
    refine w_ret ?_
    have he7 := Option.some.inj h6
    subst he7
    refine e_ret (rs' := [.tmp 2]) rfl ?_
    refine r_tmp (v := aB) rfl ?_
    refine r_nil ?_
    exact fin_gen [] rfl rfl rfl (AV.le_refl _) st_nil
  ·
   intro p0x res h
   rw [value_short_2F] at h
   refine acalls (fn := Try.f113) [0, 1, 2] (by kernel_rfl) Try.func113 rfl (by kernel_rfl) (by kernel_rfl) ?_
   refine w_seqw ?_
   refine w_region ?_
   refine o_box (v := .agg [aI, aI, aS, aL, aL]) (n := 0) (cs := [aI, aI, aS, aL, aL]) (σ' := [[aI, aI, aS, aL, aL]]) rfl rfl rfl rfl rfl ?_
   refine o_p rfl (p_assign (v := aB) rfl) ?_
   refine o_end (fr' := [(0, .agg [aI, aI, aS, aL, aL]), (1, .box 0 0), (2, aB)]) rfl ?_
   refine e_kw ?_
   refine w_seqw ?_
   refine w_region ?_
   refine o_p rfl (p_loads (us := [aI, aI, aS, aL, aL]) tv40 rfl rfl rfl rfl) ?_
   obtain ⟨x1, hx1, h2⟩ := bind_s h
   refine o_v (ov_call (v := aB) rfl (ih_value_short hx1) ⟨(le_aggc rfl ⟨rfl, rfl, rfl, rfl, rfl, trivial⟩), trivial⟩ rfl rfl rfl) ?_
   refine o_p rfl (p_not rfl) ?_
   refine o_p rfl (p_assign (v := aB) rfl) ?_
   refine o_end (fr' := [(0, .agg [aI, aI, aS, aL, aL]), (1, .box 0 0), (2, aB)]) rfl ?_
   refine e_kw ?_
   refine w_ret ?_
   have he3 := Option.some.inj h2
   subst he3
   refine e_ret (rs' := [.tmp 2]) rfl ?_
   refine r_tmp (v := aB) rfl ?_
   refine r_nil ?_
   exact fin_gen [] rfl rfl rfl (AV.le_refl _) st_nil
noncomputable def slices_ContainsFunc_api_Value_api_Value (p0s : (List ApiValue)) : Option Bool := lim fun n => slices_ContainsFunc_api_Value_api_ValueF n p0s
theorem w_slices_ContainsFunc_api_Value_api_Value {p0s : (List ApiValue)} {res : Bool} (h : slices_ContainsFunc_api_Value_api_Value p0s = some res) : ACalls Try.prog 108 [.c (PV.ls 5 rowApiValue p0s), .fn 113 []] [] (.c (.bool res)) [] := by
 obtain ⟨n, hn⟩ := lim_some h
 exact (wF_slices_ContainsFunc_api_Value_api_Value n).1 hn
noncomputable def slices_IndexFunc_api_Value_api_Value (p0s : (List ApiValue)) : Option Int := lim fun n => slices_IndexFunc_api_Value_api_ValueF n p0s
theorem w_slices_IndexFunc_api_Value_api_Value {p0s : (List ApiValue)} {res : Int} (h : slices_IndexFunc_api_Value_api_Value p0s = some res) : ACalls Try.prog 114 [.c (PV.ls 5 rowApiValue p0s), .fn 113 []] [] (.c (.int .i64 res)) [] := by
 obtain ⟨n, hn⟩ := lim_some h
 exact (wF_slices_ContainsFunc_api_Value_api_Value n).2.1 hn
noncomputable def value_short (p0v : ApiValue) : Option Bool := lim fun n => value_shortF n p0v
theorem w_value_short {p0v : ApiValue} {res : Bool} (h : value_short p0v = some res) : ACalls Try.prog 106 [.agg (AV.cs (exApiValue p0v))] [] (.c (.bool res)) [] := by
 obtain ⟨n, hn⟩ := lim_some h
 exact (wF_slices_ContainsFunc_api_Value_api_Value n).2.2.1 hn
noncomputable def value_short_2 (p0x : ApiValue) : Option Bool := lim fun n => value_short_2F n p0x
theorem w_value_short_2 {p0x : ApiValue} {res : Bool} (h : value_short_2 p0x = some res) : ACalls Try.prog 113 [.agg (AV.cs (exApiValue p0x))] [] (.c (.bool res)) [] := by
 obtain ⟨n, hn⟩ := lim_some h
 exact (wF_slices_ContainsFunc_api_Value_api_Value n).2.2.2 hn
noncomputable def value_within (p0v : ApiValue) : Option Bool :=
 (value_Depth p0v).bind fun (x1 : Int) => (gd ((decide (x1 ≤ (16 : Int))) == true) (value_Size p0v)).bind fun (x3 : Int) => (gd ((cond (decide (x1 ≤ (16 : Int))) (decide (x3 ≤ (1000 : Int))) false) == true) (value_short p0v)).bind fun (x5 : Bool) => some (cond (cond (decide (x1 ≤ (16 : Int))) (decide (x3 ≤ (1000 : Int))) false) x5 false)
theorem w_value_within {p0v : ApiValue} {res : Bool} (h : value_within p0v = some res) : ACalls Try.prog 91 [.agg (AV.cs (exApiValue p0v))] [] (.c (.bool res)) [] := by
 unfold value_within at h
 refine acalls (fn := Try.f91) [0, 1, 2] (by kernel_rfl) Try.func91 rfl (by kernel_rfl) (by kernel_rfl) ?_
 refine w_seqw ?_
 refine w_region ?_
 refine o_box (v := .agg [aI, aI, aS, aL, aL]) (n := 0) (cs := [aI, aI, aS, aL, aL]) (σ' := [[aI, aI, aS, aL, aL]]) rfl rfl rfl rfl rfl ?_
 refine o_p rfl (p_assign (v := aB) rfl) ?_
 refine o_end (fr' := [(0, .agg [aI, aI, aS, aL, aL]), (1, .box 0 0), (2, aB)]) rfl ?_
 refine e_kw ?_
 refine w_seqw ?_
 refine w_region ?_
 refine o_p rfl (p_loads (us := [aI, aI, aS, aL, aL]) tv40 rfl rfl rfl rfl) ?_
 obtain ⟨x1, hx1, h2⟩ := bind_s h
 refine o_v (ov_call (v := aI) rfl (w_value_Depth hx1) ⟨(le_aggc rfl ⟨rfl, rfl, rfl, rfl, rfl, trivial⟩), trivial⟩ rfl rfl rfl) ?_
 refine o_p rfl (p_leq rfl rfl) ?_
 refine o_p rfl (p_move (v := aB) rfl) ?_
 refine o_g rfl rfl (fun hc => ov_p rfl (p_loads (us := [aI, aI, aS, aL, aL]) tv40 rfl rfl rfl rfl)) ?_
 obtain ⟨x3, hx3, h4⟩ := bind_s h2
 refine o_g rfl rfl (fun hc => ov_call (v := aI) rfl (w_value_Size (gd_some hx3 hc)) ⟨(le_gv (gx rfl hc) (le_aggc rfl ⟨rfl, rfl, rfl, rfl, rfl, trivial⟩)), trivial⟩ (ok_eq (by repeat (first | exact ok_nil | refine ok_cons rfl ?_ | refine ok_cons (dgv rfl) ?_))) rfl rfl) ?_
 refine o_g rfl rfl (fun hc => ov_p rfl (p_leq (gx rfl hc) rfl)) ?_
 refine o_p rfl (p_picky rfl rfl rfl (fun e => keq e)) ?_
 refine o_p rfl (p_move (v := aB) rfl) ?_
 refine o_g rfl rfl (fun hc => ov_p rfl (p_loads (us := [aI, aI, aS, aL, aL]) tv40 rfl rfl rfl rfl)) ?_
 obtain ⟨x5, hx5, h6⟩ := bind_s h4
 refine o_g rfl rfl (fun hc => ov_call (v := aB) rfl (w_value_short (gd_some hx5 hc)) ⟨(le_gv (gx rfl hc) (le_aggc rfl ⟨rfl, rfl, rfl, rfl, rfl, trivial⟩)), trivial⟩ (ok_eq (by repeat (first | exact ok_nil | refine ok_cons rfl ?_ | refine ok_cons (dgv rfl) ?_))) rfl rfl) ?_
 refine o_p rfl (p_picky rfl rfl rfl (fun e => keq e)) ?_
 refine o_p rfl (p_assign (v := aB) rfl) ?_
 refine o_end (fr' := [(0, .agg [aI, aI, aS, aL, aL]), (1, .box 0 0), (2, aB)]) rfl ?_
 refine e_kw ?_
 refine w_ret ?_
 have he7 := Option.some.inj h6
 subst he7
 refine e_ret (rs' := [.tmp 2]) rfl ?_
 refine r_tmp (v := aB) rfl ?_
 refine r_nil ?_
 exact fin_gen [] rfl rfl rfl (AV.le_refl _) st_nil
noncomputable def value_ascending_l1 (p0l : (List (List UInt8))) (s4 : Int) : Option (Step Int (Fl Bool Unit)) :=
 cond (decide (s4 < ((p0l).length : Int))) ((idx p0l (IntKind.wrap .i64 (s4 - (1 : Int)))).bind fun (x6 : (List UInt8)) => (idx p0l s4).bind fun (x8 : (List UInt8)) => cond (!Op.bytesLess x6 x8) (some (Step.out (Fl.done false))) (some (Step.next (IntKind.wrap .i64 (s4 + (1 : Int)))))) (some (Step.out (Fl.go ())))
noncomputable def value_ascending (p0l : (List (List UInt8))) : Option Bool :=
 ((loopO (value_ascending_l1 p0l) ((1 : Int))) : Option (Fl Bool Unit)).bind fun (x1 : (Fl Bool Unit)) => Fl.next x1 (fun (j3 : Unit) => (some true))
theorem w_value_ascending {p0l : (List (List UInt8))} {res : Bool} (h : value_ascending p0l = some res) : ACalls Try.prog 107 [.c (PV.ls 1 rowS p0l)] [] (.c (.bool res)) [] := by
 unfold value_ascending at h
 refine acalls (fn := Try.f107) [0, 2, 3, 7, 19] (by kernel_rfl) Try.func107 rfl (by kernel_rfl) (by kernel_rfl) ?_
 refine w_seqw ?_
 refine w_region ?_
 refine o_p rfl (p_assign (v := aB) rfl) ?_
 refine o_end (fr' := [(0, aL), (2, aB)]) rfl ?_
 refine e_kw ?_
 refine w_seqw ?_
 refine w_seqw ?_
 refine w_region ?_
 refine o_p rfl (p_assign (v := aI) rfl) ?_
 refine o_end (fr' := [(0, aL), (2, aB), (3, aI)]) rfl ?_
 refine e_kw ?_
 obtain ⟨x1, hx1, h2⟩ := bind_s h
 refine w_jtail cl_kw (fun j3 => x1 = Fl.go j3) (fun (j3 : Unit) => ([] : Fr)) (fun (j3 : Unit) => ([] : St)) ?_ ?_
 ·
  refine w_block ?_
  refine w_loopo _ (fun (s4 : Int) => ([(0, .c (PV.ls 1 rowS p0l)), (3, .c (.int .i64 s4))] : Fr)) (fun (s4 : Int) => ([] : St)) hx1 (w_weak [] 0 rfl rfl rfl rfl ⟨(AV.le_refl _), (AV.le_refl _), trivial⟩ st_nil) ?_
  intro s4 st4 hs4 ho4
  unfold value_ascending_l1 at hs4
  refine w_seqw ?_
  refine w_seqw ?_
  refine w_region ?_
  refine o_p rfl (p_move (v := aI) rfl) ?_
  refine o_p rfl (p_move (v := aL) rfl) ?_
  refine o_p rfl (p_len ti38 (isl_c rfl)) ?_
  refine o_p rfl (p_lss rfl rfl) ?_
  refine o_end (fr' := [(0, aL), (3, aI), (7, aB)]) rfl ?_
  refine e_kw ?_
  refine w_cond _ rfl (fun hb5 => ?_) (fun hb5 => ?_)
  ·
   have h5 := cond_t (b := (decide (s4 < ((p0l).length : Int)))) hb5 hs4
   refine w_skip ?_
   refine e_kw ?_
   refine w_seqw ?_
   refine w_block ?_
   refine w_seqw ?_
   refine w_planT [.q 0, .q 1, .q 2, .q 3, .q 4, .q 5, .q 6, .q 7, .q 8, .q 9] [(some 10, [0]), (some 11, [3]), (some 12, [11]), (some 13, [10, 12]), (some 14, [13]), (some 15, [0]), (some 16, [3]), (some 17, [15, 16]), (some 18, [17]), (some 19, [14, 18])] [0, 0, 2, 7, 15, 0, 0, 96, 224, 511] (by kernel_rfl) ?_
   refine d_q rfl (qv_p rfl (p_move (v := aL) rfl)) ?_
   refine d_q rfl (qv_p rfl (p_move (v := aI) rfl)) ?_
   refine d_q rfl (qv_p rfl (p_sub rfl rfl)) ?_
   obtain ⟨x6, hx6, h7⟩ := bind_s h5
   refine d_q rfl (qv_p rfl (p_ia (cs := [.str _]) ts38 (isl_c rfl) rfl hx6 rfl)) ?_
   refine d_q rfl (qv_p rfl (p_loade (p := .str _) tv9 rfl rfl)) ?_
   refine d_q rfl (qv_p rfl (p_move (v := aL) rfl)) ?_
   refine d_q rfl (qv_p rfl (p_move (v := aI) rfl)) ?_
   obtain ⟨x8, hx8, h9⟩ := bind_s h7
   refine d_q rfl (qv_p rfl (p_ia (cs := [.str _]) ts38 (isl_c rfl) rfl hx8 rfl)) ?_
   refine d_q rfl (qv_p rfl (p_loade (p := .str _) tv9 rfl rfl)) ?_
   refine d_q rfl (qv_p rfl (p_sgeq rfl rfl)) ?_
   refine d_end (fr' := [(0, aL), (3, aI), (7, aB), (19, aB)]) rfl ?_
   refine e_kw ?_
   refine w_cond _ rfl (fun hb10 => ?_) (fun hb10 => ?_)
   ·
    have h10 := cond_t (b := (!Op.bytesLess x6 x8)) hb10 h9
    refine w_seqw ?_
    refine w_region ?_
    refine o_p rfl (p_assign (v := aB) rfl) ?_
    refine o_end (fr' := [(0, aL), (2, aB), (3, aI), (7, aB), (19, aB)]) rfl ?_
    refine e_kw ?_
    refine w_ret ?_
    refine e_blk_r ?_
    refine e_seq_r ?_
    refine e_seq_r ?_
    refine e_blk_r ?_
    refine e_seq_r ?_
    refine e_seq_r ?_
    have h11 := un_out h10 ho4
    have h12 := un_done h11 h2
    have he13 := Option.some.inj h12
    subst he13
    refine e_ret (rs' := [.tmp 2]) rfl ?_
    refine r_tmp (v := aB) rfl ?_
    refine r_nil ?_
    exact fin_gen [] rfl rfl rfl (AV.le_refl _) st_nil
   ·
    have h10 := cond_f (b := (!Op.bytesLess x6 x8)) hb10 h9
    refine w_skip ?_
    refine e_blk_n ?_
    refine e_kw ?_
    refine w_region ?_
    refine o_p rfl (p_move (v := aI) rfl) ?_
    refine o_p rfl (p_add rfl rfl) ?_
    refine o_p rfl (p_assign (v := aI) rfl) ?_
    refine o_end (fr' := [(0, aL), (3, aI), (7, aB), (19, aB)]) rfl ?_
    exact e_l _ (Option.some.inj h10).symm (w_weak [] 0 rfl rfl rfl rfl ⟨(AV.le_refl _), (AV.le_refl _), trivial⟩ st_nil)
  ·
   have h5 := cond_f (b := (decide (s4 < ((p0l).length : Int)))) hb5 hs4
   refine w_exit ?_
   refine e_seq_x ?_
   refine e_seq_x ?_
   refine e_blk_h ?_
   have h14 := un_out h5 ho4
   exact e_j _ (Option.some.inj h14).symm (w_weak [] 0 rfl rfl rfl rfl trivial st_nil)
 ·
  intro j3 hj15
  have h15 := un_go hj15 h2
  refine e_kw ?_
  refine w_seqw ?_
  refine w_region ?_
  refine o_p rfl (p_assign (v := aB) rfl) ?_
  refine o_end (fr' := [(2, aB)]) rfl ?_
  refine e_kw ?_
  refine w_ret ?_
  have he16 := Option.some.inj h15
  subst he16
  refine e_ret (rs' := [.tmp 2]) rfl ?_
  refine r_tmp (v := aB) rfl ?_
  refine r_nil ?_
  exact fin_gen [] rfl rfl rfl (AV.le_refl _) st_nil
end Go.Proofs.Ytnhchphmmdgphaa

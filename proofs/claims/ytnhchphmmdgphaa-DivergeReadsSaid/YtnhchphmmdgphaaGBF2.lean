import Derived.Test.YtnhchphmmdgphaaGBTy
import Derived.Test.YtnhchphmmdgphaaGBF1
namespace Go.Proofs.Ytnhchphmmdgphaa
open Go Abs
set_option maxRecDepth 100000
set_option linter.unusedVariables false
set_option linter.unusedSimpArgs false
noncomputable def diverge_kind (p0command : Int) : Option Int :=
  cond (cond (decide (p0command < (1 : Int))) true (decide ((14 : Int) < p0command))) (some (0 : Int)) ((idx ([(7 : Int), (12 : Int), (14 : Int), (16 : Int), (19 : Int), (23 : Int), (18 : Int), (27 : Int), (28 : Int), (29 : Int), (30 : Int), (31 : Int), (32 : Int), (35 : Int)] : List Int) (IntKind.wrap .i64 (p0command - (1 : Int)))).bind fun (x3 : Int) => some x3)
theorem w_diverge_kind {p0command : Int} {res : Int} (h : diverge_kind p0command = some res) : ACalls Try.prog 51 [.c (.int .i64 p0command)] [] (.c (.int .i64 res)) [] := by
  unfold diverge_kind at h
  refine acalls (fn := Try.f51) [0, 2, 8] (by kernel_rfl) Try.func51 rfl (by kernel_rfl) (by kernel_rfl) ?_
  refine w_seqw ?_
  refine w_region ?_
  refine o_p rfl (p_assign (v := .c (.int _ _)) rfl) ?_
  refine o_end (fr' := [(0, .c (.int _ _)), (2, .c (.int _ _)), (8, .any)]) rfl ?_
  refine e_kw ?_
  refine w_seqw ?_
  refine w_seqw ?_
  refine w_region ?_
  refine o_p rfl (p_move (v := .c (.int _ _)) rfl) ?_
  refine o_p rfl (p_lss rfl rfl) ?_
  refine o_p rfl (p_move (v := .c (.bool _)) rfl) ?_
  refine o_g rfl rfl (fun hc => ov_p rfl (p_move (v := .c (.int _ _)) rfl)) ?_
  refine o_g rfl rfl (fun hc => ov_p rfl (p_gtr (gx rfl hc) rfl)) ?_
  refine o_p rfl (p_pickz rfl rfl rfl (fun e => keq e)) ?_
  refine o_end (fr' := [(0, .c (.int _ _)), (2, .c (.int _ _)), (8, .c (.bool _))]) rfl ?_
  refine e_kw ?_
  refine w_cond _ rfl (fun hb1 => ?_) (fun hb1 => ?_)
  · skip
    have h1 := cond_t (b := (cond (decide (p0command < (1 : Int))) true (decide ((14 : Int) < p0command)))) hb1 h
    refine w_seqw ?_
    refine w_region ?_
    refine o_p rfl (p_assign (v := .c (.int _ _)) rfl) ?_
    refine o_end (fr' := [(0, .c (.int _ _)), (2, .c (.int _ _)), (8, .c (.bool _))]) rfl ?_
    refine e_kw ?_
    refine w_ret ?_
    refine e_seq_r ?_
    have he2 := Option.some.inj h1
    subst he2
    refine e_ret (rs' := [.tmp 2]) rfl ?_
    refine r_tmp (v := .c (.int _ _)) rfl ?_
    refine r_nil ?_
    exact fin_gen [] rfl rfl rfl (AV.le_refl _) st_nil
  · skip
    have h1 := cond_f (b := (cond (decide (p0command < (1 : Int))) true (decide ((14 : Int) < p0command)))) hb1 h
    refine w_skip ?_
    refine e_kw ?_
    refine w_seqw ?_
    refine w_region ?_
    refine o_rows (row := (rowI .i64)) (xs := ([(7 : Int), (12 : Int), (14 : Int), (16 : Int), (19 : Int), (23 : Int), (18 : Int), (27 : Int), (28 : Int), (29 : Int), (30 : Int), (31 : Int), (32 : Int), (35 : Int)] : List Int)) (rows := [[_], [_], [_], [_], [_], [_], [_], [_], [_], [_], [_], [_], [_], [_]]) (σ' := []) [0] ts105 rfl rfl rfl (arow_cons rfl (arow_cons rfl (arow_cons rfl (arow_cons rfl (arow_cons rfl (arow_cons rfl (arow_cons rfl (arow_cons rfl (arow_cons rfl (arow_cons rfl (arow_cons rfl (arow_cons rfl (arow_cons rfl (arow_cons rfl arow_nil)))))))))))))) (ok_eq (by repeat (first | exact ok_nil | refine ok_cons rfl ?_ | refine ok_cons (dgv rfl) ?_))) rfl ?_
    refine o_p rfl (p_move (v := .c (.int _ _)) rfl) ?_
    refine o_p rfl (p_sub rfl rfl) ?_
    obtain ⟨x3, hx3, h4⟩ := bind_s h1
    refine o_p rfl (p_ia (cs := [.int _ _]) ts105 (isl_o rfl) rfl hx3 rfl) ?_
    refine o_p rfl (p_loade (p := .int _ _) tv3 rfl rfl) ?_
    refine o_p rfl (p_assign (v := .c (.int _ _)) rfl) ?_
    refine o_end (fr' := [(0, .c (.int _ _)), (2, .c (.int _ _)), (8, .c (.bool _))]) rfl ?_
    refine e_kw ?_
    refine w_ret ?_
    have he5 := Option.some.inj h4
    subst he5
    refine e_ret (rs' := [.tmp 2]) rfl ?_
    refine r_tmp (v := .c (.int _ _)) rfl ?_
    refine r_nil ?_
    exact fin_gen [] rfl rfl rfl (AV.le_refl _) st_nil
noncomputable def diverge_Match (p0c : ApiCommand) (p1e : ApiEvent) : Option Bool :=
  (diverge_compared p0c.Kind).bind fun (x1 : DivergeFields) => (event_IsCommand p1e.Kind).bind fun (x3 : Bool) => (gd (x3 == true) (diverge_kind p0c.Kind)).bind fun (x5 : Int) => some (cond (cond (cond (cond (cond x3 (decide (p1e.Kind = x5)) false) (cond (!x1.seq_) true (decide (p0c.Seq = p1e.Seq))) false) (cond (!x1.name_) true (decide (p0c.Name = p1e.Name))) false) (cond (!x1.key_) true (decide (p0c.Key = p1e.Key))) false) (cond (!x1.n_) true (decide (p0c.N = p1e.N))) false)
theorem w_diverge_Match {p0c : ApiCommand} {p1e : ApiEvent} {res : Bool} (h : diverge_Match p0c p1e = some res) : ACalls Try.prog 26 [.agg (AV.cs (rowApiCommand p0c)), .agg (AV.cs (rowApiEvent p1e))] [] (.c (.bool res)) [] := by
  unfold diverge_Match at h
  refine acalls (fn := Try.f26) [0, 1, 2, 3, 4, 5] (by kernel_rfl) Try.func26 rfl (by kernel_rfl) (by kernel_rfl) ?_
  refine w_seqw ?_
  refine w_region ?_
  refine o_box (v := .agg [.c (.int _ _), .c (.int _ _), .c (.str _), .c (.str _), .c (.int _ _), .c (.int _ _), .c (.int _ _), .c (.str _), .c (PV.ls _ _ _), .c (PV.ls _ _ _), .c (.str _), .c (.int _ _), .c (.int _ _), .c (.int _ _), .c (.int _ _), .c (.int _ _), .c (.int _ _), .c (.int _ _), .c (.int _ _), .c (PV.ls _ _ _)]) (n := 0) (cs := [.c (.int _ _), .c (.int _ _), .c (.str _), .c (.str _), .c (.int _ _), .c (.int _ _), .c (.int _ _), .c (.str _), .c (PV.ls _ _ _), .c (PV.ls _ _ _), .c (.str _), .c (.int _ _), .c (.int _ _), .c (.int _ _), .c (.int _ _), .c (.int _ _), .c (.int _ _), .c (.int _ _), .c (.int _ _), .c (PV.ls _ _ _)]) (σ' := [[.c (.int _ _), .c (.int _ _), .c (.str _), .c (.str _), .c (.int _ _), .c (.int _ _), .c (.int _ _), .c (.str _), .c (PV.ls _ _ _), .c (PV.ls _ _ _), .c (.str _), .c (.int _ _), .c (.int _ _), .c (.int _ _), .c (.int _ _), .c (.int _ _), .c (.int _ _), .c (.int _ _), .c (.int _ _), .c (PV.ls _ _ _)]]) rfl rfl rfl rfl rfl ?_
  refine o_box (v := .agg [.c (.int _ _), .c (.int _ _), .c (.int _ _), .c (.int _ _), .c (.int _ _), .c (.int _ _), .c (.int _ _), .c (.str _), .c (.str _), .c (.int _ _), .c (.int _ _), .c (.str _), .c (PV.ls _ _ _), .c (PV.ls _ _ _), .c (.str _), .c (.int _ _), .c (.int _ _), .c (.int _ _), .c (.int _ _), .c (.int _ _), .c (.int _ _), .c (.int _ _), .c (.int _ _), .c (PV.ls _ _ _)]) (n := 1) (cs := [.c (.int _ _), .c (.int _ _), .c (.int _ _), .c (.int _ _), .c (.int _ _), .c (.int _ _), .c (.int _ _), .c (.str _), .c (.str _), .c (.int _ _), .c (.int _ _), .c (.str _), .c (PV.ls _ _ _), .c (PV.ls _ _ _), .c (.str _), .c (.int _ _), .c (.int _ _), .c (.int _ _), .c (.int _ _), .c (.int _ _), .c (.int _ _), .c (.int _ _), .c (.int _ _), .c (PV.ls _ _ _)]) (σ' := [[.c (.int _ _), .c (.int _ _), .c (.str _), .c (.str _), .c (.int _ _), .c (.int _ _), .c (.int _ _), .c (.str _), .c (PV.ls _ _ _), .c (PV.ls _ _ _), .c (.str _), .c (.int _ _), .c (.int _ _), .c (.int _ _), .c (.int _ _), .c (.int _ _), .c (.int _ _), .c (.int _ _), .c (.int _ _), .c (PV.ls _ _ _)], [.c (.int _ _), .c (.int _ _), .c (.int _ _), .c (.int _ _), .c (.int _ _), .c (.int _ _), .c (.int _ _), .c (.str _), .c (.str _), .c (.int _ _), .c (.int _ _), .c (.str _), .c (PV.ls _ _ _), .c (PV.ls _ _ _), .c (.str _), .c (.int _ _), .c (.int _ _), .c (.int _ _), .c (.int _ _), .c (.int _ _), .c (.int _ _), .c (.int _ _), .c (.int _ _), .c (PV.ls _ _ _)]]) rfl rfl rfl rfl rfl ?_
  refine o_p rfl (p_assign (v := .c (.bool _)) rfl) ?_
  refine o_end (fr' := [(0, .agg [.c (.int _ _), .c (.int _ _), .c (.str _), .c (.str _), .c (.int _ _), .c (.int _ _), .c (.int _ _), .c (.str _), .c (PV.ls _ _ _), .c (PV.ls _ _ _), .c (.str _), .c (.int _ _), .c (.int _ _), .c (.int _ _), .c (.int _ _), .c (.int _ _), .c (.int _ _), .c (.int _ _), .c (.int _ _), .c (PV.ls _ _ _)]), (1, .agg [.c (.int _ _), .c (.int _ _), .c (.int _ _), .c (.int _ _), .c (.int _ _), .c (.int _ _), .c (.int _ _), .c (.str _), .c (.str _), .c (.int _ _), .c (.int _ _), .c (.str _), .c (PV.ls _ _ _), .c (PV.ls _ _ _), .c (.str _), .c (.int _ _), .c (.int _ _), .c (.int _ _), .c (.int _ _), .c (.int _ _), .c (.int _ _), .c (.int _ _), .c (.int _ _), .c (PV.ls _ _ _)]), (2, .box 0 0), (3, .box 1 0), (4, .c (.bool _)), (5, .any)]) rfl ?_
  refine e_kw ?_
  refine w_seqw ?_
  refine w_region ?_
  refine o_p rfl (p_fa tf44x0 rfl) ?_
  refine o_p rfl (p_load (v := .c (.int _ _)) tv3 rfl rfl rfl) ?_
  obtain ⟨x1, hx1, h2⟩ := bind_s h
  refine o_v (ov_call (v := .agg [.c (.bool _), .c (.bool _), .c (.bool _), .c (.bool _)]) rfl (w_diverge_compared hx1) ⟨(AV.le_refl _), trivial⟩ rfl rfl rfl) ?_
  refine o_alloc (n := 2) (cs := [.c (.bool _), .c (.bool _), .c (.bool _), .c (.bool _)]) (σ' := [[.c (.int _ _), .c (.int _ _), .c (.str _), .c (.str _), .c (.int _ _), .c (.int _ _), .c (.int _ _), .c (.str _), .c (PV.ls _ _ _), .c (PV.ls _ _ _), .c (.str _), .c (.int _ _), .c (.int _ _), .c (.int _ _), .c (.int _ _), .c (.int _ _), .c (.int _ _), .c (.int _ _), .c (.int _ _), .c (PV.ls _ _ _)], [.c (.int _ _), .c (.int _ _), .c (.int _ _), .c (.int _ _), .c (.int _ _), .c (.int _ _), .c (.int _ _), .c (.str _), .c (.str _), .c (.int _ _), .c (.int _ _), .c (.str _), .c (PV.ls _ _ _), .c (PV.ls _ _ _), .c (.str _), .c (.int _ _), .c (.int _ _), .c (.int _ _), .c (.int _ _), .c (.int _ _), .c (.int _ _), .c (.int _ _), .c (.int _ _), .c (PV.ls _ _ _)], [.c (.bool _), .c (.bool _), .c (.bool _), .c (.bool _)]]) tz85 rfl rfl rfl ?_
  refine o_store (v := .agg [.c (.bool _), .c (.bool _), .c (.bool _), .c (.bool _)]) (us := [.c (.bool _), .c (.bool _), .c (.bool _), .c (.bool _)]) (cs := [.c (.bool _), .c (.bool _), .c (.bool _), .c (.bool _)]) (σ' := [[.c (.int _ _), .c (.int _ _), .c (.str _), .c (.str _), .c (.int _ _), .c (.int _ _), .c (.int _ _), .c (.str _), .c (PV.ls _ _ _), .c (PV.ls _ _ _), .c (.str _), .c (.int _ _), .c (.int _ _), .c (.int _ _), .c (.int _ _), .c (.int _ _), .c (.int _ _), .c (.int _ _), .c (.int _ _), .c (PV.ls _ _ _)], [.c (.int _ _), .c (.int _ _), .c (.int _ _), .c (.int _ _), .c (.int _ _), .c (.int _ _), .c (.int _ _), .c (.str _), .c (.str _), .c (.int _ _), .c (.int _ _), .c (.str _), .c (PV.ls _ _ _), .c (PV.ls _ _ _), .c (.str _), .c (.int _ _), .c (.int _ _), .c (.int _ _), .c (.int _ _), .c (.int _ _), .c (.int _ _), .c (.int _ _), .c (.int _ _), .c (PV.ls _ _ _)], [.c (.bool _), .c (.bool _), .c (.bool _), .c (.bool _)]]) rfl tv85 rfl rfl rfl rfl rfl rfl rfl rfl ?_
  refine o_end (fr' := [(0, .agg [.c (.int _ _), .c (.int _ _), .c (.str _), .c (.str _), .c (.int _ _), .c (.int _ _), .c (.int _ _), .c (.str _), .c (PV.ls _ _ _), .c (PV.ls _ _ _), .c (.str _), .c (.int _ _), .c (.int _ _), .c (.int _ _), .c (.int _ _), .c (.int _ _), .c (.int _ _), .c (.int _ _), .c (.int _ _), .c (PV.ls _ _ _)]), (1, .agg [.c (.int _ _), .c (.int _ _), .c (.int _ _), .c (.int _ _), .c (.int _ _), .c (.int _ _), .c (.int _ _), .c (.str _), .c (.str _), .c (.int _ _), .c (.int _ _), .c (.str _), .c (PV.ls _ _ _), .c (PV.ls _ _ _), .c (.str _), .c (.int _ _), .c (.int _ _), .c (.int _ _), .c (.int _ _), .c (.int _ _), .c (.int _ _), .c (.int _ _), .c (.int _ _), .c (PV.ls _ _ _)]), (2, .box 0 0), (3, .box 1 0), (4, .c (.bool _)), (5, .box 2 0)]) rfl ?_
  refine e_kw ?_
  refine w_seqw ?_
  refine w_planT [.q 0, .q 1, .q 2, .q 3, .q 4, .q 5, .q 6, .q 7, .q 8, .q 9, .q 10, .q 11, .q 12, .q 13, .q 14, .q 15, .q 16, .q 17, .q 18, .q 19, .q 20, .q 21, .q 22, .q 23, .q 24, .q 25, .q 26, .q 27, .q 28, .q 29, .q 30, .q 31, .q 32, .q 33, .q 34, .q 35, .q 36, .q 37, .q 38, .q 39, .q 40, .q 41, .q 42, .q 43, .q 44, .q 45, .q 46, .q 47, .q 48, .q 49, .q 50, .q 51, .q 52, .q 53, .q 54, .q 55, .q 56, .q 57, .q 58, .n 59 []] [(some 9, [3]), (some 10, [9]), (some 11, [10]), (some 12, [11]), (some 13, [3, 12]), (some 14, [13, 12]), (some 15, [2, 12]), (some 16, [15, 12]), (some 17, [16, 12]), (some 18, [14, 17, 12]), (some 19, [12, 18]), (some 20, [19]), (some 21, [5, 20]), (some 22, [21, 20]), (some 23, [22, 20]), (some 24, [23, 20]), (some 25, [2, 24]), (some 26, [25, 24]), (some 27, [3, 24]), (some 28, [27, 24]), (some 29, [26, 28, 24]), (some 30, [24, 29, 20]), (some 31, [20, 30]), (some 32, [31]), (some 33, [5, 32]), (some 34, [33, 32]), (some 35, [34, 32]), (some 36, [35, 32]), (some 37, [2, 36]), (some 38, [37, 36]), (some 39, [3, 36]), (some 40, [39, 36]), (some 41, [38, 40, 36]), (some 42, [36, 41, 32]), (some 43, [32, 42]), (some 44, [43]), (some 45, [5, 44]), (some 46, [45, 44]), (some 47, [46, 44]), (some 48, [47, 44]), (some 49, [2, 48]), (some 50, [49, 48]), (some 51, [3, 48]), (some 52, [51, 48]), (some 53, [50, 52, 48]), (some 54, [48, 53, 44]), (some 55, [44, 54]), (some 56, [55]), (some 57, [5, 56]), (some 58, [57, 56]), (some 59, [58, 56]), (some 60, [59, 56]), (some 61, [2, 60]), (some 62, [61, 60]), (some 63, [3, 60]), (some 64, [63, 60]), (some 65, [62, 64, 60]), (some 66, [60, 65, 56]), (some 67, [56, 66]), (some 4, [67])] [0, 1, 3, 7, 15, 31, 15, 79, 207, 511, 1023, 2047, 4095, 8191, 16383, 32767, 65535, 131071, 65535, 327679, 1048575, 2097151, 4194303, 8388607, 16777215, 33554431, 67108863, 134217727, 268435455, 536870911, 268435455, 1342177279, 4294967295, 8589934591, 17179869183, 34359738367, 68719476735, 137438953471, 274877906943, 549755813887, 1099511627775, 2199023255551, 1099511627775, 5497558138879, 17592186044415, 35184372088831, 70368744177663, 140737488355327, 281474976710655, 562949953421311, 1125899906842623, 2251799813685247, 4503599627370495, 9007199254740991, 4503599627370495, 22517998136852479, 72057594037927935, 144115188075855871, 288230376151711743, 576460752303423487] (by kernel_rfl) ?_
  refine d_q rfl (qv_p rfl (p_fa tf46x1 rfl)) ?_
  refine d_q rfl (qv_p rfl (p_load (v := .c (.int _ _)) tv3 rfl rfl rfl)) ?_
  obtain ⟨x3, hx3, h4⟩ := bind_s h2
  refine d_q rfl (qv_call (v := .c (.bool _)) rfl (w_event_IsCommand hx3) ⟨(AV.le_refl _), trivial⟩ rfl) ?_
  refine d_q rfl (qv_p rfl (p_move (v := .c (.bool _)) rfl)) ?_
  refine d_g rfl rfl rfl (fun hc => qv_p rfl (p_fa tf46x1 rfl)) ?_
  refine d_g rfl rfl rfl (fun hc => qv_p rfl (p_load (v := .c (.int _ _)) tv3 (gx rfl hc) rfl rfl)) ?_
  refine d_g rfl rfl rfl (fun hc => qv_p rfl (p_fa tf44x0 rfl)) ?_
  refine d_g rfl rfl rfl (fun hc => qv_p rfl (p_load (v := .c (.int _ _)) tv3 (gx rfl hc) rfl rfl)) ?_
  obtain ⟨x5, hx5, h6⟩ := bind_s h4
  refine d_g rfl rfl rfl (fun hc => qv_call (v := .c (.int _ _)) rfl (w_diverge_kind (gd_some hx5 hc)) ⟨(le_gv (gx rfl hc) (AV.le_refl _)), trivial⟩ rfl) ?_
  refine d_g rfl rfl rfl (fun hc => qv_p rfl (p_eql (gx rfl hc) (gx rfl hc))) ?_
  refine d_q rfl (qv_p rfl (p_picky rfl rfl rfl (fun e => keq e))) ?_
  refine d_q rfl (qv_p rfl (p_move (v := .c (.bool _)) rfl)) ?_
  refine d_g rfl rfl rfl (fun hc => qv_p rfl (p_fa tf85x0 rfl)) ?_
  refine d_g rfl rfl rfl (fun hc => qv_p rfl (p_load (v := .c (.bool _)) tv4 (gx rfl hc) rfl rfl)) ?_
  refine d_g rfl rfl rfl (fun hc => qv_p rfl (p_not (gx rfl hc))) ?_
  refine d_g rfl rfl rfl (fun hc => qv_p rfl (p_move (v := .c (.bool _)) (gx rfl hc))) ?_
  refine d_gg rfl rfl rfl (fun hc => qv_p rfl (p_fa tf44x1 rfl)) ?_
  refine d_gg rfl rfl rfl (fun hc => qv_p rfl (p_load (v := .c (.int _ _)) tv3 (gx rfl hc) rfl rfl)) ?_
  refine d_gg rfl rfl rfl (fun hc => qv_p rfl (p_fa tf46x3 rfl)) ?_
  refine d_gg rfl rfl rfl (fun hc => qv_p rfl (p_load (v := .c (.int _ _)) tv3 (gx rfl hc) rfl rfl)) ?_
  refine d_gg rfl rfl rfl (fun hc => qv_p rfl (p_eql (gx rfl hc) (gx rfl hc))) ?_
  refine d_g rfl rfl rfl (fun hc => qv_p rfl (p_pickz (gx rfl hc) rfl rfl (fun e => band hc (keq e)))) ?_
  refine d_q rfl (qv_p rfl (p_picky rfl rfl rfl (fun e => keq e))) ?_
  refine d_q rfl (qv_p rfl (p_move (v := .c (.bool _)) rfl)) ?_
  refine d_g rfl rfl rfl (fun hc => qv_p rfl (p_fa tf85x1 rfl)) ?_
  refine d_g rfl rfl rfl (fun hc => qv_p rfl (p_load (v := .c (.bool _)) tv4 (gx rfl hc) rfl rfl)) ?_
  refine d_g rfl rfl rfl (fun hc => qv_p rfl (p_not (gx rfl hc))) ?_
  refine d_g rfl rfl rfl (fun hc => qv_p rfl (p_move (v := .c (.bool _)) (gx rfl hc))) ?_
  refine d_gg rfl rfl rfl (fun hc => qv_p rfl (p_fa tf44x2 rfl)) ?_
  refine d_gg rfl rfl rfl (fun hc => qv_p rfl (p_load (v := .c (.str _)) tv9 (gx rfl hc) rfl rfl)) ?_
  refine d_gg rfl rfl rfl (fun hc => qv_p rfl (p_fa tf46x7 rfl)) ?_
  refine d_gg rfl rfl rfl (fun hc => qv_p rfl (p_load (v := .c (.str _)) tv9 (gx rfl hc) rfl rfl)) ?_
  refine d_gg rfl rfl rfl (fun hc => qv_p rfl (p_seql (gx rfl hc) (gx rfl hc))) ?_
  refine d_g rfl rfl rfl (fun hc => qv_p rfl (p_pickz (gx rfl hc) rfl rfl (fun e => band hc (keq e)))) ?_
  refine d_q rfl (qv_p rfl (p_picky rfl rfl rfl (fun e => keq e))) ?_
  refine d_q rfl (qv_p rfl (p_move (v := .c (.bool _)) rfl)) ?_
  refine d_g rfl rfl rfl (fun hc => qv_p rfl (p_fa tf85x2 rfl)) ?_
  refine d_g rfl rfl rfl (fun hc => qv_p rfl (p_load (v := .c (.bool _)) tv4 (gx rfl hc) rfl rfl)) ?_
  refine d_g rfl rfl rfl (fun hc => qv_p rfl (p_not (gx rfl hc))) ?_
  refine d_g rfl rfl rfl (fun hc => qv_p rfl (p_move (v := .c (.bool _)) (gx rfl hc))) ?_
  refine d_gg rfl rfl rfl (fun hc => qv_p rfl (p_fa tf44x3 rfl)) ?_
  refine d_gg rfl rfl rfl (fun hc => qv_p rfl (p_load (v := .c (.str _)) tv9 (gx rfl hc) rfl rfl)) ?_
  refine d_gg rfl rfl rfl (fun hc => qv_p rfl (p_fa tf46x8 rfl)) ?_
  refine d_gg rfl rfl rfl (fun hc => qv_p rfl (p_load (v := .c (.str _)) tv9 (gx rfl hc) rfl rfl)) ?_
  refine d_gg rfl rfl rfl (fun hc => qv_p rfl (p_seql (gx rfl hc) (gx rfl hc))) ?_
  refine d_g rfl rfl rfl (fun hc => qv_p rfl (p_pickz (gx rfl hc) rfl rfl (fun e => band hc (keq e)))) ?_
  refine d_q rfl (qv_p rfl (p_picky rfl rfl rfl (fun e => keq e))) ?_
  refine d_q rfl (qv_p rfl (p_move (v := .c (.bool _)) rfl)) ?_
  refine d_g rfl rfl rfl (fun hc => qv_p rfl (p_fa tf85x3 rfl)) ?_
  refine d_g rfl rfl rfl (fun hc => qv_p rfl (p_load (v := .c (.bool _)) tv4 (gx rfl hc) rfl rfl)) ?_
  refine d_g rfl rfl rfl (fun hc => qv_p rfl (p_not (gx rfl hc))) ?_
  refine d_g rfl rfl rfl (fun hc => qv_p rfl (p_move (v := .c (.bool _)) (gx rfl hc))) ?_
  refine d_gg rfl rfl rfl (fun hc => qv_p rfl (p_fa tf44x4 rfl)) ?_
  refine d_gg rfl rfl rfl (fun hc => qv_p rfl (p_load (v := .c (.int _ _)) tv3 (gx rfl hc) rfl rfl)) ?_
  refine d_gg rfl rfl rfl (fun hc => qv_p rfl (p_fa tf46x5 rfl)) ?_
  refine d_gg rfl rfl rfl (fun hc => qv_p rfl (p_load (v := .c (.int _ _)) tv3 (gx rfl hc) rfl rfl)) ?_
  refine d_gg rfl rfl rfl (fun hc => qv_p rfl (p_eql (gx rfl hc) (gx rfl hc))) ?_
  refine d_g rfl rfl rfl (fun hc => qv_p rfl (p_pickz (gx rfl hc) rfl rfl (fun e => band hc (keq e)))) ?_
  refine d_q rfl (qv_p rfl (p_picky rfl rfl rfl (fun e => keq e))) ?_
  refine d_n rfl ?_ rfl
  refine o_p rfl (p_assign (v := .c (.bool _)) rfl) ?_
  refine o_rc ?_
  refine ⟨rc_nil, ?_⟩
  refine d_end (fr' := [(0, .agg [.c (.int _ _), .c (.int _ _), .c (.str _), .c (.str _), .c (.int _ _), .c (.int _ _), .c (.int _ _), .c (.str _), .c (PV.ls _ _ _), .c (PV.ls _ _ _), .c (.str _), .c (.int _ _), .c (.int _ _), .c (.int _ _), .c (.int _ _), .c (.int _ _), .c (.int _ _), .c (.int _ _), .c (.int _ _), .c (PV.ls _ _ _)]), (1, .agg [.c (.int _ _), .c (.int _ _), .c (.int _ _), .c (.int _ _), .c (.int _ _), .c (.int _ _), .c (.int _ _), .c (.str _), .c (.str _), .c (.int _ _), .c (.int _ _), .c (.str _), .c (PV.ls _ _ _), .c (PV.ls _ _ _), .c (.str _), .c (.int _ _), .c (.int _ _), .c (.int _ _), .c (.int _ _), .c (.int _ _), .c (.int _ _), .c (.int _ _), .c (.int _ _), .c (PV.ls _ _ _)]), (2, .box 0 0), (3, .box 1 0), (4, .c (.bool _)), (5, .box 2 0)]) rfl ?_
  refine e_kw ?_
  refine w_ret ?_
  have he7 := Option.some.inj h6
  subst he7
  refine e_ret (rs' := [.tmp 4]) rfl ?_
  refine r_tmp (v := .c (.bool _)) rfl ?_
  refine r_nil ?_
  exact fin_gen [] rfl rfl rfl (AV.le_refl _) st_nil
noncomputable def ref27xkind (p0c : Int) : Option Int :=
  cond (decide (p0c = (1 : Int))) (some (7 : Int)) (cond (decide (p0c = (2 : Int))) (some (12 : Int)) (cond (decide (p0c = (3 : Int))) (some (14 : Int)) (cond (decide (p0c = (4 : Int))) (some (16 : Int)) (cond (decide (p0c = (5 : Int))) (some (19 : Int)) (cond (decide (p0c = (6 : Int))) (some (23 : Int)) (cond (decide (p0c = (7 : Int))) (some (18 : Int)) (cond (decide (p0c = (8 : Int))) (some (27 : Int)) (cond (decide (p0c = (9 : Int))) (some (28 : Int)) (cond (decide (p0c = (10 : Int))) (some (29 : Int)) (cond (decide (p0c = (11 : Int))) (some (30 : Int)) (cond (decide (p0c = (12 : Int))) (some (31 : Int)) (cond (decide (p0c = (13 : Int))) (some (32 : Int)) (cond (decide (p0c = (14 : Int))) (some (35 : Int)) (some (0 : Int)))))))))))))))
theorem w_ref27xkind {p0c : Int} {res : Int} (h : ref27xkind p0c = some res) : ACalls Try.prog 52 [.c (.int .i64 p0c)] [] (.c (.int .i64 res)) [] := by
  unfold ref27xkind at h
  refine acalls (fn := Try.f52) [0, 2, 3, 4, 6, 8, 10, 12, 14, 16, 18, 20, 22, 24, 26, 28, 30] (by kernel_rfl) Try.func52 rfl (by kernel_rfl) (by kernel_rfl) ?_
  refine w_seqw ?_
  refine w_region ?_
  refine o_p rfl (p_assign (v := .c (.int _ _)) rfl) ?_
  refine o_end (fr' := [(0, .c (.int _ _)), (2, .c (.int _ _)), (3, .any), (4, .any), (6, .any), (8, .any), (10, .any), (12, .any), (14, .any), (16, .any), (18, .any), (20, .any), (22, .any), (24, .any), (26, .any), (28, .any), (30, .any)]) rfl ?_
  refine e_kw ?_
  refine w_seqw ?_
  refine w_seqw ?_
  refine w_region ?_
  refine o_p rfl (p_move (v := .c (.int _ _)) rfl) ?_
  refine o_end (fr' := [(0, .c (.int _ _)), (2, .c (.int _ _)), (3, .c (.int _ _)), (4, .any), (6, .any), (8, .any), (10, .any), (12, .any), (14, .any), (16, .any), (18, .any), (20, .any), (22, .any), (24, .any), (26, .any), (28, .any), (30, .any)]) rfl ?_
  refine e_kw ?_
  refine w_block ?_
  refine w_seqw ?_
  refine w_region ?_
  refine o_p rfl (p_eql rfl rfl) ?_
  refine o_p rfl (p_assign (v := .c (.bool _)) rfl) ?_
  refine o_end (fr' := [(0, .c (.int _ _)), (2, .c (.int _ _)), (3, .c (.int _ _)), (4, .c (.bool _)), (6, .any), (8, .any), (10, .any), (12, .any), (14, .any), (16, .any), (18, .any), (20, .any), (22, .any), (24, .any), (26, .any), (28, .any), (30, .any)]) rfl ?_
  refine e_kw ?_
  refine w_cond _ rfl (fun hb1 => ?_) (fun hb1 => ?_)
  · skip
    have h1 := cond_t (b := (decide (p0c = (1 : Int)))) hb1 h
    refine w_seqw ?_
    refine w_region ?_
    refine o_p rfl (p_assign (v := .c (.int _ _)) rfl) ?_
    refine o_end (fr' := [(0, .c (.int _ _)), (2, .c (.int _ _)), (3, .c (.int _ _)), (4, .c (.bool _)), (6, .any), (8, .any), (10, .any), (12, .any), (14, .any), (16, .any), (18, .any), (20, .any), (22, .any), (24, .any), (26, .any), (28, .any), (30, .any)]) rfl ?_
    refine e_kw ?_
    refine w_ret ?_
    refine e_blk_r ?_
    refine e_seq_r ?_
    have he2 := Option.some.inj h1
    subst he2
    refine e_ret (rs' := [.tmp 2]) rfl ?_
    refine r_tmp (v := .c (.int _ _)) rfl ?_
    refine r_nil ?_
    exact fin_gen [] rfl rfl rfl (AV.le_refl _) st_nil
  · skip
    have h1 := cond_f (b := (decide (p0c = (1 : Int)))) hb1 h
    refine w_seqw ?_
    refine w_region ?_
    refine o_p rfl (p_eql rfl rfl) ?_
    refine o_p rfl (p_assign (v := .c (.bool _)) rfl) ?_
    refine o_end (fr' := [(0, .c (.int _ _)), (2, .c (.int _ _)), (3, .c (.int _ _)), (4, .c (.bool _)), (6, .c (.bool _)), (8, .any), (10, .any), (12, .any), (14, .any), (16, .any), (18, .any), (20, .any), (22, .any), (24, .any), (26, .any), (28, .any), (30, .any)]) rfl ?_
    refine e_kw ?_
    refine w_cond _ rfl (fun hb3 => ?_) (fun hb3 => ?_)
    · skip
      have h3 := cond_t (b := (decide (p0c = (2 : Int)))) hb3 h1
      refine w_seqw ?_
      refine w_region ?_
      refine o_p rfl (p_assign (v := .c (.int _ _)) rfl) ?_
      refine o_end (fr' := [(0, .c (.int _ _)), (2, .c (.int _ _)), (3, .c (.int _ _)), (4, .c (.bool _)), (6, .c (.bool _)), (8, .any), (10, .any), (12, .any), (14, .any), (16, .any), (18, .any), (20, .any), (22, .any), (24, .any), (26, .any), (28, .any), (30, .any)]) rfl ?_
      refine e_kw ?_
      refine w_ret ?_
      refine e_blk_r ?_
      refine e_seq_r ?_
      have he4 := Option.some.inj h3
      subst he4
      refine e_ret (rs' := [.tmp 2]) rfl ?_
      refine r_tmp (v := .c (.int _ _)) rfl ?_
      refine r_nil ?_
      exact fin_gen [] rfl rfl rfl (AV.le_refl _) st_nil
    · skip
      have h3 := cond_f (b := (decide (p0c = (2 : Int)))) hb3 h1
      refine w_seqw ?_
      refine w_region ?_
      refine o_p rfl (p_eql rfl rfl) ?_
      refine o_p rfl (p_assign (v := .c (.bool _)) rfl) ?_
      refine o_end (fr' := [(0, .c (.int _ _)), (2, .c (.int _ _)), (3, .c (.int _ _)), (4, .c (.bool _)), (6, .c (.bool _)), (8, .c (.bool _)), (10, .any), (12, .any), (14, .any), (16, .any), (18, .any), (20, .any), (22, .any), (24, .any), (26, .any), (28, .any), (30, .any)]) rfl ?_
      refine e_kw ?_
      refine w_cond _ rfl (fun hb5 => ?_) (fun hb5 => ?_)
      · skip
        have h5 := cond_t (b := (decide (p0c = (3 : Int)))) hb5 h3
        refine w_seqw ?_
        refine w_region ?_
        refine o_p rfl (p_assign (v := .c (.int _ _)) rfl) ?_
        refine o_end (fr' := [(0, .c (.int _ _)), (2, .c (.int _ _)), (3, .c (.int _ _)), (4, .c (.bool _)), (6, .c (.bool _)), (8, .c (.bool _)), (10, .any), (12, .any), (14, .any), (16, .any), (18, .any), (20, .any), (22, .any), (24, .any), (26, .any), (28, .any), (30, .any)]) rfl ?_
        refine e_kw ?_
        refine w_ret ?_
        refine e_blk_r ?_
        refine e_seq_r ?_
        have he6 := Option.some.inj h5
        subst he6
        refine e_ret (rs' := [.tmp 2]) rfl ?_
        refine r_tmp (v := .c (.int _ _)) rfl ?_
        refine r_nil ?_
        exact fin_gen [] rfl rfl rfl (AV.le_refl _) st_nil
      · skip
        have h5 := cond_f (b := (decide (p0c = (3 : Int)))) hb5 h3
        refine w_seqw ?_
        refine w_region ?_
        refine o_p rfl (p_eql rfl rfl) ?_
        refine o_p rfl (p_assign (v := .c (.bool _)) rfl) ?_
        refine o_end (fr' := [(0, .c (.int _ _)), (2, .c (.int _ _)), (3, .c (.int _ _)), (4, .c (.bool _)), (6, .c (.bool _)), (8, .c (.bool _)), (10, .c (.bool _)), (12, .any), (14, .any), (16, .any), (18, .any), (20, .any), (22, .any), (24, .any), (26, .any), (28, .any), (30, .any)]) rfl ?_
        refine e_kw ?_
        refine w_cond _ rfl (fun hb7 => ?_) (fun hb7 => ?_)
        · skip
          have h7 := cond_t (b := (decide (p0c = (4 : Int)))) hb7 h5
          refine w_seqw ?_
          refine w_region ?_
          refine o_p rfl (p_assign (v := .c (.int _ _)) rfl) ?_
          refine o_end (fr' := [(0, .c (.int _ _)), (2, .c (.int _ _)), (3, .c (.int _ _)), (4, .c (.bool _)), (6, .c (.bool _)), (8, .c (.bool _)), (10, .c (.bool _)), (12, .any), (14, .any), (16, .any), (18, .any), (20, .any), (22, .any), (24, .any), (26, .any), (28, .any), (30, .any)]) rfl ?_
          refine e_kw ?_
          refine w_ret ?_
          refine e_blk_r ?_
          refine e_seq_r ?_
          have he8 := Option.some.inj h7
          subst he8
          refine e_ret (rs' := [.tmp 2]) rfl ?_
          refine r_tmp (v := .c (.int _ _)) rfl ?_
          refine r_nil ?_
          exact fin_gen [] rfl rfl rfl (AV.le_refl _) st_nil
        · skip
          have h7 := cond_f (b := (decide (p0c = (4 : Int)))) hb7 h5
          refine w_seqw ?_
          refine w_region ?_
          refine o_p rfl (p_eql rfl rfl) ?_
          refine o_p rfl (p_assign (v := .c (.bool _)) rfl) ?_
          refine o_end (fr' := [(0, .c (.int _ _)), (2, .c (.int _ _)), (3, .c (.int _ _)), (4, .c (.bool _)), (6, .c (.bool _)), (8, .c (.bool _)), (10, .c (.bool _)), (12, .c (.bool _)), (14, .any), (16, .any), (18, .any), (20, .any), (22, .any), (24, .any), (26, .any), (28, .any), (30, .any)]) rfl ?_
          refine e_kw ?_
          refine w_cond _ rfl (fun hb9 => ?_) (fun hb9 => ?_)
          · skip
            have h9 := cond_t (b := (decide (p0c = (5 : Int)))) hb9 h7
            refine w_seqw ?_
            refine w_region ?_
            refine o_p rfl (p_assign (v := .c (.int _ _)) rfl) ?_
            refine o_end (fr' := [(0, .c (.int _ _)), (2, .c (.int _ _)), (3, .c (.int _ _)), (4, .c (.bool _)), (6, .c (.bool _)), (8, .c (.bool _)), (10, .c (.bool _)), (12, .c (.bool _)), (14, .any), (16, .any), (18, .any), (20, .any), (22, .any), (24, .any), (26, .any), (28, .any), (30, .any)]) rfl ?_
            refine e_kw ?_
            refine w_ret ?_
            refine e_blk_r ?_
            refine e_seq_r ?_
            have he10 := Option.some.inj h9
            subst he10
            refine e_ret (rs' := [.tmp 2]) rfl ?_
            refine r_tmp (v := .c (.int _ _)) rfl ?_
            refine r_nil ?_
            exact fin_gen [] rfl rfl rfl (AV.le_refl _) st_nil
          · skip
            have h9 := cond_f (b := (decide (p0c = (5 : Int)))) hb9 h7
            refine w_seqw ?_
            refine w_region ?_
            refine o_p rfl (p_eql rfl rfl) ?_
            refine o_p rfl (p_assign (v := .c (.bool _)) rfl) ?_
            refine o_end (fr' := [(0, .c (.int _ _)), (2, .c (.int _ _)), (3, .c (.int _ _)), (4, .c (.bool _)), (6, .c (.bool _)), (8, .c (.bool _)), (10, .c (.bool _)), (12, .c (.bool _)), (14, .c (.bool _)), (16, .any), (18, .any), (20, .any), (22, .any), (24, .any), (26, .any), (28, .any), (30, .any)]) rfl ?_
            refine e_kw ?_
            refine w_cond _ rfl (fun hb11 => ?_) (fun hb11 => ?_)
            · skip
              have h11 := cond_t (b := (decide (p0c = (6 : Int)))) hb11 h9
              refine w_seqw ?_
              refine w_region ?_
              refine o_p rfl (p_assign (v := .c (.int _ _)) rfl) ?_
              refine o_end (fr' := [(0, .c (.int _ _)), (2, .c (.int _ _)), (3, .c (.int _ _)), (4, .c (.bool _)), (6, .c (.bool _)), (8, .c (.bool _)), (10, .c (.bool _)), (12, .c (.bool _)), (14, .c (.bool _)), (16, .any), (18, .any), (20, .any), (22, .any), (24, .any), (26, .any), (28, .any), (30, .any)]) rfl ?_
              refine e_kw ?_
              refine w_ret ?_
              refine e_blk_r ?_
              refine e_seq_r ?_
              have he12 := Option.some.inj h11
              subst he12
              refine e_ret (rs' := [.tmp 2]) rfl ?_
              refine r_tmp (v := .c (.int _ _)) rfl ?_
              refine r_nil ?_
              exact fin_gen [] rfl rfl rfl (AV.le_refl _) st_nil
            · skip
              have h11 := cond_f (b := (decide (p0c = (6 : Int)))) hb11 h9
              refine w_seqw ?_
              refine w_region ?_
              refine o_p rfl (p_eql rfl rfl) ?_
              refine o_p rfl (p_assign (v := .c (.bool _)) rfl) ?_
              refine o_end (fr' := [(0, .c (.int _ _)), (2, .c (.int _ _)), (3, .c (.int _ _)), (4, .c (.bool _)), (6, .c (.bool _)), (8, .c (.bool _)), (10, .c (.bool _)), (12, .c (.bool _)), (14, .c (.bool _)), (16, .c (.bool _)), (18, .any), (20, .any), (22, .any), (24, .any), (26, .any), (28, .any), (30, .any)]) rfl ?_
              refine e_kw ?_
              refine w_cond _ rfl (fun hb13 => ?_) (fun hb13 => ?_)
              · skip
                have h13 := cond_t (b := (decide (p0c = (7 : Int)))) hb13 h11
                refine w_seqw ?_
                refine w_region ?_
                refine o_p rfl (p_assign (v := .c (.int _ _)) rfl) ?_
                refine o_end (fr' := [(0, .c (.int _ _)), (2, .c (.int _ _)), (3, .c (.int _ _)), (4, .c (.bool _)), (6, .c (.bool _)), (8, .c (.bool _)), (10, .c (.bool _)), (12, .c (.bool _)), (14, .c (.bool _)), (16, .c (.bool _)), (18, .any), (20, .any), (22, .any), (24, .any), (26, .any), (28, .any), (30, .any)]) rfl ?_
                refine e_kw ?_
                refine w_ret ?_
                refine e_blk_r ?_
                refine e_seq_r ?_
                have he14 := Option.some.inj h13
                subst he14
                refine e_ret (rs' := [.tmp 2]) rfl ?_
                refine r_tmp (v := .c (.int _ _)) rfl ?_
                refine r_nil ?_
                exact fin_gen [] rfl rfl rfl (AV.le_refl _) st_nil
              · skip
                have h13 := cond_f (b := (decide (p0c = (7 : Int)))) hb13 h11
                refine w_seqw ?_
                refine w_region ?_
                refine o_p rfl (p_eql rfl rfl) ?_
                refine o_p rfl (p_assign (v := .c (.bool _)) rfl) ?_
                refine o_end (fr' := [(0, .c (.int _ _)), (2, .c (.int _ _)), (3, .c (.int _ _)), (4, .c (.bool _)), (6, .c (.bool _)), (8, .c (.bool _)), (10, .c (.bool _)), (12, .c (.bool _)), (14, .c (.bool _)), (16, .c (.bool _)), (18, .c (.bool _)), (20, .any), (22, .any), (24, .any), (26, .any), (28, .any), (30, .any)]) rfl ?_
                refine e_kw ?_
                refine w_cond _ rfl (fun hb15 => ?_) (fun hb15 => ?_)
                · skip
                  have h15 := cond_t (b := (decide (p0c = (8 : Int)))) hb15 h13
                  refine w_seqw ?_
                  refine w_region ?_
                  refine o_p rfl (p_assign (v := .c (.int _ _)) rfl) ?_
                  refine o_end (fr' := [(0, .c (.int _ _)), (2, .c (.int _ _)), (3, .c (.int _ _)), (4, .c (.bool _)), (6, .c (.bool _)), (8, .c (.bool _)), (10, .c (.bool _)), (12, .c (.bool _)), (14, .c (.bool _)), (16, .c (.bool _)), (18, .c (.bool _)), (20, .any), (22, .any), (24, .any), (26, .any), (28, .any), (30, .any)]) rfl ?_
                  refine e_kw ?_
                  refine w_ret ?_
                  refine e_blk_r ?_
                  refine e_seq_r ?_
                  have he16 := Option.some.inj h15
                  subst he16
                  refine e_ret (rs' := [.tmp 2]) rfl ?_
                  refine r_tmp (v := .c (.int _ _)) rfl ?_
                  refine r_nil ?_
                  exact fin_gen [] rfl rfl rfl (AV.le_refl _) st_nil
                · skip
                  have h15 := cond_f (b := (decide (p0c = (8 : Int)))) hb15 h13
                  refine w_seqw ?_
                  refine w_region ?_
                  refine o_p rfl (p_eql rfl rfl) ?_
                  refine o_p rfl (p_assign (v := .c (.bool _)) rfl) ?_
                  refine o_end (fr' := [(0, .c (.int _ _)), (2, .c (.int _ _)), (3, .c (.int _ _)), (4, .c (.bool _)), (6, .c (.bool _)), (8, .c (.bool _)), (10, .c (.bool _)), (12, .c (.bool _)), (14, .c (.bool _)), (16, .c (.bool _)), (18, .c (.bool _)), (20, .c (.bool _)), (22, .any), (24, .any), (26, .any), (28, .any), (30, .any)]) rfl ?_
                  refine e_kw ?_
                  refine w_cond _ rfl (fun hb17 => ?_) (fun hb17 => ?_)
                  · skip
                    have h17 := cond_t (b := (decide (p0c = (9 : Int)))) hb17 h15
                    refine w_seqw ?_
                    refine w_region ?_
                    refine o_p rfl (p_assign (v := .c (.int _ _)) rfl) ?_
                    refine o_end (fr' := [(0, .c (.int _ _)), (2, .c (.int _ _)), (3, .c (.int _ _)), (4, .c (.bool _)), (6, .c (.bool _)), (8, .c (.bool _)), (10, .c (.bool _)), (12, .c (.bool _)), (14, .c (.bool _)), (16, .c (.bool _)), (18, .c (.bool _)), (20, .c (.bool _)), (22, .any), (24, .any), (26, .any), (28, .any), (30, .any)]) rfl ?_
                    refine e_kw ?_
                    refine w_ret ?_
                    refine e_blk_r ?_
                    refine e_seq_r ?_
                    have he18 := Option.some.inj h17
                    subst he18
                    refine e_ret (rs' := [.tmp 2]) rfl ?_
                    refine r_tmp (v := .c (.int _ _)) rfl ?_
                    refine r_nil ?_
                    exact fin_gen [] rfl rfl rfl (AV.le_refl _) st_nil
                  · skip
                    have h17 := cond_f (b := (decide (p0c = (9 : Int)))) hb17 h15
                    refine w_seqw ?_
                    refine w_region ?_
                    refine o_p rfl (p_eql rfl rfl) ?_
                    refine o_p rfl (p_assign (v := .c (.bool _)) rfl) ?_
                    refine o_end (fr' := [(0, .c (.int _ _)), (2, .c (.int _ _)), (3, .c (.int _ _)), (4, .c (.bool _)), (6, .c (.bool _)), (8, .c (.bool _)), (10, .c (.bool _)), (12, .c (.bool _)), (14, .c (.bool _)), (16, .c (.bool _)), (18, .c (.bool _)), (20, .c (.bool _)), (22, .c (.bool _)), (24, .any), (26, .any), (28, .any), (30, .any)]) rfl ?_
                    refine e_kw ?_
                    refine w_cond _ rfl (fun hb19 => ?_) (fun hb19 => ?_)
                    · skip
                      have h19 := cond_t (b := (decide (p0c = (10 : Int)))) hb19 h17
                      refine w_seqw ?_
                      refine w_region ?_
                      refine o_p rfl (p_assign (v := .c (.int _ _)) rfl) ?_
                      refine o_end (fr' := [(0, .c (.int _ _)), (2, .c (.int _ _)), (3, .c (.int _ _)), (4, .c (.bool _)), (6, .c (.bool _)), (8, .c (.bool _)), (10, .c (.bool _)), (12, .c (.bool _)), (14, .c (.bool _)), (16, .c (.bool _)), (18, .c (.bool _)), (20, .c (.bool _)), (22, .c (.bool _)), (24, .any), (26, .any), (28, .any), (30, .any)]) rfl ?_
                      refine e_kw ?_
                      refine w_ret ?_
                      refine e_blk_r ?_
                      refine e_seq_r ?_
                      have he20 := Option.some.inj h19
                      subst he20
                      refine e_ret (rs' := [.tmp 2]) rfl ?_
                      refine r_tmp (v := .c (.int _ _)) rfl ?_
                      refine r_nil ?_
                      exact fin_gen [] rfl rfl rfl (AV.le_refl _) st_nil
                    · skip
                      have h19 := cond_f (b := (decide (p0c = (10 : Int)))) hb19 h17
                      refine w_seqw ?_
                      refine w_region ?_
                      refine o_p rfl (p_eql rfl rfl) ?_
                      refine o_p rfl (p_assign (v := .c (.bool _)) rfl) ?_
                      refine o_end (fr' := [(0, .c (.int _ _)), (2, .c (.int _ _)), (3, .c (.int _ _)), (4, .c (.bool _)), (6, .c (.bool _)), (8, .c (.bool _)), (10, .c (.bool _)), (12, .c (.bool _)), (14, .c (.bool _)), (16, .c (.bool _)), (18, .c (.bool _)), (20, .c (.bool _)), (22, .c (.bool _)), (24, .c (.bool _)), (26, .any), (28, .any), (30, .any)]) rfl ?_
                      refine e_kw ?_
                      refine w_cond _ rfl (fun hb21 => ?_) (fun hb21 => ?_)
                      · skip
                        have h21 := cond_t (b := (decide (p0c = (11 : Int)))) hb21 h19
                        refine w_seqw ?_
                        refine w_region ?_
                        refine o_p rfl (p_assign (v := .c (.int _ _)) rfl) ?_
                        refine o_end (fr' := [(0, .c (.int _ _)), (2, .c (.int _ _)), (3, .c (.int _ _)), (4, .c (.bool _)), (6, .c (.bool _)), (8, .c (.bool _)), (10, .c (.bool _)), (12, .c (.bool _)), (14, .c (.bool _)), (16, .c (.bool _)), (18, .c (.bool _)), (20, .c (.bool _)), (22, .c (.bool _)), (24, .c (.bool _)), (26, .any), (28, .any), (30, .any)]) rfl ?_
                        refine e_kw ?_
                        refine w_ret ?_
                        refine e_blk_r ?_
                        refine e_seq_r ?_
                        have he22 := Option.some.inj h21
                        subst he22
                        refine e_ret (rs' := [.tmp 2]) rfl ?_
                        refine r_tmp (v := .c (.int _ _)) rfl ?_
                        refine r_nil ?_
                        exact fin_gen [] rfl rfl rfl (AV.le_refl _) st_nil
                      · skip
                        have h21 := cond_f (b := (decide (p0c = (11 : Int)))) hb21 h19
                        refine w_seqw ?_
                        refine w_region ?_
                        refine o_p rfl (p_eql rfl rfl) ?_
                        refine o_p rfl (p_assign (v := .c (.bool _)) rfl) ?_
                        refine o_end (fr' := [(0, .c (.int _ _)), (2, .c (.int _ _)), (3, .c (.int _ _)), (4, .c (.bool _)), (6, .c (.bool _)), (8, .c (.bool _)), (10, .c (.bool _)), (12, .c (.bool _)), (14, .c (.bool _)), (16, .c (.bool _)), (18, .c (.bool _)), (20, .c (.bool _)), (22, .c (.bool _)), (24, .c (.bool _)), (26, .c (.bool _)), (28, .any), (30, .any)]) rfl ?_
                        refine e_kw ?_
                        refine w_cond _ rfl (fun hb23 => ?_) (fun hb23 => ?_)
                        · skip
                          have h23 := cond_t (b := (decide (p0c = (12 : Int)))) hb23 h21
                          refine w_seqw ?_
                          refine w_region ?_
                          refine o_p rfl (p_assign (v := .c (.int _ _)) rfl) ?_
                          refine o_end (fr' := [(0, .c (.int _ _)), (2, .c (.int _ _)), (3, .c (.int _ _)), (4, .c (.bool _)), (6, .c (.bool _)), (8, .c (.bool _)), (10, .c (.bool _)), (12, .c (.bool _)), (14, .c (.bool _)), (16, .c (.bool _)), (18, .c (.bool _)), (20, .c (.bool _)), (22, .c (.bool _)), (24, .c (.bool _)), (26, .c (.bool _)), (28, .any), (30, .any)]) rfl ?_
                          refine e_kw ?_
                          refine w_ret ?_
                          refine e_blk_r ?_
                          refine e_seq_r ?_
                          have he24 := Option.some.inj h23
                          subst he24
                          refine e_ret (rs' := [.tmp 2]) rfl ?_
                          refine r_tmp (v := .c (.int _ _)) rfl ?_
                          refine r_nil ?_
                          exact fin_gen [] rfl rfl rfl (AV.le_refl _) st_nil
                        · skip
                          have h23 := cond_f (b := (decide (p0c = (12 : Int)))) hb23 h21
                          refine w_seqw ?_
                          refine w_region ?_
                          refine o_p rfl (p_eql rfl rfl) ?_
                          refine o_p rfl (p_assign (v := .c (.bool _)) rfl) ?_
                          refine o_end (fr' := [(0, .c (.int _ _)), (2, .c (.int _ _)), (3, .c (.int _ _)), (4, .c (.bool _)), (6, .c (.bool _)), (8, .c (.bool _)), (10, .c (.bool _)), (12, .c (.bool _)), (14, .c (.bool _)), (16, .c (.bool _)), (18, .c (.bool _)), (20, .c (.bool _)), (22, .c (.bool _)), (24, .c (.bool _)), (26, .c (.bool _)), (28, .c (.bool _)), (30, .any)]) rfl ?_
                          refine e_kw ?_
                          refine w_cond _ rfl (fun hb25 => ?_) (fun hb25 => ?_)
                          · skip
                            have h25 := cond_t (b := (decide (p0c = (13 : Int)))) hb25 h23
                            refine w_seqw ?_
                            refine w_region ?_
                            refine o_p rfl (p_assign (v := .c (.int _ _)) rfl) ?_
                            refine o_end (fr' := [(0, .c (.int _ _)), (2, .c (.int _ _)), (3, .c (.int _ _)), (4, .c (.bool _)), (6, .c (.bool _)), (8, .c (.bool _)), (10, .c (.bool _)), (12, .c (.bool _)), (14, .c (.bool _)), (16, .c (.bool _)), (18, .c (.bool _)), (20, .c (.bool _)), (22, .c (.bool _)), (24, .c (.bool _)), (26, .c (.bool _)), (28, .c (.bool _)), (30, .any)]) rfl ?_
                            refine e_kw ?_
                            refine w_ret ?_
                            refine e_blk_r ?_
                            refine e_seq_r ?_
                            have he26 := Option.some.inj h25
                            subst he26
                            refine e_ret (rs' := [.tmp 2]) rfl ?_
                            refine r_tmp (v := .c (.int _ _)) rfl ?_
                            refine r_nil ?_
                            exact fin_gen [] rfl rfl rfl (AV.le_refl _) st_nil
                          · skip
                            have h25 := cond_f (b := (decide (p0c = (13 : Int)))) hb25 h23
                            refine w_seqw ?_
                            refine w_region ?_
                            refine o_p rfl (p_eql rfl rfl) ?_
                            refine o_p rfl (p_assign (v := .c (.bool _)) rfl) ?_
                            refine o_end (fr' := [(0, .c (.int _ _)), (2, .c (.int _ _)), (3, .c (.int _ _)), (4, .c (.bool _)), (6, .c (.bool _)), (8, .c (.bool _)), (10, .c (.bool _)), (12, .c (.bool _)), (14, .c (.bool _)), (16, .c (.bool _)), (18, .c (.bool _)), (20, .c (.bool _)), (22, .c (.bool _)), (24, .c (.bool _)), (26, .c (.bool _)), (28, .c (.bool _)), (30, .c (.bool _))]) rfl ?_
                            refine e_kw ?_
                            refine w_cond _ rfl (fun hb27 => ?_) (fun hb27 => ?_)
                            · skip
                              have h27 := cond_t (b := (decide (p0c = (14 : Int)))) hb27 h25
                              refine w_seqw ?_
                              refine w_region ?_
                              refine o_p rfl (p_assign (v := .c (.int _ _)) rfl) ?_
                              refine o_end (fr' := [(0, .c (.int _ _)), (2, .c (.int _ _)), (3, .c (.int _ _)), (4, .c (.bool _)), (6, .c (.bool _)), (8, .c (.bool _)), (10, .c (.bool _)), (12, .c (.bool _)), (14, .c (.bool _)), (16, .c (.bool _)), (18, .c (.bool _)), (20, .c (.bool _)), (22, .c (.bool _)), (24, .c (.bool _)), (26, .c (.bool _)), (28, .c (.bool _)), (30, .c (.bool _))]) rfl ?_
                              refine e_kw ?_
                              refine w_ret ?_
                              refine e_blk_r ?_
                              refine e_seq_r ?_
                              have he28 := Option.some.inj h27
                              subst he28
                              refine e_ret (rs' := [.tmp 2]) rfl ?_
                              refine r_tmp (v := .c (.int _ _)) rfl ?_
                              refine r_nil ?_
                              exact fin_gen [] rfl rfl rfl (AV.le_refl _) st_nil
                            · skip
                              have h27 := cond_f (b := (decide (p0c = (14 : Int)))) hb27 h25
                              refine w_skip ?_
                              refine e_blk_n ?_
                              refine e_kw ?_
                              refine w_seqw ?_
                              refine w_region ?_
                              refine o_p rfl (p_assign (v := .c (.int _ _)) rfl) ?_
                              refine o_end (fr' := [(0, .c (.int _ _)), (2, .c (.int _ _)), (3, .c (.int _ _)), (4, .c (.bool _)), (6, .c (.bool _)), (8, .c (.bool _)), (10, .c (.bool _)), (12, .c (.bool _)), (14, .c (.bool _)), (16, .c (.bool _)), (18, .c (.bool _)), (20, .c (.bool _)), (22, .c (.bool _)), (24, .c (.bool _)), (26, .c (.bool _)), (28, .c (.bool _)), (30, .c (.bool _))]) rfl ?_
                              refine e_kw ?_
                              refine w_ret ?_
                              have he29 := Option.some.inj h27
                              subst he29
                              refine e_ret (rs' := [.tmp 2]) rfl ?_
                              refine r_tmp (v := .c (.int _ _)) rfl ?_
                              refine r_nil ?_
                              exact fin_gen [] rfl rfl rfl (AV.le_refl _) st_nil
noncomputable def ref27xMatch (p0c : ApiCommand) (p1e : ApiEvent) : Option Bool :=
  (ref27xkind p0c.Kind).bind fun (x1 : Int) => (gd ((decide (x1 = (0 : Int))) == false) (ref27xkind p0c.Kind)).bind fun (x3 : Int) => cond (cond (decide (x1 = (0 : Int))) true (!decide (p1e.Kind = x3))) (some false) (((cond (decide (p0c.Kind = (1 : Int))) (some (true, true, false, false)) (((cond (decide (p0c.Kind = (2 : Int))) (some (decide (p0c.Kind = (2 : Int)))) (some (decide (p0c.Kind = (4 : Int))))) : Option Bool).bind fun (x11 : Bool) => (cond x11 (some (true, false, false, false)) (cond (decide (p0c.Kind = (3 : Int))) (some (true, false, false, true)) (cond (decide (p0c.Kind = (5 : Int))) (some (true, true, true, true)) (cond (decide (p0c.Kind = (6 : Int))) (some (true, true, true, false)) (cond (decide (p0c.Kind = (7 : Int))) (some (false, true, false, true)) (cond (decide (p0c.Kind = (8 : Int))) (some (false, true, true, false)) (cond (decide (p0c.Kind = (9 : Int))) (some (false, false, true, true)) (cond (decide (p0c.Kind = (12 : Int))) (some (false, true, false, false)) (some (false, false, false, false)))))))))))) : Option (Bool × Bool × Bool × Bool)).bind fun (x7 : (Bool × Bool × Bool × Bool)) => (some (cond (cond (cond (cond (!x7.1) true (decide (p0c.Seq = p1e.Seq))) (cond (!x7.2.1) true (decide (p0c.Name = p1e.Name))) false) (cond (!x7.2.2.1) true (decide (p0c.Key = p1e.Key))) false) (cond (!x7.2.2.2) true (decide (p0c.N = p1e.N))) false)))
theorem w_ref27xMatch {p0c : ApiCommand} {p1e : ApiEvent} {res : Bool} (h : ref27xMatch p0c p1e = some res) : ACalls Try.prog 27 [.agg (AV.cs (rowApiCommand p0c)), .agg (AV.cs (rowApiEvent p1e))] [] (.c (.bool res)) [] := by
  unfold ref27xMatch at h
  refine acalls (fn := Try.f27) [0, 1, 2, 3, 4, 5, 6, 7, 8, 20, 22, 23, 25, 28, 30, 32, 34, 36, 38, 40] (by kernel_rfl) Try.func27 rfl (by kernel_rfl) (by kernel_rfl) ?_
  refine w_seqw ?_
  refine w_region ?_
  refine o_box (v := .agg [.c (.int _ _), .c (.int _ _), .c (.str _), .c (.str _), .c (.int _ _), .c (.int _ _), .c (.int _ _), .c (.str _), .c (PV.ls _ _ _), .c (PV.ls _ _ _), .c (.str _), .c (.int _ _), .c (.int _ _), .c (.int _ _), .c (.int _ _), .c (.int _ _), .c (.int _ _), .c (.int _ _), .c (.int _ _), .c (PV.ls _ _ _)]) (n := 0) (cs := [.c (.int _ _), .c (.int _ _), .c (.str _), .c (.str _), .c (.int _ _), .c (.int _ _), .c (.int _ _), .c (.str _), .c (PV.ls _ _ _), .c (PV.ls _ _ _), .c (.str _), .c (.int _ _), .c (.int _ _), .c (.int _ _), .c (.int _ _), .c (.int _ _), .c (.int _ _), .c (.int _ _), .c (.int _ _), .c (PV.ls _ _ _)]) (σ' := [[.c (.int _ _), .c (.int _ _), .c (.str _), .c (.str _), .c (.int _ _), .c (.int _ _), .c (.int _ _), .c (.str _), .c (PV.ls _ _ _), .c (PV.ls _ _ _), .c (.str _), .c (.int _ _), .c (.int _ _), .c (.int _ _), .c (.int _ _), .c (.int _ _), .c (.int _ _), .c (.int _ _), .c (.int _ _), .c (PV.ls _ _ _)]]) rfl rfl rfl rfl rfl ?_
  refine o_box (v := .agg [.c (.int _ _), .c (.int _ _), .c (.int _ _), .c (.int _ _), .c (.int _ _), .c (.int _ _), .c (.int _ _), .c (.str _), .c (.str _), .c (.int _ _), .c (.int _ _), .c (.str _), .c (PV.ls _ _ _), .c (PV.ls _ _ _), .c (.str _), .c (.int _ _), .c (.int _ _), .c (.int _ _), .c (.int _ _), .c (.int _ _), .c (.int _ _), .c (.int _ _), .c (.int _ _), .c (PV.ls _ _ _)]) (n := 1) (cs := [.c (.int _ _), .c (.int _ _), .c (.int _ _), .c (.int _ _), .c (.int _ _), .c (.int _ _), .c (.int _ _), .c (.str _), .c (.str _), .c (.int _ _), .c (.int _ _), .c (.str _), .c (PV.ls _ _ _), .c (PV.ls _ _ _), .c (.str _), .c (.int _ _), .c (.int _ _), .c (.int _ _), .c (.int _ _), .c (.int _ _), .c (.int _ _), .c (.int _ _), .c (.int _ _), .c (PV.ls _ _ _)]) (σ' := [[.c (.int _ _), .c (.int _ _), .c (.str _), .c (.str _), .c (.int _ _), .c (.int _ _), .c (.int _ _), .c (.str _), .c (PV.ls _ _ _), .c (PV.ls _ _ _), .c (.str _), .c (.int _ _), .c (.int _ _), .c (.int _ _), .c (.int _ _), .c (.int _ _), .c (.int _ _), .c (.int _ _), .c (.int _ _), .c (PV.ls _ _ _)], [.c (.int _ _), .c (.int _ _), .c (.int _ _), .c (.int _ _), .c (.int _ _), .c (.int _ _), .c (.int _ _), .c (.str _), .c (.str _), .c (.int _ _), .c (.int _ _), .c (.str _), .c (PV.ls _ _ _), .c (PV.ls _ _ _), .c (.str _), .c (.int _ _), .c (.int _ _), .c (.int _ _), .c (.int _ _), .c (.int _ _), .c (.int _ _), .c (.int _ _), .c (.int _ _), .c (PV.ls _ _ _)]]) rfl rfl rfl rfl rfl ?_
  refine o_p rfl (p_assign (v := .c (.bool _)) rfl) ?_
  refine o_end (fr' := [(0, .agg [.c (.int _ _), .c (.int _ _), .c (.str _), .c (.str _), .c (.int _ _), .c (.int _ _), .c (.int _ _), .c (.str _), .c (PV.ls _ _ _), .c (PV.ls _ _ _), .c (.str _), .c (.int _ _), .c (.int _ _), .c (.int _ _), .c (.int _ _), .c (.int _ _), .c (.int _ _), .c (.int _ _), .c (.int _ _), .c (PV.ls _ _ _)]), (1, .agg [.c (.int _ _), .c (.int _ _), .c (.int _ _), .c (.int _ _), .c (.int _ _), .c (.int _ _), .c (.int _ _), .c (.str _), .c (.str _), .c (.int _ _), .c (.int _ _), .c (.str _), .c (PV.ls _ _ _), .c (PV.ls _ _ _), .c (.str _), .c (.int _ _), .c (.int _ _), .c (.int _ _), .c (.int _ _), .c (.int _ _), .c (.int _ _), .c (.int _ _), .c (.int _ _), .c (PV.ls _ _ _)]), (2, .box 0 0), (3, .box 1 0), (4, .c (.bool _)), (5, .any), (6, .any), (7, .any), (8, .any), (20, .any), (22, .any), (23, .any), (25, .any), (28, .any), (30, .any), (32, .any), (34, .any), (36, .any), (38, .any), (40, .any)]) rfl ?_
  refine e_kw ?_
  refine w_seqw ?_
  refine w_seqw ?_
  refine w_planT [.q 0, .q 1, .q 2, .q 3, .q 4, .q 5, .q 6, .q 7, .q 8, .q 9, .q 10, .q 11] [(some 9, [2]), (some 10, [9]), (some 11, [10]), (some 12, [11]), (some 13, [12]), (some 14, [3, 13]), (some 15, [14, 13]), (some 16, [2, 13]), (some 17, [16, 13]), (some 18, [17, 13]), (some 19, [15, 18, 13]), (some 20, [13, 19])] [0, 1, 3, 7, 15, 31, 63, 31, 159, 415, 1023, 2047] (by kernel_rfl) ?_
  refine d_q rfl (qv_p rfl (p_fa tf44x0 rfl)) ?_
  refine d_q rfl (qv_p rfl (p_load (v := .c (.int _ _)) tv3 rfl rfl rfl)) ?_
  obtain ⟨x1, hx1, h2⟩ := bind_s h
  refine d_q rfl (qv_call (v := .c (.int _ _)) rfl (w_ref27xkind hx1) ⟨(AV.le_refl _), trivial⟩ rfl) ?_
  refine d_q rfl (qv_p rfl (p_eql rfl rfl)) ?_
  refine d_q rfl (qv_p rfl (p_move (v := .c (.bool _)) rfl)) ?_
  refine d_g rfl rfl rfl (fun hc => qv_p rfl (p_fa tf46x1 rfl)) ?_
  refine d_g rfl rfl rfl (fun hc => qv_p rfl (p_load (v := .c (.int _ _)) tv3 (gx rfl hc) rfl rfl)) ?_
  refine d_g rfl rfl rfl (fun hc => qv_p rfl (p_fa tf44x0 rfl)) ?_
  refine d_g rfl rfl rfl (fun hc => qv_p rfl (p_load (v := .c (.int _ _)) tv3 (gx rfl hc) rfl rfl)) ?_
  obtain ⟨x3, hx3, h4⟩ := bind_s h2
  refine d_g rfl rfl rfl (fun hc => qv_call (v := .c (.int _ _)) rfl (w_ref27xkind (gd_some hx3 hc)) ⟨(le_gv (gx rfl hc) (AV.le_refl _)), trivial⟩ rfl) ?_
  refine d_g rfl rfl rfl (fun hc => qv_p rfl (p_neq (gx rfl hc) (gx rfl hc))) ?_
  refine d_q rfl (qv_p rfl (p_pickz rfl rfl rfl (fun e => keq e))) ?_
  refine d_end (fr' := [(0, .agg [.c (.int _ _), .c (.int _ _), .c (.str _), .c (.str _), .c (.int _ _), .c (.int _ _), .c (.int _ _), .c (.str _), .c (PV.ls _ _ _), .c (PV.ls _ _ _), .c (.str _), .c (.int _ _), .c (.int _ _), .c (.int _ _), .c (.int _ _), .c (.int _ _), .c (.int _ _), .c (.int _ _), .c (.int _ _), .c (PV.ls _ _ _)]), (1, .agg [.c (.int _ _), .c (.int _ _), .c (.int _ _), .c (.int _ _), .c (.int _ _), .c (.int _ _), .c (.int _ _), .c (.str _), .c (.str _), .c (.int _ _), .c (.int _ _), .c (.str _), .c (PV.ls _ _ _), .c (PV.ls _ _ _), .c (.str _), .c (.int _ _), .c (.int _ _), .c (.int _ _), .c (.int _ _), .c (.int _ _), .c (.int _ _), .c (.int _ _), .c (.int _ _), .c (PV.ls _ _ _)]), (2, .box 0 0), (3, .box 1 0), (4, .c (.bool _)), (5, .any), (6, .any), (7, .any), (8, .any), (20, .c (.bool _)), (22, .any), (23, .any), (25, .any), (28, .any), (30, .any), (32, .any), (34, .any), (36, .any), (38, .any), (40, .any)]) rfl ?_
  refine e_kw ?_
  refine w_cond _ rfl (fun hb5 => ?_) (fun hb5 => ?_)
  · skip
    have h5 := cond_t (b := (cond (decide (x1 = (0 : Int))) true (!decide (p1e.Kind = x3)))) hb5 h4
    refine w_seqw ?_
    refine w_region ?_
    refine o_p rfl (p_assign (v := .c (.bool _)) rfl) ?_
    refine o_end (fr' := [(0, .agg [.c (.int _ _), .c (.int _ _), .c (.str _), .c (.str _), .c (.int _ _), .c (.int _ _), .c (.int _ _), .c (.str _), .c (PV.ls _ _ _), .c (PV.ls _ _ _), .c (.str _), .c (.int _ _), .c (.int _ _), .c (.int _ _), .c (.int _ _), .c (.int _ _), .c (.int _ _), .c (.int _ _), .c (.int _ _), .c (PV.ls _ _ _)]), (1, .agg [.c (.int _ _), .c (.int _ _), .c (.int _ _), .c (.int _ _), .c (.int _ _), .c (.int _ _), .c (.int _ _), .c (.str _), .c (.str _), .c (.int _ _), .c (.int _ _), .c (.str _), .c (PV.ls _ _ _), .c (PV.ls _ _ _), .c (.str _), .c (.int _ _), .c (.int _ _), .c (.int _ _), .c (.int _ _), .c (.int _ _), .c (.int _ _), .c (.int _ _), .c (.int _ _), .c (PV.ls _ _ _)]), (2, .box 0 0), (3, .box 1 0), (4, .c (.bool _)), (5, .any), (6, .any), (7, .any), (8, .any), (20, .c (.bool _)), (22, .any), (23, .any), (25, .any), (28, .any), (30, .any), (32, .any), (34, .any), (36, .any), (38, .any), (40, .any)]) rfl ?_
    refine e_kw ?_
    refine w_ret ?_
    refine e_seq_r ?_
    have he6 := Option.some.inj h5
    subst he6
    refine e_ret (rs' := [.tmp 4]) rfl ?_
    refine r_tmp (v := .c (.bool _)) rfl ?_
    refine r_nil ?_
    exact fin_gen [] rfl rfl rfl (AV.le_refl _) st_nil
  · skip
    have h5 := cond_f (b := (cond (decide (x1 = (0 : Int))) true (!decide (p1e.Kind = x3)))) hb5 h4
    refine w_skip ?_
    refine e_kw ?_
    refine w_seqw ?_
    refine w_region ?_
    refine o_p rfl (p_assign (v := .c (.bool _)) rfl) ?_
    refine o_p rfl (p_assign (v := .c (.bool _)) rfl) ?_
    refine o_p rfl (p_assign (v := .c (.bool _)) rfl) ?_
    refine o_p rfl (p_assign (v := .c (.bool _)) rfl) ?_
    refine o_end (fr' := [(0, .agg [.c (.int _ _), .c (.int _ _), .c (.str _), .c (.str _), .c (.int _ _), .c (.int _ _), .c (.int _ _), .c (.str _), .c (PV.ls _ _ _), .c (PV.ls _ _ _), .c (.str _), .c (.int _ _), .c (.int _ _), .c (.int _ _), .c (.int _ _), .c (.int _ _), .c (.int _ _), .c (.int _ _), .c (.int _ _), .c (PV.ls _ _ _)]), (1, .agg [.c (.int _ _), .c (.int _ _), .c (.int _ _), .c (.int _ _), .c (.int _ _), .c (.int _ _), .c (.int _ _), .c (.str _), .c (.str _), .c (.int _ _), .c (.int _ _), .c (.str _), .c (PV.ls _ _ _), .c (PV.ls _ _ _), .c (.str _), .c (.int _ _), .c (.int _ _), .c (.int _ _), .c (.int _ _), .c (.int _ _), .c (.int _ _), .c (.int _ _), .c (.int _ _), .c (PV.ls _ _ _)]), (2, .box 0 0), (3, .box 1 0), (4, .c (.bool _)), (5, .c (.bool _)), (6, .c (.bool _)), (7, .c (.bool _)), (8, .c (.bool _)), (20, .c (.bool _)), (22, .any), (23, .any), (25, .any), (28, .any), (30, .any), (32, .any), (34, .any), (36, .any), (38, .any), (40, .any)]) rfl ?_
    refine e_kw ?_
    obtain ⟨x7, hx7, h8⟩ := bind_s h5
    refine w_join (fun j9 => x7 = j9) (fun (j9 : (Bool × Bool × Bool × Bool)) => ([(2, .box 0 0), (3, .box 1 0), (5, .c (.bool j9.1)), (6, .c (.bool j9.2.1)), (7, .c (.bool j9.2.2.1)), (8, .c (.bool j9.2.2.2))] : Fr)) (fun (j9 : (Bool × Bool × Bool × Bool)) => ([[.c (.int .i64 p0c.Kind), .c (.int .i64 p0c.Seq), .c (.str p0c.Name), .c (.str p0c.Key), .c (.int .i64 p0c.N), .c (.int .i64 p0c.Data.Kind), .c (.int .i64 p0c.Data.Int), .c (.str p0c.Data.Text), .c (PV.ls 5 rowApiValue p0c.Data.Items), .c (PV.ls 1 rowS p0c.Data.Keys), .c (.str p0c.Opts.Queue), .c (.int .i64 p0c.Opts.ToStart), .c (.int .i64 p0c.Opts.ToClose), .c (.int .i64 p0c.Opts.Total), .c (.int .i64 p0c.Opts.Beat), .c (.int .i64 p0c.Opts.First), .c (.int .i64 p0c.Opts.Coef), .c (.int .i64 p0c.Opts.Most), .c (.int .i64 p0c.Opts.Attempts), .c (PV.ls 1 rowS p0c.Opts.Fatal)], [.c (.int .i64 p1e.ID), .c (.int .i64 p1e.Kind), .c (.int .i64 p1e.Time), .c (.int .i64 p1e.Seq), .c (.int .i64 p1e.Ref), .c (.int .i64 p1e.N), .c (.int .i64 p1e.Code), .c (.str p1e.Name), .c (.str p1e.Key), .c (.int .i64 p1e.Data.Kind), .c (.int .i64 p1e.Data.Int), .c (.str p1e.Data.Text), .c (PV.ls 5 rowApiValue p1e.Data.Items), .c (PV.ls 1 rowS p1e.Data.Keys), .c (.str p1e.Opts.Queue), .c (.int .i64 p1e.Opts.ToStart), .c (.int .i64 p1e.Opts.ToClose), .c (.int .i64 p1e.Opts.Total), .c (.int .i64 p1e.Opts.Beat), .c (.int .i64 p1e.Opts.First), .c (.int .i64 p1e.Opts.Coef), .c (.int .i64 p1e.Opts.Most), .c (.int .i64 p1e.Opts.Attempts), .c (PV.ls 1 rowS p1e.Opts.Fatal)]] : St)) ?_ ?_
    · skip
      refine w_seqw ?_
      refine w_region ?_
      refine o_p rfl (p_fa tf44x0 rfl) ?_
      refine o_p rfl (p_load (v := .c (.int _ _)) tv3 rfl rfl rfl) ?_
      refine o_end (fr' := [(0, .agg [.c (.int _ _), .c (.int _ _), .c (.str _), .c (.str _), .c (.int _ _), .c (.int _ _), .c (.int _ _), .c (.str _), .c (PV.ls _ _ _), .c (PV.ls _ _ _), .c (.str _), .c (.int _ _), .c (.int _ _), .c (.int _ _), .c (.int _ _), .c (.int _ _), .c (.int _ _), .c (.int _ _), .c (.int _ _), .c (PV.ls _ _ _)]), (1, .agg [.c (.int _ _), .c (.int _ _), .c (.int _ _), .c (.int _ _), .c (.int _ _), .c (.int _ _), .c (.int _ _), .c (.str _), .c (.str _), .c (.int _ _), .c (.int _ _), .c (.str _), .c (PV.ls _ _ _), .c (PV.ls _ _ _), .c (.str _), .c (.int _ _), .c (.int _ _), .c (.int _ _), .c (.int _ _), .c (.int _ _), .c (.int _ _), .c (.int _ _), .c (.int _ _), .c (PV.ls _ _ _)]), (2, .box 0 0), (3, .box 1 0), (4, .c (.bool _)), (5, .c (.bool _)), (6, .c (.bool _)), (7, .c (.bool _)), (8, .c (.bool _)), (20, .c (.bool _)), (22, .c (.int _ _)), (23, .any), (25, .any), (28, .any), (30, .any), (32, .any), (34, .any), (36, .any), (38, .any), (40, .any)]) rfl ?_
      refine e_kw ?_
      refine w_block ?_
      refine w_seqw ?_
      refine w_region ?_
      refine o_p rfl (p_eql rfl rfl) ?_
      refine o_p rfl (p_assign (v := .c (.bool _)) rfl) ?_
      refine o_end (fr' := [(0, .agg [.c (.int _ _), .c (.int _ _), .c (.str _), .c (.str _), .c (.int _ _), .c (.int _ _), .c (.int _ _), .c (.str _), .c (PV.ls _ _ _), .c (PV.ls _ _ _), .c (.str _), .c (.int _ _), .c (.int _ _), .c (.int _ _), .c (.int _ _), .c (.int _ _), .c (.int _ _), .c (.int _ _), .c (.int _ _), .c (PV.ls _ _ _)]), (1, .agg [.c (.int _ _), .c (.int _ _), .c (.int _ _), .c (.int _ _), .c (.int _ _), .c (.int _ _), .c (.int _ _), .c (.str _), .c (.str _), .c (.int _ _), .c (.int _ _), .c (.str _), .c (PV.ls _ _ _), .c (PV.ls _ _ _), .c (.str _), .c (.int _ _), .c (.int _ _), .c (.int _ _), .c (.int _ _), .c (.int _ _), .c (.int _ _), .c (.int _ _), .c (.int _ _), .c (PV.ls _ _ _)]), (2, .box 0 0), (3, .box 1 0), (4, .c (.bool _)), (5, .c (.bool _)), (6, .c (.bool _)), (7, .c (.bool _)), (8, .c (.bool _)), (20, .c (.bool _)), (22, .c (.int _ _)), (23, .c (.bool _)), (25, .any), (28, .any), (30, .any), (32, .any), (34, .any), (36, .any), (38, .any), (40, .any)]) rfl ?_
      refine e_kw ?_
      refine w_cond _ rfl (fun hb10 => ?_) (fun hb10 => ?_)
      · skip
        have h10 := cond_t (b := (decide (p0c.Kind = (1 : Int)))) hb10 hx7
        refine w_region ?_
        refine o_p rfl (p_assign (v := .c (.bool _)) rfl) ?_
        refine o_p rfl (p_assign (v := .c (.bool _)) rfl) ?_
        refine o_end (fr' := [(0, .agg [.c (.int _ _), .c (.int _ _), .c (.str _), .c (.str _), .c (.int _ _), .c (.int _ _), .c (.int _ _), .c (.str _), .c (PV.ls _ _ _), .c (PV.ls _ _ _), .c (.str _), .c (.int _ _), .c (.int _ _), .c (.int _ _), .c (.int _ _), .c (.int _ _), .c (.int _ _), .c (.int _ _), .c (.int _ _), .c (PV.ls _ _ _)]), (1, .agg [.c (.int _ _), .c (.int _ _), .c (.int _ _), .c (.int _ _), .c (.int _ _), .c (.int _ _), .c (.int _ _), .c (.str _), .c (.str _), .c (.int _ _), .c (.int _ _), .c (.str _), .c (PV.ls _ _ _), .c (PV.ls _ _ _), .c (.str _), .c (.int _ _), .c (.int _ _), .c (.int _ _), .c (.int _ _), .c (.int _ _), .c (.int _ _), .c (.int _ _), .c (.int _ _), .c (PV.ls _ _ _)]), (2, .box 0 0), (3, .box 1 0), (4, .c (.bool _)), (5, .c (.bool _)), (6, .c (.bool _)), (7, .c (.bool _)), (8, .c (.bool _)), (20, .c (.bool _)), (22, .c (.int _ _)), (23, .c (.bool _)), (25, .any), (28, .any), (30, .any), (32, .any), (34, .any), (36, .any), (38, .any), (40, .any)]) rfl ?_
        refine e_blk_n ?_
        exact e_j _ (Option.some.inj h10).symm (w_weak [] 2 rfl rfl rfl rfl ⟨(AV.le_refl _), (AV.le_refl _), (AV.le_refl _), (AV.le_refl _), (AV.le_refl _), (AV.le_refl _), trivial⟩ (st_r rfl (st_r rfl st_nil)))
      · skip
        have h10 := cond_f (b := (decide (p0c.Kind = (1 : Int)))) hb10 hx7
        obtain ⟨x11, hx11, h12⟩ := bind_s h10
        refine w_join (fun j13 => x11 = j13) (fun (j13 : Bool) => ([(2, .box 0 0), (3, .box 1 0), (5, .c (.bool false)), (6, .c (.bool false)), (7, .c (.bool false)), (8, .c (.bool false)), (22, .c (.int .i64 p0c.Kind)), (25, .c (.bool j13))] : Fr)) (fun (j13 : Bool) => ([[.c (.int .i64 p0c.Kind), .c (.int .i64 p0c.Seq), .c (.str p0c.Name), .c (.str p0c.Key), .c (.int .i64 p0c.N), .c (.int .i64 p0c.Data.Kind), .c (.int .i64 p0c.Data.Int), .c (.str p0c.Data.Text), .c (PV.ls 5 rowApiValue p0c.Data.Items), .c (PV.ls 1 rowS p0c.Data.Keys), .c (.str p0c.Opts.Queue), .c (.int .i64 p0c.Opts.ToStart), .c (.int .i64 p0c.Opts.ToClose), .c (.int .i64 p0c.Opts.Total), .c (.int .i64 p0c.Opts.Beat), .c (.int .i64 p0c.Opts.First), .c (.int .i64 p0c.Opts.Coef), .c (.int .i64 p0c.Opts.Most), .c (.int .i64 p0c.Opts.Attempts), .c (PV.ls 1 rowS p0c.Opts.Fatal)], [.c (.int .i64 p1e.ID), .c (.int .i64 p1e.Kind), .c (.int .i64 p1e.Time), .c (.int .i64 p1e.Seq), .c (.int .i64 p1e.Ref), .c (.int .i64 p1e.N), .c (.int .i64 p1e.Code), .c (.str p1e.Name), .c (.str p1e.Key), .c (.int .i64 p1e.Data.Kind), .c (.int .i64 p1e.Data.Int), .c (.str p1e.Data.Text), .c (PV.ls 5 rowApiValue p1e.Data.Items), .c (PV.ls 1 rowS p1e.Data.Keys), .c (.str p1e.Opts.Queue), .c (.int .i64 p1e.Opts.ToStart), .c (.int .i64 p1e.Opts.ToClose), .c (.int .i64 p1e.Opts.Total), .c (.int .i64 p1e.Opts.Beat), .c (.int .i64 p1e.Opts.First), .c (.int .i64 p1e.Opts.Coef), .c (.int .i64 p1e.Opts.Most), .c (.int .i64 p1e.Opts.Attempts), .c (PV.ls 1 rowS p1e.Opts.Fatal)]] : St)) ?_ ?_
        · skip
          refine w_seqw ?_
          refine w_region ?_
          refine o_p rfl (p_eql rfl rfl) ?_
          refine o_p rfl (p_assign (v := .c (.bool _)) rfl) ?_
          refine o_end (fr' := [(0, .agg [.c (.int _ _), .c (.int _ _), .c (.str _), .c (.str _), .c (.int _ _), .c (.int _ _), .c (.int _ _), .c (.str _), .c (PV.ls _ _ _), .c (PV.ls _ _ _), .c (.str _), .c (.int _ _), .c (.int _ _), .c (.int _ _), .c (.int _ _), .c (.int _ _), .c (.int _ _), .c (.int _ _), .c (.int _ _), .c (PV.ls _ _ _)]), (1, .agg [.c (.int _ _), .c (.int _ _), .c (.int _ _), .c (.int _ _), .c (.int _ _), .c (.int _ _), .c (.int _ _), .c (.str _), .c (.str _), .c (.int _ _), .c (.int _ _), .c (.str _), .c (PV.ls _ _ _), .c (PV.ls _ _ _), .c (.str _), .c (.int _ _), .c (.int _ _), .c (.int _ _), .c (.int _ _), .c (.int _ _), .c (.int _ _), .c (.int _ _), .c (.int _ _), .c (PV.ls _ _ _)]), (2, .box 0 0), (3, .box 1 0), (4, .c (.bool _)), (5, .c (.bool _)), (6, .c (.bool _)), (7, .c (.bool _)), (8, .c (.bool _)), (20, .c (.bool _)), (22, .c (.int _ _)), (23, .c (.bool _)), (25, .c (.bool _)), (28, .any), (30, .any), (32, .any), (34, .any), (36, .any), (38, .any), (40, .any)]) rfl ?_
          refine e_kw ?_
          refine w_cond _ rfl (fun hb14 => ?_) (fun hb14 => ?_)
          · skip
            have h14 := cond_t (b := (decide (p0c.Kind = (2 : Int)))) hb14 hx11
            refine w_skip ?_
            exact e_j _ (Option.some.inj h14).symm (w_weak [] 2 rfl rfl rfl rfl ⟨(AV.le_refl _), (AV.le_refl _), (AV.le_refl _), (AV.le_refl _), (AV.le_refl _), (AV.le_refl _), (AV.le_refl _), (AV.le_refl _), trivial⟩ (st_r rfl (st_r rfl st_nil)))
          · skip
            have h14 := cond_f (b := (decide (p0c.Kind = (2 : Int)))) hb14 hx11
            refine w_region ?_
            refine o_p rfl (p_eql rfl rfl) ?_
            refine o_p rfl (p_assign (v := .c (.bool _)) rfl) ?_
            refine o_end (fr' := [(0, .agg [.c (.int _ _), .c (.int _ _), .c (.str _), .c (.str _), .c (.int _ _), .c (.int _ _), .c (.int _ _), .c (.str _), .c (PV.ls _ _ _), .c (PV.ls _ _ _), .c (.str _), .c (.int _ _), .c (.int _ _), .c (.int _ _), .c (.int _ _), .c (.int _ _), .c (.int _ _), .c (.int _ _), .c (.int _ _), .c (PV.ls _ _ _)]), (1, .agg [.c (.int _ _), .c (.int _ _), .c (.int _ _), .c (.int _ _), .c (.int _ _), .c (.int _ _), .c (.int _ _), .c (.str _), .c (.str _), .c (.int _ _), .c (.int _ _), .c (.str _), .c (PV.ls _ _ _), .c (PV.ls _ _ _), .c (.str _), .c (.int _ _), .c (.int _ _), .c (.int _ _), .c (.int _ _), .c (.int _ _), .c (.int _ _), .c (.int _ _), .c (.int _ _), .c (PV.ls _ _ _)]), (2, .box 0 0), (3, .box 1 0), (4, .c (.bool _)), (5, .c (.bool _)), (6, .c (.bool _)), (7, .c (.bool _)), (8, .c (.bool _)), (20, .c (.bool _)), (22, .c (.int _ _)), (23, .c (.bool _)), (25, .c (.bool _)), (28, .any), (30, .any), (32, .any), (34, .any), (36, .any), (38, .any), (40, .any)]) rfl ?_
            exact e_j _ (Option.some.inj h14).symm (w_weak [] 2 rfl rfl rfl rfl ⟨(AV.le_refl _), (AV.le_refl _), (AV.le_refl _), (AV.le_refl _), (AV.le_refl _), (AV.le_refl _), (AV.le_refl _), (AV.le_refl _), trivial⟩ (st_r rfl (st_r rfl st_nil)))
        · skip
          intro j13 hj15
          subst hj15
          refine w_cond _ rfl (fun hb16 => ?_) (fun hb16 => ?_)
          · skip
            have h16 := cond_t (b := x11) hb16 h12
            refine w_region ?_
            refine o_p rfl (p_assign (v := .c (.bool _)) rfl) ?_
            refine o_end (fr' := [(0, .any), (1, .any), (2, .box 0 0), (3, .box 1 0), (4, .any), (5, .c (.bool _)), (6, .c (.bool _)), (7, .c (.bool _)), (8, .c (.bool _)), (20, .any), (22, .c (.int _ _)), (23, .any), (25, .c (.bool _)), (28, .any), (30, .any), (32, .any), (34, .any), (36, .any), (38, .any), (40, .any)]) rfl ?_
            refine e_blk_n ?_
            exact e_j _ (Option.some.inj h16).symm (w_weak [] 2 rfl rfl rfl rfl ⟨(AV.le_refl _), (AV.le_refl _), (AV.le_refl _), (AV.le_refl _), (AV.le_refl _), (AV.le_refl _), trivial⟩ (st_r rfl (st_r rfl st_nil)))
          · skip
            have h16 := cond_f (b := x11) hb16 h12
            refine w_seqw ?_
            refine w_region ?_
            refine o_p rfl (p_eql rfl rfl) ?_
            refine o_p rfl (p_assign (v := .c (.bool _)) rfl) ?_
            refine o_end (fr' := [(0, .any), (1, .any), (2, .box 0 0), (3, .box 1 0), (4, .any), (5, .c (.bool _)), (6, .c (.bool _)), (7, .c (.bool _)), (8, .c (.bool _)), (20, .any), (22, .c (.int _ _)), (23, .any), (25, .c (.bool _)), (28, .c (.bool _)), (30, .any), (32, .any), (34, .any), (36, .any), (38, .any), (40, .any)]) rfl ?_
            refine e_kw ?_
            refine w_cond _ rfl (fun hb17 => ?_) (fun hb17 => ?_)
            · skip
              have h17 := cond_t (b := (decide (p0c.Kind = (3 : Int)))) hb17 h16
              refine w_region ?_
              refine o_p rfl (p_assign (v := .c (.bool _)) rfl) ?_
              refine o_p rfl (p_assign (v := .c (.bool _)) rfl) ?_
              refine o_end (fr' := [(0, .any), (1, .any), (2, .box 0 0), (3, .box 1 0), (4, .any), (5, .c (.bool _)), (6, .c (.bool _)), (7, .c (.bool _)), (8, .c (.bool _)), (20, .any), (22, .c (.int _ _)), (23, .any), (25, .c (.bool _)), (28, .c (.bool _)), (30, .any), (32, .any), (34, .any), (36, .any), (38, .any), (40, .any)]) rfl ?_
              refine e_blk_n ?_
              exact e_j _ (Option.some.inj h17).symm (w_weak [] 2 rfl rfl rfl rfl ⟨(AV.le_refl _), (AV.le_refl _), (AV.le_refl _), (AV.le_refl _), (AV.le_refl _), (AV.le_refl _), trivial⟩ (st_r rfl (st_r rfl st_nil)))
            · skip
              have h17 := cond_f (b := (decide (p0c.Kind = (3 : Int)))) hb17 h16
              refine w_seqw ?_
              refine w_region ?_
              refine o_p rfl (p_eql rfl rfl) ?_
              refine o_p rfl (p_assign (v := .c (.bool _)) rfl) ?_
              refine o_end (fr' := [(0, .any), (1, .any), (2, .box 0 0), (3, .box 1 0), (4, .any), (5, .c (.bool _)), (6, .c (.bool _)), (7, .c (.bool _)), (8, .c (.bool _)), (20, .any), (22, .c (.int _ _)), (23, .any), (25, .c (.bool _)), (28, .c (.bool _)), (30, .c (.bool _)), (32, .any), (34, .any), (36, .any), (38, .any), (40, .any)]) rfl ?_
              refine e_kw ?_
              refine w_cond _ rfl (fun hb18 => ?_) (fun hb18 => ?_)
              · skip
                have h18 := cond_t (b := (decide (p0c.Kind = (5 : Int)))) hb18 h17
                refine w_region ?_
                refine o_p rfl (p_assign (v := .c (.bool _)) rfl) ?_
                refine o_p rfl (p_assign (v := .c (.bool _)) rfl) ?_
                refine o_p rfl (p_assign (v := .c (.bool _)) rfl) ?_
                refine o_p rfl (p_assign (v := .c (.bool _)) rfl) ?_
                refine o_end (fr' := [(0, .any), (1, .any), (2, .box 0 0), (3, .box 1 0), (4, .any), (5, .c (.bool _)), (6, .c (.bool _)), (7, .c (.bool _)), (8, .c (.bool _)), (20, .any), (22, .c (.int _ _)), (23, .any), (25, .c (.bool _)), (28, .c (.bool _)), (30, .c (.bool _)), (32, .any), (34, .any), (36, .any), (38, .any), (40, .any)]) rfl ?_
                refine e_blk_n ?_
                exact e_j _ (Option.some.inj h18).symm (w_weak [] 2 rfl rfl rfl rfl ⟨(AV.le_refl _), (AV.le_refl _), (AV.le_refl _), (AV.le_refl _), (AV.le_refl _), (AV.le_refl _), trivial⟩ (st_r rfl (st_r rfl st_nil)))
              · skip
                have h18 := cond_f (b := (decide (p0c.Kind = (5 : Int)))) hb18 h17
                refine w_seqw ?_
                refine w_region ?_
                refine o_p rfl (p_eql rfl rfl) ?_
                refine o_p rfl (p_assign (v := .c (.bool _)) rfl) ?_
                refine o_end (fr' := [(0, .any), (1, .any), (2, .box 0 0), (3, .box 1 0), (4, .any), (5, .c (.bool _)), (6, .c (.bool _)), (7, .c (.bool _)), (8, .c (.bool _)), (20, .any), (22, .c (.int _ _)), (23, .any), (25, .c (.bool _)), (28, .c (.bool _)), (30, .c (.bool _)), (32, .c (.bool _)), (34, .any), (36, .any), (38, .any), (40, .any)]) rfl ?_
                refine e_kw ?_
                refine w_cond _ rfl (fun hb19 => ?_) (fun hb19 => ?_)
                · skip
                  have h19 := cond_t (b := (decide (p0c.Kind = (6 : Int)))) hb19 h18
                  refine w_region ?_
                  refine o_p rfl (p_assign (v := .c (.bool _)) rfl) ?_
                  refine o_p rfl (p_assign (v := .c (.bool _)) rfl) ?_
                  refine o_p rfl (p_assign (v := .c (.bool _)) rfl) ?_
                  refine o_end (fr' := [(0, .any), (1, .any), (2, .box 0 0), (3, .box 1 0), (4, .any), (5, .c (.bool _)), (6, .c (.bool _)), (7, .c (.bool _)), (8, .c (.bool _)), (20, .any), (22, .c (.int _ _)), (23, .any), (25, .c (.bool _)), (28, .c (.bool _)), (30, .c (.bool _)), (32, .c (.bool _)), (34, .any), (36, .any), (38, .any), (40, .any)]) rfl ?_
                  refine e_blk_n ?_
                  exact e_j _ (Option.some.inj h19).symm (w_weak [] 2 rfl rfl rfl rfl ⟨(AV.le_refl _), (AV.le_refl _), (AV.le_refl _), (AV.le_refl _), (AV.le_refl _), (AV.le_refl _), trivial⟩ (st_r rfl (st_r rfl st_nil)))
                · skip
                  have h19 := cond_f (b := (decide (p0c.Kind = (6 : Int)))) hb19 h18
                  refine w_seqw ?_
                  refine w_region ?_
                  refine o_p rfl (p_eql rfl rfl) ?_
                  refine o_p rfl (p_assign (v := .c (.bool _)) rfl) ?_
                  refine o_end (fr' := [(0, .any), (1, .any), (2, .box 0 0), (3, .box 1 0), (4, .any), (5, .c (.bool _)), (6, .c (.bool _)), (7, .c (.bool _)), (8, .c (.bool _)), (20, .any), (22, .c (.int _ _)), (23, .any), (25, .c (.bool _)), (28, .c (.bool _)), (30, .c (.bool _)), (32, .c (.bool _)), (34, .c (.bool _)), (36, .any), (38, .any), (40, .any)]) rfl ?_
                  refine e_kw ?_
                  refine w_cond _ rfl (fun hb20 => ?_) (fun hb20 => ?_)
                  · skip
                    have h20 := cond_t (b := (decide (p0c.Kind = (7 : Int)))) hb20 h19
                    refine w_region ?_
                    refine o_p rfl (p_assign (v := .c (.bool _)) rfl) ?_
                    refine o_p rfl (p_assign (v := .c (.bool _)) rfl) ?_
                    refine o_end (fr' := [(0, .any), (1, .any), (2, .box 0 0), (3, .box 1 0), (4, .any), (5, .c (.bool _)), (6, .c (.bool _)), (7, .c (.bool _)), (8, .c (.bool _)), (20, .any), (22, .c (.int _ _)), (23, .any), (25, .c (.bool _)), (28, .c (.bool _)), (30, .c (.bool _)), (32, .c (.bool _)), (34, .c (.bool _)), (36, .any), (38, .any), (40, .any)]) rfl ?_
                    refine e_blk_n ?_
                    exact e_j _ (Option.some.inj h20).symm (w_weak [] 2 rfl rfl rfl rfl ⟨(AV.le_refl _), (AV.le_refl _), (AV.le_refl _), (AV.le_refl _), (AV.le_refl _), (AV.le_refl _), trivial⟩ (st_r rfl (st_r rfl st_nil)))
                  · skip
                    have h20 := cond_f (b := (decide (p0c.Kind = (7 : Int)))) hb20 h19
                    refine w_seqw ?_
                    refine w_region ?_
                    refine o_p rfl (p_eql rfl rfl) ?_
                    refine o_p rfl (p_assign (v := .c (.bool _)) rfl) ?_
                    refine o_end (fr' := [(0, .any), (1, .any), (2, .box 0 0), (3, .box 1 0), (4, .any), (5, .c (.bool _)), (6, .c (.bool _)), (7, .c (.bool _)), (8, .c (.bool _)), (20, .any), (22, .c (.int _ _)), (23, .any), (25, .c (.bool _)), (28, .c (.bool _)), (30, .c (.bool _)), (32, .c (.bool _)), (34, .c (.bool _)), (36, .c (.bool _)), (38, .any), (40, .any)]) rfl ?_
                    refine e_kw ?_
                    refine w_cond _ rfl (fun hb21 => ?_) (fun hb21 => ?_)
                    · skip
                      have h21 := cond_t (b := (decide (p0c.Kind = (8 : Int)))) hb21 h20
                      refine w_region ?_
                      refine o_p rfl (p_assign (v := .c (.bool _)) rfl) ?_
                      refine o_p rfl (p_assign (v := .c (.bool _)) rfl) ?_
                      refine o_end (fr' := [(0, .any), (1, .any), (2, .box 0 0), (3, .box 1 0), (4, .any), (5, .c (.bool _)), (6, .c (.bool _)), (7, .c (.bool _)), (8, .c (.bool _)), (20, .any), (22, .c (.int _ _)), (23, .any), (25, .c (.bool _)), (28, .c (.bool _)), (30, .c (.bool _)), (32, .c (.bool _)), (34, .c (.bool _)), (36, .c (.bool _)), (38, .any), (40, .any)]) rfl ?_
                      refine e_blk_n ?_
                      exact e_j _ (Option.some.inj h21).symm (w_weak [] 2 rfl rfl rfl rfl ⟨(AV.le_refl _), (AV.le_refl _), (AV.le_refl _), (AV.le_refl _), (AV.le_refl _), (AV.le_refl _), trivial⟩ (st_r rfl (st_r rfl st_nil)))
                    · skip
                      have h21 := cond_f (b := (decide (p0c.Kind = (8 : Int)))) hb21 h20
                      refine w_seqw ?_
                      refine w_region ?_
                      refine o_p rfl (p_eql rfl rfl) ?_
                      refine o_p rfl (p_assign (v := .c (.bool _)) rfl) ?_
                      refine o_end (fr' := [(0, .any), (1, .any), (2, .box 0 0), (3, .box 1 0), (4, .any), (5, .c (.bool _)), (6, .c (.bool _)), (7, .c (.bool _)), (8, .c (.bool _)), (20, .any), (22, .c (.int _ _)), (23, .any), (25, .c (.bool _)), (28, .c (.bool _)), (30, .c (.bool _)), (32, .c (.bool _)), (34, .c (.bool _)), (36, .c (.bool _)), (38, .c (.bool _)), (40, .any)]) rfl ?_
                      refine e_kw ?_
                      refine w_cond _ rfl (fun hb22 => ?_) (fun hb22 => ?_)
                      · skip
                        have h22 := cond_t (b := (decide (p0c.Kind = (9 : Int)))) hb22 h21
                        refine w_region ?_
                        refine o_p rfl (p_assign (v := .c (.bool _)) rfl) ?_
                        refine o_p rfl (p_assign (v := .c (.bool _)) rfl) ?_
                        refine o_end (fr' := [(0, .any), (1, .any), (2, .box 0 0), (3, .box 1 0), (4, .any), (5, .c (.bool _)), (6, .c (.bool _)), (7, .c (.bool _)), (8, .c (.bool _)), (20, .any), (22, .c (.int _ _)), (23, .any), (25, .c (.bool _)), (28, .c (.bool _)), (30, .c (.bool _)), (32, .c (.bool _)), (34, .c (.bool _)), (36, .c (.bool _)), (38, .c (.bool _)), (40, .any)]) rfl ?_
                        refine e_blk_n ?_
                        exact e_j _ (Option.some.inj h22).symm (w_weak [] 2 rfl rfl rfl rfl ⟨(AV.le_refl _), (AV.le_refl _), (AV.le_refl _), (AV.le_refl _), (AV.le_refl _), (AV.le_refl _), trivial⟩ (st_r rfl (st_r rfl st_nil)))
                      · skip
                        have h22 := cond_f (b := (decide (p0c.Kind = (9 : Int)))) hb22 h21
                        refine w_seqw ?_
                        refine w_region ?_
                        refine o_p rfl (p_eql rfl rfl) ?_
                        refine o_p rfl (p_assign (v := .c (.bool _)) rfl) ?_
                        refine o_end (fr' := [(0, .any), (1, .any), (2, .box 0 0), (3, .box 1 0), (4, .any), (5, .c (.bool _)), (6, .c (.bool _)), (7, .c (.bool _)), (8, .c (.bool _)), (20, .any), (22, .c (.int _ _)), (23, .any), (25, .c (.bool _)), (28, .c (.bool _)), (30, .c (.bool _)), (32, .c (.bool _)), (34, .c (.bool _)), (36, .c (.bool _)), (38, .c (.bool _)), (40, .c (.bool _))]) rfl ?_
                        refine e_kw ?_
                        refine w_cond _ rfl (fun hb23 => ?_) (fun hb23 => ?_)
                        · skip
                          have h23 := cond_t (b := (decide (p0c.Kind = (12 : Int)))) hb23 h22
                          refine w_region ?_
                          refine o_p rfl (p_assign (v := .c (.bool _)) rfl) ?_
                          refine o_end (fr' := [(0, .any), (1, .any), (2, .box 0 0), (3, .box 1 0), (4, .any), (5, .c (.bool _)), (6, .c (.bool _)), (7, .c (.bool _)), (8, .c (.bool _)), (20, .any), (22, .c (.int _ _)), (23, .any), (25, .c (.bool _)), (28, .c (.bool _)), (30, .c (.bool _)), (32, .c (.bool _)), (34, .c (.bool _)), (36, .c (.bool _)), (38, .c (.bool _)), (40, .c (.bool _))]) rfl ?_
                          refine e_blk_n ?_
                          exact e_j _ (Option.some.inj h23).symm (w_weak [] 2 rfl rfl rfl rfl ⟨(AV.le_refl _), (AV.le_refl _), (AV.le_refl _), (AV.le_refl _), (AV.le_refl _), (AV.le_refl _), trivial⟩ (st_r rfl (st_r rfl st_nil)))
                        · skip
                          have h23 := cond_f (b := (decide (p0c.Kind = (12 : Int)))) hb23 h22
                          refine w_skip ?_
                          refine e_blk_n ?_
                          exact e_j _ (Option.some.inj h23).symm (w_weak [] 2 rfl rfl rfl rfl ⟨(AV.le_refl _), (AV.le_refl _), (AV.le_refl _), (AV.le_refl _), (AV.le_refl _), (AV.le_refl _), trivial⟩ (st_r rfl (st_r rfl st_nil)))
    · skip
      intro j9 hj24
      subst hj24
      refine w_seqw ?_
      refine w_region ?_
      refine o_p rfl (p_move (v := .c (.bool _)) rfl) ?_
      refine o_p rfl (p_not rfl) ?_
      refine o_p rfl (p_move (v := .c (.bool _)) rfl) ?_
      refine o_g rfl rfl (fun hc => ov_p rfl (p_fa tf44x1 rfl)) ?_
      refine o_g rfl rfl (fun hc => ov_p rfl (p_load (v := .c (.int _ _)) tv3 (gx rfl hc) rfl rfl)) ?_
      refine o_g rfl rfl (fun hc => ov_p rfl (p_fa tf46x3 rfl)) ?_
      refine o_g rfl rfl (fun hc => ov_p rfl (p_load (v := .c (.int _ _)) tv3 (gx rfl hc) rfl rfl)) ?_
      refine o_g rfl rfl (fun hc => ov_p rfl (p_eql (gx rfl hc) (gx rfl hc))) ?_
      refine o_p rfl (p_pickz rfl rfl rfl (fun e => keq e)) ?_
      refine o_p rfl (p_move (v := .c (.bool _)) rfl) ?_
      refine o_g rfl rfl (fun hc => ov_p rfl (p_move (v := .c (.bool _)) rfl)) ?_
      refine o_g rfl rfl (fun hc => ov_p rfl (p_not (gx rfl hc))) ?_
      refine o_g rfl rfl (fun hc => ov_p rfl (p_move (v := .c (.bool _)) (gx rfl hc))) ?_
      refine o_gg rfl rfl (fun hc => ov_p rfl (p_fa tf44x2 rfl)) ?_
      refine o_gg rfl rfl (fun hc => ov_p rfl (p_load (v := .c (.str _)) tv9 (gx rfl hc) rfl rfl)) ?_
      refine o_gg rfl rfl (fun hc => ov_p rfl (p_fa tf46x7 rfl)) ?_
      refine o_gg rfl rfl (fun hc => ov_p rfl (p_load (v := .c (.str _)) tv9 (gx rfl hc) rfl rfl)) ?_
      refine o_gg rfl rfl (fun hc => ov_p rfl (p_seql (gx rfl hc) (gx rfl hc))) ?_
      refine o_g rfl rfl (fun hc => ov_p rfl (p_pickz (gx rfl hc) rfl rfl (fun e => band hc (keq e)))) ?_
      refine o_p rfl (p_picky rfl rfl rfl (fun e => keq e)) ?_
      refine o_p rfl (p_move (v := .c (.bool _)) rfl) ?_
      refine o_g rfl rfl (fun hc => ov_p rfl (p_move (v := .c (.bool _)) rfl)) ?_
      refine o_g rfl rfl (fun hc => ov_p rfl (p_not (gx rfl hc))) ?_
      refine o_g rfl rfl (fun hc => ov_p rfl (p_move (v := .c (.bool _)) (gx rfl hc))) ?_
      refine o_gg rfl rfl (fun hc => ov_p rfl (p_fa tf44x3 rfl)) ?_
      refine o_gg rfl rfl (fun hc => ov_p rfl (p_load (v := .c (.str _)) tv9 (gx rfl hc) rfl rfl)) ?_
      refine o_gg rfl rfl (fun hc => ov_p rfl (p_fa tf46x8 rfl)) ?_
      refine o_gg rfl rfl (fun hc => ov_p rfl (p_load (v := .c (.str _)) tv9 (gx rfl hc) rfl rfl)) ?_
      refine o_gg rfl rfl (fun hc => ov_p rfl (p_seql (gx rfl hc) (gx rfl hc))) ?_
      refine o_g rfl rfl (fun hc => ov_p rfl (p_pickz (gx rfl hc) rfl rfl (fun e => band hc (keq e)))) ?_
      refine o_p rfl (p_picky rfl rfl rfl (fun e => keq e)) ?_
      refine o_p rfl (p_move (v := .c (.bool _)) rfl) ?_
      refine o_g rfl rfl (fun hc => ov_p rfl (p_move (v := .c (.bool _)) rfl)) ?_
      refine o_g rfl rfl (fun hc => ov_p rfl (p_not (gx rfl hc))) ?_
      refine o_g rfl rfl (fun hc => ov_p rfl (p_move (v := .c (.bool _)) (gx rfl hc))) ?_
      refine o_gg rfl rfl (fun hc => ov_p rfl (p_fa tf44x4 rfl)) ?_
      refine o_gg rfl rfl (fun hc => ov_p rfl (p_load (v := .c (.int _ _)) tv3 (gx rfl hc) rfl rfl)) ?_
      refine o_gg rfl rfl (fun hc => ov_p rfl (p_fa tf46x5 rfl)) ?_
      refine o_gg rfl rfl (fun hc => ov_p rfl (p_load (v := .c (.int _ _)) tv3 (gx rfl hc) rfl rfl)) ?_
      refine o_gg rfl rfl (fun hc => ov_p rfl (p_eql (gx rfl hc) (gx rfl hc))) ?_
      refine o_g rfl rfl (fun hc => ov_p rfl (p_pickz (gx rfl hc) rfl rfl (fun e => band hc (keq e)))) ?_
      refine o_p rfl (p_picky rfl rfl rfl (fun e => keq e)) ?_
      refine o_p rfl (p_assign (v := .c (.bool _)) rfl) ?_
      refine o_end (fr' := [(0, .any), (1, .any), (2, .box 0 0), (3, .box 1 0), (4, .c (.bool _)), (5, .c (.bool _)), (6, .c (.bool _)), (7, .c (.bool _)), (8, .c (.bool _)), (20, .any), (22, .any), (23, .any), (25, .any), (28, .any), (30, .any), (32, .any), (34, .any), (36, .any), (38, .any), (40, .any)]) rfl ?_
      refine e_kw ?_
      refine w_ret ?_
      have he25 := Option.some.inj h8
      subst he25
      refine e_ret (rs' := [.tmp 4]) rfl ?_
      refine r_tmp (v := .c (.bool _)) rfl ?_
      refine r_nil ?_
      exact fin_gen [] rfl rfl rfl (AV.le_refl _) st_nil
noncomputable def diverge_Compare_l1 (p0l : (List ApiCommand)) (p1es : (List ApiEvent)) (s4 : Int) : Option (Step Int (Fl Int Unit)) :=
  cond (decide (s4 < (if ((p1es).length : Int) > ((p0l).length : Int) then ((p1es).length : Int) else ((p0l).length : Int)))) ((gd ((cond (decide (((p0l).length : Int) ≤ s4)) true (decide (((p1es).length : Int) ≤ s4))) == false) (idx p0l s4)).bind fun (x6 : ApiCommand) => (gd ((cond (decide (((p0l).length : Int) ≤ s4)) true (decide (((p1es).length : Int) ≤ s4))) == false) (idx p1es s4)).bind fun (x8 : ApiEvent) => (gd ((cond (decide (((p0l).length : Int) ≤ s4)) true (decide (((p1es).length : Int) ≤ s4))) == false) (diverge_Match x6 x8)).bind fun (x10 : Bool) => cond (cond (cond (decide (((p0l).length : Int) ≤ s4)) true (decide (((p1es).length : Int) ≤ s4))) true (!x10)) (some (Step.out (Fl.done s4))) (some (Step.next (IntKind.wrap .i64 (s4 + (1 : Int)))))) (some (Step.out (Fl.go ())))
noncomputable def diverge_Compare (p0l : (List ApiCommand)) (p1es : (List ApiEvent)) : Option Int :=
  ((loopO (diverge_Compare_l1 p0l p1es) ((0 : Int))) : Option (Fl Int Unit)).bind fun (x1 : (Fl Int Unit)) => Fl.next x1 (fun (j3 : Unit) => (some (-1 : Int)))
theorem w_diverge_Compare {p0l : (List ApiCommand)} {p1es : (List ApiEvent)} {res : Int} (h : diverge_Compare p0l p1es = some res) : ACalls Try.prog 29 [.c (PV.ls 20 rowApiCommand p0l), .c (PV.ls 24 rowApiEvent p1es)] [] (.c (.int .i64 res)) [] := by
  unfold diverge_Compare at h
  refine acalls (fn := Try.f29) [0, 1, 4, 5, 10, 11, 12, 35] (by kernel_rfl) Try.func29 rfl (by kernel_rfl) (by kernel_rfl) ?_
  refine w_seqw ?_
  refine w_region ?_
  refine o_p rfl (p_assign (v := .c (.int _ _)) rfl) ?_
  refine o_end (fr' := [(0, .c (PV.ls _ _ _)), (1, .c (PV.ls _ _ _)), (4, .c (.int _ _)), (5, .any), (10, .any), (11, .any), (12, .any), (35, .any)]) rfl ?_
  refine e_kw ?_
  refine w_seqw ?_
  refine w_seqw ?_
  refine w_region ?_
  refine o_p rfl (p_move (v := .c (PV.ls _ _ _)) rfl) ?_
  refine o_p rfl (p_len ti48 (isl_c rfl)) ?_
  refine o_p rfl (p_move (v := .c (PV.ls _ _ _)) rfl) ?_
  refine o_p rfl (p_len ti49 (isl_c rfl)) ?_
  refine o_p rfl (p_max rfl rfl) ?_
  refine o_p rfl (p_move (v := .c (.int _ _)) rfl) ?_
  refine o_end (fr' := [(0, .c (PV.ls _ _ _)), (1, .c (PV.ls _ _ _)), (4, .c (.int _ _)), (5, .any), (10, .c (.int _ _)), (11, .c (.int _ _)), (12, .any), (35, .any)]) rfl ?_
  refine e_kw ?_
  obtain ⟨x1, hx1, h2⟩ := bind_s h
  refine w_jtail cl_kw (fun j3 => x1 = Fl.go j3) (fun (j3 : Unit) => ([] : Fr)) (fun (j3 : Unit) => ([] : St)) ?_ ?_
  · skip
    refine w_block ?_
    refine w_loopo _ (fun (s4 : Int) => ([(0, .c (PV.ls 20 rowApiCommand p0l)), (1, .c (PV.ls 24 rowApiEvent p1es)), (10, .c (.int .i64 (if ((p1es).length : Int) > ((p0l).length : Int) then ((p1es).length : Int) else ((p0l).length : Int)))), (11, .c (.int .i64 s4))] : Fr)) (fun (s4 : Int) => ([] : St)) hx1 (w_weak [] 0 rfl rfl rfl rfl ⟨(AV.le_refl _), (AV.le_refl _), (AV.le_refl _), (AV.le_refl _), trivial⟩ st_nil) ?_
    intro s4 st4 hs4 ho4
    unfold diverge_Compare_l1 at hs4
    refine w_seqw ?_
    refine w_region ?_
    refine o_p rfl (p_lss rfl rfl) ?_
    refine o_end (fr' := [(0, .c (PV.ls _ _ _)), (1, .c (PV.ls _ _ _)), (4, .any), (5, .any), (10, .c (.int _ _)), (11, .c (.int _ _)), (12, .c (.bool _)), (35, .any)]) rfl ?_
    refine e_kw ?_
    refine w_seqw ?_
    refine w_cond _ rfl (fun hb5 => ?_) (fun hb5 => ?_)
    · skip
      have h5 := cond_t (b := (decide (s4 < (if ((p1es).length : Int) > ((p0l).length : Int) then ((p1es).length : Int) else ((p0l).length : Int))))) hb5 hs4
      refine w_skip ?_
      refine e_kw ?_
      refine w_seqw ?_
      refine w_block ?_
      refine w_seqw ?_
      refine w_region ?_
      refine o_p rfl (p_move (v := .c (.int _ _)) rfl) ?_
      refine o_p rfl (p_assign (v := .c (.int _ _)) rfl) ?_
      refine o_end (fr' := [(0, .c (PV.ls _ _ _)), (1, .c (PV.ls _ _ _)), (4, .any), (5, .c (.int _ _)), (10, .c (.int _ _)), (11, .c (.int _ _)), (12, .c (.bool _)), (35, .any)]) rfl ?_
      refine e_kw ?_
      refine w_seqw ?_
      refine w_planT [.q 0, .q 1, .q 2, .q 3, .q 4, .q 5, .q 6, .q 7, .q 8, .q 9, .q 10, .q 11, .q 12, .q 13, .q 14, .q 15, .q 16, .q 17, .q 18, .q 19, .q 20, .q 21] [(some 14, [5]), (some 15, [0]), (some 16, [15]), (some 17, [14, 16]), (some 18, [17]), (some 19, [5, 18]), (some 20, [1, 18]), (some 21, [20, 18]), (some 22, [19, 21, 18]), (some 23, [18, 22]), (some 24, [23]), (some 25, [0, 24]), (some 26, [5, 24]), (some 27, [25, 26, 24]), (some 28, [27, 24]), (some 29, [1, 24]), (some 30, [5, 24]), (some 31, [29, 30, 24]), (some 32, [31, 24]), (some 33, [28, 32, 24]), (some 34, [33, 24]), (some 35, [24, 34])] [0, 0, 2, 7, 15, 31, 31, 95, 255, 511, 1023, 2047, 2047, 8191, 16383, 2047, 2047, 100351, 231423, 524287, 1048575, 2097151] (by kernel_rfl) ?_
      refine d_q rfl (qv_p rfl (p_move (v := .c (.int _ _)) rfl)) ?_
      refine d_q rfl (qv_p rfl (p_move (v := .c (PV.ls _ _ _)) rfl)) ?_
      refine d_q rfl (qv_p rfl (p_len ti48 (isl_c rfl))) ?_
      refine d_q rfl (qv_p rfl (p_geq rfl rfl)) ?_
      refine d_q rfl (qv_p rfl (p_move (v := .c (.bool _)) rfl)) ?_
      refine d_g rfl rfl rfl (fun hc => qv_p rfl (p_move (v := .c (.int _ _)) rfl)) ?_
      refine d_g rfl rfl rfl (fun hc => qv_p rfl (p_move (v := .c (PV.ls _ _ _)) rfl)) ?_
      refine d_g rfl rfl rfl (fun hc => qv_p rfl (p_len ti49 (isl_c (gx rfl hc)))) ?_
      refine d_g rfl rfl rfl (fun hc => qv_p rfl (p_geq (gx rfl hc) (gx rfl hc))) ?_
      refine d_q rfl (qv_p rfl (p_pickz rfl rfl rfl (fun e => keq e))) ?_
      refine d_q rfl (qv_p rfl (p_move (v := .c (.bool _)) rfl)) ?_
      refine d_g rfl rfl rfl (fun hc => qv_p rfl (p_move (v := .c (PV.ls _ _ _)) rfl)) ?_
      refine d_g rfl rfl rfl (fun hc => qv_p rfl (p_move (v := .c (.int _ _)) rfl)) ?_
      obtain ⟨x6, hx6, h7⟩ := bind_s h5
      refine d_g rfl rfl rfl (fun hc => qv_p rfl (p_ia (cs := [.int _ _, .int _ _, .str _, .str _, .int _ _, .int _ _, .int _ _, .str _, PV.ls _ _ _, PV.ls _ _ _, .str _, .int _ _, .int _ _, .int _ _, .int _ _, .int _ _, .int _ _, .int _ _, .int _ _, PV.ls _ _ _]) ts48 (isl_c (gx rfl hc)) (gx rfl hc) (gd_some hx6 hc) rfl)) ?_
      refine d_g rfl rfl rfl (fun hc => qv_p rfl (p_loades (us := [.int _ _, .int _ _, .str _, .str _, .int _ _, .int _ _, .int _ _, .str _, PV.ls _ _ _, PV.ls _ _ _, .str _, .int _ _, .int _ _, .int _ _, .int _ _, .int _ _, .int _ _, .int _ _, .int _ _, PV.ls _ _ _]) tv44 (gx rfl hc) rfl rfl)) ?_
      refine d_g rfl rfl rfl (fun hc => qv_p rfl (p_move (v := .c (PV.ls _ _ _)) rfl)) ?_
      refine d_g rfl rfl rfl (fun hc => qv_p rfl (p_move (v := .c (.int _ _)) rfl)) ?_
      obtain ⟨x8, hx8, h9⟩ := bind_s h7
      refine d_g rfl rfl rfl (fun hc => qv_p rfl (p_ia (cs := [.int _ _, .int _ _, .int _ _, .int _ _, .int _ _, .int _ _, .int _ _, .str _, .str _, .int _ _, .int _ _, .str _, PV.ls _ _ _, PV.ls _ _ _, .str _, .int _ _, .int _ _, .int _ _, .int _ _, .int _ _, .int _ _, .int _ _, .int _ _, PV.ls _ _ _]) ts49 (isl_c (gx rfl hc)) (gx rfl hc) (gd_some hx8 hc) rfl)) ?_
      refine d_g rfl rfl rfl (fun hc => qv_p rfl (p_loades (us := [.int _ _, .int _ _, .int _ _, .int _ _, .int _ _, .int _ _, .int _ _, .str _, .str _, .int _ _, .int _ _, .str _, PV.ls _ _ _, PV.ls _ _ _, .str _, .int _ _, .int _ _, .int _ _, .int _ _, .int _ _, .int _ _, .int _ _, .int _ _, PV.ls _ _ _]) tv46 (gx rfl hc) rfl rfl)) ?_
      obtain ⟨x10, hx10, h11⟩ := bind_s h9
      refine d_g rfl rfl rfl (fun hc => qv_call (v := .c (.bool _)) rfl (w_diverge_Match (gd_some hx10 hc)) ⟨(le_gv (gx rfl hc) (le_aggc rfl ⟨rfl, rfl, rfl, rfl, rfl, rfl, rfl, rfl, rfl, rfl, rfl, rfl, rfl, rfl, rfl, rfl, rfl, rfl, rfl, rfl, trivial⟩)), (le_gv (gx rfl hc) (le_aggc rfl ⟨rfl, rfl, rfl, rfl, rfl, rfl, rfl, rfl, rfl, rfl, rfl, rfl, rfl, rfl, rfl, rfl, rfl, rfl, rfl, rfl, rfl, rfl, rfl, rfl, trivial⟩)), trivial⟩ rfl) ?_
      refine d_g rfl rfl rfl (fun hc => qv_p rfl (p_not (gx rfl hc))) ?_
      refine d_q rfl (qv_p rfl (p_pickz rfl rfl rfl (fun e => keq e))) ?_
      refine d_end (fr' := [(0, .c (PV.ls _ _ _)), (1, .c (PV.ls _ _ _)), (4, .any), (5, .c (.int _ _)), (10, .c (.int _ _)), (11, .c (.int _ _)), (12, .c (.bool _)), (35, .c (.bool _))]) rfl ?_
      refine e_kw ?_
      refine w_cond _ rfl (fun hb12 => ?_) (fun hb12 => ?_)
      · skip
        have h12 := cond_t (b := (cond (cond (decide (((p0l).length : Int) ≤ s4)) true (decide (((p1es).length : Int) ≤ s4))) true (!x10))) hb12 h11
        refine w_seqw ?_
        refine w_region ?_
        refine o_p rfl (p_move (v := .c (.int _ _)) rfl) ?_
        refine o_p rfl (p_assign (v := .c (.int _ _)) rfl) ?_
        refine o_end (fr' := [(0, .c (PV.ls _ _ _)), (1, .c (PV.ls _ _ _)), (4, .c (.int _ _)), (5, .c (.int _ _)), (10, .c (.int _ _)), (11, .c (.int _ _)), (12, .c (.bool _)), (35, .c (.bool _))]) rfl ?_
        refine e_kw ?_
        refine w_ret ?_
        refine e_blk_r ?_
        refine e_seq_r ?_
        refine e_seq_r ?_
        refine e_blk_r ?_
        refine e_seq_r ?_
        refine e_seq_r ?_
        have h13 := un_out h12 ho4
        have h14 := un_done h13 h2
        have he15 := Option.some.inj h14
        subst he15
        refine e_ret (rs' := [.tmp 4]) rfl ?_
        refine r_tmp (v := .c (.int _ _)) rfl ?_
        refine r_nil ?_
        exact fin_gen [] rfl rfl rfl (AV.le_refl _) st_nil
      · skip
        have h12 := cond_f (b := (cond (cond (decide (((p0l).length : Int) ≤ s4)) true (decide (((p1es).length : Int) ≤ s4))) true (!x10))) hb12 h11
        refine w_skip ?_
        refine e_blk_n ?_
        refine e_kw ?_
        refine w_region ?_
        refine o_p rfl (p_add rfl rfl) ?_
        refine o_p rfl (p_move (v := .c (.int _ _)) rfl) ?_
        refine o_end (fr' := [(0, .c (PV.ls _ _ _)), (1, .c (PV.ls _ _ _)), (4, .any), (5, .c (.int _ _)), (10, .c (.int _ _)), (11, .c (.int _ _)), (12, .c (.bool _)), (35, .c (.bool _))]) rfl ?_
        exact e_l _ (Option.some.inj h12).symm (w_weak [] 0 rfl rfl rfl rfl ⟨(AV.le_refl _), (AV.le_refl _), (AV.le_refl _), (AV.le_refl _), trivial⟩ st_nil)
    · skip
      have h5 := cond_f (b := (decide (s4 < (if ((p1es).length : Int) > ((p0l).length : Int) then ((p1es).length : Int) else ((p0l).length : Int))))) hb5 hs4
      refine w_exit ?_
      refine e_seq_x ?_
      refine e_seq_x ?_
      refine e_blk_h ?_
      have h16 := un_out h5 ho4
      exact e_j _ (Option.some.inj h16).symm (w_weak [] 0 rfl rfl rfl rfl trivial st_nil)
  · skip
    intro j3 hj17
    have h17 := un_go hj17 h2
    refine e_kw ?_
    refine w_seqw ?_
    refine w_region ?_
    refine o_p rfl (p_assign (v := .c (.int _ _)) rfl) ?_
    refine o_end (fr' := [(0, .any), (1, .any), (4, .c (.int _ _)), (5, .any), (10, .any), (11, .any), (12, .any), (35, .any)]) rfl ?_
    refine e_kw ?_
    refine w_ret ?_
    have he18 := Option.some.inj h17
    subst he18
    refine e_ret (rs' := [.tmp 4]) rfl ?_
    refine r_tmp (v := .c (.int _ _)) rfl ?_
    refine r_nil ?_
    exact fin_gen [] rfl rfl rfl (AV.le_refl _) st_nil
noncomputable def slices_Clone_string_string (p0s : (List (List UInt8))) : Option (List (List UInt8)) :=
  app 16 ([] : List (List UInt8)) p0s
theorem w_slices_Clone_string_string {p0s : (List (List UInt8))} {res : (List (List UInt8))} (h : slices_Clone_string_string p0s = some res) : ACalls Try.prog 84 [.c (PV.ls 1 rowS p0s)] [] (AV.os 0 1 rowS res) [] := by
  unfold slices_Clone_string_string at h
  refine acalls (fn := Try.f84) [0, 2, 4] (by kernel_rfl) Try.func84 rfl (by kernel_rfl) (by kernel_rfl) ?_
  obtain ⟨hm, he⟩ := app_some h
  rw [List.nil_append] at he
  subst he
  refine w_seqw ?_
  refine w_region ?_
  refine o_p rfl (p_assign (v := .nil) rfl) ?_
  refine o_end (fr' := [(0, .c (PV.ls _ _ _)), (2, .nil), (4, .any)]) rfl ?_
  refine e_kw ?_
  refine w_seqw ?_
  refine w_seqw ?_
  refine w_region ?_
  refine o_p rfl (p_move (v := .c (PV.ls _ _ _)) rfl) ?_
  refine o_nilc (row := rowS) ti38 (isl_c rfl) (fun b hb => ?_)
  refine o_end (fr' := [(0, .c (PV.ls _ _ _)), (2, .nil), (4, .c (.bool _))]) rfl ?_
  refine e_kw ?_
  refine w_cond b rfl (fun e => ?_) (fun e => ?_)
  · rw [hb e]
    refine w_seqw ?_
    refine w_region ?_
    refine o_p rfl (p_assign (v := .nil) rfl) ?_
    refine o_end (fr' := [(0, .c (PV.ls _ _ _)), (2, .nil), (4, .c (.bool _))]) rfl ?_
    refine e_kw ?_
    refine w_ret ?_
    refine e_seq_r ?_
    refine e_ret (rs' := [.tmp 2]) rfl ?_
    refine r_tmp (v := .nil) rfl ?_
    refine r_nil ?_
    exact fin_gen [] rfl rfl rfl (le_nos rfl) st_nil
  · refine w_skip ?_
    refine e_kw ?_
    refine w_seqw ?_
    refine w_region ?_
    refine o_rows (row := rowS) (xs := ([] : List (List UInt8))) (rows := []) (σ' := []) [] ts38 rfl rfl rfl arow_nil rfl rfl ?_
    refine o_p rfl (p_move (v := .c (PV.ls _ _ _)) rfl) ?_
    refine o_app (row := rowS) ts38 rfl ti38 rfl (isl_c rfl) (fun _ => rfl) h ?_
    refine o_p rfl (p_assign (v := AV.os _ _ _ _) rfl) ?_
    refine o_end (fr' := [(0, .c (PV.ls _ _ _)), (2, AV.os _ _ _ _), (4, .c (.bool _))]) rfl ?_
    refine e_kw ?_
    refine w_ret ?_
    refine e_ret (rs' := [.tmp 2]) rfl ?_
    refine r_tmp (v := AV.os _ _ _ _) rfl ?_
    refine r_nil ?_
    exact fin_gen [112] rfl rfl rfl (AV.le_refl _) st_nil
end Go.Proofs.Ytnhchphmmdgphaa

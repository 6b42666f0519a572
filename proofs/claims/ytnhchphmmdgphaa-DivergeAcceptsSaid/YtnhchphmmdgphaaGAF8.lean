import Derived.Test.YtnhchphmmdgphaaGATy
import Derived.Test.YtnhchphmmdgphaaGAF7
namespace Go.Proofs.Ytnhchphmmdgphaa
open Go Abs
set_option maxRecDepth 100000
set_option linter.unusedVariables false
set_option linter.unusedSimpArgs false
noncomputable def ref27xMatch (p0c : ApiCommand) (p1e : ApiEvent) : Option Bool :=
 (ref27xkind p0c.Kind).bind fun (x1 : Int) => (gd ((decide (x1 = (0 : Int))) == false) (ref27xkind p0c.Kind)).bind fun (x3 : Int) => cond (cond (decide (x1 = (0 : Int))) true (!decide (p1e.Kind = x3))) (some false) (((cond (decide (p0c.Kind = (1 : Int))) (some (true, true, false, false)) (((cond (decide (p0c.Kind = (2 : Int))) (some (decide (p0c.Kind = (2 : Int)))) (some (decide (p0c.Kind = (4 : Int))))) : Option Bool).bind fun (x11 : Bool) => (cond x11 (some (true, false, false, false)) (cond (decide (p0c.Kind = (3 : Int))) (some (true, false, false, true)) (cond (decide (p0c.Kind = (5 : Int))) (some (true, true, true, true)) (cond (decide (p0c.Kind = (6 : Int))) (some (true, true, true, false)) (cond (decide (p0c.Kind = (7 : Int))) (some (false, true, false, true)) (cond (decide (p0c.Kind = (8 : Int))) (some (false, true, true, false)) (cond (decide (p0c.Kind = (9 : Int))) (some (false, false, true, true)) (cond (decide (p0c.Kind = (12 : Int))) (some (false, true, false, false)) (some (false, false, false, false)))))))))))) : Option (Bool × Bool × Bool × Bool)).bind fun (x7 : (Bool × Bool × Bool × Bool)) => (some (cond (cond (cond (cond (!x7.1) true (decide (p0c.Seq = p1e.Seq))) (cond (!x7.2.1) true (decide (p0c.Name = p1e.Name))) false) (cond (!x7.2.2.1) true (decide (p0c.Key = p1e.Key))) false) (cond (!x7.2.2.2) true (decide (p0c.N = p1e.N))) false)))
theorem w_ref27xMatch {p0c : ApiCommand} {p1e : ApiEvent} {res : Bool} (h : ref27xMatch p0c p1e = some res) : ACalls Try.prog 27 [.agg (AV.cs (rowApiCommand p0c)), .agg (AV.cs (rowApiEvent p1e))] [] (.c (.bool res)) [] := by
 unfold ref27xMatch at h
 refine acalls (fn := Try.f27) [0, 1, 2, 3, 4, 5, 6, 7, 8, 20, 22, 23, 25, 28, 30, 32, 34, 36, 38, 40] (by kernel_rfl) Try.func27 rfl (by kernel_rfl) (by kernel_rfl) ?_
 refine w_seqw ?_
 refine w_region ?_
 refine o_box (v := .agg [aI, aI, aS, aS, aI, aI, aI, aS, aL, aL, aS, aI, aI, aI, aI, aI, aI, aI, aI, aL]) (n := 0) (cs := [aI, aI, aS, aS, aI, aI, aI, aS, aL, aL, aS, aI, aI, aI, aI, aI, aI, aI, aI, aL]) (σ' := [[aI, aI, aS, aS, aI, aI, aI, aS, aL, aL, aS, aI, aI, aI, aI, aI, aI, aI, aI, aL]]) rfl rfl rfl rfl rfl ?_
 refine o_box (v := .agg [aI, aI, aI, aI, aI, aI, aI, aS, aS, aI, aI, aS, aL, aL, aS, aI, aI, aI, aI, aI, aI, aI, aI, aL]) (n := 1) (cs := [aI, aI, aI, aI, aI, aI, aI, aS, aS, aI, aI, aS, aL, aL, aS, aI, aI, aI, aI, aI, aI, aI, aI, aL]) (σ' := [[aI, aI, aS, aS, aI, aI, aI, aS, aL, aL, aS, aI, aI, aI, aI, aI, aI, aI, aI, aL], [aI, aI, aI, aI, aI, aI, aI, aS, aS, aI, aI, aS, aL, aL, aS, aI, aI, aI, aI, aI, aI, aI, aI, aL]]) rfl rfl rfl rfl rfl ?_
 refine o_p rfl (p_assign (v := aB) rfl) ?_
 refine o_end (fr' := [(0, .agg [aI, aI, aS, aS, aI, aI, aI, aS, aL, aL, aS, aI, aI, aI, aI, aI, aI, aI, aI, aL]), (1, .agg [aI, aI, aI, aI, aI, aI, aI, aS, aS, aI, aI, aS, aL, aL, aS, aI, aI, aI, aI, aI, aI, aI, aI, aL]), (2, .box 0 0), (3, .box 1 0), (4, aB)]) rfl ?_
 refine e_kw ?_
 refine w_seqw ?_
 refine w_seqw ?_
 refine w_planT [.q 0, .q 1, .q 2, .q 3, .q 4, .q 5, .q 6, .q 7, .q 8, .q 9, .q 10, .q 11] [(some 9, [2]), (some 10, [9]), (some 11, [10]), (some 12, [11]), (some 13, [12]), (some 14, [3, 13]), (some 15, [14, 13]), (some 16, [2, 13]), (some 17, [16, 13]), (some 18, [17, 13]), (some 19, [15, 18, 13]), (some 20, [13, 19])] [0, 1, 3, 7, 15, 31, 63, 31, 159, 415, 1023, 2047] (by kernel_rfl) ?_
 refine d_q rfl (qv_p rfl (p_fa tf44x0 rfl)) ?_
 refine d_q rfl (qv_p rfl (p_load (v := aI) tv3 rfl rfl rfl)) ?_
 obtain ⟨x1, hx1, h2⟩ := bind_s h
 refine d_q rfl (qv_call (v := aI) rfl (w_ref27xkind hx1) ⟨(AV.le_refl _), trivial⟩ rfl) ?_
 refine d_q rfl (qv_p rfl (p_eql rfl rfl)) ?_
 refine d_q rfl (qv_p rfl (p_move (v := aB) rfl)) ?_
 refine d_g rfl rfl rfl (fun hc => qv_p rfl (p_fa tf46x1 rfl)) ?_
 refine d_g rfl rfl rfl (fun hc => qv_p rfl (p_load (v := aI) tv3 (gx rfl hc) rfl rfl)) ?_
 refine d_g rfl rfl rfl (fun hc => qv_p rfl (p_fa tf44x0 rfl)) ?_
 refine d_g rfl rfl rfl (fun hc => qv_p rfl (p_load (v := aI) tv3 (gx rfl hc) rfl rfl)) ?_
 obtain ⟨x3, hx3, h4⟩ := bind_s h2
 refine d_g rfl rfl rfl (fun hc => qv_call (v := aI) rfl (w_ref27xkind (gd_some hx3 hc)) ⟨(le_gv (gx rfl hc) (AV.le_refl _)), trivial⟩ rfl) ?_
 refine d_g rfl rfl rfl (fun hc => qv_p rfl (p_neq (gx rfl hc) (gx rfl hc))) ?_
 refine d_q rfl (qv_p rfl (p_pickz rfl rfl rfl (fun e => keq e))) ?_
 refine d_end (fr' := [(0, .agg [aI, aI, aS, aS, aI, aI, aI, aS, aL, aL, aS, aI, aI, aI, aI, aI, aI, aI, aI, aL]), (1, .agg [aI, aI, aI, aI, aI, aI, aI, aS, aS, aI, aI, aS, aL, aL, aS, aI, aI, aI, aI, aI, aI, aI, aI, aL]), (2, .box 0 0), (3, .box 1 0), (4, aB), (20, aB)]) rfl ?_
 refine e_kw ?_
 refine w_cond _ rfl (fun hb5 => ?_) (fun hb5 => ?_)
 ·
  have h5 := cond_t (b := (cond (decide (x1 = (0 : Int))) true (!decide (p1e.Kind = x3)))) hb5 h4
  refine w_seqw ?_
  refine w_region ?_
  refine o_p rfl (p_assign (v := aB) rfl) ?_
  refine o_end (fr' := [(0, .agg [aI, aI, aS, aS, aI, aI, aI, aS, aL, aL, aS, aI, aI, aI, aI, aI, aI, aI, aI, aL]), (1, .agg [aI, aI, aI, aI, aI, aI, aI, aS, aS, aI, aI, aS, aL, aL, aS, aI, aI, aI, aI, aI, aI, aI, aI, aL]), (2, .box 0 0), (3, .box 1 0), (4, aB), (20, aB)]) rfl ?_
  refine e_kw ?_
  refine w_ret ?_
  refine e_seq_r ?_
  have he6 := Option.some.inj h5
  subst he6
  refine e_ret (rs' := [.tmp 4]) rfl ?_
  refine r_tmp (v := aB) rfl ?_
  refine r_nil ?_
  exact fin_gen [] rfl rfl rfl (AV.le_refl _) st_nil
 ·
  have h5 := cond_f (b := (cond (decide (x1 = (0 : Int))) true (!decide (p1e.Kind = x3)))) hb5 h4
  refine w_skip ?_
  refine e_kw ?_
  refine w_seqw ?_
  refine w_region ?_
  refine o_p rfl (p_assign (v := aB) rfl) ?_
  refine o_p rfl (p_assign (v := aB) rfl) ?_
  refine o_p rfl (p_assign (v := aB) rfl) ?_
  refine o_p rfl (p_assign (v := aB) rfl) ?_
  refine o_end (fr' := [(0, .agg [aI, aI, aS, aS, aI, aI, aI, aS, aL, aL, aS, aI, aI, aI, aI, aI, aI, aI, aI, aL]), (1, .agg [aI, aI, aI, aI, aI, aI, aI, aS, aS, aI, aI, aS, aL, aL, aS, aI, aI, aI, aI, aI, aI, aI, aI, aL]), (2, .box 0 0), (3, .box 1 0), (4, aB), (5, aB), (6, aB), (7, aB), (8, aB), (20, aB)]) rfl ?_
  refine e_kw ?_
  obtain ⟨x7, hx7, h8⟩ := bind_s h5
  refine w_join (fun j9 => x7 = j9) (fun (j9 : (Bool × Bool × Bool × Bool)) => ([(2, .box 0 0), (3, .box 1 0), (5, .c (.bool j9.1)), (6, .c (.bool j9.2.1)), (7, .c (.bool j9.2.2.1)), (8, .c (.bool j9.2.2.2))] : Fr)) (fun (j9 : (Bool × Bool × Bool × Bool)) => ([[.c (.int .i64 p0c.Kind), .c (.int .i64 p0c.Seq), .c (.str p0c.Name), .c (.str p0c.Key), .c (.int .i64 p0c.N), .c (.int .i64 p0c.Data.Kind), .c (.int .i64 p0c.Data.Int), .c (.str p0c.Data.Text), .c (PV.ls 5 rowApiValue p0c.Data.Items), .c (PV.ls 1 rowS p0c.Data.Keys), .c (.str p0c.Opts.Queue), .c (.int .i64 p0c.Opts.ToStart), .c (.int .i64 p0c.Opts.ToClose), .c (.int .i64 p0c.Opts.Total), .c (.int .i64 p0c.Opts.Beat), .c (.int .i64 p0c.Opts.First), .c (.int .i64 p0c.Opts.Coef), .c (.int .i64 p0c.Opts.Most), .c (.int .i64 p0c.Opts.Attempts), .c (PV.ls 1 rowS p0c.Opts.Fatal)], [.c (.int .i64 p1e.ID), .c (.int .i64 p1e.Kind), .c (.int .i64 p1e.Time), .c (.int .i64 p1e.Seq), .c (.int .i64 p1e.Ref), .c (.int .i64 p1e.N), .c (.int .i64 p1e.Code), .c (.str p1e.Name), .c (.str p1e.Key), .c (.int .i64 p1e.Data.Kind), .c (.int .i64 p1e.Data.Int), .c (.str p1e.Data.Text), .c (PV.ls 5 rowApiValue p1e.Data.Items), .c (PV.ls 1 rowS p1e.Data.Keys), .c (.str p1e.Opts.Queue), .c (.int .i64 p1e.Opts.ToStart), .c (.int .i64 p1e.Opts.ToClose), .c (.int .i64 p1e.Opts.Total), .c (.int .i64 p1e.Opts.Beat), .c (.int .i64 p1e.Opts.First), .c (.int .i64 p1e.Opts.Coef), .c (.int .i64 p1e.Opts.Most), .c (.int .i64 p1e.Opts.Attempts), .c (PV.ls 1 rowS p1e.Opts.Fatal)]] : St)) ?_ ?_
  ·
   refine w_seqw ?_
   refine w_region ?_
   refine o_p rfl (p_fa tf44x0 rfl) ?_
   refine o_p rfl (p_load (v := aI) tv3 rfl rfl rfl) ?_
   refine o_end (fr' := [(0, .agg [aI, aI, aS, aS, aI, aI, aI, aS, aL, aL, aS, aI, aI, aI, aI, aI, aI, aI, aI, aL]), (1, .agg [aI, aI, aI, aI, aI, aI, aI, aS, aS, aI, aI, aS, aL, aL, aS, aI, aI, aI, aI, aI, aI, aI, aI, aL]), (2, .box 0 0), (3, .box 1 0), (4, aB), (5, aB), (6, aB), (7, aB), (8, aB), (20, aB), (22, aI)]) rfl ?_
   refine e_kw ?_
   refine w_block ?_
   refine w_seqw ?_
   refine w_region ?_
   refine o_p rfl (p_eql rfl rfl) ?_
   refine o_p rfl (p_assign (v := aB) rfl) ?_
   refine o_end (fr' := [(0, .agg [aI, aI, aS, aS, aI, aI, aI, aS, aL, aL, aS, aI, aI, aI, aI, aI, aI, aI, aI, aL]), (1, .agg [aI, aI, aI, aI, aI, aI, aI, aS, aS, aI, aI, aS, aL, aL, aS, aI, aI, aI, aI, aI, aI, aI, aI, aL]), (2, .box 0 0), (3, .box 1 0), (4, aB), (5, aB), (6, aB), (7, aB), (8, aB), (20, aB), (22, aI), (23, aB)]) rfl ?_
   refine e_kw ?_
   refine w_cond _ rfl (fun hb10 => ?_) (fun hb10 => ?_)
   ·
    have h10 := cond_t (b := (decide (p0c.Kind = (1 : Int)))) hb10 hx7
    refine w_region ?_
    refine o_p rfl (p_assign (v := aB) rfl) ?_
    refine o_p rfl (p_assign (v := aB) rfl) ?_
    refine o_end (fr' := [(0, .agg [aI, aI, aS, aS, aI, aI, aI, aS, aL, aL, aS, aI, aI, aI, aI, aI, aI, aI, aI, aL]), (1, .agg [aI, aI, aI, aI, aI, aI, aI, aS, aS, aI, aI, aS, aL, aL, aS, aI, aI, aI, aI, aI, aI, aI, aI, aL]), (2, .box 0 0), (3, .box 1 0), (4, aB), (5, aB), (6, aB), (7, aB), (8, aB), (20, aB), (22, aI), (23, aB)]) rfl ?_
    refine e_blk_n ?_
    exact e_j _ (Option.some.inj h10).symm (w_weak [] 2 rfl rfl rfl rfl ⟨(AV.le_refl _), (AV.le_refl _), (AV.le_refl _), (AV.le_refl _), (AV.le_refl _), (AV.le_refl _), trivial⟩ (st_r rfl (st_r rfl st_nil)))
   ·
    have h10 := cond_f (b := (decide (p0c.Kind = (1 : Int)))) hb10 hx7
    obtain ⟨x11, hx11, h12⟩ := bind_s h10
    refine w_join (fun j13 => x11 = j13) (fun (j13 : Bool) => ([(2, .box 0 0), (3, .box 1 0), (5, .c (.bool false)), (6, .c (.bool false)), (7, .c (.bool false)), (8, .c (.bool false)), (22, .c (.int .i64 p0c.Kind)), (25, .c (.bool j13))] : Fr)) (fun (j13 : Bool) => ([[.c (.int .i64 p0c.Kind), .c (.int .i64 p0c.Seq), .c (.str p0c.Name), .c (.str p0c.Key), .c (.int .i64 p0c.N), .c (.int .i64 p0c.Data.Kind), .c (.int .i64 p0c.Data.Int), .c (.str p0c.Data.Text), .c (PV.ls 5 rowApiValue p0c.Data.Items), .c (PV.ls 1 rowS p0c.Data.Keys), .c (.str p0c.Opts.Queue), .c (.int .i64 p0c.Opts.ToStart), .c (.int .i64 p0c.Opts.ToClose), .c (.int .i64 p0c.Opts.Total), .c (.int .i64 p0c.Opts.Beat), .c (.int .i64 p0c.Opts.First), .c (.int .i64 p0c.Opts.Coef), .c (.int .i64 p0c.Opts.Most), .c (.int .i64 p0c.Opts.Attempts), .c (PV.ls 1 rowS p0c.Opts.Fatal)], [.c (.int .i64 p1e.ID), .c (.int .i64 p1e.Kind), .c (.int .i64 p1e.Time), .c (.int .i64 p1e.Seq), .c (.int .i64 p1e.Ref), .c (.int .i64 p1e.N), .c (.int .i64 p1e.Code), .c (.str p1e.Name), .c (.str p1e.Key), .c (.int .i64 p1e.Data.Kind), .c (.int .i64 p1e.Data.Int), .c (.str p1e.Data.Text), .c (PV.ls 5 rowApiValue p1e.Data.Items), .c (PV.ls 1 rowS p1e.Data.Keys), .c (.str p1e.Opts.Queue), .c (.int .i64 p1e.Opts.ToStart), .c (.int .i64 p1e.Opts.ToClose), .c (.int .i64 p1e.Opts.Total), .c (.int .i64 p1e.Opts.Beat), .c (.int .i64 p1e.Opts.First), .c (.int .i64 p1e.Opts.Coef), .c (.int .i64 p1e.Opts.Most), .c (.int .i64 p1e.Opts.Attempts), .c (PV.ls 1 rowS p1e.Opts.Fatal)]] : St)) ?_ ?_
    ·
     refine w_seqw ?_
     refine w_region ?_
     refine o_p rfl (p_eql rfl rfl) ?_
     refine o_p rfl (p_assign (v := aB) rfl) ?_
     refine o_end (fr' := [(0, .agg [aI, aI, aS, aS, aI, aI, aI, aS, aL, aL, aS, aI, aI, aI, aI, aI, aI, aI, aI, aL]), (1, .agg [aI, aI, aI, aI, aI, aI, aI, aS, aS, aI, aI, aS, aL, aL, aS, aI, aI, aI, aI, aI, aI, aI, aI, aL]), (2, .box 0 0), (3, .box 1 0), (4, aB), (5, aB), (6, aB), (7, aB), (8, aB), (20, aB), (22, aI), (23, aB), (25, aB)]) rfl ?_
     refine e_kw ?_
     refine w_cond _ rfl (fun hb14 => ?_) (fun hb14 => ?_)
     ·
      have h14 := cond_t (b := (decide (p0c.Kind = (2 : Int)))) hb14 hx11
      refine w_skip ?_
      exact e_j _ (Option.some.inj h14).symm (w_weak [] 2 rfl rfl rfl rfl ⟨(AV.le_refl _), (AV.le_refl _), (AV.le_refl _), (AV.le_refl _), (AV.le_refl _), (AV.le_refl _), (AV.le_refl _), (AV.le_refl _), trivial⟩ (st_r rfl (st_r rfl st_nil)))
     ·
      have h14 := cond_f (b := (decide (p0c.Kind = (2 : Int)))) hb14 hx11
      refine w_region ?_
      refine o_p rfl (p_eql rfl rfl) ?_
      refine o_p rfl (p_assign (v := aB) rfl) ?_
      refine o_end (fr' := [(0, .agg [aI, aI, aS, aS, aI, aI, aI, aS, aL, aL, aS, aI, aI, aI, aI, aI, aI, aI, aI, aL]), (1, .agg [aI, aI, aI, aI, aI, aI, aI, aS, aS, aI, aI, aS, aL, aL, aS, aI, aI, aI, aI, aI, aI, aI, aI, aL]), (2, .box 0 0), (3, .box 1 0), (4, aB), (5, aB), (6, aB), (7, aB), (8, aB), (20, aB), (22, aI), (23, aB), (25, aB)]) rfl ?_
      exact e_j _ (Option.some.inj h14).symm (w_weak [] 2 rfl rfl rfl rfl ⟨(AV.le_refl _), (AV.le_refl _), (AV.le_refl _), (AV.le_refl _), (AV.le_refl _), (AV.le_refl _), (AV.le_refl _), (AV.le_refl _), trivial⟩ (st_r rfl (st_r rfl st_nil)))
    ·
     intro j13 hj15
     subst hj15
     refine w_cond _ rfl (fun hb16 => ?_) (fun hb16 => ?_)
     ·
      have h16 := cond_t (b := x11) hb16 h12
      refine w_region ?_
      refine o_p rfl (p_assign (v := aB) rfl) ?_
      refine o_end (fr' := [(2, .box 0 0), (3, .box 1 0), (5, aB), (6, aB), (7, aB), (8, aB), (22, aI), (25, aB)]) rfl ?_
      refine e_blk_n ?_
      exact e_j _ (Option.some.inj h16).symm (w_weak [] 2 rfl rfl rfl rfl ⟨(AV.le_refl _), (AV.le_refl _), (AV.le_refl _), (AV.le_refl _), (AV.le_refl _), (AV.le_refl _), trivial⟩ (st_r rfl (st_r rfl st_nil)))
     ·
      have h16 := cond_f (b := x11) hb16 h12
      refine w_seqw ?_
      refine w_region ?_
      refine o_p rfl (p_eql rfl rfl) ?_
      refine o_p rfl (p_assign (v := aB) rfl) ?_
      refine o_end (fr' := [(2, .box 0 0), (3, .box 1 0), (5, aB), (6, aB), (7, aB), (8, aB), (22, aI), (25, aB), (28, aB)]) rfl ?_
      refine e_kw ?_
      refine w_cond _ rfl (fun hb17 => ?_) (fun hb17 => ?_)
      ·
       have h17 := cond_t (b := (decide (p0c.Kind = (3 : Int)))) hb17 h16
       refine w_region ?_
       refine o_p rfl (p_assign (v := aB) rfl) ?_
       refine o_p rfl (p_assign (v := aB) rfl) ?_
       refine o_end (fr' := [(2, .box 0 0), (3, .box 1 0), (5, aB), (6, aB), (7, aB), (8, aB), (22, aI), (25, aB), (28, aB)]) rfl ?_
       refine e_blk_n ?_
       exact e_j _ (Option.some.inj h17).symm (w_weak [] 2 rfl rfl rfl rfl ⟨(AV.le_refl _), (AV.le_refl _), (AV.le_refl _), (AV.le_refl _), (AV.le_refl _), (AV.le_refl _), trivial⟩ (st_r rfl (st_r rfl st_nil)))
      ·
       have h17 := cond_f (b := (decide (p0c.Kind = (3 : Int)))) hb17 h16
       refine w_seqw ?_
       refine w_region ?_
       refine o_p rfl (p_eql rfl rfl) ?_
       refine o_p rfl (p_assign (v := aB) rfl) ?_
       refine o_end (fr' := [(2, .box 0 0), (3, .box 1 0), (5, aB), (6, aB), (7, aB), (8, aB), (22, aI), (25, aB), (28, aB), (30, aB)]) rfl ?_
       refine e_kw ?_
       refine w_cond _ rfl (fun hb18 => ?_) (fun hb18 => ?_)
       ·
        have h18 := cond_t (b := (decide (p0c.Kind = (5 : Int)))) hb18 h17
        refine w_region ?_
        refine o_p rfl (p_assign (v := aB) rfl) ?_
        refine o_p rfl (p_assign (v := aB) rfl) ?_
        refine o_p rfl (p_assign (v := aB) rfl) ?_
        refine o_p rfl (p_assign (v := aB) rfl) ?_
        refine o_end (fr' := [(2, .box 0 0), (3, .box 1 0), (5, aB), (6, aB), (7, aB), (8, aB), (22, aI), (25, aB), (28, aB), (30, aB)]) rfl ?_
        refine e_blk_n ?_
        exact e_j _ (Option.some.inj h18).symm (w_weak [] 2 rfl rfl rfl rfl ⟨(AV.le_refl _), (AV.le_refl _), (AV.le_refl _), (AV.le_refl _), (AV.le_refl _), (AV.le_refl _), trivial⟩ (st_r rfl (st_r rfl st_nil)))
       ·
        have h18 := cond_f (b := (decide (p0c.Kind = (5 : Int)))) hb18 h17
        refine w_seqw ?_
        refine w_region ?_
        refine o_p rfl (p_eql rfl rfl) ?_
        refine o_p rfl (p_assign (v := aB) rfl) ?_
        refine o_end (fr' := [(2, .box 0 0), (3, .box 1 0), (5, aB), (6, aB), (7, aB), (8, aB), (22, aI), (25, aB), (28, aB), (30, aB), (32, aB)]) rfl ?_
        refine e_kw ?_
        refine w_cond _ rfl (fun hb19 => ?_) (fun hb19 => ?_)
        ·
         have h19 := cond_t (b := (decide (p0c.Kind = (6 : Int)))) hb19 h18
         refine w_region ?_
         refine o_p rfl (p_assign (v := aB) rfl) ?_
         refine o_p rfl (p_assign (v := aB) rfl) ?_
         refine o_p rfl (p_assign (v := aB) rfl) ?_
         refine o_end (fr' := [(2, .box 0 0), (3, .box 1 0), (5, aB), (6, aB), (7, aB), (8, aB), (22, aI), (25, aB), (28, aB), (30, aB), (32, aB)]) rfl ?_
         refine e_blk_n ?_
         exact e_j _ (Option.some.inj h19).symm (w_weak [] 2 rfl rfl rfl rfl ⟨(AV.le_refl _), (AV.le_refl _), (AV.le_refl _), (AV.le_refl _), (AV.le_refl _), (AV.le_refl _), trivial⟩ (st_r rfl (st_r rfl st_nil)))
        ·
         have h19 := cond_f (b := (decide (p0c.Kind = (6 : Int)))) hb19 h18
         refine w_seqw ?_
         refine w_region ?_
         refine o_p rfl (p_eql rfl rfl) ?_
         refine o_p rfl (p_assign (v := aB) rfl) ?_
         refine o_end (fr' := [(2, .box 0 0), (3, .box 1 0), (5, aB), (6, aB), (7, aB), (8, aB), (22, aI), (25, aB), (28, aB), (30, aB), (32, aB), (34, aB)]) rfl ?_
         refine e_kw ?_
         refine w_cond _ rfl (fun hb20 => ?_) (fun hb20 => ?_)
         ·
          have h20 := cond_t (b := (decide (p0c.Kind = (7 : Int)))) hb20 h19
          refine w_region ?_
          refine o_p rfl (p_assign (v := aB) rfl) ?_
          refine o_p rfl (p_assign (v := aB) rfl) ?_
          refine o_end (fr' := [(2, .box 0 0), (3, .box 1 0), (5, aB), (6, aB), (7, aB), (8, aB), (22, aI), (25, aB), (28, aB), (30, aB), (32, aB), (34, aB)]) rfl ?_
          refine e_blk_n ?_
          exact e_j _ (Option.some.inj h20).symm (w_weak [] 2 rfl rfl rfl rfl ⟨(AV.le_refl _), (AV.le_refl _), (AV.le_refl _), (AV.le_refl _), (AV.le_refl _), (AV.le_refl _), trivial⟩ (st_r rfl (st_r rfl st_nil)))
         ·
          have h20 := cond_f (b := (decide (p0c.Kind = (7 : Int)))) hb20 h19
          refine w_seqw ?_
          refine w_region ?_
          refine o_p rfl (p_eql rfl rfl) ?_
          refine o_p rfl (p_assign (v := aB) rfl) ?_
          refine o_end (fr' := [(2, .box 0 0), (3, .box 1 0), (5, aB), (6, aB), (7, aB), (8, aB), (22, aI), (25, aB), (28, aB), (30, aB), (32, aB), (34, aB), (36, aB)]) rfl ?_
          refine e_kw ?_
          refine w_cond _ rfl (fun hb21 => ?_) (fun hb21 => ?_)
          ·
           have h21 := cond_t (b := (decide (p0c.Kind = (8 : Int)))) hb21 h20
           refine w_region ?_
           refine o_p rfl (p_assign (v := aB) rfl) ?_
           refine o_p rfl (p_assign (v := aB) rfl) ?_
           refine o_end (fr' := [(2, .box 0 0), (3, .box 1 0), (5, aB), (6, aB), (7, aB), (8, aB), (22, aI), (25, aB), (28, aB), (30, aB), (32, aB), (34, aB), (36, aB)]) rfl ?_
           refine e_blk_n ?_
           exact e_j _ (Option.some.inj h21).symm (w_weak [] 2 rfl rfl rfl rfl ⟨(AV.le_refl _), (AV.le_refl _), (AV.le_refl _), (AV.le_refl _), (AV.le_refl _), (AV.le_refl _), trivial⟩ (st_r rfl (st_r rfl st_nil)))
          ·
           have h21 := cond_f (b := (decide (p0c.Kind = (8 : Int)))) hb21 h20
           refine w_seqw ?_
           refine w_region ?_
           refine o_p rfl (p_eql rfl rfl) ?_
           refine o_p rfl (p_assign (v := aB) rfl) ?_
           refine o_end (fr' := [(2, .box 0 0), (3, .box 1 0), (5, aB), (6, aB), (7, aB), (8, aB), (22, aI), (25, aB), (28, aB), (30, aB), (32, aB), (34, aB), (36, aB), (38, aB)]) rfl ?_
           refine e_kw ?_
           refine w_cond _ rfl (fun hb22 => ?_) (fun hb22 => ?_)
           ·
            have h22 := cond_t (b := (decide (p0c.Kind = (9 : Int)))) hb22 h21
            refine w_region ?_
            refine o_p rfl (p_assign (v := aB) rfl) ?_
            refine o_p rfl (p_assign (v := aB) rfl) ?_
            refine o_end (fr' := [(2, .box 0 0), (3, .box 1 0), (5, aB), (6, aB), (7, aB), (8, aB), (22, aI), (25, aB), (28, aB), (30, aB), (32, aB), (34, aB), (36, aB), (38, aB)]) rfl ?_
            refine e_blk_n ?_
            exact e_j _ (Option.some.inj h22).symm (w_weak [] 2 rfl rfl rfl rfl ⟨(AV.le_refl _), (AV.le_refl _), (AV.le_refl _), (AV.le_refl _), (AV.le_refl _), (AV.le_refl _), trivial⟩ (st_r rfl (st_r rfl st_nil)))
           ·
            have h22 := cond_f (b := (decide (p0c.Kind = (9 : Int)))) hb22 h21
            refine w_seqw ?_
            refine w_region ?_
            refine o_p rfl (p_eql rfl rfl) ?_
            refine o_p rfl (p_assign (v := aB) rfl) ?_
            refine o_end (fr' := [(2, .box 0 0), (3, .box 1 0), (5, aB), (6, aB), (7, aB), (8, aB), (22, aI), (25, aB), (28, aB), (30, aB), (32, aB), (34, aB), (36, aB), (38, aB), (40, aB)]) rfl ?_
            refine e_kw ?_
            refine w_cond _ rfl (fun hb23 => ?_) (fun hb23 => ?_)
            ·
             have h23 := cond_t (b := (decide (p0c.Kind = (12 : Int)))) hb23 h22
             refine w_region ?_
             refine o_p rfl (p_assign (v := aB) rfl) ?_
             refine o_end (fr' := [(2, .box 0 0), (3, .box 1 0), (5, aB), (6, aB), (7, aB), (8, aB), (22, aI), (25, aB), (28, aB), (30, aB), (32, aB), (34, aB), (36, aB), (38, aB), (40, aB)]) rfl ?_
             refine e_blk_n ?_
             exact e_j _ (Option.some.inj h23).symm (w_weak [] 2 rfl rfl rfl rfl ⟨(AV.le_refl _), (AV.le_refl _), (AV.le_refl _), (AV.le_refl _), (AV.le_refl _), (AV.le_refl _), trivial⟩ (st_r rfl (st_r rfl st_nil)))
            ·
             have h23 := cond_f (b := (decide (p0c.Kind = (12 : Int)))) hb23 h22
             refine w_skip ?_
             refine e_blk_n ?_
             exact e_j _ (Option.some.inj h23).symm (w_weak [] 2 rfl rfl rfl rfl ⟨(AV.le_refl _), (AV.le_refl _), (AV.le_refl _), (AV.le_refl _), (AV.le_refl _), (AV.le_refl _), trivial⟩ (st_r rfl (st_r rfl st_nil)))
  ·
   intro j9 hj24
   subst hj24
   refine w_seqw ?_
   refine w_region ?_
   refine o_p rfl (p_move (v := aB) rfl) ?_
   refine o_p rfl (p_not rfl) ?_
   refine o_p rfl (p_move (v := aB) rfl) ?_
   refine o_g rfl rfl (fun hc => ov_p rfl (p_fa tf44x1 rfl)) ?_
   refine o_g rfl rfl (fun hc => ov_p rfl (p_load (v := aI) tv3 (gx rfl hc) rfl rfl)) ?_
   refine o_g rfl rfl (fun hc => ov_p rfl (p_fa tf46x3 rfl)) ?_
   refine o_g rfl rfl (fun hc => ov_p rfl (p_load (v := aI) tv3 (gx rfl hc) rfl rfl)) ?_
   refine o_g rfl rfl (fun hc => ov_p rfl (p_eql (gx rfl hc) (gx rfl hc))) ?_
   refine o_p rfl (p_pickz rfl rfl rfl (fun e => keq e)) ?_
   refine o_p rfl (p_move (v := aB) rfl) ?_
   refine o_g rfl rfl (fun hc => ov_p rfl (p_move (v := aB) rfl)) ?_
   refine o_g rfl rfl (fun hc => ov_p rfl (p_not (gx rfl hc))) ?_
   refine o_g rfl rfl (fun hc => ov_p rfl (p_move (v := aB) (gx rfl hc))) ?_
   refine o_gg rfl rfl (fun hc => ov_p rfl (p_fa tf44x2 rfl)) ?_
   refine o_gg rfl rfl (fun hc => ov_p rfl (p_load (v := aS) tv9 (gx rfl hc) rfl rfl)) ?_
   refine o_gg rfl rfl (fun hc => ov_p rfl (p_fa tf46x7 rfl)) ?_
   refine o_gg rfl rfl (fun hc => ov_p rfl (p_load (v := aS) tv9 (gx rfl hc) rfl rfl)) ?_
   refine o_gg rfl rfl (fun hc => ov_p rfl (p_seql (gx rfl hc) (gx rfl hc))) ?_
   refine o_g rfl rfl (fun hc => ov_p rfl (p_pickz (gx rfl hc) rfl rfl (fun e => band hc (keq e)))) ?_
   refine o_p rfl (p_picky rfl rfl rfl (fun e => keq e)) ?_
   refine o_p rfl (p_move (v := aB) rfl) ?_
   refine o_g rfl rfl (fun hc => ov_p rfl (p_move (v := aB) rfl)) ?_
   refine o_g rfl rfl (fun hc => ov_p rfl (p_not (gx rfl hc))) ?_
   refine o_g rfl rfl (fun hc => ov_p rfl (p_move (v := aB) (gx rfl hc))) ?_
   refine o_gg rfl rfl (fun hc => ov_p rfl (p_fa tf44x3 rfl)) ?_
   refine o_gg rfl rfl (fun hc => ov_p rfl (p_load (v := aS) tv9 (gx rfl hc) rfl rfl)) ?_
   refine o_gg rfl rfl (fun hc => ov_p rfl (p_fa tf46x8 rfl)) ?_
   refine o_gg rfl rfl (fun hc => ov_p rfl (p_load (v := aS) tv9 (gx rfl hc) rfl rfl)) ?_
   refine o_gg rfl rfl (fun hc => ov_p rfl (p_seql (gx rfl hc) (gx rfl hc))) ?_
   refine o_g rfl rfl (fun hc => ov_p rfl (p_pickz (gx rfl hc) rfl rfl (fun e => band hc (keq e)))) ?_
   refine o_p rfl (p_picky rfl rfl rfl (fun e => keq e)) ?_
   refine o_p rfl (p_move (v := aB) rfl) ?_
   refine o_g rfl rfl (fun hc => ov_p rfl (p_move (v := aB) rfl)) ?_
   refine o_g rfl rfl (fun hc => ov_p rfl (p_not (gx rfl hc))) ?_
   refine o_g rfl rfl (fun hc => ov_p rfl (p_move (v := aB) (gx rfl hc))) ?_
   refine o_gg rfl rfl (fun hc => ov_p rfl (p_fa tf44x4 rfl)) ?_
   refine o_gg rfl rfl (fun hc => ov_p rfl (p_load (v := aI) tv3 (gx rfl hc) rfl rfl)) ?_
   refine o_gg rfl rfl (fun hc => ov_p rfl (p_fa tf46x5 rfl)) ?_
   refine o_gg rfl rfl (fun hc => ov_p rfl (p_load (v := aI) tv3 (gx rfl hc) rfl rfl)) ?_
   refine o_gg rfl rfl (fun hc => ov_p rfl (p_eql (gx rfl hc) (gx rfl hc))) ?_
   refine o_g rfl rfl (fun hc => ov_p rfl (p_pickz (gx rfl hc) rfl rfl (fun e => band hc (keq e)))) ?_
   refine o_p rfl (p_picky rfl rfl rfl (fun e => keq e)) ?_
   refine o_p rfl (p_assign (v := aB) rfl) ?_
   refine o_end (fr' := [(2, .box 0 0), (3, .box 1 0), (4, aB), (5, aB), (6, aB), (7, aB), (8, aB)]) rfl ?_
   refine e_kw ?_
   refine w_ret ?_
   have he25 := Option.some.inj h8
   subst he25
   refine e_ret (rs' := [.tmp 4]) rfl ?_
   refine r_tmp (v := aB) rfl ?_
   refine r_nil ?_
   exact fin_gen [] rfl rfl rfl (AV.le_refl _) st_nil
noncomputable def ref27xCompare_l1 (p0l : (List ApiCommand)) (p1es : (List ApiEvent)) (s4 : Int) : Option (Step Int (Fl Int Unit)) :=
 cond (cond (decide (s4 < ((p0l).length : Int))) true (decide (s4 < ((p1es).length : Int)))) ((gd ((cond (decide (((p0l).length : Int) ≤ s4)) true (decide (((p1es).length : Int) ≤ s4))) == false) (idx p0l s4)).bind fun (x6 : ApiCommand) => (gd ((cond (decide (((p0l).length : Int) ≤ s4)) true (decide (((p1es).length : Int) ≤ s4))) == false) (idx p1es s4)).bind fun (x8 : ApiEvent) => (gd ((cond (decide (((p0l).length : Int) ≤ s4)) true (decide (((p1es).length : Int) ≤ s4))) == false) (ref27xMatch x6 x8)).bind fun (x10 : Bool) => cond (cond (cond (decide (((p0l).length : Int) ≤ s4)) true (decide (((p1es).length : Int) ≤ s4))) true (!x10)) (some (Step.out (Fl.done s4))) (some (Step.next (IntKind.wrap .i64 (s4 + (1 : Int)))))) (some (Step.out (Fl.go ())))
noncomputable def ref27xCompare (p0l : (List ApiCommand)) (p1es : (List ApiEvent)) : Option Int :=
 ((loopO (ref27xCompare_l1 p0l p1es) ((0 : Int))) : Option (Fl Int Unit)).bind fun (x1 : (Fl Int Unit)) => Fl.next x1 (fun (j3 : Unit) => (some (-1 : Int)))
theorem w_ref27xCompare {p0l : (List ApiCommand)} {p1es : (List ApiEvent)} {res : Int} (h : ref27xCompare p0l p1es = some res) : ACalls Try.prog 30 [.c (PV.ls 20 rowApiCommand p0l), .c (PV.ls 24 rowApiEvent p1es)] [] (.c (.int .i64 res)) [] := by
 unfold ref27xCompare at h
 refine acalls (fn := Try.f30) [0, 1, 4, 5, 15, 39] (by kernel_rfl) Try.func30 rfl (by kernel_rfl) (by kernel_rfl) ?_
 refine w_seqw ?_
 refine w_region ?_
 refine o_p rfl (p_assign (v := aI) rfl) ?_
 refine o_end (fr' := [(0, aL), (1, aL), (4, aI)]) rfl ?_
 refine e_kw ?_
 refine w_seqw ?_
 refine w_seqw ?_
 refine w_region ?_
 refine o_p rfl (p_assign (v := aI) rfl) ?_
 refine o_end (fr' := [(0, aL), (1, aL), (4, aI), (5, aI)]) rfl ?_
 refine e_kw ?_
 obtain ⟨x1, hx1, h2⟩ := bind_s h
 refine w_jtail cl_kw (fun j3 => x1 = Fl.go j3) (fun (j3 : Unit) => ([] : Fr)) (fun (j3 : Unit) => ([] : St)) ?_ ?_
 ·
  refine w_block ?_
  refine w_loopo _ (fun (s4 : Int) => ([(0, .c (PV.ls 20 rowApiCommand p0l)), (1, .c (PV.ls 24 rowApiEvent p1es)), (5, .c (.int .i64 s4))] : Fr)) (fun (s4 : Int) => ([] : St)) hx1 (w_weak [] 0 rfl rfl rfl rfl ⟨(AV.le_refl _), (AV.le_refl _), (AV.le_refl _), trivial⟩ st_nil) ?_
  intro s4 st4 hs4 ho4
  unfold ref27xCompare_l1 at hs4
  refine w_seqw ?_
  refine w_seqw ?_
  refine w_region ?_
  refine o_p rfl (p_move (v := aI) rfl) ?_
  refine o_p rfl (p_move (v := aL) rfl) ?_
  refine o_p rfl (p_len ti48 (isl_c rfl)) ?_
  refine o_p rfl (p_lss rfl rfl) ?_
  refine o_p rfl (p_move (v := aB) rfl) ?_
  refine o_g rfl rfl (fun hc => ov_p rfl (p_move (v := aI) rfl)) ?_
  refine o_g rfl rfl (fun hc => ov_p rfl (p_move (v := aL) rfl)) ?_
  refine o_g rfl rfl (fun hc => ov_p rfl (p_len ti49 (isl_c (gx rfl hc)))) ?_
  refine o_g rfl rfl (fun hc => ov_p rfl (p_lss (gx rfl hc) (gx rfl hc))) ?_
  refine o_p rfl (p_pickz rfl rfl rfl (fun e => keq e)) ?_
  refine o_end (fr' := [(0, aL), (1, aL), (5, aI), (15, aB)]) rfl ?_
  refine e_kw ?_
  refine w_cond _ rfl (fun hb5 => ?_) (fun hb5 => ?_)
  ·
   have h5 := cond_t (b := (cond (decide (s4 < ((p0l).length : Int))) true (decide (s4 < ((p1es).length : Int))))) hb5 hs4
   refine w_skip ?_
   refine e_kw ?_
   refine w_seqw ?_
   refine w_block ?_
   refine w_seqw ?_
   refine w_planT [.q 0, .q 1, .q 2, .q 3, .q 4, .q 5, .q 6, .q 7, .q 8, .q 9, .q 10, .q 11, .q 12, .q 13, .q 14, .q 15, .q 16, .q 17, .q 18, .q 19, .q 20, .q 21] [(some 18, [5]), (some 19, [0]), (some 20, [19]), (some 21, [18, 20]), (some 22, [21]), (some 23, [5, 22]), (some 24, [1, 22]), (some 25, [24, 22]), (some 26, [23, 25, 22]), (some 27, [22, 26]), (some 28, [27]), (some 29, [0, 28]), (some 30, [5, 28]), (some 31, [29, 30, 28]), (some 32, [31, 28]), (some 33, [1, 28]), (some 34, [5, 28]), (some 35, [33, 34, 28]), (some 36, [35, 28]), (some 37, [32, 36, 28]), (some 38, [37, 28]), (some 39, [28, 38])] [0, 0, 2, 7, 15, 31, 31, 95, 255, 511, 1023, 2047, 2047, 8191, 16383, 2047, 2047, 100351, 231423, 524287, 1048575, 2097151] (by kernel_rfl) ?_
   refine d_q rfl (qv_p rfl (p_move (v := aI) rfl)) ?_
   refine d_q rfl (qv_p rfl (p_move (v := aL) rfl)) ?_
   refine d_q rfl (qv_p rfl (p_len ti48 (isl_c rfl))) ?_
   refine d_q rfl (qv_p rfl (p_geq rfl rfl)) ?_
   refine d_q rfl (qv_p rfl (p_move (v := aB) rfl)) ?_
   refine d_g rfl rfl rfl (fun hc => qv_p rfl (p_move (v := aI) rfl)) ?_
   refine d_g rfl rfl rfl (fun hc => qv_p rfl (p_move (v := aL) rfl)) ?_
   refine d_g rfl rfl rfl (fun hc => qv_p rfl (p_len ti49 (isl_c (gx rfl hc)))) ?_
   refine d_g rfl rfl rfl (fun hc => qv_p rfl (p_geq (gx rfl hc) (gx rfl hc))) ?_
   refine d_q rfl (qv_p rfl (p_pickz rfl rfl rfl (fun e => keq e))) ?_
   refine d_q rfl (qv_p rfl (p_move (v := aB) rfl)) ?_
   refine d_g rfl rfl rfl (fun hc => qv_p rfl (p_move (v := aL) rfl)) ?_
   refine d_g rfl rfl rfl (fun hc => qv_p rfl (p_move (v := aI) rfl)) ?_
   obtain ⟨x6, hx6, h7⟩ := bind_s h5
   refine d_g rfl rfl rfl (fun hc => qv_p rfl (p_ia (cs := [.int _ _, .int _ _, .str _, .str _, .int _ _, .int _ _, .int _ _, .str _, PV.ls _ _ _, PV.ls _ _ _, .str _, .int _ _, .int _ _, .int _ _, .int _ _, .int _ _, .int _ _, .int _ _, .int _ _, PV.ls _ _ _]) ts48 (isl_c (gx rfl hc)) (gx rfl hc) (gd_some hx6 hc) rfl)) ?_
   refine d_g rfl rfl rfl (fun hc => qv_p rfl (p_loades (us := [.int _ _, .int _ _, .str _, .str _, .int _ _, .int _ _, .int _ _, .str _, PV.ls _ _ _, PV.ls _ _ _, .str _, .int _ _, .int _ _, .int _ _, .int _ _, .int _ _, .int _ _, .int _ _, .int _ _, PV.ls _ _ _]) tv44 (gx rfl hc) rfl rfl)) ?_
   refine d_g rfl rfl rfl (fun hc => qv_p rfl (p_move (v := aL) rfl)) ?_
   refine d_g rfl rfl rfl (fun hc => qv_p rfl (p_move (v := aI) rfl)) ?_
   obtain ⟨x8, hx8, h9⟩ := bind_s h7
   refine d_g rfl rfl rfl (fun hc => qv_p rfl (p_ia (cs := [.int _ _, .int _ _, .int _ _, .int _ _, .int _ _, .int _ _, .int _ _, .str _, .str _, .int _ _, .int _ _, .str _, PV.ls _ _ _, PV.ls _ _ _, .str _, .int _ _, .int _ _, .int _ _, .int _ _, .int _ _, .int _ _, .int _ _, .int _ _, PV.ls _ _ _]) ts49 (isl_c (gx rfl hc)) (gx rfl hc) (gd_some hx8 hc) rfl)) ?_
   refine d_g rfl rfl rfl (fun hc => qv_p rfl (p_loades (us := [.int _ _, .int _ _, .int _ _, .int _ _, .int _ _, .int _ _, .int _ _, .str _, .str _, .int _ _, .int _ _, .str _, PV.ls _ _ _, PV.ls _ _ _, .str _, .int _ _, .int _ _, .int _ _, .int _ _, .int _ _, .int _ _, .int _ _, .int _ _, PV.ls _ _ _]) tv46 (gx rfl hc) rfl rfl)) ?_
   obtain ⟨x10, hx10, h11⟩ := bind_s h9
   refine d_g rfl rfl rfl (fun hc => qv_call (v := aB) rfl (w_ref27xMatch (gd_some hx10 hc)) ⟨(le_gv (gx rfl hc) (le_aggc rfl ⟨rfl, rfl, rfl, rfl, rfl, rfl, rfl, rfl, rfl, rfl, rfl, rfl, rfl, rfl, rfl, rfl, rfl, rfl, rfl, rfl, trivial⟩)), (le_gv (gx rfl hc) (le_aggc rfl ⟨rfl, rfl, rfl, rfl, rfl, rfl, rfl, rfl, rfl, rfl, rfl, rfl, rfl, rfl, rfl, rfl, rfl, rfl, rfl, rfl, rfl, rfl, rfl, rfl, trivial⟩)), trivial⟩ rfl) ?_
   refine d_g rfl rfl rfl (fun hc => qv_p rfl (p_not (gx rfl hc))) ?_
   refine d_q rfl (qv_p rfl (p_pickz rfl rfl rfl (fun e => keq e))) ?_
   refine d_end (fr' := [(0, aL), (1, aL), (5, aI), (15, aB), (39, aB)]) rfl ?_
   refine e_kw ?_
   refine w_cond _ rfl (fun hb12 => ?_) (fun hb12 => ?_)
   ·
    have h12 := cond_t (b := (cond (cond (decide (((p0l).length : Int) ≤ s4)) true (decide (((p1es).length : Int) ≤ s4))) true (!x10))) hb12 h11
    refine w_seqw ?_
    refine w_region ?_
    refine o_p rfl (p_move (v := aI) rfl) ?_
    refine o_p rfl (p_assign (v := aI) rfl) ?_
    refine o_end (fr' := [(0, aL), (1, aL), (4, aI), (5, aI), (15, aB), (39, aB)]) rfl ?_
    refine e_kw ?_
    refine w_ret ?_
    refine e_blk_r ?_
    refine e_seq_r ?_
    refine e_seq_r ?_
    refine e_blk_r ?_
    refine e_seq_r ?_
    refine e_seq_r ?_
    have h13 := un_out h12 ho4
    have h14 := un_done h13 h2
    have he15 := Option.some.inj h14
    subst he15
    refine e_ret (rs' := [.tmp 4]) rfl ?_
    refine r_tmp (v := aI) rfl ?_
    refine r_nil ?_
    exact fin_gen [] rfl rfl rfl (AV.le_refl _) st_nil
   ·
    have h12 := cond_f (b := (cond (cond (decide (((p0l).length : Int) ≤ s4)) true (decide (((p1es).length : Int) ≤ s4))) true (!x10))) hb12 h11
    refine w_skip ?_
    refine e_blk_n ?_
    refine e_kw ?_
    refine w_region ?_
    refine o_p rfl (p_move (v := aI) rfl) ?_
    refine o_p rfl (p_add rfl rfl) ?_
    refine o_p rfl (p_assign (v := aI) rfl) ?_
    refine o_end (fr' := [(0, aL), (1, aL), (5, aI), (15, aB), (39, aB)]) rfl ?_
    exact e_l _ (Option.some.inj h12).symm (w_weak [] 0 rfl rfl rfl rfl ⟨(AV.le_refl _), (AV.le_refl _), (AV.le_refl _), trivial⟩ st_nil)
  ·
   have h5 := cond_f (b := (cond (decide (s4 < ((p0l).length : Int))) true (decide (s4 < ((p1es).length : Int))))) hb5 hs4
   refine w_exit ?_
   refine e_seq_x ?_
   refine e_seq_x ?_
   refine e_blk_h ?_
   have h16 := un_out h5 ho4
   exact e_j _ (Option.some.inj h16).symm (w_weak [] 0 rfl rfl rfl rfl trivial st_nil)
 ·
  intro j3 hj17
  have h17 := un_go hj17 h2
  refine e_kw ?_
  refine w_seqw ?_
  refine w_region ?_
  refine o_p rfl (p_assign (v := aI) rfl) ?_
  refine o_end (fr' := [(4, aI)]) rfl ?_
  refine e_kw ?_
  refine w_ret ?_
  have he18 := Option.some.inj h17
  subst he18
  refine e_ret (rs' := [.tmp 4]) rfl ?_
  refine r_tmp (v := aI) rfl ?_
  refine r_nil ?_
  exact fin_gen [] rfl rfl rfl (AV.le_refl _) st_nil
end Go.Proofs.Ytnhchphmmdgphaa

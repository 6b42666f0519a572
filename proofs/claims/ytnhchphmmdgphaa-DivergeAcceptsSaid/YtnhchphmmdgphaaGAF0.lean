import Derived.Test.YtnhchphmmdgphaaGATy
namespace Go.Proofs.Ytnhchphmmdgphaa
open Go Abs
set_option maxRecDepth 100000
set_option linter.unusedVariables false
set_option linter.unusedSimpArgs false
noncomputable def diverge_compared (p0kind : Int) : Option DivergeFields :=
 cond (decide (p0kind = (1 : Int))) (some (DivergeFields.mk true true false false)) (((cond (decide (p0kind = (2 : Int))) (some (decide (p0kind = (2 : Int)))) (some (decide (p0kind = (4 : Int))))) : Option Bool).bind fun (x3 : Bool) => (cond x3 (some (DivergeFields.mk true false false false)) (cond (decide (p0kind = (3 : Int))) (some (DivergeFields.mk true false false true)) (cond (decide (p0kind = (5 : Int))) (some (DivergeFields.mk true true true true)) (cond (decide (p0kind = (6 : Int))) (some (DivergeFields.mk true true true false)) (cond (decide (p0kind = (7 : Int))) (some (DivergeFields.mk false true false true)) (cond (decide (p0kind = (8 : Int))) (some (DivergeFields.mk false true true false)) (cond (decide (p0kind = (9 : Int))) (some (DivergeFields.mk false false true true)) (cond (decide (p0kind = (12 : Int))) (some (DivergeFields.mk false true false false)) (some (DivergeFields.mk false false false false)))))))))))
theorem w_diverge_compared {p0kind : Int} {res : DivergeFields} (h : diverge_compared p0kind = some res) : ACalls Try.prog 49 [.c (.int .i64 p0kind)] [] (.agg (AV.cs (rowDivergeFields res))) [] := by
 unfold diverge_compared at h
 refine acalls (fn := Try.f49) [0, 2, 3, 4, 7, 11, 14, 17, 20, 23, 26, 29] (by kernel_rfl) Try.func49 rfl (by kernel_rfl) (by kernel_rfl) ?_
 refine w_seqw ?_
 refine w_region ?_
 refine o_alloc (n := 0) (cs := [aB, aB, aB, aB]) (σ' := [[aB, aB, aB, aB]]) tz85 rfl rfl rfl ?_
 refine o_end (fr' := [(0, aI), (2, .box 0 0)]) rfl ?_
 refine e_kw ?_
 refine w_seqw ?_
 refine w_seqw ?_
 refine w_region ?_
 refine o_p rfl (p_move (v := aI) rfl) ?_
 refine o_end (fr' := [(0, aI), (2, .box 0 0), (3, aI)]) rfl ?_
 refine e_kw ?_
 refine w_block ?_
 refine w_seqw ?_
 refine w_region ?_
 refine o_p rfl (p_eql rfl rfl) ?_
 refine o_p rfl (p_assign (v := aB) rfl) ?_
 refine o_end (fr' := [(0, aI), (2, .box 0 0), (3, aI), (4, aB)]) rfl ?_
 refine e_kw ?_
 refine w_cond _ rfl (fun hb1 => ?_) (fun hb1 => ?_)
 ·
  have h1 := cond_t (b := (decide (p0kind = (1 : Int)))) hb1 h
  refine w_seqw ?_
  refine w_region ?_
  refine o_p rfl (p_build (cs := [aB, aB, aB, aB]) tb85 rfl) ?_
  refine o_store (v := .agg [aB, aB, aB, aB]) (us := [aB, aB, aB, aB]) (cs := [aB, aB, aB, aB]) (σ' := [[aB, aB, aB, aB]]) rfl tv85 rfl rfl rfl rfl rfl rfl rfl rfl ?_
  refine o_end (fr' := [(0, aI), (2, .box 0 0), (3, aI), (4, aB)]) rfl ?_
  refine e_kw ?_
  refine w_ret ?_
  refine e_blk_r ?_
  refine e_seq_r ?_
  have he2 := Option.some.inj h1
  subst he2
  refine e_ret (rs' := [.cell 2 85]) rfl ?_
  refine r_cells (us := [aB, aB, aB, aB]) (cs := [aB, aB, aB, aB]) tv85 rfl rfl rfl rfl ?_
  refine r_nil ?_
  exact fin_gen [] rfl rfl rfl (le_aggc rfl ⟨rfl, rfl, rfl, rfl, trivial⟩) st_nil
 ·
  have h1 := cond_f (b := (decide (p0kind = (1 : Int)))) hb1 h
  obtain ⟨x3, hx3, h4⟩ := bind_s h1
  refine w_join (fun j5 => x3 = j5) (fun (j5 : Bool) => ([(2, .box 0 0), (3, .c (.int .i64 p0kind)), (7, .c (.bool j5))] : Fr)) (fun (j5 : Bool) => ([[.c (.bool false), .c (.bool false), .c (.bool false), .c (.bool false)]] : St)) ?_ ?_
  ·
   refine w_seqw ?_
   refine w_region ?_
   refine o_p rfl (p_eql rfl rfl) ?_
   refine o_p rfl (p_assign (v := aB) rfl) ?_
   refine o_end (fr' := [(0, aI), (2, .box 0 0), (3, aI), (4, aB), (7, aB)]) rfl ?_
   refine e_kw ?_
   refine w_cond _ rfl (fun hb6 => ?_) (fun hb6 => ?_)
   ·
    have h6 := cond_t (b := (decide (p0kind = (2 : Int)))) hb6 hx3
    refine w_skip ?_
    exact e_j _ (Option.some.inj h6).symm (w_weak [] 1 rfl rfl rfl rfl ⟨(AV.le_refl _), (AV.le_refl _), (AV.le_refl _), trivial⟩ (st_r rfl st_nil))
   ·
    have h6 := cond_f (b := (decide (p0kind = (2 : Int)))) hb6 hx3
    refine w_region ?_
    refine o_p rfl (p_eql rfl rfl) ?_
    refine o_p rfl (p_assign (v := aB) rfl) ?_
    refine o_end (fr' := [(0, aI), (2, .box 0 0), (3, aI), (4, aB), (7, aB)]) rfl ?_
    exact e_j _ (Option.some.inj h6).symm (w_weak [] 1 rfl rfl rfl rfl ⟨(AV.le_refl _), (AV.le_refl _), (AV.le_refl _), trivial⟩ (st_r rfl st_nil))
  ·
   intro j5 hj7
   subst hj7
   refine w_cond _ rfl (fun hb8 => ?_) (fun hb8 => ?_)
   ·
    have h8 := cond_t (b := x3) hb8 h4
    refine w_seqw ?_
    refine w_region ?_
    refine o_p rfl (p_build (cs := [aB, aB, aB, aB]) tb85 rfl) ?_
    refine o_store (v := .agg [aB, aB, aB, aB]) (us := [aB, aB, aB, aB]) (cs := [aB, aB, aB, aB]) (σ' := [[aB, aB, aB, aB]]) rfl tv85 rfl rfl rfl rfl rfl rfl rfl rfl ?_
    refine o_end (fr' := [(2, .box 0 0), (3, aI), (7, aB)]) rfl ?_
    refine e_kw ?_
    refine w_ret ?_
    refine e_blk_r ?_
    refine e_seq_r ?_
    have he9 := Option.some.inj h8
    subst he9
    refine e_ret (rs' := [.cell 2 85]) rfl ?_
    refine r_cells (us := [aB, aB, aB, aB]) (cs := [aB, aB, aB, aB]) tv85 rfl rfl rfl rfl ?_
    refine r_nil ?_
    exact fin_gen [] rfl rfl rfl (le_aggc rfl ⟨rfl, rfl, rfl, rfl, trivial⟩) st_nil
   ·
    have h8 := cond_f (b := x3) hb8 h4
    refine w_seqw ?_
    refine w_region ?_
    refine o_p rfl (p_eql rfl rfl) ?_
    refine o_p rfl (p_assign (v := aB) rfl) ?_
    refine o_end (fr' := [(2, .box 0 0), (3, aI), (7, aB), (11, aB)]) rfl ?_
    refine e_kw ?_
    refine w_cond _ rfl (fun hb10 => ?_) (fun hb10 => ?_)
    ·
     have h10 := cond_t (b := (decide (p0kind = (3 : Int)))) hb10 h8
     refine w_seqw ?_
     refine w_region ?_
     refine o_p rfl (p_build (cs := [aB, aB, aB, aB]) tb85 rfl) ?_
     refine o_store (v := .agg [aB, aB, aB, aB]) (us := [aB, aB, aB, aB]) (cs := [aB, aB, aB, aB]) (σ' := [[aB, aB, aB, aB]]) rfl tv85 rfl rfl rfl rfl rfl rfl rfl rfl ?_
     refine o_end (fr' := [(2, .box 0 0), (3, aI), (7, aB), (11, aB)]) rfl ?_
     refine e_kw ?_
     refine w_ret ?_
     refine e_blk_r ?_
     refine e_seq_r ?_
     have he11 := Option.some.inj h10
     subst he11
     refine e_ret (rs' := [.cell 2 85]) rfl ?_
     refine r_cells (us := [aB, aB, aB, aB]) (cs := [aB, aB, aB, aB]) tv85 rfl rfl rfl rfl ?_
     refine r_nil ?_
     exact fin_gen [] rfl rfl rfl (le_aggc rfl ⟨rfl, rfl, rfl, rfl, trivial⟩) st_nil
    ·
     have h10 := cond_f (b := (decide (p0kind = (3 : Int)))) hb10 h8
     refine w_seqw ?_
     refine w_region ?_
     refine o_p rfl (p_eql rfl rfl) ?_
     refine o_p rfl (p_assign (v := aB) rfl) ?_
     refine o_end (fr' := [(2, .box 0 0), (3, aI), (7, aB), (11, aB), (14, aB)]) rfl ?_
     refine e_kw ?_
     refine w_cond _ rfl (fun hb12 => ?_) (fun hb12 => ?_)
     ·
      have h12 := cond_t (b := (decide (p0kind = (5 : Int)))) hb12 h10
      refine w_seqw ?_
      refine w_region ?_
      refine o_p rfl (p_build (cs := [aB, aB, aB, aB]) tb85 rfl) ?_
      refine o_store (v := .agg [aB, aB, aB, aB]) (us := [aB, aB, aB, aB]) (cs := [aB, aB, aB, aB]) (σ' := [[aB, aB, aB, aB]]) rfl tv85 rfl rfl rfl rfl rfl rfl rfl rfl ?_
      refine o_end (fr' := [(2, .box 0 0), (3, aI), (7, aB), (11, aB), (14, aB)]) rfl ?_
      refine e_kw ?_
      refine w_ret ?_
      refine e_blk_r ?_
      refine e_seq_r ?_
      have he13 := Option.some.inj h12
      subst he13
      refine e_ret (rs' := [.cell 2 85]) rfl ?_
      refine r_cells (us := [aB, aB, aB, aB]) (cs := [aB, aB, aB, aB]) tv85 rfl rfl rfl rfl ?_
      refine r_nil ?_
      exact fin_gen [] rfl rfl rfl (le_aggc rfl ⟨rfl, rfl, rfl, rfl, trivial⟩) st_nil
     ·
      have h12 := cond_f (b := (decide (p0kind = (5 : Int)))) hb12 h10
      refine w_seqw ?_
      refine w_region ?_
      refine o_p rfl (p_eql rfl rfl) ?_
      refine o_p rfl (p_assign (v := aB) rfl) ?_
      refine o_end (fr' := [(2, .box 0 0), (3, aI), (7, aB), (11, aB), (14, aB), (17, aB)]) rfl ?_
      refine e_kw ?_
      refine w_cond _ rfl (fun hb14 => ?_) (fun hb14 => ?_)
      ·
       have h14 := cond_t (b := (decide (p0kind = (6 : Int)))) hb14 h12
       refine w_seqw ?_
       refine w_region ?_
       refine o_p rfl (p_build (cs := [aB, aB, aB, aB]) tb85 rfl) ?_
       refine o_store (v := .agg [aB, aB, aB, aB]) (us := [aB, aB, aB, aB]) (cs := [aB, aB, aB, aB]) (σ' := [[aB, aB, aB, aB]]) rfl tv85 rfl rfl rfl rfl rfl rfl rfl rfl ?_
       refine o_end (fr' := [(2, .box 0 0), (3, aI), (7, aB), (11, aB), (14, aB), (17, aB)]) rfl ?_
       refine e_kw ?_
       refine w_ret ?_
       refine e_blk_r ?_
       refine e_seq_r ?_
       have he15 := Option.some.inj h14
       subst he15
       refine e_ret (rs' := [.cell 2 85]) rfl ?_
       refine r_cells (us := [aB, aB, aB, aB]) (cs := [aB, aB, aB, aB]) tv85 rfl rfl rfl rfl ?_
       refine r_nil ?_
       exact fin_gen [] rfl rfl rfl (le_aggc rfl ⟨rfl, rfl, rfl, rfl, trivial⟩) st_nil
      ·
       have h14 := cond_f (b := (decide (p0kind = (6 : Int)))) hb14 h12
       refine w_seqw ?_
       refine w_region ?_
       refine o_p rfl (p_eql rfl rfl) ?_
       refine o_p rfl (p_assign (v := aB) rfl) ?_
       refine o_end (fr' := [(2, .box 0 0), (3, aI), (7, aB), (11, aB), (14, aB), (17, aB), (20, aB)]) rfl ?_
       refine e_kw ?_
       refine w_cond _ rfl (fun hb16 => ?_) (fun hb16 => ?_)
       ·
        have h16 := cond_t (b := (decide (p0kind = (7 : Int)))) hb16 h14
        refine w_seqw ?_
        refine w_region ?_
        refine o_p rfl (p_build (cs := [aB, aB, aB, aB]) tb85 rfl) ?_
        refine o_store (v := .agg [aB, aB, aB, aB]) (us := [aB, aB, aB, aB]) (cs := [aB, aB, aB, aB]) (σ' := [[aB, aB, aB, aB]]) rfl tv85 rfl rfl rfl rfl rfl rfl rfl rfl ?_
        refine o_end (fr' := [(2, .box 0 0), (3, aI), (7, aB), (11, aB), (14, aB), (17, aB), (20, aB)]) rfl ?_
        refine e_kw ?_
        refine w_ret ?_
        refine e_blk_r ?_
        refine e_seq_r ?_
        have he17 := Option.some.inj h16
        subst he17
        refine e_ret (rs' := [.cell 2 85]) rfl ?_
        refine r_cells (us := [aB, aB, aB, aB]) (cs := [aB, aB, aB, aB]) tv85 rfl rfl rfl rfl ?_
        refine r_nil ?_
        exact fin_gen [] rfl rfl rfl (le_aggc rfl ⟨rfl, rfl, rfl, rfl, trivial⟩) st_nil
       ·
        have h16 := cond_f (b := (decide (p0kind = (7 : Int)))) hb16 h14
        refine w_seqw ?_
        refine w_region ?_
        refine o_p rfl (p_eql rfl rfl) ?_
        refine o_p rfl (p_assign (v := aB) rfl) ?_
        refine o_end (fr' := [(2, .box 0 0), (3, aI), (7, aB), (11, aB), (14, aB), (17, aB), (20, aB), (23, aB)]) rfl ?_
        refine e_kw ?_
        refine w_cond _ rfl (fun hb18 => ?_) (fun hb18 => ?_)
        ·
         have h18 := cond_t (b := (decide (p0kind = (8 : Int)))) hb18 h16
         refine w_seqw ?_
         refine w_region ?_
         refine o_p rfl (p_build (cs := [aB, aB, aB, aB]) tb85 rfl) ?_
         refine o_store (v := .agg [aB, aB, aB, aB]) (us := [aB, aB, aB, aB]) (cs := [aB, aB, aB, aB]) (σ' := [[aB, aB, aB, aB]]) rfl tv85 rfl rfl rfl rfl rfl rfl rfl rfl ?_
         refine o_end (fr' := [(2, .box 0 0), (3, aI), (7, aB), (11, aB), (14, aB), (17, aB), (20, aB), (23, aB)]) rfl ?_
         refine e_kw ?_
         refine w_ret ?_
         refine e_blk_r ?_
         refine e_seq_r ?_
         have he19 := Option.some.inj h18
         subst he19
         refine e_ret (rs' := [.cell 2 85]) rfl ?_
         refine r_cells (us := [aB, aB, aB, aB]) (cs := [aB, aB, aB, aB]) tv85 rfl rfl rfl rfl ?_
         refine r_nil ?_
         exact fin_gen [] rfl rfl rfl (le_aggc rfl ⟨rfl, rfl, rfl, rfl, trivial⟩) st_nil
        ·
         have h18 := cond_f (b := (decide (p0kind = (8 : Int)))) hb18 h16
         refine w_seqw ?_
         refine w_region ?_
         refine o_p rfl (p_eql rfl rfl) ?_
         refine o_p rfl (p_assign (v := aB) rfl) ?_
         refine o_end (fr' := [(2, .box 0 0), (3, aI), (7, aB), (11, aB), (14, aB), (17, aB), (20, aB), (23, aB), (26, aB)]) rfl ?_
         refine e_kw ?_
         refine w_cond _ rfl (fun hb20 => ?_) (fun hb20 => ?_)
         ·
          have h20 := cond_t (b := (decide (p0kind = (9 : Int)))) hb20 h18
          refine w_seqw ?_
          refine w_region ?_
          refine o_p rfl (p_build (cs := [aB, aB, aB, aB]) tb85 rfl) ?_
          refine o_store (v := .agg [aB, aB, aB, aB]) (us := [aB, aB, aB, aB]) (cs := [aB, aB, aB, aB]) (σ' := [[aB, aB, aB, aB]]) rfl tv85 rfl rfl rfl rfl rfl rfl rfl rfl ?_
          refine o_end (fr' := [(2, .box 0 0), (3, aI), (7, aB), (11, aB), (14, aB), (17, aB), (20, aB), (23, aB), (26, aB)]) rfl ?_
          refine e_kw ?_
          refine w_ret ?_
          refine e_blk_r ?_
          refine e_seq_r ?_
          have he21 := Option.some.inj h20
          subst he21
          refine e_ret (rs' := [.cell 2 85]) rfl ?_
          refine r_cells (us := [aB, aB, aB, aB]) (cs := [aB, aB, aB, aB]) tv85 rfl rfl rfl rfl ?_
          refine r_nil ?_
          exact fin_gen [] rfl rfl rfl (le_aggc rfl ⟨rfl, rfl, rfl, rfl, trivial⟩) st_nil
         ·
          have h20 := cond_f (b := (decide (p0kind = (9 : Int)))) hb20 h18
          refine w_seqw ?_
          refine w_region ?_
          refine o_p rfl (p_eql rfl rfl) ?_
          refine o_p rfl (p_assign (v := aB) rfl) ?_
          refine o_end (fr' := [(2, .box 0 0), (3, aI), (7, aB), (11, aB), (14, aB), (17, aB), (20, aB), (23, aB), (26, aB), (29, aB)]) rfl ?_
          refine e_kw ?_
          refine w_cond _ rfl (fun hb22 => ?_) (fun hb22 => ?_)
          ·
           have h22 := cond_t (b := (decide (p0kind = (12 : Int)))) hb22 h20
           refine w_seqw ?_
           refine w_region ?_
           refine o_p rfl (p_build (cs := [aB, aB, aB, aB]) tb85 rfl) ?_
           refine o_store (v := .agg [aB, aB, aB, aB]) (us := [aB, aB, aB, aB]) (cs := [aB, aB, aB, aB]) (σ' := [[aB, aB, aB, aB]]) rfl tv85 rfl rfl rfl rfl rfl rfl rfl rfl ?_
           refine o_end (fr' := [(2, .box 0 0), (3, aI), (7, aB), (11, aB), (14, aB), (17, aB), (20, aB), (23, aB), (26, aB), (29, aB)]) rfl ?_
           refine e_kw ?_
           refine w_ret ?_
           refine e_blk_r ?_
           refine e_seq_r ?_
           have he23 := Option.some.inj h22
           subst he23
           refine e_ret (rs' := [.cell 2 85]) rfl ?_
           refine r_cells (us := [aB, aB, aB, aB]) (cs := [aB, aB, aB, aB]) tv85 rfl rfl rfl rfl ?_
           refine r_nil ?_
           exact fin_gen [] rfl rfl rfl (le_aggc rfl ⟨rfl, rfl, rfl, rfl, trivial⟩) st_nil
          ·
           have h22 := cond_f (b := (decide (p0kind = (12 : Int)))) hb22 h20
           refine w_skip ?_
           refine e_blk_n ?_
           refine e_kw ?_
           refine w_seqw ?_
           refine w_region ?_
           refine o_p rfl (p_build (cs := [aB, aB, aB, aB]) tb85 rfl) ?_
           refine o_store (v := .agg [aB, aB, aB, aB]) (us := [aB, aB, aB, aB]) (cs := [aB, aB, aB, aB]) (σ' := [[aB, aB, aB, aB]]) rfl tv85 rfl rfl rfl rfl rfl rfl rfl rfl ?_
           refine o_end (fr' := [(2, .box 0 0), (3, aI), (7, aB), (11, aB), (14, aB), (17, aB), (20, aB), (23, aB), (26, aB), (29, aB)]) rfl ?_
           refine e_kw ?_
           refine w_ret ?_
           have he24 := Option.some.inj h22
           subst he24
           refine e_ret (rs' := [.cell 2 85]) rfl ?_
           refine r_cells (us := [aB, aB, aB, aB]) (cs := [aB, aB, aB, aB]) tv85 rfl rfl rfl rfl ?_
           refine r_nil ?_
           exact fin_gen [] rfl rfl rfl (le_aggc rfl ⟨rfl, rfl, rfl, rfl, trivial⟩) st_nil
noncomputable def event_commandOf (p0kind : Int) : Option Int :=
 cond (decide (p0kind = (7 : Int))) (some (1 : Int)) (cond (decide (p0kind = (12 : Int))) (some (2 : Int)) (cond (decide (p0kind = (14 : Int))) (some (3 : Int)) (cond (decide (p0kind = (16 : Int))) (some (4 : Int)) (cond (decide (p0kind = (19 : Int))) (some (5 : Int)) (cond (decide (p0kind = (23 : Int))) (some (6 : Int)) (cond (decide (p0kind = (18 : Int))) (some (7 : Int)) (cond (decide (p0kind = (27 : Int))) (some (8 : Int)) (cond (decide (p0kind = (28 : Int))) (some (9 : Int)) (cond (decide (p0kind = (29 : Int))) (some (10 : Int)) (cond (decide (p0kind = (30 : Int))) (some (11 : Int)) (cond (decide (p0kind = (31 : Int))) (some (12 : Int)) (cond (decide (p0kind = (32 : Int))) (some (13 : Int)) (cond (decide (p0kind = (35 : Int))) (some (14 : Int)) (some (0 : Int)))))))))))))))
theorem w_event_commandOf {p0kind : Int} {res : Int} (h : event_commandOf p0kind = some res) : ACalls Try.prog 82 [.c (.int .i64 p0kind)] [] (.c (.int .i64 res)) [] := by
 unfold event_commandOf at h
 refine acalls (fn := Try.f82) [0, 2, 3, 4, 6, 8, 10, 12, 14, 16, 18, 20, 22, 24, 26, 28, 30] (by kernel_rfl) Try.func82 rfl (by kernel_rfl) (by kernel_rfl) ?_
 refine w_seqw ?_
 refine w_region ?_
 refine o_p rfl (p_assign (v := aI) rfl) ?_
 refine o_end (fr' := [(0, aI), (2, aI)]) rfl ?_
 refine e_kw ?_
 refine w_seqw ?_
 refine w_seqw ?_
 refine w_region ?_
 refine o_p rfl (p_move (v := aI) rfl) ?_
 refine o_end (fr' := [(0, aI), (2, aI), (3, aI)]) rfl ?_
 refine e_kw ?_
 refine w_block ?_
 refine w_seqw ?_
 refine w_region ?_
 refine o_p rfl (p_eql rfl rfl) ?_
 refine o_p rfl (p_assign (v := aB) rfl) ?_
 refine o_end (fr' := [(0, aI), (2, aI), (3, aI), (4, aB)]) rfl ?_
 refine e_kw ?_
 refine w_cond _ rfl (fun hb1 => ?_) (fun hb1 => ?_)
 ·
  have h1 := cond_t (b := (decide (p0kind = (7 : Int)))) hb1 h
  refine w_seqw ?_
  refine w_region ?_
  refine o_p rfl (p_assign (v := aI) rfl) ?_
  refine o_end (fr' := [(0, aI), (2, aI), (3, aI), (4, aB)]) rfl ?_
  refine e_kw ?_
  refine w_ret ?_
  refine e_blk_r ?_
  refine e_seq_r ?_
  have he2 := Option.some.inj h1
  subst he2
  refine e_ret (rs' := [.tmp 2]) rfl ?_
  refine r_tmp (v := aI) rfl ?_
  refine r_nil ?_
  exact fin_gen [] rfl rfl rfl (AV.le_refl _) st_nil
 ·
  have h1 := cond_f (b := (decide (p0kind = (7 : Int)))) hb1 h
  refine w_seqw ?_
  refine w_region ?_
  refine o_p rfl (p_eql rfl rfl) ?_
  refine o_p rfl (p_assign (v := aB) rfl) ?_
  refine o_end (fr' := [(0, aI), (2, aI), (3, aI), (4, aB), (6, aB)]) rfl ?_
  refine e_kw ?_
  refine w_cond _ rfl (fun hb3 => ?_) (fun hb3 => ?_)
  ·
   have h3 := cond_t (b := (decide (p0kind = (12 : Int)))) hb3 h1
   refine w_seqw ?_
   refine w_region ?_
   refine o_p rfl (p_assign (v := aI) rfl) ?_
   refine o_end (fr' := [(0, aI), (2, aI), (3, aI), (4, aB), (6, aB)]) rfl ?_
   refine e_kw ?_
   refine w_ret ?_
   refine e_blk_r ?_
   refine e_seq_r ?_
   have he4 := Option.some.inj h3
   subst he4
   refine e_ret (rs' := [.tmp 2]) rfl ?_
   refine r_tmp (v := aI) rfl ?_
   refine r_nil ?_
   exact fin_gen [] rfl rfl rfl (AV.le_refl _) st_nil
  ·
   have h3 := cond_f (b := (decide (p0kind = (12 : Int)))) hb3 h1
   refine w_seqw ?_
   refine w_region ?_
   refine o_p rfl (p_eql rfl rfl) ?_
   refine o_p rfl (p_assign (v := aB) rfl) ?_
   refine o_end (fr' := [(0, aI), (2, aI), (3, aI), (4, aB), (6, aB), (8, aB)]) rfl ?_
   refine e_kw ?_
   refine w_cond _ rfl (fun hb5 => ?_) (fun hb5 => ?_)
   ·
    have h5 := cond_t (b := (decide (p0kind = (14 : Int)))) hb5 h3
    refine w_seqw ?_
    refine w_region ?_
    refine o_p rfl (p_assign (v := aI) rfl) ?_
    refine o_end (fr' := [(0, aI), (2, aI), (3, aI), (4, aB), (6, aB), (8, aB)]) rfl ?_
    refine e_kw ?_
    refine w_ret ?_
    refine e_blk_r ?_
    refine e_seq_r ?_
    have he6 := Option.some.inj h5
    subst he6
    refine e_ret (rs' := [.tmp 2]) rfl ?_
    refine r_tmp (v := aI) rfl ?_
    refine r_nil ?_
    exact fin_gen [] rfl rfl rfl (AV.le_refl _) st_nil
   ·
    have h5 := cond_f (b := (decide (p0kind = (14 : Int)))) hb5 h3
    refine w_seqw ?_
    refine w_region ?_
    refine o_p rfl (p_eql rfl rfl) ?_
    refine o_p rfl (p_assign (v := aB) rfl) ?_
    refine o_end (fr' := [(0, aI), (2, aI), (3, aI), (4, aB), (6, aB), (8, aB), (10, aB)]) rfl ?_
    refine e_kw ?_
    refine w_cond _ rfl (fun hb7 => ?_) (fun hb7 => ?_)
    ·
     have h7 := cond_t (b := (decide (p0kind = (16 : Int)))) hb7 h5
     refine w_seqw ?_
     refine w_region ?_
     refine o_p rfl (p_assign (v := aI) rfl) ?_
     refine o_end (fr' := [(0, aI), (2, aI), (3, aI), (4, aB), (6, aB), (8, aB), (10, aB)]) rfl ?_
     refine e_kw ?_
     refine w_ret ?_
     refine e_blk_r ?_
     refine e_seq_r ?_
     have he8 := Option.some.inj h7
     subst he8
     refine e_ret (rs' := [.tmp 2]) rfl ?_
     refine r_tmp (v := aI) rfl ?_
     refine r_nil ?_
     exact fin_gen [] rfl rfl rfl (AV.le_refl _) st_nil
    ·
     have h7 := cond_f (b := (decide (p0kind = (16 : Int)))) hb7 h5
     refine w_seqw ?_
     refine w_region ?_
     refine o_p rfl (p_eql rfl rfl) ?_
     refine o_p rfl (p_assign (v := aB) rfl) ?_
     refine o_end (fr' := [(0, aI), (2, aI), (3, aI), (4, aB), (6, aB), (8, aB), (10, aB), (12, aB)]) rfl ?_
     refine e_kw ?_
     refine w_cond _ rfl (fun hb9 => ?_) (fun hb9 => ?_)
     ·
      have h9 := cond_t (b := (decide (p0kind = (19 : Int)))) hb9 h7
      refine w_seqw ?_
      refine w_region ?_
      refine o_p rfl (p_assign (v := aI) rfl) ?_
      refine o_end (fr' := [(0, aI), (2, aI), (3, aI), (4, aB), (6, aB), (8, aB), (10, aB), (12, aB)]) rfl ?_
      refine e_kw ?_
      refine w_ret ?_
      refine e_blk_r ?_
      refine e_seq_r ?_
      have he10 := Option.some.inj h9
      subst he10
      refine e_ret (rs' := [.tmp 2]) rfl ?_
      refine r_tmp (v := aI) rfl ?_
      refine r_nil ?_
      exact fin_gen [] rfl rfl rfl (AV.le_refl _) st_nil
     ·
      have h9 := cond_f (b := (decide (p0kind = (19 : Int)))) hb9 h7
      refine w_seqw ?_
      refine w_region ?_
      refine o_p rfl (p_eql rfl rfl) ?_
      refine o_p rfl (p_assign (v := aB) rfl) ?_
      refine o_end (fr' := [(0, aI), (2, aI), (3, aI), (4, aB), (6, aB), (8, aB), (10, aB), (12, aB), (14, aB)]) rfl ?_
      refine e_kw ?_
      refine w_cond _ rfl (fun hb11 => ?_) (fun hb11 => ?_)
      ·
       have h11 := cond_t (b := (decide (p0kind = (23 : Int)))) hb11 h9
       refine w_seqw ?_
       refine w_region ?_
       refine o_p rfl (p_assign (v := aI) rfl) ?_
       refine o_end (fr' := [(0, aI), (2, aI), (3, aI), (4, aB), (6, aB), (8, aB), (10, aB), (12, aB), (14, aB)]) rfl ?_
       refine e_kw ?_
       refine w_ret ?_
       refine e_blk_r ?_
       refine e_seq_r ?_
       have he12 := Option.some.inj h11
       subst he12
       refine e_ret (rs' := [.tmp 2]) rfl ?_
       refine r_tmp (v := aI) rfl ?_
       refine r_nil ?_
       exact fin_gen [] rfl rfl rfl (AV.le_refl _) st_nil
      ·
       have h11 := cond_f (b := (decide (p0kind = (23 : Int)))) hb11 h9
       refine w_seqw ?_
       refine w_region ?_
       refine o_p rfl (p_eql rfl rfl) ?_
       refine o_p rfl (p_assign (v := aB) rfl) ?_
       refine o_end (fr' := [(0, aI), (2, aI), (3, aI), (4, aB), (6, aB), (8, aB), (10, aB), (12, aB), (14, aB), (16, aB)]) rfl ?_
       refine e_kw ?_
       refine w_cond _ rfl (fun hb13 => ?_) (fun hb13 => ?_)
       ·
        have h13 := cond_t (b := (decide (p0kind = (18 : Int)))) hb13 h11
        refine w_seqw ?_
        refine w_region ?_
        refine o_p rfl (p_assign (v := aI) rfl) ?_
        refine o_end (fr' := [(0, aI), (2, aI), (3, aI), (4, aB), (6, aB), (8, aB), (10, aB), (12, aB), (14, aB), (16, aB)]) rfl ?_
        refine e_kw ?_
        refine w_ret ?_
        refine e_blk_r ?_
        refine e_seq_r ?_
        have he14 := Option.some.inj h13
        subst he14
        refine e_ret (rs' := [.tmp 2]) rfl ?_
        refine r_tmp (v := aI) rfl ?_
        refine r_nil ?_
        exact fin_gen [] rfl rfl rfl (AV.le_refl _) st_nil
       ·
        have h13 := cond_f (b := (decide (p0kind = (18 : Int)))) hb13 h11
        refine w_seqw ?_
        refine w_region ?_
        refine o_p rfl (p_eql rfl rfl) ?_
        refine o_p rfl (p_assign (v := aB) rfl) ?_
        refine o_end (fr' := [(0, aI), (2, aI), (3, aI), (4, aB), (6, aB), (8, aB), (10, aB), (12, aB), (14, aB), (16, aB), (18, aB)]) rfl ?_
        refine e_kw ?_
        refine w_cond _ rfl (fun hb15 => ?_) (fun hb15 => ?_)
        ·
         have h15 := cond_t (b := (decide (p0kind = (27 : Int)))) hb15 h13
         refine w_seqw ?_
         refine w_region ?_
         refine o_p rfl (p_assign (v := aI) rfl) ?_
         refine o_end (fr' := [(0, aI), (2, aI), (3, aI), (4, aB), (6, aB), (8, aB), (10, aB), (12, aB), (14, aB), (16, aB), (18, aB)]) rfl ?_
         refine e_kw ?_
         refine w_ret ?_
         refine e_blk_r ?_
         refine e_seq_r ?_
         have he16 := Option.some.inj h15
         subst he16
         refine e_ret (rs' := [.tmp 2]) rfl ?_
         refine r_tmp (v := aI) rfl ?_
         refine r_nil ?_
         exact fin_gen [] rfl rfl rfl (AV.le_refl _) st_nil
        ·
         have h15 := cond_f (b := (decide (p0kind = (27 : Int)))) hb15 h13
         refine w_seqw ?_
         refine w_region ?_
         refine o_p rfl (p_eql rfl rfl) ?_
         refine o_p rfl (p_assign (v := aB) rfl) ?_
         refine o_end (fr' := [(0, aI), (2, aI), (3, aI), (4, aB), (6, aB), (8, aB), (10, aB), (12, aB), (14, aB), (16, aB), (18, aB), (20, aB)]) rfl ?_
         refine e_kw ?_
         refine w_cond _ rfl (fun hb17 => ?_) (fun hb17 => ?_)
         ·
          have h17 := cond_t (b := (decide (p0kind = (28 : Int)))) hb17 h15
          refine w_seqw ?_
          refine w_region ?_
          refine o_p rfl (p_assign (v := aI) rfl) ?_
          refine o_end (fr' := [(0, aI), (2, aI), (3, aI), (4, aB), (6, aB), (8, aB), (10, aB), (12, aB), (14, aB), (16, aB), (18, aB), (20, aB)]) rfl ?_
          refine e_kw ?_
          refine w_ret ?_
          refine e_blk_r ?_
          refine e_seq_r ?_
          have he18 := Option.some.inj h17
          subst he18
          refine e_ret (rs' := [.tmp 2]) rfl ?_
          refine r_tmp (v := aI) rfl ?_
          refine r_nil ?_
          exact fin_gen [] rfl rfl rfl (AV.le_refl _) st_nil
         ·
          have h17 := cond_f (b := (decide (p0kind = (28 : Int)))) hb17 h15
          refine w_seqw ?_
          refine w_region ?_
          refine o_p rfl (p_eql rfl rfl) ?_
          refine o_p rfl (p_assign (v := aB) rfl) ?_
          refine o_end (fr' := [(0, aI), (2, aI), (3, aI), (4, aB), (6, aB), (8, aB), (10, aB), (12, aB), (14, aB), (16, aB), (18, aB), (20, aB), (22, aB)]) rfl ?_
          refine e_kw ?_
          refine w_cond _ rfl (fun hb19 => ?_) (fun hb19 => ?_)
          ·
           have h19 := cond_t (b := (decide (p0kind = (29 : Int)))) hb19 h17
           refine w_seqw ?_
           refine w_region ?_
           refine o_p rfl (p_assign (v := aI) rfl) ?_
           refine o_end (fr' := [(0, aI), (2, aI), (3, aI), (4, aB), (6, aB), (8, aB), (10, aB), (12, aB), (14, aB), (16, aB), (18, aB), (20, aB), (22, aB)]) rfl ?_
           refine e_kw ?_
           refine w_ret ?_
           refine e_blk_r ?_
           refine e_seq_r ?_
           have he20 := Option.some.inj h19
           subst he20
           refine e_ret (rs' := [.tmp 2]) rfl ?_
           refine r_tmp (v := aI) rfl ?_
           refine r_nil ?_
           exact fin_gen [] rfl rfl rfl (AV.le_refl _) st_nil
          ·
           have h19 := cond_f (b := (decide (p0kind = (29 : Int)))) hb19 h17
           refine w_seqw ?_
           refine w_region ?_
           refine o_p rfl (p_eql rfl rfl) ?_
           refine o_p rfl (p_assign (v := aB) rfl) ?_
           refine o_end (fr' := [(0, aI), (2, aI), (3, aI), (4, aB), (6, aB), (8, aB), (10, aB), (12, aB), (14, aB), (16, aB), (18, aB), (20, aB), (22, aB), (24, aB)]) rfl ?_
           refine e_kw ?_
           refine w_cond _ rfl (fun hb21 => ?_) (fun hb21 => ?_)
           ·
            have h21 := cond_t (b := (decide (p0kind = (30 : Int)))) hb21 h19
            refine w_seqw ?_
            refine w_region ?_
            refine o_p rfl (p_assign (v := aI) rfl) ?_
            refine o_end (fr' := [(0, aI), (2, aI), (3, aI), (4, aB), (6, aB), (8, aB), (10, aB), (12, aB), (14, aB), (16, aB), (18, aB), (20, aB), (22, aB), (24, aB)]) rfl ?_
            refine e_kw ?_
            refine w_ret ?_
            refine e_blk_r ?_
            refine e_seq_r ?_
            have he22 := Option.some.inj h21
            subst he22
            refine e_ret (rs' := [.tmp 2]) rfl ?_
            refine r_tmp (v := aI) rfl ?_
            refine r_nil ?_
            exact fin_gen [] rfl rfl rfl (AV.le_refl _) st_nil
           ·
            have h21 := cond_f (b := (decide (p0kind = (30 : Int)))) hb21 h19
            refine w_seqw ?_
            refine w_region ?_
            refine o_p rfl (p_eql rfl rfl) ?_
            refine o_p rfl (p_assign (v := aB) rfl) ?_
            refine o_end (fr' := [(0, aI), (2, aI), (3, aI), (4, aB), (6, aB), (8, aB), (10, aB), (12, aB), (14, aB), (16, aB), (18, aB), (20, aB), (22, aB), (24, aB), (26, aB)]) rfl ?_
            refine e_kw ?_
            refine w_cond _ rfl (fun hb23 => ?_) (fun hb23 => ?_)
            ·
             have h23 := cond_t (b := (decide (p0kind = (31 : Int)))) hb23 h21
             refine w_seqw ?_
             refine w_region ?_
             refine o_p rfl (p_assign (v := aI) rfl) ?_
             refine o_end (fr' := [(0, aI), (2, aI), (3, aI), (4, aB), (6, aB), (8, aB), (10, aB), (12, aB), (14, aB), (16, aB), (18, aB), (20, aB), (22, aB), (24, aB), (26, aB)]) rfl ?_
             refine e_kw ?_
             refine w_ret ?_
             refine e_blk_r ?_
             refine e_seq_r ?_
             have he24 := Option.some.inj h23
             subst he24
             refine e_ret (rs' := [.tmp 2]) rfl ?_
             refine r_tmp (v := aI) rfl ?_
             refine r_nil ?_
             exact fin_gen [] rfl rfl rfl (AV.le_refl _) st_nil
            ·
             have h23 := cond_f (b := (decide (p0kind = (31 : Int)))) hb23 h21
             refine w_seqw ?_
             refine w_region ?_
             refine o_p rfl (p_eql rfl rfl) ?_
             refine o_p rfl (p_assign (v := aB) rfl) ?_
             refine o_end (fr' := [(0, aI), (2, aI), (3, aI), (4, aB), (6, aB), (8, aB), (10, aB), (12, aB), (14, aB), (16, aB), (18, aB), (20, aB), (22, aB), (24, aB), (26, aB), (28, aB)]) rfl ?_
             refine e_kw ?_
             refine w_cond _ rfl (fun hb25 => ?_) (fun hb25 => ?_)
             ·
              have h25 := cond_t (b := (decide (p0kind = (32 : Int)))) hb25 h23
              refine w_seqw ?_
              refine w_region ?_
              refine o_p rfl (p_assign (v := aI) rfl) ?_
              refine o_end (fr' := [(0, aI), (2, aI), (3, aI), (4, aB), (6, aB), (8, aB), (10, aB), (12, aB), (14, aB), (16, aB), (18, aB), (20, aB), (22, aB), (24, aB), (26, aB), (28, aB)]) rfl ?_
              refine e_kw ?_
              refine w_ret ?_
              refine e_blk_r ?_
              refine e_seq_r ?_
              have he26 := Option.some.inj h25
              subst he26
              refine e_ret (rs' := [.tmp 2]) rfl ?_
              refine r_tmp (v := aI) rfl ?_
              refine r_nil ?_
              exact fin_gen [] rfl rfl rfl (AV.le_refl _) st_nil
             ·
              have h25 := cond_f (b := (decide (p0kind = (32 : Int)))) hb25 h23
              refine w_seqw ?_
              refine w_region ?_
              refine o_p rfl (p_eql rfl rfl) ?_
              refine o_p rfl (p_assign (v := aB) rfl) ?_
              refine o_end (fr' := [(0, aI), (2, aI), (3, aI), (4, aB), (6, aB), (8, aB), (10, aB), (12, aB), (14, aB), (16, aB), (18, aB), (20, aB), (22, aB), (24, aB), (26, aB), (28, aB), (30, aB)]) rfl ?_
              refine e_kw ?_
              refine w_cond _ rfl (fun hb27 => ?_) (fun hb27 => ?_)
              ·
               have h27 := cond_t (b := (decide (p0kind = (35 : Int)))) hb27 h25
               refine w_seqw ?_
               refine w_region ?_
               refine o_p rfl (p_assign (v := aI) rfl) ?_
               refine o_end (fr' := [(0, aI), (2, aI), (3, aI), (4, aB), (6, aB), (8, aB), (10, aB), (12, aB), (14, aB), (16, aB), (18, aB), (20, aB), (22, aB), (24, aB), (26, aB), (28, aB), (30, aB)]) rfl ?_
               refine e_kw ?_
               refine w_ret ?_
               refine e_blk_r ?_
               refine e_seq_r ?_
               have he28 := Option.some.inj h27
               subst he28
               refine e_ret (rs' := [.tmp 2]) rfl ?_
               refine r_tmp (v := aI) rfl ?_
               refine r_nil ?_
               exact fin_gen [] rfl rfl rfl (AV.le_refl _) st_nil
              ·
               have h27 := cond_f (b := (decide (p0kind = (35 : Int)))) hb27 h25
               refine w_skip ?_
               refine e_blk_n ?_
               refine e_kw ?_
               refine w_seqw ?_
               refine w_region ?_
               refine o_p rfl (p_assign (v := aI) rfl) ?_
               refine o_end (fr' := [(0, aI), (2, aI), (3, aI), (4, aB), (6, aB), (8, aB), (10, aB), (12, aB), (14, aB), (16, aB), (18, aB), (20, aB), (22, aB), (24, aB), (26, aB), (28, aB), (30, aB)]) rfl ?_
               refine e_kw ?_
               refine w_ret ?_
               have he29 := Option.some.inj h27
               subst he29
               refine e_ret (rs' := [.tmp 2]) rfl ?_
               refine r_tmp (v := aI) rfl ?_
               refine r_nil ?_
               exact fin_gen [] rfl rfl rfl (AV.le_refl _) st_nil
noncomputable def event_IsCommand (p0kind : Int) : Option Bool :=
 (event_commandOf p0kind).bind fun (x1 : Int) => some (!decide (x1 = (0 : Int)))
theorem w_event_IsCommand {p0kind : Int} {res : Bool} (h : event_IsCommand p0kind = some res) : ACalls Try.prog 50 [.c (.int .i64 p0kind)] [] (.c (.bool res)) [] := by
 unfold event_IsCommand at h
 refine acalls (fn := Try.f50) [0, 2] (by kernel_rfl) Try.func50 rfl (by kernel_rfl) (by kernel_rfl) ?_
 refine w_seqw ?_
 refine w_region ?_
 refine o_p rfl (p_assign (v := aB) rfl) ?_
 refine o_end (fr' := [(0, aI), (2, aB)]) rfl ?_
 refine e_kw ?_
 refine w_seqw ?_
 refine w_region ?_
 refine o_p rfl (p_move (v := aI) rfl) ?_
 obtain ⟨x1, hx1, h2⟩ := bind_s h
 refine o_v (ov_call (v := aI) rfl (w_event_commandOf hx1) ⟨(AV.le_refl _), trivial⟩ rfl rfl rfl) ?_
 refine o_p rfl (p_neq rfl rfl) ?_
 refine o_p rfl (p_assign (v := aB) rfl) ?_
 refine o_end (fr' := [(0, aI), (2, aB)]) rfl ?_
 refine e_kw ?_
 refine w_ret ?_
 have he3 := Option.some.inj h2
 subst he3
 refine e_ret (rs' := [.tmp 2]) rfl ?_
 refine r_tmp (v := aB) rfl ?_
 refine r_nil ?_
 exact fin_gen [] rfl rfl rfl (AV.le_refl _) st_nil
noncomputable def diverge_kind (p0command : Int) : Option Int :=
 cond (cond (decide (p0command < (1 : Int))) true (decide ((14 : Int) < p0command))) (some (0 : Int)) ((idx ([(7 : Int), (12 : Int), (14 : Int), (16 : Int), (19 : Int), (23 : Int), (18 : Int), (27 : Int), (28 : Int), (29 : Int), (30 : Int), (31 : Int), (32 : Int), (35 : Int)] : List Int) (IntKind.wrap .i64 (p0command - (1 : Int)))).bind fun (x3 : Int) => some x3)
theorem w_diverge_kind {p0command : Int} {res : Int} (h : diverge_kind p0command = some res) : ACalls Try.prog 51 [.c (.int .i64 p0command)] [] (.c (.int .i64 res)) [] := by
 unfold diverge_kind at h
 refine acalls (fn := Try.f51) [0, 2, 8] (by kernel_rfl) Try.func51 rfl (by kernel_rfl) (by kernel_rfl) ?_
 refine w_seqw ?_
 refine w_region ?_
 refine o_p rfl (p_assign (v := aI) rfl) ?_
 refine o_end (fr' := [(0, aI), (2, aI)]) rfl ?_
 refine e_kw ?_
 refine w_seqw ?_
 refine w_seqw ?_
 refine w_region ?_
 refine o_p rfl (p_move (v := aI) rfl) ?_
 refine o_p rfl (p_lss rfl rfl) ?_
 refine o_p rfl (p_move (v := aB) rfl) ?_
 refine o_g rfl rfl (fun hc => ov_p rfl (p_move (v := aI) rfl)) ?_
 refine o_g rfl rfl (fun hc => ov_p rfl (p_gtr (gx rfl hc) rfl)) ?_
 refine o_p rfl (p_pickz rfl rfl rfl (fun e => keq e)) ?_
 refine o_end (fr' := [(0, aI), (2, aI), (8, aB)]) rfl ?_
 refine e_kw ?_
 refine w_cond _ rfl (fun hb1 => ?_) (fun hb1 => ?_)
 ·
  have h1 := cond_t (b := (cond (decide (p0command < (1 : Int))) true (decide ((14 : Int) < p0command)))) hb1 h
  refine w_seqw ?_
  refine w_region ?_
  refine o_p rfl (p_assign (v := aI) rfl) ?_
  refine o_end (fr' := [(0, aI), (2, aI), (8, aB)]) rfl ?_
  refine e_kw ?_
  refine w_ret ?_
  refine e_seq_r ?_
  have he2 := Option.some.inj h1
  subst he2
  refine e_ret (rs' := [.tmp 2]) rfl ?_
  refine r_tmp (v := aI) rfl ?_
  refine r_nil ?_
  exact fin_gen [] rfl rfl rfl (AV.le_refl _) st_nil
 ·
  have h1 := cond_f (b := (cond (decide (p0command < (1 : Int))) true (decide ((14 : Int) < p0command)))) hb1 h
  refine w_skip ?_
  refine e_kw ?_
  refine w_seqw ?_
  refine w_region ?_
  refine o_rows (row := (rowI .i64)) (xs := ([(7 : Int), (12 : Int), (14 : Int), (16 : Int), (19 : Int), (23 : Int), (18 : Int), (27 : Int), (28 : Int), (29 : Int), (30 : Int), (31 : Int), (32 : Int), (35 : Int)] : List Int)) (rows := [[_], [_], [_], [_], [_], [_], [_], [_], [_], [_], [_], [_], [_], [_]]) (σ' := []) [0] ts105 rfl rfl rfl (arow_cons rfl (arow_cons rfl (arow_cons rfl (arow_cons rfl (arow_cons rfl (arow_cons rfl (arow_cons rfl (arow_cons rfl (arow_cons rfl (arow_cons rfl (arow_cons rfl (arow_cons rfl (arow_cons rfl (arow_cons rfl arow_nil)))))))))))))) (ok_eq (by repeat (first | exact ok_nil | refine ok_cons rfl ?_ | refine ok_cons (dgv rfl) ?_))) rfl ?_
  refine o_p rfl (p_move (v := aI) rfl) ?_
  refine o_p rfl (p_sub rfl rfl) ?_
  obtain ⟨x3, hx3, h4⟩ := bind_s h1
  refine o_p rfl (p_ia (cs := [.int _ _]) ts105 (isl_o rfl) rfl hx3 rfl) ?_
  refine o_p rfl (p_loade (p := .int _ _) tv3 rfl rfl) ?_
  refine o_p rfl (p_assign (v := aI) rfl) ?_
  refine o_end (fr' := [(0, aI), (2, aI), (8, aB)]) rfl ?_
  refine e_kw ?_
  refine w_ret ?_
  have he5 := Option.some.inj h4
  subst he5
  refine e_ret (rs' := [.tmp 2]) rfl ?_
  refine r_tmp (v := aI) rfl ?_
  refine r_nil ?_
  exact fin_gen [] rfl rfl rfl (AV.le_refl _) st_nil
noncomputable def diverge_Match (p0c : ApiCommand) (p1e : ApiEvent) : Option Bool :=
 (diverge_compared p0c.Kind).bind fun (x1 : DivergeFields) => (event_IsCommand p1e.Kind).bind fun (x3 : Bool) => (gd (x3 == true) (diverge_kind p0c.Kind)).bind fun (x5 : Int) => some (cond (cond (cond (cond (cond x3 (decide (p1e.Kind = x5)) false) (cond (!x1.seq_) true (decide (p0c.Seq = p1e.Seq))) false) (cond (!x1.name_) true (decide (p0c.Name = p1e.Name))) false) (cond (!x1.key_) true (decide (p0c.Key = p1e.Key))) false) (cond (!x1.n_) true (decide (p0c.N = p1e.N))) false)
theorem w_diverge_Match {p0c : ApiCommand} {p1e : ApiEvent} {res : Bool} (h : diverge_Match p0c p1e = some res) : ACalls Try.prog 26 [.agg (AV.cs (rowApiCommand p0c)), .agg (AV.cs (rowApiEvent p1e))] [] (.c (.bool res)) [] := by
 unfold diverge_Match at h
 refine acalls (fn := Try.f26) [0, 1, 2, 3, 4, 5] (by kernel_rfl) Try.func26 rfl (by kernel_rfl) (by kernel_rfl) ?_
 refine w_seqw ?_
 refine w_region ?_
 refine o_box (v := .agg [aI, aI, aS, aS, aI, aI, aI, aS, aL, aL, aS, aI, aI, aI, aI, aI, aI, aI, aI, aL]) (n := 0) (cs := [aI, aI, aS, aS, aI, aI, aI, aS, aL, aL, aS, aI, aI, aI, aI, aI, aI, aI, aI, aL]) (σ' := [[aI, aI, aS, aS, aI, aI, aI, aS, aL, aL, aS, aI, aI, aI, aI, aI, aI, aI, aI, aL]]) rfl rfl rfl rfl rfl ?_
 refine o_box (v := .agg [aI, aI, aI, aI, aI, aI, aI, aS, aS, aI, aI, aS, aL, aL, aS, aI, aI, aI, aI, aI, aI, aI, aI, aL]) (n := 1) (cs := [aI, aI, aI, aI, aI, aI, aI, aS, aS, aI, aI, aS, aL, aL, aS, aI, aI, aI, aI, aI, aI, aI, aI, aL]) (σ' := [[aI, aI, aS, aS, aI, aI, aI, aS, aL, aL, aS, aI, aI, aI, aI, aI, aI, aI, aI, aL], [aI, aI, aI, aI, aI, aI, aI, aS, aS, aI, aI, aS, aL, aL, aS, aI, aI, aI, aI, aI, aI, aI, aI, aL]]) rfl rfl rfl rfl rfl ?_
 refine o_p rfl (p_assign (v := aB) rfl) ?_
 refine o_end (fr' := [(0, .agg [aI, aI, aS, aS, aI, aI, aI, aS, aL, aL, aS, aI, aI, aI, aI, aI, aI, aI, aI, aL]), (1, .agg [aI, aI, aI, aI, aI, aI, aI, aS, aS, aI, aI, aS, aL, aL, aS, aI, aI, aI, aI, aI, aI, aI, aI, aL]), (2, .box 0 0), (3, .box 1 0), (4, aB)]) rfl ?_
 refine e_kw ?_
 refine w_seqw ?_
 refine w_region ?_
 refine o_p rfl (p_fa tf44x0 rfl) ?_
 refine o_p rfl (p_load (v := aI) tv3 rfl rfl rfl) ?_
 obtain ⟨x1, hx1, h2⟩ := bind_s h
 refine o_v (ov_call (v := .agg [aB, aB, aB, aB]) rfl (w_diverge_compared hx1) ⟨(AV.le_refl _), trivial⟩ rfl rfl rfl) ?_
 refine o_alloc (n := 2) (cs := [aB, aB, aB, aB]) (σ' := [[aI, aI, aS, aS, aI, aI, aI, aS, aL, aL, aS, aI, aI, aI, aI, aI, aI, aI, aI, aL], [aI, aI, aI, aI, aI, aI, aI, aS, aS, aI, aI, aS, aL, aL, aS, aI, aI, aI, aI, aI, aI, aI, aI, aL], [aB, aB, aB, aB]]) tz85 rfl rfl rfl ?_
 refine o_store (v := .agg [aB, aB, aB, aB]) (us := [aB, aB, aB, aB]) (cs := [aB, aB, aB, aB]) (σ' := [[aI, aI, aS, aS, aI, aI, aI, aS, aL, aL, aS, aI, aI, aI, aI, aI, aI, aI, aI, aL], [aI, aI, aI, aI, aI, aI, aI, aS, aS, aI, aI, aS, aL, aL, aS, aI, aI, aI, aI, aI, aI, aI, aI, aL], [aB, aB, aB, aB]]) rfl tv85 rfl rfl rfl rfl rfl rfl rfl rfl ?_
 refine o_end (fr' := [(0, .agg [aI, aI, aS, aS, aI, aI, aI, aS, aL, aL, aS, aI, aI, aI, aI, aI, aI, aI, aI, aL]), (1, .agg [aI, aI, aI, aI, aI, aI, aI, aS, aS, aI, aI, aS, aL, aL, aS, aI, aI, aI, aI, aI, aI, aI, aI, aL]), (2, .box 0 0), (3, .box 1 0), (4, aB), (5, .box 2 0)]) rfl ?_
 refine e_kw ?_
 refine w_seqw ?_
 refine w_planT [.q 0, .q 1, .q 2, .q 3, .q 4, .q 5, .q 6, .q 7, .q 8, .q 9, .q 10, .q 11, .q 12, .q 13, .q 14, .q 15, .q 16, .q 17, .q 18, .q 19, .q 20, .q 21, .q 22, .q 23, .q 24, .q 25, .q 26, .q 27, .q 28, .q 29, .q 30, .q 31, .q 32, .q 33, .q 34, .q 35, .q 36, .q 37, .q 38, .q 39, .q 40, .q 41, .q 42, .q 43, .q 44, .q 45, .q 46, .q 47, .q 48, .q 49, .q 50, .q 51, .q 52, .q 53, .q 54, .q 55, .q 56, .q 57, .q 58, .n 59 []] [(some 9, [3]), (some 10, [9]), (some 11, [10]), (some 12, [11]), (some 13, [3, 12]), (some 14, [13, 12]), (some 15, [2, 12]), (some 16, [15, 12]), (some 17, [16, 12]), (some 18, [14, 17, 12]), (some 19, [12, 18]), (some 20, [19]), (some 21, [5, 20]), (some 22, [21, 20]), (some 23, [22, 20]), (some 24, [23, 20]), (some 25, [2, 24]), (some 26, [25, 24]), (some 27, [3, 24]), (some 28, [27, 24]), (some 29, [26, 28, 24]), (some 30, [24, 29, 20]), (some 31, [20, 30]), (some 32, [31]), (some 33, [5, 32]), (some 34, [33, 32]), (some 35, [34, 32]), (some 36, [35, 32]), (some 37, [2, 36]), (some 38, [37, 36]), (some 39, [3, 36]), (some 40, [39, 36]), (some 41, [38, 40, 36]), (some 42, [36, 41, 32]), (some 43, [32, 42]), (some 44, [43]), (some 45, [5, 44]), (some 46, [45, 44]), (some 47, [46, 44]), (some 48, [47, 44]), (some 49, [2, 48]), (some 50, [49, 48]), (some 51, [3, 48]), (some 52, [51, 48]), (some 53, [50, 52, 48]), (some 54, [48, 53, 44]), (some 55, [44, 54]), (some 56, [55]), (some 57, [5, 56]), (some 58, [57, 56]), (some 59, [58, 56]), (some 60, [59, 56]), (some 61, [2, 60]), (some 62, [61, 60]), (some 63, [3, 60]), (some 64, [63, 60]), (some 65, [62, 64, 60]), (some 66, [60, 65, 56]), (some 67, [56, 66]), (some 4, [67])] [0, 1, 3, 7, 15, 31, 15, 79, 207, 511, 1023, 2047, 4095, 8191, 16383, 32767, 65535, 131071, 65535, 327679, 1048575, 2097151, 4194303, 8388607, 16777215, 33554431, 67108863, 134217727, 268435455, 536870911, 268435455, 1342177279, 4294967295, 8589934591, 17179869183, 34359738367, 68719476735, 137438953471, 274877906943, 549755813887, 1099511627775, 2199023255551, 1099511627775, 5497558138879, 17592186044415, 35184372088831, 70368744177663, 140737488355327, 281474976710655, 562949953421311, 1125899906842623, 2251799813685247, 4503599627370495, 9007199254740991, 4503599627370495, 22517998136852479, 72057594037927935, 144115188075855871, 288230376151711743, 576460752303423487] (by kernel_rfl) ?_
 refine d_q rfl (qv_p rfl (p_fa tf46x1 rfl)) ?_
 refine d_q rfl (qv_p rfl (p_load (v := aI) tv3 rfl rfl rfl)) ?_
 obtain ⟨x3, hx3, h4⟩ := bind_s h2
 refine d_q rfl (qv_call (v := aB) rfl (w_event_IsCommand hx3) ⟨(AV.le_refl _), trivial⟩ rfl) ?_
 refine d_q rfl (qv_p rfl (p_move (v := aB) rfl)) ?_
 refine d_g rfl rfl rfl (fun hc => qv_p rfl (p_fa tf46x1 rfl)) ?_
 refine d_g rfl rfl rfl (fun hc => qv_p rfl (p_load (v := aI) tv3 (gx rfl hc) rfl rfl)) ?_
 refine d_g rfl rfl rfl (fun hc => qv_p rfl (p_fa tf44x0 rfl)) ?_
 refine d_g rfl rfl rfl (fun hc => qv_p rfl (p_load (v := aI) tv3 (gx rfl hc) rfl rfl)) ?_
 obtain ⟨x5, hx5, h6⟩ := bind_s h4
 refine d_g rfl rfl rfl (fun hc => qv_call (v := aI) rfl (w_diverge_kind (gd_some hx5 hc)) ⟨(le_gv (gx rfl hc) (AV.le_refl _)), trivial⟩ rfl) ?_
 refine d_g rfl rfl rfl (fun hc => qv_p rfl (p_eql (gx rfl hc) (gx rfl hc))) ?_
 refine d_q rfl (qv_p rfl (p_picky rfl rfl rfl (fun e => keq e))) ?_
 refine d_q rfl (qv_p rfl (p_move (v := aB) rfl)) ?_
 refine d_g rfl rfl rfl (fun hc => qv_p rfl (p_fa tf85x0 rfl)) ?_
 refine d_g rfl rfl rfl (fun hc => qv_p rfl (p_load (v := aB) tv4 (gx rfl hc) rfl rfl)) ?_
 refine d_g rfl rfl rfl (fun hc => qv_p rfl (p_not (gx rfl hc))) ?_
 refine d_g rfl rfl rfl (fun hc => qv_p rfl (p_move (v := aB) (gx rfl hc))) ?_
 refine d_gg rfl rfl rfl (fun hc => qv_p rfl (p_fa tf44x1 rfl)) ?_
 refine d_gg rfl rfl rfl (fun hc => qv_p rfl (p_load (v := aI) tv3 (gx rfl hc) rfl rfl)) ?_
 refine d_gg rfl rfl rfl (fun hc => qv_p rfl (p_fa tf46x3 rfl)) ?_
 refine d_gg rfl rfl rfl (fun hc => qv_p rfl (p_load (v := aI) tv3 (gx rfl hc) rfl rfl)) ?_
 refine d_gg rfl rfl rfl (fun hc => qv_p rfl (p_eql (gx rfl hc) (gx rfl hc))) ?_
 refine d_g rfl rfl rfl (fun hc => qv_p rfl (p_pickz (gx rfl hc) rfl rfl (fun e => band hc (keq e)))) ?_
 refine d_q rfl (qv_p rfl (p_picky rfl rfl rfl (fun e => keq e))) ?_
 refine d_q rfl (qv_p rfl (p_move (v := aB) rfl)) ?_
 refine d_g rfl rfl rfl (fun hc => qv_p rfl (p_fa tf85x1 rfl)) ?_
 refine d_g rfl rfl rfl (fun hc => qv_p rfl (p_load (v := aB) tv4 (gx rfl hc) rfl rfl)) ?_
 refine d_g rfl rfl rfl (fun hc => qv_p rfl (p_not (gx rfl hc))) ?_
 refine d_g rfl rfl rfl (fun hc => qv_p rfl (p_move (v := aB) (gx rfl hc))) ?_
 refine d_gg rfl rfl rfl (fun hc => qv_p rfl (p_fa tf44x2 rfl)) ?_
 refine d_gg rfl rfl rfl (fun hc => qv_p rfl (p_load (v := aS) tv9 (gx rfl hc) rfl rfl)) ?_
 refine d_gg rfl rfl rfl (fun hc => qv_p rfl (p_fa tf46x7 rfl)) ?_
 refine d_gg rfl rfl rfl (fun hc => qv_p rfl (p_load (v := aS) tv9 (gx rfl hc) rfl rfl)) ?_
 refine d_gg rfl rfl rfl (fun hc => qv_p rfl (p_seql (gx rfl hc) (gx rfl hc))) ?_
 refine d_g rfl rfl rfl (fun hc => qv_p rfl (p_pickz (gx rfl hc) rfl rfl (fun e => band hc (keq e)))) ?_
 refine d_q rfl (qv_p rfl (p_picky rfl rfl rfl (fun e => keq e))) ?_
 refine d_q rfl (qv_p rfl (p_move (v := aB) rfl)) ?_
 refine d_g rfl rfl rfl (fun hc => qv_p rfl (p_fa tf85x2 rfl)) ?_
 refine d_g rfl rfl rfl (fun hc => qv_p rfl (p_load (v := aB) tv4 (gx rfl hc) rfl rfl)) ?_
 refine d_g rfl rfl rfl (fun hc => qv_p rfl (p_not (gx rfl hc))) ?_
 refine d_g rfl rfl rfl (fun hc => qv_p rfl (p_move (v := aB) (gx rfl hc))) ?_
 refine d_gg rfl rfl rfl (fun hc => qv_p rfl (p_fa tf44x3 rfl)) ?_
 refine d_gg rfl rfl rfl (fun hc => qv_p rfl (p_load (v := aS) tv9 (gx rfl hc) rfl rfl)) ?_
 refine d_gg rfl rfl rfl (fun hc => qv_p rfl (p_fa tf46x8 rfl)) ?_
 refine d_gg rfl rfl rfl (fun hc => qv_p rfl (p_load (v := aS) tv9 (gx rfl hc) rfl rfl)) ?_
 refine d_gg rfl rfl rfl (fun hc => qv_p rfl (p_seql (gx rfl hc) (gx rfl hc))) ?_
 refine d_g rfl rfl rfl (fun hc => qv_p rfl (p_pickz (gx rfl hc) rfl rfl (fun e => band hc (keq e)))) ?_
 refine d_q rfl (qv_p rfl (p_picky rfl rfl rfl (fun e => keq e))) ?_
 refine d_q rfl (qv_p rfl (p_move (v := aB) rfl)) ?_
 refine d_g rfl rfl rfl (fun hc => qv_p rfl (p_fa tf85x3 rfl)) ?_
 refine d_g rfl rfl rfl (fun hc => qv_p rfl (p_load (v := aB) tv4 (gx rfl hc) rfl rfl)) ?_
 refine d_g rfl rfl rfl (fun hc => qv_p rfl (p_not (gx rfl hc))) ?_
 refine d_g rfl rfl rfl (fun hc => qv_p rfl (p_move (v := aB) (gx rfl hc))) ?_
 refine d_gg rfl rfl rfl (fun hc => qv_p rfl (p_fa tf44x4 rfl)) ?_
 refine d_gg rfl rfl rfl (fun hc => qv_p rfl (p_load (v := aI) tv3 (gx rfl hc) rfl rfl)) ?_
 refine d_gg rfl rfl rfl (fun hc => qv_p rfl (p_fa tf46x5 rfl)) ?_
 refine d_gg rfl rfl rfl (fun hc => qv_p rfl (p_load (v := aI) tv3 (gx rfl hc) rfl rfl)) ?_
 refine d_gg rfl rfl rfl (fun hc => qv_p rfl (p_eql (gx rfl hc) (gx rfl hc))) ?_
 refine d_g rfl rfl rfl (fun hc => qv_p rfl (p_pickz (gx rfl hc) rfl rfl (fun e => band hc (keq e)))) ?_
 refine d_q rfl (qv_p rfl (p_picky rfl rfl rfl (fun e => keq e))) ?_
 refine d_n rfl ?_ rfl
 refine o_p rfl (p_assign (v := aB) rfl) ?_
 refine o_rc ?_
 refine ⟨rc_nil, ?_⟩
 refine d_end (fr' := [(0, .agg [aI, aI, aS, aS, aI, aI, aI, aS, aL, aL, aS, aI, aI, aI, aI, aI, aI, aI, aI, aL]), (1, .agg [aI, aI, aI, aI, aI, aI, aI, aS, aS, aI, aI, aS, aL, aL, aS, aI, aI, aI, aI, aI, aI, aI, aI, aL]), (2, .box 0 0), (3, .box 1 0), (4, aB), (5, .box 2 0)]) rfl ?_
 refine e_kw ?_
 refine w_ret ?_
 have he7 := Option.some.inj h6
 subst he7
 refine e_ret (rs' := [.tmp 4]) rfl ?_
 refine r_tmp (v := aB) rfl ?_
 refine r_nil ?_
 exact fin_gen [] rfl rfl rfl (AV.le_refl _) st_nil
noncomputable def diverge_Compare_l1 (p0l : (List ApiCommand)) (p1es : (List ApiEvent)) (s4 : Int) : Option (Step Int (Fl Int Unit)) :=
 cond (decide (s4 < (if ((p1es).length : Int) > ((p0l).length : Int) then ((p1es).length : Int) else ((p0l).length : Int)))) ((gd ((cond (decide (((p0l).length : Int) ≤ s4)) true (decide (((p1es).length : Int) ≤ s4))) == false) (idx p0l s4)).bind fun (x6 : ApiCommand) => (gd ((cond (decide (((p0l).length : Int) ≤ s4)) true (decide (((p1es).length : Int) ≤ s4))) == false) (idx p1es s4)).bind fun (x8 : ApiEvent) => (gd ((cond (decide (((p0l).length : Int) ≤ s4)) true (decide (((p1es).length : Int) ≤ s4))) == false) (diverge_Match x6 x8)).bind fun (x10 : Bool) => cond (cond (cond (decide (((p0l).length : Int) ≤ s4)) true (decide (((p1es).length : Int) ≤ s4))) true (!x10)) (some (Step.out (Fl.done s4))) (some (Step.next (IntKind.wrap .i64 (s4 + (1 : Int)))))) (some (Step.out (Fl.go ())))
noncomputable def diverge_Compare (p0l : (List ApiCommand)) (p1es : (List ApiEvent)) : Option Int :=
 ((loopO (diverge_Compare_l1 p0l p1es) ((0 : Int))) : Option (Fl Int Unit)).bind fun (x1 : (Fl Int Unit)) => Fl.next x1 (fun (j3 : Unit) => (some (-1 : Int)))
theorem w_diverge_Compare {p0l : (List ApiCommand)} {p1es : (List ApiEvent)} {res : Int} (h : diverge_Compare p0l p1es = some res) : ACalls Try.prog 29 [.c (PV.ls 20 rowApiCommand p0l), .c (PV.ls 24 rowApiEvent p1es)] [] (.c (.int .i64 res)) [] := by
 unfold diverge_Compare at h
 refine acalls (fn := Try.f29) [0, 1, 4, 5, 10, 11, 12, 35] (by kernel_rfl) Try.func29 rfl (by kernel_rfl) (by kernel_rfl) ?_
 refine w_seqw ?_
 refine w_region ?_
 refine o_p rfl (p_assign (v := aI) rfl) ?_
 refine o_end (fr' := [(0, aL), (1, aL), (4, aI)]) rfl ?_
 refine e_kw ?_
 refine w_seqw ?_
 refine w_seqw ?_
 refine w_region ?_
 refine o_p rfl (p_move (v := aL) rfl) ?_
 refine o_p rfl (p_len ti48 (isl_c rfl)) ?_
 refine o_p rfl (p_move (v := aL) rfl) ?_
 refine o_p rfl (p_len ti49 (isl_c rfl)) ?_
 refine o_p rfl (p_max rfl rfl) ?_
 refine o_p rfl (p_move (v := aI) rfl) ?_
 refine o_end (fr' := [(0, aL), (1, aL), (4, aI), (10, aI), (11, aI)]) rfl ?_
 refine e_kw ?_
 obtain ⟨x1, hx1, h2⟩ := bind_s h
 refine w_jtail cl_kw (fun j3 => x1 = Fl.go j3) (fun (j3 : Unit) => ([] : Fr)) (fun (j3 : Unit) => ([] : St)) ?_ ?_
 ·
  refine w_block ?_
  refine w_loopo _ (fun (s4 : Int) => ([(0, .c (PV.ls 20 rowApiCommand p0l)), (1, .c (PV.ls 24 rowApiEvent p1es)), (10, .c (.int .i64 (if ((p1es).length : Int) > ((p0l).length : Int) then ((p1es).length : Int) else ((p0l).length : Int)))), (11, .c (.int .i64 s4))] : Fr)) (fun (s4 : Int) => ([] : St)) hx1 (w_weak [] 0 rfl rfl rfl rfl ⟨(AV.le_refl _), (AV.le_refl _), (AV.le_refl _), (AV.le_refl _), trivial⟩ st_nil) ?_
  intro s4 st4 hs4 ho4
  unfold diverge_Compare_l1 at hs4
  refine w_seqw ?_
  refine w_region ?_
  refine o_p rfl (p_lss rfl rfl) ?_
  refine o_end (fr' := [(0, aL), (1, aL), (10, aI), (11, aI), (12, aB)]) rfl ?_
  refine e_kw ?_
  refine w_seqw ?_
  refine w_cond _ rfl (fun hb5 => ?_) (fun hb5 => ?_)
  ·
   have h5 := cond_t (b := (decide (s4 < (if ((p1es).length : Int) > ((p0l).length : Int) then ((p1es).length : Int) else ((p0l).length : Int))))) hb5 hs4
   refine w_skip ?_
   refine e_kw ?_
   refine w_seqw ?_
   refine w_block ?_
   refine w_seqw ?_
   refine w_region ?_
   refine o_p rfl (p_move (v := aI) rfl) ?_
   refine o_p rfl (p_assign (v := aI) rfl) ?_
   refine o_end (fr' := [(0, aL), (1, aL), (5, aI), (10, aI), (11, aI), (12, aB)]) rfl ?_
   refine e_kw ?_
   refine w_seqw ?_
   refine w_planT [.q 0, .q 1, .q 2, .q 3, .q 4, .q 5, .q 6, .q 7, .q 8, .q 9, .q 10, .q 11, .q 12, .q 13, .q 14, .q 15, .q 16, .q 17, .q 18, .q 19, .q 20, .q 21] [(some 14, [5]), (some 15, [0]), (some 16, [15]), (some 17, [14, 16]), (some 18, [17]), (some 19, [5, 18]), (some 20, [1, 18]), (some 21, [20, 18]), (some 22, [19, 21, 18]), (some 23, [18, 22]), (some 24, [23]), (some 25, [0, 24]), (some 26, [5, 24]), (some 27, [25, 26, 24]), (some 28, [27, 24]), (some 29, [1, 24]), (some 30, [5, 24]), (some 31, [29, 30, 24]), (some 32, [31, 24]), (some 33, [28, 32, 24]), (some 34, [33, 24]), (some 35, [24, 34])] [0, 0, 2, 7, 15, 31, 31, 95, 255, 511, 1023, 2047, 2047, 8191, 16383, 2047, 2047, 100351, 231423, 524287, 1048575, 2097151] (by kernel_rfl) ?_
   refine d_q rfl (qv_p rfl (p_move (v := aI) rfl)) ?_
   refine d_q rfl (qv_p rfl (p_move (v := aL) rfl)) ?_
   refine d_q rfl (qv_p rfl (p_len ti48 (isl_c rfl))) ?_
   refine d_q rfl (qv_p rfl (p_geq rfl rfl)) ?_
   refine d_q rfl (qv_p rfl (p_move (v := aB) rfl)) ?_
   refine d_g rfl rfl rfl (fun hc => qv_p rfl (p_move (v := aI) rfl)) ?_
   refine d_g rfl rfl rfl (fun hc => qv_p rfl (p_move (v := aL) rfl)) ?_
   refine d_g rfl rfl rfl (fun hc => qv_p rfl (p_len ti49 (isl_c (gx rfl hc)))) ?_
   refine d_g rfl rfl rfl (fun hc => qv_p rfl (p_geq (gx rfl hc) (gx rfl hc))) ?_
   refine d_q rfl (qv_p rfl (p_pickz rfl rfl rfl (fun e => keq e))) ?_
   refine d_q rfl (qv_p rfl (p_move (v := aB) rfl)) ?_
   refine d_g rfl rfl rfl (fun hc => qv_p rfl (p_move (v := aL) rfl)) ?_
   refine d_g rfl rfl rfl (fun hc => qv_p rfl (p_move (v := aI) rfl)) ?_
   obtain ⟨x6, hx6, h7⟩ := bind_s h5
   refine d_g rfl rfl rfl (fun hc => qv_p rfl (p_ia (cs := [.int _ _, .int _ _, .str _, .str _, .int _ _, .int _ _, .int _ _, .str _, PV.ls _ _ _, PV.ls _ _ _, .str _, .int _ _, .int _ _, .int _ _, .int _ _, .int _ _, .int _ _, .int _ _, .int _ _, PV.ls _ _ _]) ts48 (isl_c (gx rfl hc)) (gx rfl hc) (gd_some hx6 hc) rfl)) ?_
   refine d_g rfl rfl rfl (fun hc => qv_p rfl (p_loades (us := [.int _ _, .int _ _, .str _, .str _, .int _ _, .int _ _, .int _ _, .str _, PV.ls _ _ _, PV.ls _ _ _, .str _, .int _ _, .int _ _, .int _ _, .int _ _, .int _ _, .int _ _, .int _ _, .int _ _, PV.ls _ _ _]) tv44 (gx rfl hc) rfl rfl)) ?_
   refine d_g rfl rfl rfl (fun hc => qv_p rfl (p_move (v := aL) rfl)) ?_
   refine d_g rfl rfl rfl (fun hc => qv_p rfl (p_move (v := aI) rfl)) ?_
   obtain ⟨x8, hx8, h9⟩ := bind_s h7
   refine d_g rfl rfl rfl (fun hc => qv_p rfl (p_ia (cs := [.int _ _, .int _ _, .int _ _, .int _ _, .int _ _, .int _ _, .int _ _, .str _, .str _, .int _ _, .int _ _, .str _, PV.ls _ _ _, PV.ls _ _ _, .str _, .int _ _, .int _ _, .int _ _, .int _ _, .int _ _, .int _ _, .int _ _, .int _ _, PV.ls _ _ _]) ts49 (isl_c (gx rfl hc)) (gx rfl hc) (gd_some hx8 hc) rfl)) ?_
   refine d_g rfl rfl rfl (fun hc => qv_p rfl (p_loades (us := [.int _ _, .int _ _, .int _ _, .int _ _, .int _ _, .int _ _, .int _ _, .str _, .str _, .int _ _, .int _ _, .str _, PV.ls _ _ _, PV.ls _ _ _, .str _, .int _ _, .int _ _, .int _ _, .int _ _, .int _ _, .int _ _, .int _ _, .int _ _, PV.ls _ _ _]) tv46 (gx rfl hc) rfl rfl)) ?_
   obtain ⟨x10, hx10, h11⟩ := bind_s h9
   refine d_g rfl rfl rfl (fun hc => qv_call (v := aB) rfl (w_diverge_Match (gd_some hx10 hc)) ⟨(le_gv (gx rfl hc) (le_aggc rfl ⟨rfl, rfl, rfl, rfl, rfl, rfl, rfl, rfl, rfl, rfl, rfl, rfl, rfl, rfl, rfl, rfl, rfl, rfl, rfl, rfl, trivial⟩)), (le_gv (gx rfl hc) (le_aggc rfl ⟨rfl, rfl, rfl, rfl, rfl, rfl, rfl, rfl, rfl, rfl, rfl, rfl, rfl, rfl, rfl, rfl, rfl, rfl, rfl, rfl, rfl, rfl, rfl, rfl, trivial⟩)), trivial⟩ rfl) ?_
   refine d_g rfl rfl rfl (fun hc => qv_p rfl (p_not (gx rfl hc))) ?_
   refine d_q rfl (qv_p rfl (p_pickz rfl rfl rfl (fun e => keq e))) ?_
   refine d_end (fr' := [(0, aL), (1, aL), (5, aI), (10, aI), (11, aI), (12, aB), (35, aB)]) rfl ?_
   refine e_kw ?_
   refine w_cond _ rfl (fun hb12 => ?_) (fun hb12 => ?_)
   ·
    have h12 := cond_t (b := (cond (cond (decide (((p0l).length : Int) ≤ s4)) true (decide (((p1es).length : Int) ≤ s4))) true (!x10))) hb12 h11
    refine w_seqw ?_
    refine w_region ?_
    refine o_p rfl (p_move (v := aI) rfl) ?_
    refine o_p rfl (p_assign (v := aI) rfl) ?_
    refine o_end (fr' := [(0, aL), (1, aL), (4, aI), (5, aI), (10, aI), (11, aI), (12, aB), (35, aB)]) rfl ?_
    refine e_kw ?_
    refine w_ret ?_
    refine e_blk_r ?_
    refine e_seq_r ?_
    refine e_seq_r ?_
    refine e_blk_r ?_
    refine e_seq_r ?_
    refine e_seq_r ?_
    have h13 := un_out h12 ho4
    have h14 := un_done h13 h2
    have he15 := Option.some.inj h14
    subst he15
    refine e_ret (rs' := [.tmp 4]) rfl ?_
    refine r_tmp (v := aI) rfl ?_
    refine r_nil ?_
    exact fin_gen [] rfl rfl rfl (AV.le_refl _) st_nil
   ·
    have h12 := cond_f (b := (cond (cond (decide (((p0l).length : Int) ≤ s4)) true (decide (((p1es).length : Int) ≤ s4))) true (!x10))) hb12 h11
    refine w_skip ?_
    refine e_blk_n ?_
    refine e_kw ?_
    refine w_region ?_
    refine o_p rfl (p_add rfl rfl) ?_
    refine o_p rfl (p_move (v := aI) rfl) ?_
    refine o_end (fr' := [(0, aL), (1, aL), (5, aI), (10, aI), (11, aI), (12, aB), (35, aB)]) rfl ?_
    exact e_l _ (Option.some.inj h12).symm (w_weak [] 0 rfl rfl rfl rfl ⟨(AV.le_refl _), (AV.le_refl _), (AV.le_refl _), (AV.le_refl _), trivial⟩ st_nil)
  ·
   have h5 := cond_f (b := (decide (s4 < (if ((p1es).length : Int) > ((p0l).length : Int) then ((p1es).length : Int) else ((p0l).length : Int))))) hb5 hs4
   refine w_exit ?_
   refine e_seq_x ?_
   refine e_seq_x ?_
   refine e_blk_h ?_
   have h16 := un_out h5 ho4
   exact e_j _ (Option.some.inj h16).symm (w_weak [] 0 rfl rfl rfl rfl trivial st_nil)
 ·
  intro j3 hj17
  have h17 := un_go hj17 h2
  refine e_kw ?_
  refine w_seqw ?_
  refine w_region ?_
  refine o_p rfl (p_assign (v := aI) rfl) ?_
  refine o_end (fr' := [(4, aI)]) rfl ?_
  refine e_kw ?_
  refine w_ret ?_
  have he18 := Option.some.inj h17
  subst he18
  refine e_ret (rs' := [.tmp 4]) rfl ?_
  refine r_tmp (v := aI) rfl ?_
  refine r_nil ?_
  exact fin_gen [] rfl rfl rfl (AV.le_refl _) st_nil
noncomputable def slices_Clone_string_string (p0s : (List (List UInt8))) : Option (List (List UInt8)) :=
 app 16 ([] : List (List UInt8)) p0s
theorem w_slices_Clone_string_string {p0s : (List (List UInt8))} {res : (List (List UInt8))} (h : slices_Clone_string_string p0s = some res) : ACalls Try.prog 84 [.c (PV.ls 1 rowS p0s)] [] (AV.os 0 1 rowS res) [] := by
 unfold slices_Clone_string_string at h
 refine acalls (fn := Try.f84) [0, 2, 4] (by kernel_rfl) Try.func84 rfl (by kernel_rfl) (by kernel_rfl) ?_
 obtain ⟨hm, he⟩ := app_some h
 rw [List.nil_append] at he
 subst he
 refine w_seqw ?_
 refine w_region ?_
 refine o_p rfl (p_assign (v := .nil) rfl) ?_
 refine o_end (fr' := [(0, .c (PV.ls _ _ _)), (2, .nil)]) rfl ?_
 refine e_kw ?_
 refine w_seqw ?_
 refine w_seqw ?_
 refine w_region ?_
 refine o_p rfl (p_move (v := .c (PV.ls _ _ _)) rfl) ?_
 refine o_nilc (row := rowS) ti38 (isl_c rfl) (fun b hb => ?_)
 refine o_end (fr' := [(0, .c (PV.ls _ _ _)), (2, .nil), (4, .c (.bool _))]) rfl ?_
 refine e_kw ?_
 refine w_cond b rfl (fun e => ?_) (fun e => ?_)
 ·
  rw [hb e]
  refine w_seqw ?_
  refine w_region ?_
  refine o_p rfl (p_assign (v := .nil) rfl) ?_
  refine o_end (fr' := [(0, .c (PV.ls _ _ _)), (2, .nil), (4, .c (.bool _))]) rfl ?_
  refine e_kw ?_
  refine w_ret ?_
  refine e_seq_r ?_
  refine e_ret (rs' := [.tmp 2]) rfl ?_
  refine r_tmp (v := .nil) rfl ?_
  refine r_nil ?_
  exact fin_gen [] rfl rfl rfl (le_nos rfl) st_nil
 ·
  refine w_skip ?_
  refine e_kw ?_
  refine w_seqw ?_
  refine w_region ?_
  refine o_rows (row := rowS) (xs := ([] : List (List UInt8))) (rows := []) (σ' := []) [] ts38 rfl rfl rfl arow_nil rfl rfl ?_
  refine o_p rfl (p_move (v := .c (PV.ls _ _ _)) rfl) ?_
  refine o_app (row := rowS) ts38 rfl ti38 rfl (isl_c rfl) (fun _ => rfl) h ?_
  refine o_p rfl (p_assign (v := AV.os _ _ _ _) rfl) ?_
  refine o_end (fr' := [(0, .c (PV.ls _ _ _)), (2, AV.os _ _ _ _), (4, .c (.bool _))]) rfl ?_
  refine e_kw ?_
  refine w_ret ?_
  refine e_ret (rs' := [.tmp 2]) rfl ?_
  refine r_tmp (v := AV.os _ _ _ _) rfl ?_
  refine r_nil ?_
  exact fin_gen [112] rfl rfl rfl (AV.le_refl _) st_nil
noncomputable def value_copies_l1 (rec_value_Copy : ApiValue → Option ApiValue) (p0l : (List ApiValue)) (s4 : ((List ApiValue) × Int)) : Option (Step ((List ApiValue) × Int) (List ApiValue)) :=
 cond (decide (s4.2 < ((p0l).length : Int))) ((idx p0l s4.2).bind fun (x6 : ApiValue) => (rec_value_Copy x6).bind fun (x8 : ApiValue) => (app 80 s4.1 ([x8] : List ApiValue)).bind fun (x10 : (List ApiValue)) => some (Step.next (x10, (IntKind.wrap .i64 (s4.2 + (1 : Int)))))) (some (Step.out s4.1))
mutual
noncomputable def value_CopyF : Nat → ApiValue → Option ApiValue
 | 0, _ => none
 | n + 1, p0v =>
  ((value_copiesF n) p0v.Items).bind fun (x1 : (List ApiValue)) => (slices_Clone_string_string p0v.Keys).bind fun (x3 : (List (List UInt8))) => some (ApiValue.mk p0v.Kind p0v.Int p0v.Text x1 x3)
noncomputable def value_copiesF : Nat → (List ApiValue) → Option (List ApiValue)
 | 0, _ => none
 | n + 1, p0l =>
  ((loopO (value_copies_l1 (value_CopyF n) p0l) ((([] : (List ApiValue)), (0 : Int)))) : Option (List ApiValue)).bind fun (x1 : (List ApiValue)) => (some x1)
end
theorem wF_value_Copy : ∀ n : Nat, (∀ {p0v : ApiValue} {res : ApiValue}, value_CopyF n p0v = some res → ACalls Try.prog 62 [.agg (AV.cs (exApiValue p0v))] [] (.agg (AV.cs (exApiValue res))) []) ∧ (∀ {p0l : (List ApiValue)} {res : (List ApiValue)}, value_copiesF n p0l = some res → ACalls Try.prog 83 [.c (PV.ls 5 rowApiValue p0l)] [] (AV.os 0 5 rowApiValue res) []) := by
 intro n
 induction n with
 | zero => exact ⟨fun {p0v res} h => absurd h (by simp [value_CopyF]), fun {p0l res} h => absurd h (by simp [value_copiesF])⟩
 | succ n ih =>
  obtain ⟨ih_value_Copy, ih_value_copies⟩ := ih
  refine ⟨?_, ?_⟩
  ·
   intro p0v res h
   rw [value_CopyF] at h
   refine acalls (fn := Try.f62) [0, 1, 2] (by kernel_rfl) Try.func62 rfl (by kernel_rfl) (by kernel_rfl) ?_
   refine w_seqw ?_
   refine w_region ?_
   refine o_box (v := .agg [aI, aI, aS, aL, aL]) (n := 0) (cs := [aI, aI, aS, aL, aL]) (σ' := [[aI, aI, aS, aL, aL]]) rfl rfl rfl rfl rfl ?_
   refine o_alloc (n := 1) (cs := [aI, aI, aS, .nil, .nil]) (σ' := [[aI, aI, aS, aL, aL], [aI, aI, aS, .nil, .nil]]) tz40 rfl rfl rfl ?_
   refine o_end (fr' := [(0, .agg [aI, aI, aS, aL, aL]), (1, .box 0 0), (2, .box 1 0)]) rfl ?_
   refine e_kw ?_
   refine w_seqw ?_
   refine w_planT [.q 0, .q 1, .q 2, .q 3, .q 4, .q 5, .q 6, .n 7 [], .q 8, .n 9 []] [(some 3, [1]), (some 4, [3]), (some 5, [4]), (some 6, [1]), (some 7, [6]), (some 8, [7]), (some 9, [1]), (none, [9, 5]), (some 10, [1]), (none, [10, 8])] [0, 1, 3, 0, 8, 31, 31, 127, 255, 511] (by kernel_rfl) ?_
   refine d_q rfl (qv_p rfl (p_fa tf40x3 rfl)) ?_
   refine d_q rfl (qv_p rfl (p_load (v := aL) tv37 rfl rfl rfl)) ?_
   obtain ⟨x1, hx1, h2⟩ := bind_s h
   refine d_q rfl (qv_call (v := aL) rfl (ih_value_copies hx1) ⟨(AV.le_refl _), trivial⟩ rfl) ?_
   refine d_q rfl (qv_p rfl (p_fa tf40x4 rfl)) ?_
   refine d_q rfl (qv_p rfl (p_load (v := aL) tv38 rfl rfl rfl)) ?_
   obtain ⟨x3, hx3, h4⟩ := bind_s h2
   refine d_q rfl (qv_call (v := aL) rfl (w_slices_Clone_string_string hx3) ⟨(AV.le_refl _), trivial⟩ rfl) ?_
   refine d_q rfl (qv_p rfl (p_fa tf40x3 rfl)) ?_
   refine d_n rfl ?_ rfl
   refine o_store (v := aL) (us := [aL]) (cs := [aI, aI, aS, aL, aL]) (σ' := [[aI, aI, aS, aL, aL], [aI, aI, aS, .nil, .nil]]) rfl tv37 rfl rfl rfl rfl rfl rfl rfl rfl ?_
   refine o_rc ?_
   refine ⟨rc_nil, ?_⟩
   refine d_q rfl (qv_p rfl (p_fa tf40x4 rfl)) ?_
   refine d_n rfl ?_ rfl
   refine o_store (v := aL) (us := [aL]) (cs := [aI, aI, aS, aL, aL]) (σ' := [[aI, aI, aS, aL, aL], [aI, aI, aS, .nil, .nil]]) rfl tv38 rfl rfl rfl rfl rfl rfl rfl rfl ?_
   refine o_rc ?_
   refine ⟨rc_nil, ?_⟩
   refine d_end (fr' := [(0, .agg [aI, aI, aS, aL, aL]), (1, .box 0 0), (2, .box 1 0)]) rfl ?_
   refine e_kw ?_
   refine w_seqw ?_
   refine w_region ?_
   refine o_p rfl (p_loads (us := [aI, aI, aS, aL, aL]) tv40 rfl rfl rfl rfl) ?_
   refine o_store (v := .agg [aI, aI, aS, aL, aL]) (us := [aI, aI, aS, aL, aL]) (cs := [aI, aI, aS, .nil, .nil]) (σ' := [[aI, aI, aS, aL, aL], [aI, aI, aS, aL, aL]]) rfl tv40 rfl rfl rfl rfl rfl rfl rfl rfl ?_
   refine o_end (fr' := [(0, .agg [aI, aI, aS, aL, aL]), (1, .box 0 0), (2, .box 1 0)]) rfl ?_
   refine e_kw ?_
   refine w_ret ?_
   have he5 := Option.some.inj h4
   subst he5
   refine e_ret (rs' := [.cell 2 40]) rfl ?_
   refine r_cells (us := [aI, aI, aS, aL, aL]) (cs := [aI, aI, aS, aL, aL]) tv40 rfl rfl rfl rfl ?_
   refine r_nil ?_
   exact fin_gen [] rfl rfl rfl (le_aggc rfl ⟨rfl, rfl, rfl, rfl, rfl, trivial⟩) st_nil
  ·
   intro p0l res h
   rw [value_copiesF] at h
   refine acalls (fn := Try.f83) [0, 2, 3, 5, 6, 7, 8, 9] (by kernel_rfl) Try.func83 rfl (by kernel_rfl) (by kernel_rfl) ?_
   refine w_seqw ?_
   refine w_region ?_
   refine o_p rfl (p_assign (v := .nil) rfl) ?_
   refine o_end (fr' := [(0, aL), (2, .nil)]) rfl ?_
   refine e_kw ?_
   refine w_seqw ?_
   refine w_region ?_
   refine o_p rfl (p_assign (v := .nil) rfl) ?_
   refine o_end (fr' := [(0, aL), (2, .nil), (3, .nil)]) rfl ?_
   refine e_kw ?_
   refine w_seqw ?_
   refine w_seqw ?_
   refine w_region ?_
   refine o_p rfl (p_move (v := aL) rfl) ?_
   refine o_p rfl (p_len ti37 (isl_c rfl)) ?_
   refine o_p rfl (p_move (v := aI) rfl) ?_
   refine o_end (fr' := [(0, aL), (2, .nil), (3, .nil), (6, aL), (7, aI), (8, aI)]) rfl ?_
   refine e_kw ?_
   obtain ⟨x1, hx1, h2⟩ := bind_s h
   refine w_jtail cl_kw (fun j3 => x1 = j3) (fun (j3 : (List ApiValue)) => ([(3, AV.os 0 5 rowApiValue j3)] : Fr)) (fun (j3 : (List ApiValue)) => ([] : St)) ?_ ?_
   ·
    refine w_block ?_
    refine w_loopo _ (fun (s4 : ((List ApiValue) × Int)) => ([(3, AV.os 0 5 rowApiValue s4.1), (6, .c (PV.ls 5 rowApiValue p0l)), (7, .c (.int .i64 ((p0l).length : Int))), (8, .c (.int .i64 s4.2))] : Fr)) (fun (s4 : ((List ApiValue) × Int)) => ([] : St)) hx1 (w_weak [1000000] 0 rfl rfl rfl rfl ⟨(le_nos rfl), (AV.le_refl _), (AV.le_refl _), (AV.le_refl _), trivial⟩ st_nil) ?_
    intro s4 st4 hs4 ho4
    unfold value_copies_l1 at hs4
    refine w_seqw ?_
    refine w_region ?_
    refine o_p rfl (p_lss rfl rfl) ?_
    refine o_end (fr' := [(3, aO), (6, aL), (7, aI), (8, aI), (9, aB)]) rfl ?_
    refine e_kw ?_
    refine w_seqw ?_
    refine w_cond _ rfl (fun hb5 => ?_) (fun hb5 => ?_)
    ·
     have h5 := cond_t (b := (decide (s4.2 < ((p0l).length : Int)))) hb5 hs4
     refine w_skip ?_
     refine e_kw ?_
     refine w_seqw ?_
     refine w_block ?_
     refine w_seqw ?_
     refine w_region ?_
     obtain ⟨x6, hx6, h7⟩ := bind_s h5
     refine o_p rfl (p_ia (cs := [.int _ _, .int _ _, .str _, PV.ls _ _ _, PV.ls _ _ _]) ts37 (isl_c rfl) rfl hx6 (rowApiValue_eq _)) ?_
     refine o_p rfl (p_loades (us := [.int _ _, .int _ _, .str _, PV.ls _ _ _, PV.ls _ _ _]) tv40 rfl rfl rfl) ?_
     refine o_alloc (n := 0) (cs := [aI, aI, aS, .nil, .nil]) (σ' := [[aI, aI, aS, .nil, .nil]]) tz40 rfl rfl rfl ?_
     refine o_store (v := .agg [aI, aI, aS, aL, aL]) (us := [aI, aI, aS, aL, aL]) (cs := [aI, aI, aS, .nil, .nil]) (σ' := [[aI, aI, aS, aL, aL]]) rfl tv40 rfl rfl rfl rfl rfl rfl rfl rfl ?_
     refine o_end (fr' := [(3, aO), (5, .box 0 0), (6, aL), (7, aI), (8, aI), (9, aB)]) rfl ?_
     refine e_kw ?_
     refine w_region ?_
     refine o_p rfl (p_move (v := aO) rfl) ?_
     refine o_p rfl (p_loads (us := [aI, aI, aS, aL, aL]) tv40 rfl rfl rfl rfl) ?_
     obtain ⟨x8, hx8, h9⟩ := bind_s h7
     refine o_v (ov_call (v := .agg [aI, aI, aS, aL, aL]) rfl (ih_value_Copy hx8) ⟨(le_aggc rfl ⟨rfl, rfl, rfl, rfl, rfl, trivial⟩), trivial⟩ rfl rfl rfl) ?_
     refine o_rows (row := rowApiValue) (xs := ([x8] : List ApiValue)) (rows := [[_, _, _, _, _]]) (σ' := [[aI, aI, aS, aL, aL]]) [0, 0, 0, 5, 1] ts37 rfl rfl rfl (arow_cons (rowApiValue_eq _) arow_nil) rfl rfl ?_
     obtain ⟨x10, hx10, h11⟩ := bind_s h9
     refine o_app (row := rowApiValue) ts37 rfl ti37 rfl (isl_o rfl) rowApiValue_len hx10 ?_
     refine o_p rfl (p_assign (v := aO) rfl) ?_
     refine o_end (fr' := [(3, aO), (5, .box 0 0), (6, aL), (7, aI), (8, aI), (9, aB)]) rfl ?_
     refine e_blk_n ?_
     refine e_kw ?_
     refine w_region ?_
     refine o_p rfl (p_add rfl rfl) ?_
     refine o_p rfl (p_move (v := aI) rfl) ?_
     refine o_end (fr' := [(3, aO), (5, .box 0 0), (6, aL), (7, aI), (8, aI), (9, aB)]) rfl ?_
     exact e_l _ (Option.some.inj h11).symm (w_weak [256] 0 rfl rfl rfl rfl ⟨(AV.le_refl _), (AV.le_refl _), (AV.le_refl _), (AV.le_refl _), trivial⟩ st_nil)
    ·
     have h5 := cond_f (b := (decide (s4.2 < ((p0l).length : Int)))) hb5 hs4
     refine w_exit ?_
     refine e_seq_x ?_
     refine e_seq_x ?_
     refine e_blk_h ?_
     have h12 := un_out h5 ho4
     exact e_j _ (Option.some.inj h12).symm (w_weak [0] 0 rfl rfl rfl rfl ⟨(AV.le_refl _), trivial⟩ st_nil)
   ·
    intro j3 hj13
    subst hj13
    refine e_kw ?_
    refine w_seqw ?_
    refine w_region ?_
    refine o_p rfl (p_move (v := aO) rfl) ?_
    refine o_p rfl (p_assign (v := aO) rfl) ?_
    refine o_end (fr' := [(2, aO), (3, aO)]) rfl ?_
    refine e_kw ?_
    refine w_ret ?_
    have he14 := Option.some.inj h2
    subst he14
    refine e_ret (rs' := [.tmp 2]) rfl ?_
    refine r_tmp (v := aO) rfl ?_
    refine r_nil ?_
    exact fin_gen [0] rfl rfl rfl (AV.le_refl _) st_nil
noncomputable def value_Copy (p0v : ApiValue) : Option ApiValue := lim fun n => value_CopyF n p0v
theorem w_value_Copy {p0v : ApiValue} {res : ApiValue} (h : value_Copy p0v = some res) : ACalls Try.prog 62 [.agg (AV.cs (exApiValue p0v))] [] (.agg (AV.cs (exApiValue res))) [] := by
 obtain ⟨n, hn⟩ := lim_some h
 exact (wF_value_Copy n).1 hn
noncomputable def value_copies (p0l : (List ApiValue)) : Option (List ApiValue) := lim fun n => value_copiesF n p0l
theorem w_value_copies {p0l : (List ApiValue)} {res : (List ApiValue)} (h : value_copies p0l = some res) : ACalls Try.prog 83 [.c (PV.ls 5 rowApiValue p0l)] [] (AV.os 0 5 rowApiValue res) [] := by
 obtain ⟨n, hn⟩ := lim_some h
 exact (wF_value_Copy n).2 hn
noncomputable def diverge_Markers_l1 (p0es : (List ApiEvent)) (s4 : ((List ApiPatch) × Int)) : Option (Step ((List ApiPatch) × Int) (List ApiPatch)) :=
 cond (decide (s4.2 < ((p0es).length : Int))) ((idx p0es s4.2).bind fun (x6 : ApiEvent) => cond (cond (!decide (x6.Kind = (18 : Int))) true (decide (x6.N < (-1 : Int)))) (some (Step.next (s4.1, (IntKind.wrap .i64 (s4.2 + (1 : Int)))))) (cond (decide (x6.N = (-1 : Int))) ((value_Copy x6.Data).bind fun (x10 : ApiValue) => (app 112 s4.1 ([(ApiPatch.mk (1 : Int) x6.Name (0 : Int) x10)] : List ApiPatch)).bind fun (x12 : (List ApiPatch)) => some (Step.next (x12, (IntKind.wrap .i64 (s4.2 + (1 : Int)))))) ((app 112 s4.1 ([(ApiPatch.mk (0 : Int) x6.Name x6.N (ApiValue.mk (0 : Int) (0 : Int) ([] : List UInt8) ([] : (List ApiValue)) ([] : (List (List UInt8)))))] : List ApiPatch)).bind fun (x14 : (List ApiPatch)) => some (Step.next (x14, (IntKind.wrap .i64 (s4.2 + (1 : Int)))))))) (some (Step.out s4.1))
noncomputable def diverge_Markers (p0es : (List ApiEvent)) : Option (List ApiPatch) :=
 ((loopO (diverge_Markers_l1 p0es) ((([] : (List ApiPatch)), (0 : Int)))) : Option (List ApiPatch)).bind fun (x1 : (List ApiPatch)) => (some x1)
theorem w_diverge_Markers {p0es : (List ApiEvent)} {res : (List ApiPatch)} (h : diverge_Markers p0es = some res) : ACalls Try.prog 38 [.c (PV.ls 24 rowApiEvent p0es)] [] (AV.os 0 8 rowApiPatch res) [] := by
 unfold diverge_Markers at h
 refine acalls (fn := Try.f38) [0, 2, 3, 5, 6, 7, 8, 9, 20, 29] (by kernel_rfl) Try.func38 rfl (by kernel_rfl) (by kernel_rfl) ?_
 refine w_seqw ?_
 refine w_region ?_
 refine o_p rfl (p_assign (v := .nil) rfl) ?_
 refine o_end (fr' := [(0, aL), (2, .nil)]) rfl ?_
 refine e_kw ?_
 refine w_seqw ?_
 refine w_region ?_
 refine o_p rfl (p_assign (v := .nil) rfl) ?_
 refine o_end (fr' := [(0, aL), (2, .nil), (3, .nil)]) rfl ?_
 refine e_kw ?_
 refine w_seqw ?_
 refine w_seqw ?_
 refine w_region ?_
 refine o_p rfl (p_move (v := aL) rfl) ?_
 refine o_p rfl (p_len ti49 (isl_c rfl)) ?_
 refine o_p rfl (p_move (v := aI) rfl) ?_
 refine o_end (fr' := [(0, aL), (2, .nil), (3, .nil), (6, aL), (7, aI), (8, aI)]) rfl ?_
 refine e_kw ?_
 obtain ⟨x1, hx1, h2⟩ := bind_s h
 refine w_jtail cl_kw (fun j3 => x1 = j3) (fun (j3 : (List ApiPatch)) => ([(3, AV.os 0 8 rowApiPatch j3)] : Fr)) (fun (j3 : (List ApiPatch)) => ([] : St)) ?_ ?_
 ·
  refine w_block ?_
  refine w_loopo _ (fun (s4 : ((List ApiPatch) × Int)) => ([(3, AV.os 0 8 rowApiPatch s4.1), (6, .c (PV.ls 24 rowApiEvent p0es)), (7, .c (.int .i64 ((p0es).length : Int))), (8, .c (.int .i64 s4.2))] : Fr)) (fun (s4 : ((List ApiPatch) × Int)) => ([] : St)) hx1 (w_weak [1000000] 0 rfl rfl rfl rfl ⟨(le_nos rfl), (AV.le_refl _), (AV.le_refl _), (AV.le_refl _), trivial⟩ st_nil) ?_
  intro s4 st4 hs4 ho4
  unfold diverge_Markers_l1 at hs4
  refine w_seqw ?_
  refine w_region ?_
  refine o_p rfl (p_lss rfl rfl) ?_
  refine o_end (fr' := [(3, aO), (6, aL), (7, aI), (8, aI), (9, aB)]) rfl ?_
  refine e_kw ?_
  refine w_seqw ?_
  refine w_cond _ rfl (fun hb5 => ?_) (fun hb5 => ?_)
  ·
   have h5 := cond_t (b := (decide (s4.2 < ((p0es).length : Int)))) hb5 hs4
   refine w_skip ?_
   refine e_kw ?_
   refine w_seqw ?_
   refine w_block ?_
   refine w_seqw ?_
   refine w_region ?_
   obtain ⟨x6, hx6, h7⟩ := bind_s h5
   refine o_p rfl (p_ia (cs := [.int _ _, .int _ _, .int _ _, .int _ _, .int _ _, .int _ _, .int _ _, .str _, .str _, .int _ _, .int _ _, .str _, PV.ls _ _ _, PV.ls _ _ _, .str _, .int _ _, .int _ _, .int _ _, .int _ _, .int _ _, .int _ _, .int _ _, .int _ _, PV.ls _ _ _]) ts49 (isl_c rfl) rfl hx6 rfl) ?_
   refine o_p rfl (p_loades (us := [.int _ _, .int _ _, .int _ _, .int _ _, .int _ _, .int _ _, .int _ _, .str _, .str _, .int _ _, .int _ _, .str _, PV.ls _ _ _, PV.ls _ _ _, .str _, .int _ _, .int _ _, .int _ _, .int _ _, .int _ _, .int _ _, .int _ _, .int _ _, PV.ls _ _ _]) tv46 rfl rfl rfl) ?_
   refine o_alloc (n := 0) (cs := [aI, aI, aI, aI, aI, aI, aI, aS, aS, aI, aI, aS, .nil, .nil, aS, aI, aI, aI, aI, aI, aI, aI, aI, .nil]) (σ' := [[aI, aI, aI, aI, aI, aI, aI, aS, aS, aI, aI, aS, .nil, .nil, aS, aI, aI, aI, aI, aI, aI, aI, aI, .nil]]) tz46 rfl rfl rfl ?_
   refine o_store (v := .agg [aI, aI, aI, aI, aI, aI, aI, aS, aS, aI, aI, aS, aL, aL, aS, aI, aI, aI, aI, aI, aI, aI, aI, aL]) (us := [aI, aI, aI, aI, aI, aI, aI, aS, aS, aI, aI, aS, aL, aL, aS, aI, aI, aI, aI, aI, aI, aI, aI, aL]) (cs := [aI, aI, aI, aI, aI, aI, aI, aS, aS, aI, aI, aS, .nil, .nil, aS, aI, aI, aI, aI, aI, aI, aI, aI, .nil]) (σ' := [[aI, aI, aI, aI, aI, aI, aI, aS, aS, aI, aI, aS, aL, aL, aS, aI, aI, aI, aI, aI, aI, aI, aI, aL]]) rfl tv46 rfl rfl rfl rfl rfl rfl rfl rfl ?_
   refine o_end (fr' := [(3, aO), (5, .box 0 0), (6, aL), (7, aI), (8, aI), (9, aB)]) rfl ?_
   refine e_kw ?_
   refine w_block ?_
   refine w_seqw ?_
   refine w_region ?_
   refine o_p rfl (p_fa tf46x1 rfl) ?_
   refine o_p rfl (p_load (v := aI) tv3 rfl rfl rfl) ?_
   refine o_p rfl (p_neq rfl rfl) ?_
   refine o_p rfl (p_move (v := aB) rfl) ?_
   refine o_g rfl rfl (fun hc => ov_p rfl (p_fa tf46x5 rfl)) ?_
   refine o_g rfl rfl (fun hc => ov_p rfl (p_load (v := aI) tv3 (gx rfl hc) rfl rfl)) ?_
   refine o_g rfl rfl (fun hc => ov_p rfl (p_lss (gx rfl hc) rfl)) ?_
   refine o_p rfl (p_pickz rfl rfl rfl (fun e => keq e)) ?_
   refine o_p rfl (p_assign (v := aB) rfl) ?_
   refine o_end (fr' := [(3, aO), (5, .box 0 0), (6, aL), (7, aI), (8, aI), (9, aB), (20, aB)]) rfl ?_
   refine e_kw ?_
   refine w_cond _ rfl (fun hb8 => ?_) (fun hb8 => ?_)
   ·
    have h8 := cond_t (b := (cond (!decide (x6.Kind = (18 : Int))) true (decide (x6.N < (-1 : Int))))) hb8 h7
    refine w_skip ?_
    refine e_blk_n ?_
    refine e_blk_n ?_
    refine e_kw ?_
    refine w_region ?_
    refine o_p rfl (p_add rfl rfl) ?_
    refine o_p rfl (p_move (v := aI) rfl) ?_
    refine o_end (fr' := [(3, aO), (5, .box 0 0), (6, aL), (7, aI), (8, aI), (9, aB), (20, aB)]) rfl ?_
    exact e_l _ (Option.some.inj h8).symm (w_weak [0] 0 rfl rfl rfl rfl ⟨(AV.le_refl _), (AV.le_refl _), (AV.le_refl _), (AV.le_refl _), trivial⟩ st_nil)
   ·
    have h8 := cond_f (b := (cond (!decide (x6.Kind = (18 : Int))) true (decide (x6.N < (-1 : Int))))) hb8 h7
    refine w_seqw ?_
    refine w_region ?_
    refine o_p rfl (p_fa tf46x5 rfl) ?_
    refine o_p rfl (p_load (v := aI) tv3 rfl rfl rfl) ?_
    refine o_p rfl (p_eql rfl rfl) ?_
    refine o_p rfl (p_assign (v := aB) rfl) ?_
    refine o_end (fr' := [(3, aO), (5, .box 0 0), (6, aL), (7, aI), (8, aI), (9, aB), (20, aB), (29, aB)]) rfl ?_
    refine e_kw ?_
    refine w_cond _ rfl (fun hb9 => ?_) (fun hb9 => ?_)
    ·
     have h9 := cond_t (b := (decide (x6.N = (-1 : Int)))) hb9 h8
     refine w_planT [.q 0, .q 1, .q 2, .q 3, .q 4, .q 5, .q 6, .n 7 [0], .n 8 [], .n 9 []] [(some 33, [3]), (some 34, [5]), (some 35, [34]), (some 36, [5]), (some 37, [36]), (some 38, [37]), (some 39, [35, 38]), (some 40, [39]), (some 41, [33, 40]), (some 3, [41])] [0, 0, 2, 0, 8, 24, 62, 126, 255, 511] (by kernel_rfl) ?_
     refine d_q rfl (qv_p rfl (p_move (v := aO) rfl)) ?_
     refine d_q rfl (qv_p rfl (p_fa tf46x7 rfl)) ?_
     refine d_q rfl (qv_p rfl (p_load (v := aS) tv9 rfl rfl rfl)) ?_
     refine d_q rfl (qv_p rfl (p_fa tf46x9 rfl)) ?_
     refine d_q rfl (qv_p rfl (p_loads (us := [aI, aI, aS, aL, aL]) tv40 rfl rfl rfl rfl)) ?_
     obtain ⟨x10, hx10, h11⟩ := bind_s h9
     refine d_q rfl (qv_call (v := .agg [aI, aI, aS, aL, aL]) rfl (w_value_Copy hx10) ⟨(le_aggc rfl ⟨rfl, rfl, rfl, rfl, rfl, trivial⟩), trivial⟩ rfl) ?_
     refine d_q rfl (qv_p rfl (p_build (cs := [aI, aS, aI, aI, aI, aS, aL, aL]) tb71 rfl)) ?_
     refine d_n rfl ?_ rfl
     refine o_rows (row := rowApiPatch) (xs := ([(ApiPatch.mk (1 : Int) x6.Name (0 : Int) x10)] : List ApiPatch)) (rows := [[_, _, _, _, _, _, _, _]]) (σ' := [[aI, aI, aI, aI, aI, aI, aI, aS, aS, aI, aI, aS, aL, aL, aS, aI, aI, aI, aI, aI, aI, aI, aI, aL]]) [0, 0, 0, 0, 0, 0, 5, 1] ts66 rfl rfl rfl (arow_cons rfl arow_nil) (ok_eq (by repeat (first | exact ok_nil | refine ok_cons rfl ?_ | refine ok_cons (dgv rfl) ?_))) rfl ?_
     refine o_rc ?_
     refine ⟨(rc_q (v := aO) rfl rfl (qv_p rfl (p_move (v := aO) rfl)) rc_nil), ?_⟩
     refine d_n rfl ?_ rfl
     obtain ⟨x12, hx12, h13⟩ := bind_s h11
     refine o_app (row := rowApiPatch) ts66 rfl ti66 rfl (isl_o rfl) (fun _ => rfl) hx12 ?_
     refine o_rc ?_
     refine ⟨rc_nil, ?_⟩
     refine d_n rfl ?_ rfl
     refine o_p rfl (p_assign (v := aO) rfl) ?_
     refine o_rc ?_
     refine ⟨rc_nil, ?_⟩
     refine d_end (fr' := [(3, aO), (5, .box 0 0), (6, aL), (7, aI), (8, aI), (9, aB), (20, aB), (29, aB)]) rfl ?_
     refine e_blk_n ?_
     refine e_blk_n ?_
     refine e_kw ?_
     refine w_region ?_
     refine o_p rfl (p_add rfl rfl) ?_
     refine o_p rfl (p_move (v := aI) rfl) ?_
     refine o_end (fr' := [(3, aO), (5, .box 0 0), (6, aL), (7, aI), (8, aI), (9, aB), (20, aB), (29, aB)]) rfl ?_
     exact e_l _ (Option.some.inj h13).symm (w_weak [656] 0 rfl rfl rfl rfl ⟨(AV.le_refl _), (AV.le_refl _), (AV.le_refl _), (AV.le_refl _), trivial⟩ st_nil)
    ·
     have h9 := cond_f (b := (decide (x6.N = (-1 : Int)))) hb9 h8
     refine w_region ?_
     refine o_p rfl (p_move (v := aO) rfl) ?_
     refine o_p rfl (p_fa tf46x7 rfl) ?_
     refine o_p rfl (p_load (v := aS) tv9 rfl rfl rfl) ?_
     refine o_p rfl (p_fa tf46x5 rfl) ?_
     refine o_p rfl (p_load (v := aI) tv3 rfl rfl rfl) ?_
     refine o_p rfl (p_build (cs := [aI, aS, aI, aI, aI, aS, .nil, .nil]) tb71 rfl) ?_
     refine o_rows (row := rowApiPatch) (xs := ([(ApiPatch.mk (0 : Int) x6.Name x6.N (ApiValue.mk (0 : Int) (0 : Int) ([] : List UInt8) ([] : (List ApiValue)) ([] : (List (List UInt8)))))] : List ApiPatch)) (rows := [[_, _, _, _, _, _, _, _]]) (σ' := [[aI, aI, aI, aI, aI, aI, aI, aS, aS, aI, aI, aS, aL, aL, aS, aI, aI, aI, aI, aI, aI, aI, aI, aL]]) [0, 0, 0, 0, 0, 0, 5, 1] ts66 rfl rfl rfl (arow_cons rfl arow_nil) (ok_eq (by repeat (first | exact ok_nil | refine ok_cons rfl ?_ | refine ok_cons (dgv rfl) ?_))) rfl ?_
     obtain ⟨x14, hx14, h15⟩ := bind_s h9
     refine o_app (row := rowApiPatch) ts66 rfl ti66 rfl (isl_o rfl) (fun _ => rfl) hx14 ?_
     refine o_p rfl (p_assign (v := aO) rfl) ?_
     refine o_end (fr' := [(3, aO), (5, .box 0 0), (6, aL), (7, aI), (8, aI), (9, aB), (20, aB), (29, aB)]) rfl ?_
     refine e_blk_n ?_
     refine e_blk_n ?_
     refine e_kw ?_
     refine w_region ?_
     refine o_p rfl (p_add rfl rfl) ?_
     refine o_p rfl (p_move (v := aI) rfl) ?_
     refine o_end (fr' := [(3, aO), (5, .box 0 0), (6, aL), (7, aI), (8, aI), (9, aB), (20, aB), (29, aB)]) rfl ?_
     exact e_l _ (Option.some.inj h15).symm (w_weak [304] 0 rfl rfl rfl rfl ⟨(AV.le_refl _), (AV.le_refl _), (AV.le_refl _), (AV.le_refl _), trivial⟩ st_nil)
  ·
   have h5 := cond_f (b := (decide (s4.2 < ((p0es).length : Int)))) hb5 hs4
   refine w_exit ?_
   refine e_seq_x ?_
   refine e_seq_x ?_
   refine e_blk_h ?_
   have h16 := un_out h5 ho4
   exact e_j _ (Option.some.inj h16).symm (w_weak [0] 0 rfl rfl rfl rfl ⟨(AV.le_refl _), trivial⟩ st_nil)
 ·
  intro j3 hj17
  subst hj17
  refine e_kw ?_
  refine w_seqw ?_
  refine w_region ?_
  refine o_p rfl (p_move (v := aO) rfl) ?_
  refine o_p rfl (p_assign (v := aO) rfl) ?_
  refine o_end (fr' := [(2, aO), (3, aO)]) rfl ?_
  refine e_kw ?_
  refine w_ret ?_
  have he18 := Option.some.inj h2
  subst he18
  refine e_ret (rs' := [.tmp 2]) rfl ?_
  refine r_tmp (v := aO) rfl ?_
  refine r_nil ?_
  exact fin_gen [0] rfl rfl rfl (AV.le_refl _) st_nil
end Go.Proofs.Ytnhchphmmdgphaa

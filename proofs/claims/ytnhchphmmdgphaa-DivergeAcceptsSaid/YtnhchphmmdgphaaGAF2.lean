import Derived.Test.YtnhchphmmdgphaaGATy
namespace Go.Proofs.Ytnhchphmmdgphaa
open Go Abs
set_option maxRecDepth 100000
set_option linter.unusedVariables false
set_option linter.unusedSimpArgs false
noncomputable def ref20xbare (p0c : ApiCommand) : Option ApiCommand :=
 ((((cond (decide (p0c.Kind = (1 : Int))) (some (decide (p0c.Kind = (1 : Int)))) (cond (decide (p0c.Kind = (2 : Int))) (some (decide (p0c.Kind = (2 : Int)))) (cond (decide (p0c.Kind = (3 : Int))) (some (decide (p0c.Kind = (3 : Int)))) (cond (decide (p0c.Kind = (4 : Int))) (some (decide (p0c.Kind = (4 : Int)))) (cond (decide (p0c.Kind = (5 : Int))) (some (decide (p0c.Kind = (5 : Int)))) (some (decide (p0c.Kind = (6 : Int))))))))) : Option Bool).bind fun (x4 : Bool) => (cond x4 (some (0 : Int)) (some p0c.Seq))) : Option Int).bind fun (x1 : Int) => (((((cond (decide (p0c.Kind = (1 : Int))) (some (decide (p0c.Kind = (1 : Int)))) (cond (decide (p0c.Kind = (5 : Int))) (some (decide (p0c.Kind = (5 : Int)))) (cond (decide (p0c.Kind = (6 : Int))) (some (decide (p0c.Kind = (6 : Int)))) (cond (decide (p0c.Kind = (7 : Int))) (some (decide (p0c.Kind = (7 : Int)))) (cond (decide (p0c.Kind = (8 : Int))) (some (decide (p0c.Kind = (8 : Int)))) (some (decide (p0c.Kind = (12 : Int))))))))) : Option Bool).bind fun (x18 : Bool) => (cond x18 (some ([] : List UInt8)) (some p0c.Name))) : Option (List UInt8)).bind fun (x15 : (List UInt8)) => (((((cond (decide (p0c.Kind = (5 : Int))) (some (decide (p0c.Kind = (5 : Int)))) (cond (decide (p0c.Kind = (6 : Int))) (some (decide (p0c.Kind = (6 : Int)))) (cond (decide (p0c.Kind = (8 : Int))) (some (decide (p0c.Kind = (8 : Int)))) (some (decide (p0c.Kind = (9 : Int))))))) : Option Bool).bind fun (x32 : Bool) => (cond x32 (some ([] : List UInt8)) (some p0c.Key))) : Option (List UInt8)).bind fun (x29 : (List UInt8)) => (((((cond (decide (p0c.Kind = (3 : Int))) (some (decide (p0c.Kind = (3 : Int)))) (cond (decide (p0c.Kind = (5 : Int))) (some (decide (p0c.Kind = (5 : Int)))) (cond (decide (p0c.Kind = (7 : Int))) (some (decide (p0c.Kind = (7 : Int)))) (some (decide (p0c.Kind = (9 : Int))))))) : Option Bool).bind fun (x44 : Bool) => (cond x44 (some (0 : Int)) (some p0c.N))) : Option Int).bind fun (x41 : Int) => (((((cond (decide (p0c.Kind = (2 : Int))) (some (decide (p0c.Kind = (2 : Int)))) (cond (decide (p0c.Kind = (3 : Int))) (some (decide (p0c.Kind = (3 : Int)))) (some (decide (p0c.Kind = (4 : Int)))))) : Option Bool).bind fun (x56 : Bool) => (cond x56 (some (ApiCommand.mk p0c.Kind x1 x15 x29 x41 p0c.Data p0c.Opts)) (some (ApiCommand.mk p0c.Kind x1 x15 x29 x41 (ApiValue.mk (0 : Int) (0 : Int) ([] : List UInt8) ([] : (List ApiValue)) ([] : (List (List UInt8)))) p0c.Opts)))) : Option ApiCommand).bind fun (x53 : ApiCommand) => (cond (decide (x53.Kind = (1 : Int))) (some (ApiCommand.mk x53.Kind x53.Seq x53.Name x53.Key x53.N x53.Data (ApiPolicy.mk ([] : List UInt8) (0 : Int) (0 : Int) (0 : Int) (0 : Int) (0 : Int) (0 : Int) (0 : Int) (0 : Int) ([] : (List (List UInt8)))))) (some x53))))))
theorem w_ref20xbare {p0c : ApiCommand} {res : ApiCommand} (h : ref20xbare p0c = some res) : ACalls Try.prog 67 [.agg (AV.cs (rowApiCommand p0c))] [] (.agg (AV.cs (rowApiCommand res))) [] := by
 unfold ref20xbare at h
 refine acalls (fn := Try.f67) [0, 1, 2, 4, 5, 14, 15, 24, 25, 32, 33, 40, 43, 49] (by kernel_rfl) Try.func67 rfl (by kernel_rfl) (by kernel_rfl) ?_
 refine w_seqw ?_
 refine w_region ?_
 refine o_box (v := .agg [aI, aI, aS, aS, aI, aI, aI, aS, aL, aL, aS, aI, aI, aI, aI, aI, aI, aI, aI, aL]) (n := 0) (cs := [aI, aI, aS, aS, aI, aI, aI, aS, aL, aL, aS, aI, aI, aI, aI, aI, aI, aI, aI, aL]) (σ' := [[aI, aI, aS, aS, aI, aI, aI, aS, aL, aL, aS, aI, aI, aI, aI, aI, aI, aI, aI, aL]]) rfl rfl rfl rfl rfl ?_
 refine o_alloc (n := 1) (cs := [aI, aI, aS, aS, aI, aI, aI, aS, .nil, .nil, aS, aI, aI, aI, aI, aI, aI, aI, aI, .nil]) (σ' := [[aI, aI, aS, aS, aI, aI, aI, aS, aL, aL, aS, aI, aI, aI, aI, aI, aI, aI, aI, aL], [aI, aI, aS, aS, aI, aI, aI, aS, .nil, .nil, aS, aI, aI, aI, aI, aI, aI, aI, aI, .nil]]) tz44 rfl rfl rfl ?_
 refine o_end (fr' := [(0, .agg [aI, aI, aS, aS, aI, aI, aI, aS, aL, aL, aS, aI, aI, aI, aI, aI, aI, aI, aI, aL]), (1, .box 0 0), (2, .box 1 0)]) rfl ?_
 refine e_kw ?_
 obtain ⟨x1, hx1, h2⟩ := bind_s h
 refine w_join (fun j3 => x1 = j3) (fun (j3 : Int) => ([(1, .box 0 0), (2, .box 1 0)] : Fr)) (fun (j3 : Int) => ([[.c (.int .i64 p0c.Kind), .c (.int .i64 j3), .c (.str p0c.Name), .c (.str p0c.Key), .c (.int .i64 p0c.N), .c (.int .i64 p0c.Data.Kind), .c (.int .i64 p0c.Data.Int), .c (.str p0c.Data.Text), .c (PV.ls 5 rowApiValue p0c.Data.Items), .c (PV.ls 1 rowS p0c.Data.Keys), .c (.str p0c.Opts.Queue), .c (.int .i64 p0c.Opts.ToStart), .c (.int .i64 p0c.Opts.ToClose), .c (.int .i64 p0c.Opts.Total), .c (.int .i64 p0c.Opts.Beat), .c (.int .i64 p0c.Opts.First), .c (.int .i64 p0c.Opts.Coef), .c (.int .i64 p0c.Opts.Most), .c (.int .i64 p0c.Opts.Attempts), .c (PV.ls 1 rowS p0c.Opts.Fatal)], [.c (.int .i64 (0 : Int)), .c (.int .i64 (0 : Int)), .c (.str ([] : List UInt8)), .c (.str ([] : List UInt8)), .c (.int .i64 (0 : Int)), .c (.int .i64 (0 : Int)), .c (.int .i64 (0 : Int)), .c (.str ([] : List UInt8)), .nil, .nil, .c (.str ([] : List UInt8)), .c (.int .i64 (0 : Int)), .c (.int .i64 (0 : Int)), .c (.int .i64 (0 : Int)), .c (.int .i64 (0 : Int)), .c (.int .i64 (0 : Int)), .c (.int .i64 (0 : Int)), .c (.int .i64 (0 : Int)), .c (.int .i64 (0 : Int)), .nil]] : St)) ?_ ?_
 ·
  refine w_seqw ?_
  refine w_region ?_
  refine o_p rfl (p_fa tf44x0 rfl) ?_
  refine o_p rfl (p_load (v := aI) tv3 rfl rfl rfl) ?_
  refine o_end (fr' := [(0, .agg [aI, aI, aS, aS, aI, aI, aI, aS, aL, aL, aS, aI, aI, aI, aI, aI, aI, aI, aI, aL]), (1, .box 0 0), (2, .box 1 0), (4, aI)]) rfl ?_
  refine e_kw ?_
  refine w_block ?_
  obtain ⟨x4, hx4, h5⟩ := bind_s hx1
  refine w_join (fun j6 => x4 = j6) (fun (j6 : Bool) => ([(1, .box 0 0), (2, .box 1 0), (5, .c (.bool j6))] : Fr)) (fun (j6 : Bool) => ([[.c (.int .i64 p0c.Kind), .c (.int .i64 p0c.Seq), .c (.str p0c.Name), .c (.str p0c.Key), .c (.int .i64 p0c.N), .c (.int .i64 p0c.Data.Kind), .c (.int .i64 p0c.Data.Int), .c (.str p0c.Data.Text), .c (PV.ls 5 rowApiValue p0c.Data.Items), .c (PV.ls 1 rowS p0c.Data.Keys), .c (.str p0c.Opts.Queue), .c (.int .i64 p0c.Opts.ToStart), .c (.int .i64 p0c.Opts.ToClose), .c (.int .i64 p0c.Opts.Total), .c (.int .i64 p0c.Opts.Beat), .c (.int .i64 p0c.Opts.First), .c (.int .i64 p0c.Opts.Coef), .c (.int .i64 p0c.Opts.Most), .c (.int .i64 p0c.Opts.Attempts), .c (PV.ls 1 rowS p0c.Opts.Fatal)], [.c (.int .i64 (0 : Int)), .c (.int .i64 (0 : Int)), .c (.str ([] : List UInt8)), .c (.str ([] : List UInt8)), .c (.int .i64 (0 : Int)), .c (.int .i64 (0 : Int)), .c (.int .i64 (0 : Int)), .c (.str ([] : List UInt8)), .nil, .nil, .c (.str ([] : List UInt8)), .c (.int .i64 (0 : Int)), .c (.int .i64 (0 : Int)), .c (.int .i64 (0 : Int)), .c (.int .i64 (0 : Int)), .c (.int .i64 (0 : Int)), .c (.int .i64 (0 : Int)), .c (.int .i64 (0 : Int)), .c (.int .i64 (0 : Int)), .nil]] : St)) ?_ ?_
  ·
   refine w_seqw ?_
   refine w_region ?_
   refine o_p rfl (p_eql rfl rfl) ?_
   refine o_p rfl (p_assign (v := aB) rfl) ?_
   refine o_end (fr' := [(0, .agg [aI, aI, aS, aS, aI, aI, aI, aS, aL, aL, aS, aI, aI, aI, aI, aI, aI, aI, aI, aL]), (1, .box 0 0), (2, .box 1 0), (4, aI), (5, aB)]) rfl ?_
   refine e_kw ?_
   refine w_cond _ rfl (fun hb7 => ?_) (fun hb7 => ?_)
   ·
    have h7 := cond_t (b := (decide (p0c.Kind = (1 : Int)))) hb7 hx4
    refine w_skip ?_
    exact e_j _ (Option.some.inj h7).symm (w_weak [] 2 rfl rfl rfl rfl ⟨(AV.le_refl _), (AV.le_refl _), (AV.le_refl _), trivial⟩ (st_r rfl (st_r rfl st_nil)))
   ·
    have h7 := cond_f (b := (decide (p0c.Kind = (1 : Int)))) hb7 hx4
    refine w_seqw ?_
    refine w_region ?_
    refine o_p rfl (p_eql rfl rfl) ?_
    refine o_p rfl (p_assign (v := aB) rfl) ?_
    refine o_end (fr' := [(0, .agg [aI, aI, aS, aS, aI, aI, aI, aS, aL, aL, aS, aI, aI, aI, aI, aI, aI, aI, aI, aL]), (1, .box 0 0), (2, .box 1 0), (4, aI), (5, aB)]) rfl ?_
    refine e_kw ?_
    refine w_cond _ rfl (fun hb8 => ?_) (fun hb8 => ?_)
    ·
     have h8 := cond_t (b := (decide (p0c.Kind = (2 : Int)))) hb8 h7
     refine w_skip ?_
     exact e_j _ (Option.some.inj h8).symm (w_weak [] 2 rfl rfl rfl rfl ⟨(AV.le_refl _), (AV.le_refl _), (AV.le_refl _), trivial⟩ (st_r rfl (st_r rfl st_nil)))
    ·
     have h8 := cond_f (b := (decide (p0c.Kind = (2 : Int)))) hb8 h7
     refine w_seqw ?_
     refine w_region ?_
     refine o_p rfl (p_eql rfl rfl) ?_
     refine o_p rfl (p_assign (v := aB) rfl) ?_
     refine o_end (fr' := [(0, .agg [aI, aI, aS, aS, aI, aI, aI, aS, aL, aL, aS, aI, aI, aI, aI, aI, aI, aI, aI, aL]), (1, .box 0 0), (2, .box 1 0), (4, aI), (5, aB)]) rfl ?_
     refine e_kw ?_
     refine w_cond _ rfl (fun hb9 => ?_) (fun hb9 => ?_)
     ·
      have h9 := cond_t (b := (decide (p0c.Kind = (3 : Int)))) hb9 h8
      refine w_skip ?_
      exact e_j _ (Option.some.inj h9).symm (w_weak [] 2 rfl rfl rfl rfl ⟨(AV.le_refl _), (AV.le_refl _), (AV.le_refl _), trivial⟩ (st_r rfl (st_r rfl st_nil)))
     ·
      have h9 := cond_f (b := (decide (p0c.Kind = (3 : Int)))) hb9 h8
      refine w_seqw ?_
      refine w_region ?_
      refine o_p rfl (p_eql rfl rfl) ?_
      refine o_p rfl (p_assign (v := aB) rfl) ?_
      refine o_end (fr' := [(0, .agg [aI, aI, aS, aS, aI, aI, aI, aS, aL, aL, aS, aI, aI, aI, aI, aI, aI, aI, aI, aL]), (1, .box 0 0), (2, .box 1 0), (4, aI), (5, aB)]) rfl ?_
      refine e_kw ?_
      refine w_cond _ rfl (fun hb10 => ?_) (fun hb10 => ?_)
      ·
       have h10 := cond_t (b := (decide (p0c.Kind = (4 : Int)))) hb10 h9
       refine w_skip ?_
       exact e_j _ (Option.some.inj h10).symm (w_weak [] 2 rfl rfl rfl rfl ⟨(AV.le_refl _), (AV.le_refl _), (AV.le_refl _), trivial⟩ (st_r rfl (st_r rfl st_nil)))
      ·
       have h10 := cond_f (b := (decide (p0c.Kind = (4 : Int)))) hb10 h9
       refine w_seqw ?_
       refine w_region ?_
       refine o_p rfl (p_eql rfl rfl) ?_
       refine o_p rfl (p_assign (v := aB) rfl) ?_
       refine o_end (fr' := [(0, .agg [aI, aI, aS, aS, aI, aI, aI, aS, aL, aL, aS, aI, aI, aI, aI, aI, aI, aI, aI, aL]), (1, .box 0 0), (2, .box 1 0), (4, aI), (5, aB)]) rfl ?_
       refine e_kw ?_
       refine w_cond _ rfl (fun hb11 => ?_) (fun hb11 => ?_)
       ·
        have h11 := cond_t (b := (decide (p0c.Kind = (5 : Int)))) hb11 h10
        refine w_skip ?_
        exact e_j _ (Option.some.inj h11).symm (w_weak [] 2 rfl rfl rfl rfl ⟨(AV.le_refl _), (AV.le_refl _), (AV.le_refl _), trivial⟩ (st_r rfl (st_r rfl st_nil)))
       ·
        have h11 := cond_f (b := (decide (p0c.Kind = (5 : Int)))) hb11 h10
        refine w_region ?_
        refine o_p rfl (p_eql rfl rfl) ?_
        refine o_p rfl (p_assign (v := aB) rfl) ?_
        refine o_end (fr' := [(0, .agg [aI, aI, aS, aS, aI, aI, aI, aS, aL, aL, aS, aI, aI, aI, aI, aI, aI, aI, aI, aL]), (1, .box 0 0), (2, .box 1 0), (4, aI), (5, aB)]) rfl ?_
        exact e_j _ (Option.some.inj h11).symm (w_weak [] 2 rfl rfl rfl rfl ⟨(AV.le_refl _), (AV.le_refl _), (AV.le_refl _), trivial⟩ (st_r rfl (st_r rfl st_nil)))
  ·
   intro j6 hj12
   subst hj12
   refine w_cond _ rfl (fun hb13 => ?_) (fun hb13 => ?_)
   ·
    have h13 := cond_t (b := x4) hb13 h5
    refine w_region ?_
    refine o_p rfl (p_fa tf44x1 rfl) ?_
    refine o_store (v := aI) (us := [aI]) (cs := [aI, aI, aS, aS, aI, aI, aI, aS, aL, aL, aS, aI, aI, aI, aI, aI, aI, aI, aI, aL]) (σ' := [[aI, aI, aS, aS, aI, aI, aI, aS, aL, aL, aS, aI, aI, aI, aI, aI, aI, aI, aI, aL], [aI, aI, aS, aS, aI, aI, aI, aS, .nil, .nil, aS, aI, aI, aI, aI, aI, aI, aI, aI, .nil]]) rfl tv3 rfl rfl rfl rfl rfl rfl rfl rfl ?_
    refine o_end (fr' := [(1, .box 0 0), (2, .box 1 0), (5, aB)]) rfl ?_
    refine e_blk_n ?_
    exact e_j _ (Option.some.inj h13).symm (w_weak [] 2 rfl rfl rfl rfl ⟨(AV.le_refl _), (AV.le_refl _), trivial⟩ (st_r rfl (st_r rfl st_nil)))
   ·
    have h13 := cond_f (b := x4) hb13 h5
    refine w_skip ?_
    refine e_blk_n ?_
    exact e_j _ (Option.some.inj h13).symm (w_weak [] 2 rfl rfl rfl rfl ⟨(AV.le_refl _), (AV.le_refl _), trivial⟩ (st_r rfl (st_r rfl st_nil)))
 ·
  intro j3 hj14
  subst hj14
  obtain ⟨x15, hx15, h16⟩ := bind_s h2
  refine w_join (fun j17 => x15 = j17) (fun (j17 : (List UInt8)) => ([(1, .box 0 0), (2, .box 1 0)] : Fr)) (fun (j17 : (List UInt8)) => ([[.c (.int .i64 p0c.Kind), .c (.int .i64 x1), .c (.str j17), .c (.str p0c.Key), .c (.int .i64 p0c.N), .c (.int .i64 p0c.Data.Kind), .c (.int .i64 p0c.Data.Int), .c (.str p0c.Data.Text), .c (PV.ls 5 rowApiValue p0c.Data.Items), .c (PV.ls 1 rowS p0c.Data.Keys), .c (.str p0c.Opts.Queue), .c (.int .i64 p0c.Opts.ToStart), .c (.int .i64 p0c.Opts.ToClose), .c (.int .i64 p0c.Opts.Total), .c (.int .i64 p0c.Opts.Beat), .c (.int .i64 p0c.Opts.First), .c (.int .i64 p0c.Opts.Coef), .c (.int .i64 p0c.Opts.Most), .c (.int .i64 p0c.Opts.Attempts), .c (PV.ls 1 rowS p0c.Opts.Fatal)], [.c (.int .i64 (0 : Int)), .c (.int .i64 (0 : Int)), .c (.str ([] : List UInt8)), .c (.str ([] : List UInt8)), .c (.int .i64 (0 : Int)), .c (.int .i64 (0 : Int)), .c (.int .i64 (0 : Int)), .c (.str ([] : List UInt8)), .nil, .nil, .c (.str ([] : List UInt8)), .c (.int .i64 (0 : Int)), .c (.int .i64 (0 : Int)), .c (.int .i64 (0 : Int)), .c (.int .i64 (0 : Int)), .c (.int .i64 (0 : Int)), .c (.int .i64 (0 : Int)), .c (.int .i64 (0 : Int)), .c (.int .i64 (0 : Int)), .nil]] : St)) ?_ ?_
  ·
   refine w_seqw ?_
   refine w_region ?_
   refine o_p rfl (p_fa tf44x0 rfl) ?_
   refine o_p rfl (p_load (v := aI) tv3 rfl rfl rfl) ?_
   refine o_end (fr' := [(1, .box 0 0), (2, .box 1 0), (14, aI)]) rfl ?_
   refine e_kw ?_
   refine w_block ?_
   obtain ⟨x18, hx18, h19⟩ := bind_s hx15
   refine w_join (fun j20 => x18 = j20) (fun (j20 : Bool) => ([(1, .box 0 0), (2, .box 1 0), (15, .c (.bool j20))] : Fr)) (fun (j20 : Bool) => ([[.c (.int .i64 p0c.Kind), .c (.int .i64 x1), .c (.str p0c.Name), .c (.str p0c.Key), .c (.int .i64 p0c.N), .c (.int .i64 p0c.Data.Kind), .c (.int .i64 p0c.Data.Int), .c (.str p0c.Data.Text), .c (PV.ls 5 rowApiValue p0c.Data.Items), .c (PV.ls 1 rowS p0c.Data.Keys), .c (.str p0c.Opts.Queue), .c (.int .i64 p0c.Opts.ToStart), .c (.int .i64 p0c.Opts.ToClose), .c (.int .i64 p0c.Opts.Total), .c (.int .i64 p0c.Opts.Beat), .c (.int .i64 p0c.Opts.First), .c (.int .i64 p0c.Opts.Coef), .c (.int .i64 p0c.Opts.Most), .c (.int .i64 p0c.Opts.Attempts), .c (PV.ls 1 rowS p0c.Opts.Fatal)], [.c (.int .i64 (0 : Int)), .c (.int .i64 (0 : Int)), .c (.str ([] : List UInt8)), .c (.str ([] : List UInt8)), .c (.int .i64 (0 : Int)), .c (.int .i64 (0 : Int)), .c (.int .i64 (0 : Int)), .c (.str ([] : List UInt8)), .nil, .nil, .c (.str ([] : List UInt8)), .c (.int .i64 (0 : Int)), .c (.int .i64 (0 : Int)), .c (.int .i64 (0 : Int)), .c (.int .i64 (0 : Int)), .c (.int .i64 (0 : Int)), .c (.int .i64 (0 : Int)), .c (.int .i64 (0 : Int)), .c (.int .i64 (0 : Int)), .nil]] : St)) ?_ ?_
   ·
    refine w_seqw ?_
    refine w_region ?_
    refine o_p rfl (p_eql rfl rfl) ?_
    refine o_p rfl (p_assign (v := aB) rfl) ?_
    refine o_end (fr' := [(1, .box 0 0), (2, .box 1 0), (14, aI), (15, aB)]) rfl ?_
    refine e_kw ?_
    refine w_cond _ rfl (fun hb21 => ?_) (fun hb21 => ?_)
    ·
     have h21 := cond_t (b := (decide (p0c.Kind = (1 : Int)))) hb21 hx18
     refine w_skip ?_
     exact e_j _ (Option.some.inj h21).symm (w_weak [] 2 rfl rfl rfl rfl ⟨(AV.le_refl _), (AV.le_refl _), (AV.le_refl _), trivial⟩ (st_r rfl (st_r rfl st_nil)))
    ·
     have h21 := cond_f (b := (decide (p0c.Kind = (1 : Int)))) hb21 hx18
     refine w_seqw ?_
     refine w_region ?_
     refine o_p rfl (p_eql rfl rfl) ?_
     refine o_p rfl (p_assign (v := aB) rfl) ?_
     refine o_end (fr' := [(1, .box 0 0), (2, .box 1 0), (14, aI), (15, aB)]) rfl ?_
     refine e_kw ?_
     refine w_cond _ rfl (fun hb22 => ?_) (fun hb22 => ?_)
     ·
      have h22 := cond_t (b := (decide (p0c.Kind = (5 : Int)))) hb22 h21
      refine w_skip ?_
      exact e_j _ (Option.some.inj h22).symm (w_weak [] 2 rfl rfl rfl rfl ⟨(AV.le_refl _), (AV.le_refl _), (AV.le_refl _), trivial⟩ (st_r rfl (st_r rfl st_nil)))
     ·
      have h22 := cond_f (b := (decide (p0c.Kind = (5 : Int)))) hb22 h21
      refine w_seqw ?_
      refine w_region ?_
      refine o_p rfl (p_eql rfl rfl) ?_
      refine o_p rfl (p_assign (v := aB) rfl) ?_
      refine o_end (fr' := [(1, .box 0 0), (2, .box 1 0), (14, aI), (15, aB)]) rfl ?_
      refine e_kw ?_
      refine w_cond _ rfl (fun hb23 => ?_) (fun hb23 => ?_)
      ·
       have h23 := cond_t (b := (decide (p0c.Kind = (6 : Int)))) hb23 h22
       refine w_skip ?_
       exact e_j _ (Option.some.inj h23).symm (w_weak [] 2 rfl rfl rfl rfl ⟨(AV.le_refl _), (AV.le_refl _), (AV.le_refl _), trivial⟩ (st_r rfl (st_r rfl st_nil)))
      ·
       have h23 := cond_f (b := (decide (p0c.Kind = (6 : Int)))) hb23 h22
       refine w_seqw ?_
       refine w_region ?_
       refine o_p rfl (p_eql rfl rfl) ?_
       refine o_p rfl (p_assign (v := aB) rfl) ?_
       refine o_end (fr' := [(1, .box 0 0), (2, .box 1 0), (14, aI), (15, aB)]) rfl ?_
       refine e_kw ?_
       refine w_cond _ rfl (fun hb24 => ?_) (fun hb24 => ?_)
       ·
        have h24 := cond_t (b := (decide (p0c.Kind = (7 : Int)))) hb24 h23
        refine w_skip ?_
        exact e_j _ (Option.some.inj h24).symm (w_weak [] 2 rfl rfl rfl rfl ⟨(AV.le_refl _), (AV.le_refl _), (AV.le_refl _), trivial⟩ (st_r rfl (st_r rfl st_nil)))
       ·
        have h24 := cond_f (b := (decide (p0c.Kind = (7 : Int)))) hb24 h23
        refine w_seqw ?_
        refine w_region ?_
        refine o_p rfl (p_eql rfl rfl) ?_
        refine o_p rfl (p_assign (v := aB) rfl) ?_
        refine o_end (fr' := [(1, .box 0 0), (2, .box 1 0), (14, aI), (15, aB)]) rfl ?_
        refine e_kw ?_
        refine w_cond _ rfl (fun hb25 => ?_) (fun hb25 => ?_)
        ·
         have h25 := cond_t (b := (decide (p0c.Kind = (8 : Int)))) hb25 h24
         refine w_skip ?_
         exact e_j _ (Option.some.inj h25).symm (w_weak [] 2 rfl rfl rfl rfl ⟨(AV.le_refl _), (AV.le_refl _), (AV.le_refl _), trivial⟩ (st_r rfl (st_r rfl st_nil)))
        ·
         have h25 := cond_f (b := (decide (p0c.Kind = (8 : Int)))) hb25 h24
         refine w_region ?_
         refine o_p rfl (p_eql rfl rfl) ?_
         refine o_p rfl (p_assign (v := aB) rfl) ?_
         refine o_end (fr' := [(1, .box 0 0), (2, .box 1 0), (14, aI), (15, aB)]) rfl ?_
         exact e_j _ (Option.some.inj h25).symm (w_weak [] 2 rfl rfl rfl rfl ⟨(AV.le_refl _), (AV.le_refl _), (AV.le_refl _), trivial⟩ (st_r rfl (st_r rfl st_nil)))
   ·
    intro j20 hj26
    subst hj26
    refine w_cond _ rfl (fun hb27 => ?_) (fun hb27 => ?_)
    ·
     have h27 := cond_t (b := x18) hb27 h19
     refine w_region ?_
     refine o_p rfl (p_fa tf44x2 rfl) ?_
     refine o_store (v := aS) (us := [aS]) (cs := [aI, aI, aS, aS, aI, aI, aI, aS, aL, aL, aS, aI, aI, aI, aI, aI, aI, aI, aI, aL]) (σ' := [[aI, aI, aS, aS, aI, aI, aI, aS, aL, aL, aS, aI, aI, aI, aI, aI, aI, aI, aI, aL], [aI, aI, aS, aS, aI, aI, aI, aS, .nil, .nil, aS, aI, aI, aI, aI, aI, aI, aI, aI, .nil]]) rfl tv9 rfl rfl rfl rfl rfl rfl rfl rfl ?_
     refine o_end (fr' := [(1, .box 0 0), (2, .box 1 0), (15, aB)]) rfl ?_
     refine e_blk_n ?_
     exact e_j _ (Option.some.inj h27).symm (w_weak [] 2 rfl rfl rfl rfl ⟨(AV.le_refl _), (AV.le_refl _), trivial⟩ (st_r rfl (st_r rfl st_nil)))
    ·
     have h27 := cond_f (b := x18) hb27 h19
     refine w_skip ?_
     refine e_blk_n ?_
     exact e_j _ (Option.some.inj h27).symm (w_weak [] 2 rfl rfl rfl rfl ⟨(AV.le_refl _), (AV.le_refl _), trivial⟩ (st_r rfl (st_r rfl st_nil)))
  ·
   intro j17 hj28
   subst hj28
   obtain ⟨x29, hx29, h30⟩ := bind_s h16
   refine w_join (fun j31 => x29 = j31) (fun (j31 : (List UInt8)) => ([(1, .box 0 0), (2, .box 1 0)] : Fr)) (fun (j31 : (List UInt8)) => ([[.c (.int .i64 p0c.Kind), .c (.int .i64 x1), .c (.str x15), .c (.str j31), .c (.int .i64 p0c.N), .c (.int .i64 p0c.Data.Kind), .c (.int .i64 p0c.Data.Int), .c (.str p0c.Data.Text), .c (PV.ls 5 rowApiValue p0c.Data.Items), .c (PV.ls 1 rowS p0c.Data.Keys), .c (.str p0c.Opts.Queue), .c (.int .i64 p0c.Opts.ToStart), .c (.int .i64 p0c.Opts.ToClose), .c (.int .i64 p0c.Opts.Total), .c (.int .i64 p0c.Opts.Beat), .c (.int .i64 p0c.Opts.First), .c (.int .i64 p0c.Opts.Coef), .c (.int .i64 p0c.Opts.Most), .c (.int .i64 p0c.Opts.Attempts), .c (PV.ls 1 rowS p0c.Opts.Fatal)], [.c (.int .i64 (0 : Int)), .c (.int .i64 (0 : Int)), .c (.str ([] : List UInt8)), .c (.str ([] : List UInt8)), .c (.int .i64 (0 : Int)), .c (.int .i64 (0 : Int)), .c (.int .i64 (0 : Int)), .c (.str ([] : List UInt8)), .nil, .nil, .c (.str ([] : List UInt8)), .c (.int .i64 (0 : Int)), .c (.int .i64 (0 : Int)), .c (.int .i64 (0 : Int)), .c (.int .i64 (0 : Int)), .c (.int .i64 (0 : Int)), .c (.int .i64 (0 : Int)), .c (.int .i64 (0 : Int)), .c (.int .i64 (0 : Int)), .nil]] : St)) ?_ ?_
   ·
    refine w_seqw ?_
    refine w_region ?_
    refine o_p rfl (p_fa tf44x0 rfl) ?_
    refine o_p rfl (p_load (v := aI) tv3 rfl rfl rfl) ?_
    refine o_end (fr' := [(1, .box 0 0), (2, .box 1 0), (24, aI)]) rfl ?_
    refine e_kw ?_
    refine w_block ?_
    obtain ⟨x32, hx32, h33⟩ := bind_s hx29
    refine w_join (fun j34 => x32 = j34) (fun (j34 : Bool) => ([(1, .box 0 0), (2, .box 1 0), (25, .c (.bool j34))] : Fr)) (fun (j34 : Bool) => ([[.c (.int .i64 p0c.Kind), .c (.int .i64 x1), .c (.str x15), .c (.str p0c.Key), .c (.int .i64 p0c.N), .c (.int .i64 p0c.Data.Kind), .c (.int .i64 p0c.Data.Int), .c (.str p0c.Data.Text), .c (PV.ls 5 rowApiValue p0c.Data.Items), .c (PV.ls 1 rowS p0c.Data.Keys), .c (.str p0c.Opts.Queue), .c (.int .i64 p0c.Opts.ToStart), .c (.int .i64 p0c.Opts.ToClose), .c (.int .i64 p0c.Opts.Total), .c (.int .i64 p0c.Opts.Beat), .c (.int .i64 p0c.Opts.First), .c (.int .i64 p0c.Opts.Coef), .c (.int .i64 p0c.Opts.Most), .c (.int .i64 p0c.Opts.Attempts), .c (PV.ls 1 rowS p0c.Opts.Fatal)], [.c (.int .i64 (0 : Int)), .c (.int .i64 (0 : Int)), .c (.str ([] : List UInt8)), .c (.str ([] : List UInt8)), .c (.int .i64 (0 : Int)), .c (.int .i64 (0 : Int)), .c (.int .i64 (0 : Int)), .c (.str ([] : List UInt8)), .nil, .nil, .c (.str ([] : List UInt8)), .c (.int .i64 (0 : Int)), .c (.int .i64 (0 : Int)), .c (.int .i64 (0 : Int)), .c (.int .i64 (0 : Int)), .c (.int .i64 (0 : Int)), .c (.int .i64 (0 : Int)), .c (.int .i64 (0 : Int)), .c (.int .i64 (0 : Int)), .nil]] : St)) ?_ ?_
    ·
     refine w_seqw ?_
     refine w_region ?_
     refine o_p rfl (p_eql rfl rfl) ?_
     refine o_p rfl (p_assign (v := aB) rfl) ?_
     refine o_end (fr' := [(1, .box 0 0), (2, .box 1 0), (24, aI), (25, aB)]) rfl ?_
     refine e_kw ?_
     refine w_cond _ rfl (fun hb35 => ?_) (fun hb35 => ?_)
     ·
      have h35 := cond_t (b := (decide (p0c.Kind = (5 : Int)))) hb35 hx32
      refine w_skip ?_
      exact e_j _ (Option.some.inj h35).symm (w_weak [] 2 rfl rfl rfl rfl ⟨(AV.le_refl _), (AV.le_refl _), (AV.le_refl _), trivial⟩ (st_r rfl (st_r rfl st_nil)))
     ·
      have h35 := cond_f (b := (decide (p0c.Kind = (5 : Int)))) hb35 hx32
      refine w_seqw ?_
      refine w_region ?_
      refine o_p rfl (p_eql rfl rfl) ?_
      refine o_p rfl (p_assign (v := aB) rfl) ?_
      refine o_end (fr' := [(1, .box 0 0), (2, .box 1 0), (24, aI), (25, aB)]) rfl ?_
      refine e_kw ?_
      refine w_cond _ rfl (fun hb36 => ?_) (fun hb36 => ?_)
      ·
       have h36 := cond_t (b := (decide (p0c.Kind = (6 : Int)))) hb36 h35
       refine w_skip ?_
       exact e_j _ (Option.some.inj h36).symm (w_weak [] 2 rfl rfl rfl rfl ⟨(AV.le_refl _), (AV.le_refl _), (AV.le_refl _), trivial⟩ (st_r rfl (st_r rfl st_nil)))
      ·
       have h36 := cond_f (b := (decide (p0c.Kind = (6 : Int)))) hb36 h35
       refine w_seqw ?_
       refine w_region ?_
       refine o_p rfl (p_eql rfl rfl) ?_
       refine o_p rfl (p_assign (v := aB) rfl) ?_
       refine o_end (fr' := [(1, .box 0 0), (2, .box 1 0), (24, aI), (25, aB)]) rfl ?_
       refine e_kw ?_
       refine w_cond _ rfl (fun hb37 => ?_) (fun hb37 => ?_)
       ·
        have h37 := cond_t (b := (decide (p0c.Kind = (8 : Int)))) hb37 h36
        refine w_skip ?_
        exact e_j _ (Option.some.inj h37).symm (w_weak [] 2 rfl rfl rfl rfl ⟨(AV.le_refl _), (AV.le_refl _), (AV.le_refl _), trivial⟩ (st_r rfl (st_r rfl st_nil)))
       ·
        have h37 := cond_f (b := (decide (p0c.Kind = (8 : Int)))) hb37 h36
        refine w_region ?_
        refine o_p rfl (p_eql rfl rfl) ?_
        refine o_p rfl (p_assign (v := aB) rfl) ?_
        refine o_end (fr' := [(1, .box 0 0), (2, .box 1 0), (24, aI), (25, aB)]) rfl ?_
        exact e_j _ (Option.some.inj h37).symm (w_weak [] 2 rfl rfl rfl rfl ⟨(AV.le_refl _), (AV.le_refl _), (AV.le_refl _), trivial⟩ (st_r rfl (st_r rfl st_nil)))
    ·
     intro j34 hj38
     subst hj38
     refine w_cond _ rfl (fun hb39 => ?_) (fun hb39 => ?_)
     ·
      have h39 := cond_t (b := x32) hb39 h33
      refine w_region ?_
      refine o_p rfl (p_fa tf44x3 rfl) ?_
      refine o_store (v := aS) (us := [aS]) (cs := [aI, aI, aS, aS, aI, aI, aI, aS, aL, aL, aS, aI, aI, aI, aI, aI, aI, aI, aI, aL]) (σ' := [[aI, aI, aS, aS, aI, aI, aI, aS, aL, aL, aS, aI, aI, aI, aI, aI, aI, aI, aI, aL], [aI, aI, aS, aS, aI, aI, aI, aS, .nil, .nil, aS, aI, aI, aI, aI, aI, aI, aI, aI, .nil]]) rfl tv9 rfl rfl rfl rfl rfl rfl rfl rfl ?_
      refine o_end (fr' := [(1, .box 0 0), (2, .box 1 0), (25, aB)]) rfl ?_
      refine e_blk_n ?_
      exact e_j _ (Option.some.inj h39).symm (w_weak [] 2 rfl rfl rfl rfl ⟨(AV.le_refl _), (AV.le_refl _), trivial⟩ (st_r rfl (st_r rfl st_nil)))
     ·
      have h39 := cond_f (b := x32) hb39 h33
      refine w_skip ?_
      refine e_blk_n ?_
      exact e_j _ (Option.some.inj h39).symm (w_weak [] 2 rfl rfl rfl rfl ⟨(AV.le_refl _), (AV.le_refl _), trivial⟩ (st_r rfl (st_r rfl st_nil)))
   ·
    intro j31 hj40
    subst hj40
    obtain ⟨x41, hx41, h42⟩ := bind_s h30
    refine w_join (fun j43 => x41 = j43) (fun (j43 : Int) => ([(1, .box 0 0), (2, .box 1 0)] : Fr)) (fun (j43 : Int) => ([[.c (.int .i64 p0c.Kind), .c (.int .i64 x1), .c (.str x15), .c (.str x29), .c (.int .i64 j43), .c (.int .i64 p0c.Data.Kind), .c (.int .i64 p0c.Data.Int), .c (.str p0c.Data.Text), .c (PV.ls 5 rowApiValue p0c.Data.Items), .c (PV.ls 1 rowS p0c.Data.Keys), .c (.str p0c.Opts.Queue), .c (.int .i64 p0c.Opts.ToStart), .c (.int .i64 p0c.Opts.ToClose), .c (.int .i64 p0c.Opts.Total), .c (.int .i64 p0c.Opts.Beat), .c (.int .i64 p0c.Opts.First), .c (.int .i64 p0c.Opts.Coef), .c (.int .i64 p0c.Opts.Most), .c (.int .i64 p0c.Opts.Attempts), .c (PV.ls 1 rowS p0c.Opts.Fatal)], [.c (.int .i64 (0 : Int)), .c (.int .i64 (0 : Int)), .c (.str ([] : List UInt8)), .c (.str ([] : List UInt8)), .c (.int .i64 (0 : Int)), .c (.int .i64 (0 : Int)), .c (.int .i64 (0 : Int)), .c (.str ([] : List UInt8)), .nil, .nil, .c (.str ([] : List UInt8)), .c (.int .i64 (0 : Int)), .c (.int .i64 (0 : Int)), .c (.int .i64 (0 : Int)), .c (.int .i64 (0 : Int)), .c (.int .i64 (0 : Int)), .c (.int .i64 (0 : Int)), .c (.int .i64 (0 : Int)), .c (.int .i64 (0 : Int)), .nil]] : St)) ?_ ?_
    ·
     refine w_seqw ?_
     refine w_region ?_
     refine o_p rfl (p_fa tf44x0 rfl) ?_
     refine o_p rfl (p_load (v := aI) tv3 rfl rfl rfl) ?_
     refine o_end (fr' := [(1, .box 0 0), (2, .box 1 0), (32, aI)]) rfl ?_
     refine e_kw ?_
     refine w_block ?_
     obtain ⟨x44, hx44, h45⟩ := bind_s hx41
     refine w_join (fun j46 => x44 = j46) (fun (j46 : Bool) => ([(1, .box 0 0), (2, .box 1 0), (33, .c (.bool j46))] : Fr)) (fun (j46 : Bool) => ([[.c (.int .i64 p0c.Kind), .c (.int .i64 x1), .c (.str x15), .c (.str x29), .c (.int .i64 p0c.N), .c (.int .i64 p0c.Data.Kind), .c (.int .i64 p0c.Data.Int), .c (.str p0c.Data.Text), .c (PV.ls 5 rowApiValue p0c.Data.Items), .c (PV.ls 1 rowS p0c.Data.Keys), .c (.str p0c.Opts.Queue), .c (.int .i64 p0c.Opts.ToStart), .c (.int .i64 p0c.Opts.ToClose), .c (.int .i64 p0c.Opts.Total), .c (.int .i64 p0c.Opts.Beat), .c (.int .i64 p0c.Opts.First), .c (.int .i64 p0c.Opts.Coef), .c (.int .i64 p0c.Opts.Most), .c (.int .i64 p0c.Opts.Attempts), .c (PV.ls 1 rowS p0c.Opts.Fatal)], [.c (.int .i64 (0 : Int)), .c (.int .i64 (0 : Int)), .c (.str ([] : List UInt8)), .c (.str ([] : List UInt8)), .c (.int .i64 (0 : Int)), .c (.int .i64 (0 : Int)), .c (.int .i64 (0 : Int)), .c (.str ([] : List UInt8)), .nil, .nil, .c (.str ([] : List UInt8)), .c (.int .i64 (0 : Int)), .c (.int .i64 (0 : Int)), .c (.int .i64 (0 : Int)), .c (.int .i64 (0 : Int)), .c (.int .i64 (0 : Int)), .c (.int .i64 (0 : Int)), .c (.int .i64 (0 : Int)), .c (.int .i64 (0 : Int)), .nil]] : St)) ?_ ?_
     ·
      refine w_seqw ?_
      refine w_region ?_
      refine o_p rfl (p_eql rfl rfl) ?_
      refine o_p rfl (p_assign (v := aB) rfl) ?_
      refine o_end (fr' := [(1, .box 0 0), (2, .box 1 0), (32, aI), (33, aB)]) rfl ?_
      refine e_kw ?_
      refine w_cond _ rfl (fun hb47 => ?_) (fun hb47 => ?_)
      ·
       have h47 := cond_t (b := (decide (p0c.Kind = (3 : Int)))) hb47 hx44
       refine w_skip ?_
       exact e_j _ (Option.some.inj h47).symm (w_weak [] 2 rfl rfl rfl rfl ⟨(AV.le_refl _), (AV.le_refl _), (AV.le_refl _), trivial⟩ (st_r rfl (st_r rfl st_nil)))
      ·
       have h47 := cond_f (b := (decide (p0c.Kind = (3 : Int)))) hb47 hx44
       refine w_seqw ?_
       refine w_region ?_
       refine o_p rfl (p_eql rfl rfl) ?_
       refine o_p rfl (p_assign (v := aB) rfl) ?_
       refine o_end (fr' := [(1, .box 0 0), (2, .box 1 0), (32, aI), (33, aB)]) rfl ?_
       refine e_kw ?_
       refine w_cond _ rfl (fun hb48 => ?_) (fun hb48 => ?_)
       ·
        have h48 := cond_t (b := (decide (p0c.Kind = (5 : Int)))) hb48 h47
        refine w_skip ?_
        exact e_j _ (Option.some.inj h48).symm (w_weak [] 2 rfl rfl rfl rfl ⟨(AV.le_refl _), (AV.le_refl _), (AV.le_refl _), trivial⟩ (st_r rfl (st_r rfl st_nil)))
       ·
        have h48 := cond_f (b := (decide (p0c.Kind = (5 : Int)))) hb48 h47
        refine w_seqw ?_
        refine w_region ?_
        refine o_p rfl (p_eql rfl rfl) ?_
        refine o_p rfl (p_assign (v := aB) rfl) ?_
        refine o_end (fr' := [(1, .box 0 0), (2, .box 1 0), (32, aI), (33, aB)]) rfl ?_
        refine e_kw ?_
        refine w_cond _ rfl (fun hb49 => ?_) (fun hb49 => ?_)
        ·
         have h49 := cond_t (b := (decide (p0c.Kind = (7 : Int)))) hb49 h48
         refine w_skip ?_
         exact e_j _ (Option.some.inj h49).symm (w_weak [] 2 rfl rfl rfl rfl ⟨(AV.le_refl _), (AV.le_refl _), (AV.le_refl _), trivial⟩ (st_r rfl (st_r rfl st_nil)))
        ·
         have h49 := cond_f (b := (decide (p0c.Kind = (7 : Int)))) hb49 h48
         refine w_region ?_
         refine o_p rfl (p_eql rfl rfl) ?_
         refine o_p rfl (p_assign (v := aB) rfl) ?_
         refine o_end (fr' := [(1, .box 0 0), (2, .box 1 0), (32, aI), (33, aB)]) rfl ?_
         exact e_j _ (Option.some.inj h49).symm (w_weak [] 2 rfl rfl rfl rfl ⟨(AV.le_refl _), (AV.le_refl _), (AV.le_refl _), trivial⟩ (st_r rfl (st_r rfl st_nil)))
     ·
      intro j46 hj50
      subst hj50
      refine w_cond _ rfl (fun hb51 => ?_) (fun hb51 => ?_)
      ·
       have h51 := cond_t (b := x44) hb51 h45
       refine w_region ?_
       refine o_p rfl (p_fa tf44x4 rfl) ?_
       refine o_store (v := aI) (us := [aI]) (cs := [aI, aI, aS, aS, aI, aI, aI, aS, aL, aL, aS, aI, aI, aI, aI, aI, aI, aI, aI, aL]) (σ' := [[aI, aI, aS, aS, aI, aI, aI, aS, aL, aL, aS, aI, aI, aI, aI, aI, aI, aI, aI, aL], [aI, aI, aS, aS, aI, aI, aI, aS, .nil, .nil, aS, aI, aI, aI, aI, aI, aI, aI, aI, .nil]]) rfl tv3 rfl rfl rfl rfl rfl rfl rfl rfl ?_
       refine o_end (fr' := [(1, .box 0 0), (2, .box 1 0), (33, aB)]) rfl ?_
       refine e_blk_n ?_
       exact e_j _ (Option.some.inj h51).symm (w_weak [] 2 rfl rfl rfl rfl ⟨(AV.le_refl _), (AV.le_refl _), trivial⟩ (st_r rfl (st_r rfl st_nil)))
      ·
       have h51 := cond_f (b := x44) hb51 h45
       refine w_skip ?_
       refine e_blk_n ?_
       exact e_j _ (Option.some.inj h51).symm (w_weak [] 2 rfl rfl rfl rfl ⟨(AV.le_refl _), (AV.le_refl _), trivial⟩ (st_r rfl (st_r rfl st_nil)))
    ·
     intro j43 hj52
     subst hj52
     obtain ⟨x53, hx53, h54⟩ := bind_s h42
     refine w_join (fun j55 => x53 = j55) (fun (j55 : ApiCommand) => ([(1, .box 0 0), (2, .box 1 0)] : Fr)) (fun (j55 : ApiCommand) => ([[.c (.int .i64 j55.Kind), .c (.int .i64 j55.Seq), .c (.str j55.Name), .c (.str j55.Key), .c (.int .i64 j55.N), .c (.int .i64 j55.Data.Kind), .c (.int .i64 j55.Data.Int), .c (.str j55.Data.Text), .c (PV.ls 5 rowApiValue j55.Data.Items), .c (PV.ls 1 rowS j55.Data.Keys), .c (.str j55.Opts.Queue), .c (.int .i64 j55.Opts.ToStart), .c (.int .i64 j55.Opts.ToClose), .c (.int .i64 j55.Opts.Total), .c (.int .i64 j55.Opts.Beat), .c (.int .i64 j55.Opts.First), .c (.int .i64 j55.Opts.Coef), .c (.int .i64 j55.Opts.Most), .c (.int .i64 j55.Opts.Attempts), .c (PV.ls 1 rowS j55.Opts.Fatal)], [.c (.int .i64 (0 : Int)), .c (.int .i64 (0 : Int)), .c (.str ([] : List UInt8)), .c (.str ([] : List UInt8)), .c (.int .i64 (0 : Int)), .c (.int .i64 (0 : Int)), .c (.int .i64 (0 : Int)), .c (.str ([] : List UInt8)), .nil, .nil, .c (.str ([] : List UInt8)), .c (.int .i64 (0 : Int)), .c (.int .i64 (0 : Int)), .c (.int .i64 (0 : Int)), .c (.int .i64 (0 : Int)), .c (.int .i64 (0 : Int)), .c (.int .i64 (0 : Int)), .c (.int .i64 (0 : Int)), .c (.int .i64 (0 : Int)), .nil]] : St)) ?_ ?_
     ·
      refine w_seqw ?_
      refine w_region ?_
      refine o_p rfl (p_fa tf44x0 rfl) ?_
      refine o_p rfl (p_load (v := aI) tv3 rfl rfl rfl) ?_
      refine o_end (fr' := [(1, .box 0 0), (2, .box 1 0), (40, aI)]) rfl ?_
      refine e_kw ?_
      refine w_block ?_
      obtain ⟨x56, hx56, h57⟩ := bind_s hx53
      refine w_join (fun j58 => x56 = j58) (fun (j58 : Bool) => ([(1, .box 0 0), (2, .box 1 0), (43, .c (.bool j58))] : Fr)) (fun (j58 : Bool) => ([[.c (.int .i64 p0c.Kind), .c (.int .i64 x1), .c (.str x15), .c (.str x29), .c (.int .i64 x41), .c (.int .i64 p0c.Data.Kind), .c (.int .i64 p0c.Data.Int), .c (.str p0c.Data.Text), .c (PV.ls 5 rowApiValue p0c.Data.Items), .c (PV.ls 1 rowS p0c.Data.Keys), .c (.str p0c.Opts.Queue), .c (.int .i64 p0c.Opts.ToStart), .c (.int .i64 p0c.Opts.ToClose), .c (.int .i64 p0c.Opts.Total), .c (.int .i64 p0c.Opts.Beat), .c (.int .i64 p0c.Opts.First), .c (.int .i64 p0c.Opts.Coef), .c (.int .i64 p0c.Opts.Most), .c (.int .i64 p0c.Opts.Attempts), .c (PV.ls 1 rowS p0c.Opts.Fatal)], [.c (.int .i64 (0 : Int)), .c (.int .i64 (0 : Int)), .c (.str ([] : List UInt8)), .c (.str ([] : List UInt8)), .c (.int .i64 (0 : Int)), .c (.int .i64 (0 : Int)), .c (.int .i64 (0 : Int)), .c (.str ([] : List UInt8)), .nil, .nil, .c (.str ([] : List UInt8)), .c (.int .i64 (0 : Int)), .c (.int .i64 (0 : Int)), .c (.int .i64 (0 : Int)), .c (.int .i64 (0 : Int)), .c (.int .i64 (0 : Int)), .c (.int .i64 (0 : Int)), .c (.int .i64 (0 : Int)), .c (.int .i64 (0 : Int)), .nil]] : St)) ?_ ?_
      ·
       refine w_seqw ?_
       refine w_region ?_
       refine o_p rfl (p_eql rfl rfl) ?_
       refine o_p rfl (p_assign (v := aB) rfl) ?_
       refine o_end (fr' := [(1, .box 0 0), (2, .box 1 0), (40, aI), (43, aB)]) rfl ?_
       refine e_kw ?_
       refine w_cond _ rfl (fun hb59 => ?_) (fun hb59 => ?_)
       ·
        have h59 := cond_t (b := (decide (p0c.Kind = (2 : Int)))) hb59 hx56
        refine w_skip ?_
        exact e_j _ (Option.some.inj h59).symm (w_weak [] 2 rfl rfl rfl rfl ⟨(AV.le_refl _), (AV.le_refl _), (AV.le_refl _), trivial⟩ (st_r rfl (st_r rfl st_nil)))
       ·
        have h59 := cond_f (b := (decide (p0c.Kind = (2 : Int)))) hb59 hx56
        refine w_seqw ?_
        refine w_region ?_
        refine o_p rfl (p_eql rfl rfl) ?_
        refine o_p rfl (p_assign (v := aB) rfl) ?_
        refine o_end (fr' := [(1, .box 0 0), (2, .box 1 0), (40, aI), (43, aB)]) rfl ?_
        refine e_kw ?_
        refine w_cond _ rfl (fun hb60 => ?_) (fun hb60 => ?_)
        ·
         have h60 := cond_t (b := (decide (p0c.Kind = (3 : Int)))) hb60 h59
         refine w_skip ?_
         exact e_j _ (Option.some.inj h60).symm (w_weak [] 2 rfl rfl rfl rfl ⟨(AV.le_refl _), (AV.le_refl _), (AV.le_refl _), trivial⟩ (st_r rfl (st_r rfl st_nil)))
        ·
         have h60 := cond_f (b := (decide (p0c.Kind = (3 : Int)))) hb60 h59
         refine w_region ?_
         refine o_p rfl (p_eql rfl rfl) ?_
         refine o_p rfl (p_assign (v := aB) rfl) ?_
         refine o_end (fr' := [(1, .box 0 0), (2, .box 1 0), (40, aI), (43, aB)]) rfl ?_
         exact e_j _ (Option.some.inj h60).symm (w_weak [] 2 rfl rfl rfl rfl ⟨(AV.le_refl _), (AV.le_refl _), (AV.le_refl _), trivial⟩ (st_r rfl (st_r rfl st_nil)))
      ·
       intro j58 hj61
       subst hj61
       refine w_cond _ rfl (fun hb62 => ?_) (fun hb62 => ?_)
       ·
        have h62 := cond_t (b := x56) hb62 h57
        refine w_skip ?_
        refine e_blk_n ?_
        exact e_j _ (Option.some.inj h62).symm (w_weak [] 2 rfl rfl rfl rfl ⟨(AV.le_refl _), (AV.le_refl _), trivial⟩ (st_r rfl (st_r rfl st_nil)))
       ·
        have h62 := cond_f (b := x56) hb62 h57
        refine w_region ?_
        refine o_p rfl (p_build (cs := [aI, aI, aS, .nil, .nil]) tb40 rfl) ?_
        refine o_p rfl (p_fa tf44x5 rfl) ?_
        refine o_store (v := .agg [aI, aI, aS, .nil, .nil]) (us := [aI, aI, aS, .nil, .nil]) (cs := [aI, aI, aS, aS, aI, aI, aI, aS, aL, aL, aS, aI, aI, aI, aI, aI, aI, aI, aI, aL]) (σ' := [[aI, aI, aS, aS, aI, aI, aI, aS, .nil, .nil, aS, aI, aI, aI, aI, aI, aI, aI, aI, aL], [aI, aI, aS, aS, aI, aI, aI, aS, .nil, .nil, aS, aI, aI, aI, aI, aI, aI, aI, aI, .nil]]) rfl tv40 rfl rfl rfl rfl rfl rfl rfl rfl ?_
        refine o_end (fr' := [(1, .box 0 0), (2, .box 1 0), (43, aB)]) rfl ?_
        refine e_blk_n ?_
        exact e_j _ (Option.some.inj h62).symm (w_weak [] 2 rfl rfl rfl rfl ⟨(AV.le_refl _), (AV.le_refl _), trivial⟩ (st_p ⟨(AV.le_refl _), (AV.le_refl _), (AV.le_refl _), (AV.le_refl _), (AV.le_refl _), (AV.le_refl _), (AV.le_refl _), (AV.le_refl _), le_nls, le_nls, (AV.le_refl _), (AV.le_refl _), (AV.le_refl _), (AV.le_refl _), (AV.le_refl _), (AV.le_refl _), (AV.le_refl _), (AV.le_refl _), (AV.le_refl _), (AV.le_refl _), trivial⟩ (st_r rfl st_nil)))
     ·
      intro j55 hj63
      subst hj63
      refine w_seqw ?_
      refine w_seqw ?_
      refine w_region ?_
      refine o_p rfl (p_fa tf44x0 rfl) ?_
      refine o_p rfl (p_load (v := aI) tv3 rfl rfl rfl) ?_
      refine o_p rfl (p_eql rfl rfl) ?_
      refine o_end (fr' := [(1, .box 0 0), (2, .box 1 0), (49, aB)]) rfl ?_
      refine e_kw ?_
      refine w_cond _ rfl (fun hb64 => ?_) (fun hb64 => ?_)
      ·
       have h64 := cond_t (b := (decide (x53.Kind = (1 : Int)))) hb64 h54
       refine w_region ?_
       refine o_p rfl (p_buildc (c0 := [aS, aI, aI, aI, aI, aI, aI, aI, aI, .nil]) (cs := [aS, aI, aI, aI, aI, aI, aI, aI, aI, .nil]) tb42 rfl fill_nil) ?_
       refine o_p rfl (p_fa tf44x6 rfl) ?_
       refine o_store (v := .agg [aS, aI, aI, aI, aI, aI, aI, aI, aI, .nil]) (us := [aS, aI, aI, aI, aI, aI, aI, aI, aI, .nil]) (cs := [aI, aI, aS, aS, aI, aI, aI, aS, aL, aL, aS, aI, aI, aI, aI, aI, aI, aI, aI, aL]) (σ' := [[aI, aI, aS, aS, aI, aI, aI, aS, aL, aL, aS, aI, aI, aI, aI, aI, aI, aI, aI, .nil], [aI, aI, aS, aS, aI, aI, aI, aS, .nil, .nil, aS, aI, aI, aI, aI, aI, aI, aI, aI, .nil]]) rfl tv42 rfl rfl rfl rfl rfl rfl rfl rfl ?_
       refine o_end (fr' := [(1, .box 0 0), (2, .box 1 0), (49, aB)]) rfl ?_
       refine e_kw ?_
       refine w_seqw ?_
       refine w_region ?_
       refine o_p rfl (p_loads (us := [aI, aI, aS, aS, aI, aI, aI, aS, aL, aL, aS, aI, aI, aI, aI, aI, aI, aI, aI, .nil]) tv44 rfl rfl rfl rfl) ?_
       refine o_store (v := .agg [aI, aI, aS, aS, aI, aI, aI, aS, aL, aL, aS, aI, aI, aI, aI, aI, aI, aI, aI, .nil]) (us := [aI, aI, aS, aS, aI, aI, aI, aS, aL, aL, aS, aI, aI, aI, aI, aI, aI, aI, aI, .nil]) (cs := [aI, aI, aS, aS, aI, aI, aI, aS, .nil, .nil, aS, aI, aI, aI, aI, aI, aI, aI, aI, .nil]) (σ' := [[aI, aI, aS, aS, aI, aI, aI, aS, aL, aL, aS, aI, aI, aI, aI, aI, aI, aI, aI, .nil], [aI, aI, aS, aS, aI, aI, aI, aS, aL, aL, aS, aI, aI, aI, aI, aI, aI, aI, aI, .nil]]) rfl tv44 rfl rfl rfl rfl rfl rfl rfl rfl ?_
       refine o_end (fr' := [(1, .box 0 0), (2, .box 1 0), (49, aB)]) rfl ?_
       refine e_kw ?_
       refine w_ret ?_
       have he65 := Option.some.inj h64
       subst he65
       refine e_ret (rs' := [.cell 2 44]) rfl ?_
       refine r_cells (us := [aI, aI, aS, aS, aI, aI, aI, aS, aL, aL, aS, aI, aI, aI, aI, aI, aI, aI, aI, .nil]) (cs := [aI, aI, aS, aS, aI, aI, aI, aS, aL, aL, aS, aI, aI, aI, aI, aI, aI, aI, aI, .nil]) tv44 rfl rfl rfl rfl ?_
       refine r_nil ?_
       exact fin_gen [] rfl rfl rfl (le_aggc rfl ⟨rfl, rfl, rfl, rfl, rfl, rfl, rfl, rfl, rfl, rfl, rfl, rfl, rfl, rfl, rfl, rfl, rfl, rfl, rfl, ⟨_, rfl⟩, trivial⟩) st_nil
      ·
       have h64 := cond_f (b := (decide (x53.Kind = (1 : Int)))) hb64 h54
       refine w_skip ?_
       refine e_kw ?_
       refine w_seqw ?_
       refine w_region ?_
       refine o_p rfl (p_loads (us := [aI, aI, aS, aS, aI, aI, aI, aS, aL, aL, aS, aI, aI, aI, aI, aI, aI, aI, aI, aL]) tv44 rfl rfl rfl rfl) ?_
       refine o_store (v := .agg [aI, aI, aS, aS, aI, aI, aI, aS, aL, aL, aS, aI, aI, aI, aI, aI, aI, aI, aI, aL]) (us := [aI, aI, aS, aS, aI, aI, aI, aS, aL, aL, aS, aI, aI, aI, aI, aI, aI, aI, aI, aL]) (cs := [aI, aI, aS, aS, aI, aI, aI, aS, .nil, .nil, aS, aI, aI, aI, aI, aI, aI, aI, aI, .nil]) (σ' := [[aI, aI, aS, aS, aI, aI, aI, aS, aL, aL, aS, aI, aI, aI, aI, aI, aI, aI, aI, aL], [aI, aI, aS, aS, aI, aI, aI, aS, aL, aL, aS, aI, aI, aI, aI, aI, aI, aI, aI, aL]]) rfl tv44 rfl rfl rfl rfl rfl rfl rfl rfl ?_
       refine o_end (fr' := [(1, .box 0 0), (2, .box 1 0), (49, aB)]) rfl ?_
       refine e_kw ?_
       refine w_ret ?_
       have he66 := Option.some.inj h64
       subst he66
       refine e_ret (rs' := [.cell 2 44]) rfl ?_
       refine r_cells (us := [aI, aI, aS, aS, aI, aI, aI, aS, aL, aL, aS, aI, aI, aI, aI, aI, aI, aI, aI, aL]) (cs := [aI, aI, aS, aS, aI, aI, aI, aS, aL, aL, aS, aI, aI, aI, aI, aI, aI, aI, aI, aL]) tv44 rfl rfl rfl rfl ?_
       refine r_nil ?_
       exact fin_gen [] rfl rfl rfl (le_aggc rfl ⟨rfl, rfl, rfl, rfl, rfl, rfl, rfl, rfl, rfl, rfl, rfl, rfl, rfl, rfl, rfl, rfl, rfl, rfl, rfl, rfl, trivial⟩) st_nil
noncomputable def ref02xRising_l1 (p0keys : (List (List UInt8))) (s4 : Int) : Option (Step Int (Fl Bool Unit)) :=
 cond (decide (s4 < ((p0keys).length : Int))) ((idx p0keys (IntKind.wrap .i64 (s4 - (1 : Int)))).bind fun (x6 : (List UInt8)) => (idx p0keys s4).bind fun (x8 : (List UInt8)) => cond (!Op.bytesLess x6 x8) (some (Step.out (Fl.done false))) (some (Step.next (IntKind.wrap .i64 (s4 + (1 : Int)))))) (some (Step.out (Fl.go ())))
noncomputable def ref02xRising (p0keys : (List (List UInt8))) : Option Bool :=
 ((loopO (ref02xRising_l1 p0keys) ((1 : Int))) : Option (Fl Bool Unit)).bind fun (x1 : (Fl Bool Unit)) => Fl.next x1 (fun (j3 : Unit) => (some true))
theorem w_ref02xRising {p0keys : (List (List UInt8))} {res : Bool} (h : ref02xRising p0keys = some res) : ACalls Try.prog 97 [.c (PV.ls 1 rowS p0keys)] [] (.c (.bool res)) [] := by
 unfold ref02xRising at h
 refine acalls (fn := Try.f97) [0, 2, 3, 7, 19] (by kernel_rfl) Try.func97 rfl (by kernel_rfl) (by kernel_rfl) ?_
 refine w_seqw ?_
 refine w_region ?_
 refine o_p rfl (p_assign (v := aB) rfl) ?_
 refine o_end (fr' := [(0, aL), (2, aB)]) rfl ?_
 refine e_kw ?_
 refine w_seqw ?_
 refine w_seqw ?_
 refine w_region ?_
 refine o_p rfl (p_assign (v := aI) rfl) ?_
 refine o_end (fr' := [(0, aL), (2, aB), (3, aI)]) rfl ?_
 refine e_kw ?_
 obtain ⟨x1, hx1, h2⟩ := bind_s h
 refine w_jtail cl_kw (fun j3 => x1 = Fl.go j3) (fun (j3 : Unit) => ([] : Fr)) (fun (j3 : Unit) => ([] : St)) ?_ ?_
 ·
  refine w_block ?_
  refine w_loopo _ (fun (s4 : Int) => ([(0, .c (PV.ls 1 rowS p0keys)), (3, .c (.int .i64 s4))] : Fr)) (fun (s4 : Int) => ([] : St)) hx1 (w_weak [] 0 rfl rfl rfl rfl ⟨(AV.le_refl _), (AV.le_refl _), trivial⟩ st_nil) ?_
  intro s4 st4 hs4 ho4
  unfold ref02xRising_l1 at hs4
  refine w_seqw ?_
  refine w_seqw ?_
  refine w_region ?_
  refine o_p rfl (p_move (v := aI) rfl) ?_
  refine o_p rfl (p_move (v := aL) rfl) ?_
  refine o_p rfl (p_len ti38 (isl_c rfl)) ?_
  refine o_p rfl (p_lss rfl rfl) ?_
  refine o_end (fr' := [(0, aL), (3, aI), (7, aB)]) rfl ?_
  refine e_kw ?_
  refine w_cond _ rfl (fun hb5 => ?_) (fun hb5 => ?_)
  ·
   have h5 := cond_t (b := (decide (s4 < ((p0keys).length : Int)))) hb5 hs4
   refine w_skip ?_
   refine e_kw ?_
   refine w_seqw ?_
   refine w_block ?_
   refine w_seqw ?_
   refine w_planT [.q 0, .q 1, .q 2, .q 3, .q 4, .q 5, .q 6, .q 7, .q 8, .q 9] [(some 10, [0]), (some 11, [3]), (some 12, [11]), (some 13, [10, 12]), (some 14, [13]), (some 15, [0]), (some 16, [3]), (some 17, [15, 16]), (some 18, [17]), (some 19, [14, 18])] [0, 0, 2, 7, 15, 0, 0, 96, 224, 511] (by kernel_rfl) ?_
   refine d_q rfl (qv_p rfl (p_move (v := aL) rfl)) ?_
   refine d_q rfl (qv_p rfl (p_move (v := aI) rfl)) ?_
   refine d_q rfl (qv_p rfl (p_sub rfl rfl)) ?_
   obtain ⟨x6, hx6, h7⟩ := bind_s h5
   refine d_q rfl (qv_p rfl (p_ia (cs := [.str _]) ts38 (isl_c rfl) rfl hx6 rfl)) ?_
   refine d_q rfl (qv_p rfl (p_loade (p := .str _) tv9 rfl rfl)) ?_
   refine d_q rfl (qv_p rfl (p_move (v := aL) rfl)) ?_
   refine d_q rfl (qv_p rfl (p_move (v := aI) rfl)) ?_
   obtain ⟨x8, hx8, h9⟩ := bind_s h7
   refine d_q rfl (qv_p rfl (p_ia (cs := [.str _]) ts38 (isl_c rfl) rfl hx8 rfl)) ?_
   refine d_q rfl (qv_p rfl (p_loade (p := .str _) tv9 rfl rfl)) ?_
   refine d_q rfl (qv_p rfl (p_sgeq rfl rfl)) ?_
   refine d_end (fr' := [(0, aL), (3, aI), (7, aB), (19, aB)]) rfl ?_
   refine e_kw ?_
   refine w_cond _ rfl (fun hb10 => ?_) (fun hb10 => ?_)
   ·
    have h10 := cond_t (b := (!Op.bytesLess x6 x8)) hb10 h9
    refine w_seqw ?_
    refine w_region ?_
    refine o_p rfl (p_assign (v := aB) rfl) ?_
    refine o_end (fr' := [(0, aL), (2, aB), (3, aI), (7, aB), (19, aB)]) rfl ?_
    refine e_kw ?_
    refine w_ret ?_
    refine e_blk_r ?_
    refine e_seq_r ?_
    refine e_seq_r ?_
    refine e_blk_r ?_
    refine e_seq_r ?_
    refine e_seq_r ?_
    have h11 := un_out h10 ho4
    have h12 := un_done h11 h2
    have he13 := Option.some.inj h12
    subst he13
    refine e_ret (rs' := [.tmp 2]) rfl ?_
    refine r_tmp (v := aB) rfl ?_
    refine r_nil ?_
    exact fin_gen [] rfl rfl rfl (AV.le_refl _) st_nil
   ·
    have h10 := cond_f (b := (!Op.bytesLess x6 x8)) hb10 h9
    refine w_skip ?_
    refine e_blk_n ?_
    refine e_kw ?_
    refine w_region ?_
    refine o_p rfl (p_move (v := aI) rfl) ?_
    refine o_p rfl (p_add rfl rfl) ?_
    refine o_p rfl (p_assign (v := aI) rfl) ?_
    refine o_end (fr' := [(0, aL), (3, aI), (7, aB), (19, aB)]) rfl ?_
    exact e_l _ (Option.some.inj h10).symm (w_weak [] 0 rfl rfl rfl rfl ⟨(AV.le_refl _), (AV.le_refl _), trivial⟩ st_nil)
  ·
   have h5 := cond_f (b := (decide (s4 < ((p0keys).length : Int)))) hb5 hs4
   refine w_exit ?_
   refine e_seq_x ?_
   refine e_seq_x ?_
   refine e_blk_h ?_
   have h14 := un_out h5 ho4
   exact e_j _ (Option.some.inj h14).symm (w_weak [] 0 rfl rfl rfl rfl trivial st_nil)
 ·
  intro j3 hj15
  have h15 := un_go hj15 h2
  refine e_kw ?_
  refine w_seqw ?_
  refine w_region ?_
  refine o_p rfl (p_assign (v := aB) rfl) ?_
  refine o_end (fr' := [(2, aB)]) rfl ?_
  refine e_kw ?_
  refine w_ret ?_
  have he16 := Option.some.inj h15
  subst he16
  refine e_ret (rs' := [.tmp 2]) rfl ?_
  refine r_tmp (v := aB) rfl ?_
  refine r_nil ?_
  exact fin_gen [] rfl rfl rfl (AV.le_refl _) st_nil
noncomputable def ref02xWellFormed_l1 (rec_ref02xWellFormed : ApiValue → Option Bool) (p0C : ApiValue) (s4 : Int) : Option (Step Int (Fl Bool Unit)) :=
 cond (decide (s4 < ((p0C.Items).length : Int))) ((idx p0C.Items s4).bind fun (x6 : ApiValue) => (rec_ref02xWellFormed x6).bind fun (x8 : Bool) => cond (!x8) (some (Step.out (Fl.done false))) (some (Step.next (IntKind.wrap .i64 (s4 + (1 : Int)))))) (some (Step.out (Fl.go ())))
noncomputable def ref02xWellFormedF : Nat → ApiValue → Option Bool
 | 0, _ => none
 | n + 1, p0C =>
  ((loopO (ref02xWellFormed_l1 (ref02xWellFormedF n) p0C) ((0 : Int))) : Option (Fl Bool Unit)).bind fun (x1 : (Fl Bool Unit)) => Fl.next x1 (fun (j3 : Unit) => (cond (decide (p0C.Kind = (0 : Int))) (some (cond (cond (cond (decide (p0C.Int = (0 : Int))) (decide (p0C.Text = ([] : List UInt8))) false) (decide (((p0C.Items).length : Int) = (0 : Int))) false) (decide (((p0C.Keys).length : Int) = (0 : Int))) false)) (cond (decide (p0C.Kind = (1 : Int))) (some (cond (cond (cond (cond (decide (p0C.Int = (0 : Int))) true (decide (p0C.Int = (1 : Int)))) (decide (p0C.Text = ([] : List UInt8))) false) (decide (((p0C.Items).length : Int) = (0 : Int))) false) (decide (((p0C.Keys).length : Int) = (0 : Int))) false)) (cond (decide (p0C.Kind = (2 : Int))) (some (cond (cond (decide (p0C.Text = ([] : List UInt8))) (decide (((p0C.Items).length : Int) = (0 : Int))) false) (decide (((p0C.Keys).length : Int) = (0 : Int))) false)) (cond (decide (p0C.Kind = (3 : Int))) (some (cond (cond (decide (p0C.Int = (0 : Int))) (decide (((p0C.Items).length : Int) = (0 : Int))) false) (decide (((p0C.Keys).length : Int) = (0 : Int))) false)) (cond (decide (p0C.Kind = (4 : Int))) (some (cond (cond (decide (p0C.Int = (0 : Int))) (decide (p0C.Text = ([] : List UInt8))) false) (decide (((p0C.Keys).length : Int) = (0 : Int))) false)) (cond (decide (p0C.Kind = (5 : Int))) ((gd ((cond (cond (decide (p0C.Int = (0 : Int))) (decide (p0C.Text = ([] : List UInt8))) false) (decide (((p0C.Keys).length : Int) = ((p0C.Items).length : Int))) false) == true) (ref02xRising p0C.Keys)).bind fun (x27 : Bool) => some (cond (cond (cond (decide (p0C.Int = (0 : Int))) (decide (p0C.Text = ([] : List UInt8))) false) (decide (((p0C.Keys).length : Int) = ((p0C.Items).length : Int))) false) x27 false)) (cond (decide (p0C.Kind = (6 : Int))) (some (cond (cond (cond (decide ((0 : Int) ≤ p0C.Int)) (decide (p0C.Text = ([] : List UInt8))) false) (decide (((p0C.Items).length : Int) = (0 : Int))) false) (decide (((p0C.Keys).length : Int) = (0 : Int))) false)) (some false)))))))))
theorem wF_ref02xWellFormed : ∀ n : Nat, (∀ {p0C : ApiValue} {res : Bool}, ref02xWellFormedF n p0C = some res → ACalls Try.prog 85 [.agg (AV.cs (exApiValue p0C))] [] (.c (.bool res)) []) := by
 intro n
 induction n with
 | zero => exact fun {p0C res} h => absurd h (by simp [ref02xWellFormedF])
 | succ n ih =>
  have ih_ref02xWellFormed := @ih
  intro p0C res h
  rw [ref02xWellFormedF] at h
  refine acalls (fn := Try.f85) [0, 1, 2, 3, 8, 17, 19, 20, 42, 69, 86, 103, 119, 143] (by kernel_rfl) Try.func85 rfl (by kernel_rfl) (by kernel_rfl) ?_
  refine w_seqw ?_
  refine w_region ?_
  refine o_box (v := .agg [aI, aI, aS, aL, aL]) (n := 0) (cs := [aI, aI, aS, aL, aL]) (σ' := [[aI, aI, aS, aL, aL]]) rfl rfl rfl rfl rfl ?_
  refine o_p rfl (p_assign (v := aB) rfl) ?_
  refine o_end (fr' := [(0, .agg [aI, aI, aS, aL, aL]), (1, .box 0 0), (2, aB)]) rfl ?_
  refine e_kw ?_
  refine w_seqw ?_
  refine w_seqw ?_
  refine w_region ?_
  refine o_p rfl (p_assign (v := aI) rfl) ?_
  refine o_end (fr' := [(0, .agg [aI, aI, aS, aL, aL]), (1, .box 0 0), (2, aB), (3, aI)]) rfl ?_
  refine e_kw ?_
  obtain ⟨x1, hx1, h2⟩ := bind_s h
  refine w_jtail cl_kw (fun j3 => x1 = Fl.go j3) (fun (j3 : Unit) => ([(1, .box 0 0)] : Fr)) (fun (j3 : Unit) => ([[.c (.int .i64 p0C.Kind), .c (.int .i64 p0C.Int), .c (.str p0C.Text), .c (PV.ls 5 rowApiValue p0C.Items), .c (PV.ls 1 rowS p0C.Keys)]] : St)) ?_ ?_
  ·
   refine w_block ?_
   refine w_loopo _ (fun (s4 : Int) => ([(1, .box 0 0), (3, .c (.int .i64 s4))] : Fr)) (fun (s4 : Int) => ([[.c (.int .i64 p0C.Kind), .c (.int .i64 p0C.Int), .c (.str p0C.Text), .c (PV.ls 5 rowApiValue p0C.Items), .c (PV.ls 1 rowS p0C.Keys)]] : St)) hx1 (w_weak [] 1 rfl rfl rfl rfl ⟨(AV.le_refl _), (AV.le_refl _), trivial⟩ (st_r rfl st_nil)) ?_
   intro s4 st4 hs4 ho4
   unfold ref02xWellFormed_l1 at hs4
   refine w_seqw ?_
   refine w_seqw ?_
   refine w_region ?_
   refine o_p rfl (p_move (v := aI) rfl) ?_
   refine o_p rfl (p_fa tf40x3 rfl) ?_
   refine o_p rfl (p_load (v := aL) tv37 rfl rfl rfl) ?_
   refine o_p rfl (p_len ti37 (isl_c rfl)) ?_
   refine o_p rfl (p_lss rfl rfl) ?_
   refine o_end (fr' := [(1, .box 0 0), (3, aI), (8, aB)]) rfl ?_
   refine e_kw ?_
   refine w_cond _ rfl (fun hb5 => ?_) (fun hb5 => ?_)
   ·
    have h5 := cond_t (b := (decide (s4 < ((p0C.Items).length : Int)))) hb5 hs4
    refine w_skip ?_
    refine e_kw ?_
    refine w_seqw ?_
    refine w_block ?_
    refine w_seqw ?_
    refine w_region ?_
    refine o_p rfl (p_fa tf40x3 rfl) ?_
    refine o_p rfl (p_load (v := aL) tv37 rfl rfl rfl) ?_
    refine o_p rfl (p_move (v := aI) rfl) ?_
    obtain ⟨x6, hx6, h7⟩ := bind_s h5
    refine o_p rfl (p_ia (cs := [.int _ _, .int _ _, .str _, PV.ls _ _ _, PV.ls _ _ _]) ts37 (isl_c rfl) rfl hx6 (rowApiValue_eq _)) ?_
    refine o_p rfl (p_loades (us := [.int _ _, .int _ _, .str _, PV.ls _ _ _, PV.ls _ _ _]) tv40 rfl rfl rfl) ?_
    obtain ⟨x8, hx8, h9⟩ := bind_s h7
    refine o_v (ov_call (v := aB) rfl (ih_ref02xWellFormed hx8) ⟨(le_aggc rfl ⟨rfl, rfl, rfl, rfl, rfl, trivial⟩), trivial⟩ rfl rfl rfl) ?_
    refine o_p rfl (p_not rfl) ?_
    refine o_end (fr' := [(1, .box 0 0), (3, aI), (8, aB), (17, aB)]) rfl ?_
    refine e_kw ?_
    refine w_cond _ rfl (fun hb10 => ?_) (fun hb10 => ?_)
    ·
     have h10 := cond_t (b := (!x8)) hb10 h9
     refine w_seqw ?_
     refine w_region ?_
     refine o_p rfl (p_assign (v := aB) rfl) ?_
     refine o_end (fr' := [(1, .box 0 0), (2, aB), (3, aI), (8, aB), (17, aB)]) rfl ?_
     refine e_kw ?_
     refine w_ret ?_
     refine e_blk_r ?_
     refine e_seq_r ?_
     refine e_seq_r ?_
     refine e_blk_r ?_
     refine e_seq_r ?_
     refine e_seq_r ?_
     have h11 := un_out h10 ho4
     have h12 := un_done h11 h2
     have he13 := Option.some.inj h12
     subst he13
     refine e_ret (rs' := [.tmp 2]) rfl ?_
     refine r_tmp (v := aB) rfl ?_
     refine r_nil ?_
     exact fin_gen [] rfl rfl rfl (AV.le_refl _) st_nil
    ·
     have h10 := cond_f (b := (!x8)) hb10 h9
     refine w_skip ?_
     refine e_blk_n ?_
     refine e_kw ?_
     refine w_region ?_
     refine o_p rfl (p_move (v := aI) rfl) ?_
     refine o_p rfl (p_add rfl rfl) ?_
     refine o_p rfl (p_assign (v := aI) rfl) ?_
     refine o_end (fr' := [(1, .box 0 0), (3, aI), (8, aB), (17, aB)]) rfl ?_
     exact e_l _ (Option.some.inj h10).symm (w_weak [] 1 rfl rfl rfl rfl ⟨(AV.le_refl _), (AV.le_refl _), trivial⟩ (st_r rfl st_nil))
   ·
    have h5 := cond_f (b := (decide (s4 < ((p0C.Items).length : Int)))) hb5 hs4
    refine w_exit ?_
    refine e_seq_x ?_
    refine e_seq_x ?_
    refine e_blk_h ?_
    have h14 := un_out h5 ho4
    exact e_j _ (Option.some.inj h14).symm (w_weak [] 1 rfl rfl rfl rfl ⟨(AV.le_refl _), trivial⟩ (st_r rfl st_nil))
  ·
   intro j3 hj15
   have h15 := un_go hj15 h2
   refine e_kw ?_
   refine w_seqw ?_
   refine w_seqw ?_
   refine w_region ?_
   refine o_p rfl (p_fa tf40x0 rfl) ?_
   refine o_p rfl (p_load (v := aI) tv3 rfl rfl rfl) ?_
   refine o_end (fr' := [(1, .box 0 0), (19, aI)]) rfl ?_
   refine e_kw ?_
   refine w_block ?_
   refine w_seqw ?_
   refine w_region ?_
   refine o_p rfl (p_eql rfl rfl) ?_
   refine o_p rfl (p_assign (v := aB) rfl) ?_
   refine o_end (fr' := [(1, .box 0 0), (19, aI), (20, aB)]) rfl ?_
   refine e_kw ?_
   refine w_cond _ rfl (fun hb16 => ?_) (fun hb16 => ?_)
   ·
    have h16 := cond_t (b := (decide (p0C.Kind = (0 : Int)))) hb16 h15
    refine w_seqw ?_
    refine w_region ?_
    refine o_p rfl (p_fa tf40x1 rfl) ?_
    refine o_p rfl (p_load (v := aI) tv3 rfl rfl rfl) ?_
    refine o_p rfl (p_eql rfl rfl) ?_
    refine o_p rfl (p_move (v := aB) rfl) ?_
    refine o_g rfl rfl (fun hc => ov_p rfl (p_fa tf40x2 rfl)) ?_
    refine o_g rfl rfl (fun hc => ov_p rfl (p_load (v := aS) tv9 (gx rfl hc) rfl rfl)) ?_
    refine o_g rfl rfl (fun hc => ov_p rfl (p_seql (gx rfl hc) rfl)) ?_
    refine o_p rfl (p_picky rfl rfl rfl (fun e => keq e)) ?_
    refine o_p rfl (p_move (v := aB) rfl) ?_
    refine o_g rfl rfl (fun hc => ov_p rfl (p_fa tf40x3 rfl)) ?_
    refine o_g rfl rfl (fun hc => ov_p rfl (p_load (v := aL) tv37 (gx rfl hc) rfl rfl)) ?_
    refine o_g rfl rfl (fun hc => ov_p rfl (p_len ti37 (isl_c (gx rfl hc)))) ?_
    refine o_g rfl rfl (fun hc => ov_p rfl (p_eql (gx rfl hc) rfl)) ?_
    refine o_p rfl (p_picky rfl rfl rfl (fun e => keq e)) ?_
    refine o_p rfl (p_move (v := aB) rfl) ?_
    refine o_g rfl rfl (fun hc => ov_p rfl (p_fa tf40x4 rfl)) ?_
    refine o_g rfl rfl (fun hc => ov_p rfl (p_load (v := aL) tv38 (gx rfl hc) rfl rfl)) ?_
    refine o_g rfl rfl (fun hc => ov_p rfl (p_len ti38 (isl_c (gx rfl hc)))) ?_
    refine o_g rfl rfl (fun hc => ov_p rfl (p_eql (gx rfl hc) rfl)) ?_
    refine o_p rfl (p_picky rfl rfl rfl (fun e => keq e)) ?_
    refine o_p rfl (p_assign (v := aB) rfl) ?_
    refine o_end (fr' := [(1, .box 0 0), (2, aB), (19, aI), (20, aB)]) rfl ?_
    refine e_kw ?_
    refine w_ret ?_
    refine e_blk_r ?_
    refine e_seq_r ?_
    have he17 := Option.some.inj h16
    subst he17
    refine e_ret (rs' := [.tmp 2]) rfl ?_
    refine r_tmp (v := aB) rfl ?_
    refine r_nil ?_
    exact fin_gen [] rfl rfl rfl (AV.le_refl _) st_nil
   ·
    have h16 := cond_f (b := (decide (p0C.Kind = (0 : Int)))) hb16 h15
    refine w_seqw ?_
    refine w_region ?_
    refine o_p rfl (p_eql rfl rfl) ?_
    refine o_p rfl (p_assign (v := aB) rfl) ?_
    refine o_end (fr' := [(1, .box 0 0), (19, aI), (20, aB), (42, aB)]) rfl ?_
    refine e_kw ?_
    refine w_cond _ rfl (fun hb18 => ?_) (fun hb18 => ?_)
    ·
     have h18 := cond_t (b := (decide (p0C.Kind = (1 : Int)))) hb18 h16
     refine w_seqw ?_
     refine w_region ?_
     refine o_p rfl (p_fa tf40x1 rfl) ?_
     refine o_p rfl (p_load (v := aI) tv3 rfl rfl rfl) ?_
     refine o_p rfl (p_eql rfl rfl) ?_
     refine o_p rfl (p_move (v := aB) rfl) ?_
     refine o_g rfl rfl (fun hc => ov_p rfl (p_fa tf40x1 rfl)) ?_
     refine o_g rfl rfl (fun hc => ov_p rfl (p_load (v := aI) tv3 (gx rfl hc) rfl rfl)) ?_
     refine o_g rfl rfl (fun hc => ov_p rfl (p_eql (gx rfl hc) rfl)) ?_
     refine o_p rfl (p_pickz rfl rfl rfl (fun e => keq e)) ?_
     refine o_p rfl (p_move (v := aB) rfl) ?_
     refine o_g rfl rfl (fun hc => ov_p rfl (p_fa tf40x2 rfl)) ?_
     refine o_g rfl rfl (fun hc => ov_p rfl (p_load (v := aS) tv9 (gx rfl hc) rfl rfl)) ?_
     refine o_g rfl rfl (fun hc => ov_p rfl (p_seql (gx rfl hc) rfl)) ?_
     refine o_p rfl (p_picky rfl rfl rfl (fun e => keq e)) ?_
     refine o_p rfl (p_move (v := aB) rfl) ?_
     refine o_g rfl rfl (fun hc => ov_p rfl (p_fa tf40x3 rfl)) ?_
     refine o_g rfl rfl (fun hc => ov_p rfl (p_load (v := aL) tv37 (gx rfl hc) rfl rfl)) ?_
     refine o_g rfl rfl (fun hc => ov_p rfl (p_len ti37 (isl_c (gx rfl hc)))) ?_
     refine o_g rfl rfl (fun hc => ov_p rfl (p_eql (gx rfl hc) rfl)) ?_
     refine o_p rfl (p_picky rfl rfl rfl (fun e => keq e)) ?_
     refine o_p rfl (p_move (v := aB) rfl) ?_
     refine o_g rfl rfl (fun hc => ov_p rfl (p_fa tf40x4 rfl)) ?_
     refine o_g rfl rfl (fun hc => ov_p rfl (p_load (v := aL) tv38 (gx rfl hc) rfl rfl)) ?_
     refine o_g rfl rfl (fun hc => ov_p rfl (p_len ti38 (isl_c (gx rfl hc)))) ?_
     refine o_g rfl rfl (fun hc => ov_p rfl (p_eql (gx rfl hc) rfl)) ?_
     refine o_p rfl (p_picky rfl rfl rfl (fun e => keq e)) ?_
     refine o_p rfl (p_assign (v := aB) rfl) ?_
     refine o_end (fr' := [(1, .box 0 0), (2, aB), (19, aI), (20, aB), (42, aB)]) rfl ?_
     refine e_kw ?_
     refine w_ret ?_
     refine e_blk_r ?_
     refine e_seq_r ?_
     have he19 := Option.some.inj h18
     subst he19
     refine e_ret (rs' := [.tmp 2]) rfl ?_
     refine r_tmp (v := aB) rfl ?_
     refine r_nil ?_
     exact fin_gen [] rfl rfl rfl (AV.le_refl _) st_nil
    ·
     have h18 := cond_f (b := (decide (p0C.Kind = (1 : Int)))) hb18 h16
     refine w_seqw ?_
     refine w_region ?_
     refine o_p rfl (p_eql rfl rfl) ?_
     refine o_p rfl (p_assign (v := aB) rfl) ?_
     refine o_end (fr' := [(1, .box 0 0), (19, aI), (20, aB), (42, aB), (69, aB)]) rfl ?_
     refine e_kw ?_
     refine w_cond _ rfl (fun hb20 => ?_) (fun hb20 => ?_)
     ·
      have h20 := cond_t (b := (decide (p0C.Kind = (2 : Int)))) hb20 h18
      refine w_seqw ?_
      refine w_region ?_
      refine o_p rfl (p_fa tf40x2 rfl) ?_
      refine o_p rfl (p_load (v := aS) tv9 rfl rfl rfl) ?_
      refine o_p rfl (p_seql rfl rfl) ?_
      refine o_p rfl (p_move (v := aB) rfl) ?_
      refine o_g rfl rfl (fun hc => ov_p rfl (p_fa tf40x3 rfl)) ?_
      refine o_g rfl rfl (fun hc => ov_p rfl (p_load (v := aL) tv37 (gx rfl hc) rfl rfl)) ?_
      refine o_g rfl rfl (fun hc => ov_p rfl (p_len ti37 (isl_c (gx rfl hc)))) ?_
      refine o_g rfl rfl (fun hc => ov_p rfl (p_eql (gx rfl hc) rfl)) ?_
      refine o_p rfl (p_picky rfl rfl rfl (fun e => keq e)) ?_
      refine o_p rfl (p_move (v := aB) rfl) ?_
      refine o_g rfl rfl (fun hc => ov_p rfl (p_fa tf40x4 rfl)) ?_
      refine o_g rfl rfl (fun hc => ov_p rfl (p_load (v := aL) tv38 (gx rfl hc) rfl rfl)) ?_
      refine o_g rfl rfl (fun hc => ov_p rfl (p_len ti38 (isl_c (gx rfl hc)))) ?_
      refine o_g rfl rfl (fun hc => ov_p rfl (p_eql (gx rfl hc) rfl)) ?_
      refine o_p rfl (p_picky rfl rfl rfl (fun e => keq e)) ?_
      refine o_p rfl (p_assign (v := aB) rfl) ?_
      refine o_end (fr' := [(1, .box 0 0), (2, aB), (19, aI), (20, aB), (42, aB), (69, aB)]) rfl ?_
      refine e_kw ?_
      refine w_ret ?_
      refine e_blk_r ?_
      refine e_seq_r ?_
      have he21 := Option.some.inj h20
      subst he21
      refine e_ret (rs' := [.tmp 2]) rfl ?_
      refine r_tmp (v := aB) rfl ?_
      refine r_nil ?_
      exact fin_gen [] rfl rfl rfl (AV.le_refl _) st_nil
     ·
      have h20 := cond_f (b := (decide (p0C.Kind = (2 : Int)))) hb20 h18
      refine w_seqw ?_
      refine w_region ?_
      refine o_p rfl (p_eql rfl rfl) ?_
      refine o_p rfl (p_assign (v := aB) rfl) ?_
      refine o_end (fr' := [(1, .box 0 0), (19, aI), (20, aB), (42, aB), (69, aB), (86, aB)]) rfl ?_
      refine e_kw ?_
      refine w_cond _ rfl (fun hb22 => ?_) (fun hb22 => ?_)
      ·
       have h22 := cond_t (b := (decide (p0C.Kind = (3 : Int)))) hb22 h20
       refine w_seqw ?_
       refine w_region ?_
       refine o_p rfl (p_fa tf40x1 rfl) ?_
       refine o_p rfl (p_load (v := aI) tv3 rfl rfl rfl) ?_
       refine o_p rfl (p_eql rfl rfl) ?_
       refine o_p rfl (p_move (v := aB) rfl) ?_
       refine o_g rfl rfl (fun hc => ov_p rfl (p_fa tf40x3 rfl)) ?_
       refine o_g rfl rfl (fun hc => ov_p rfl (p_load (v := aL) tv37 (gx rfl hc) rfl rfl)) ?_
       refine o_g rfl rfl (fun hc => ov_p rfl (p_len ti37 (isl_c (gx rfl hc)))) ?_
       refine o_g rfl rfl (fun hc => ov_p rfl (p_eql (gx rfl hc) rfl)) ?_
       refine o_p rfl (p_picky rfl rfl rfl (fun e => keq e)) ?_
       refine o_p rfl (p_move (v := aB) rfl) ?_
       refine o_g rfl rfl (fun hc => ov_p rfl (p_fa tf40x4 rfl)) ?_
       refine o_g rfl rfl (fun hc => ov_p rfl (p_load (v := aL) tv38 (gx rfl hc) rfl rfl)) ?_
       refine o_g rfl rfl (fun hc => ov_p rfl (p_len ti38 (isl_c (gx rfl hc)))) ?_
       refine o_g rfl rfl (fun hc => ov_p rfl (p_eql (gx rfl hc) rfl)) ?_
       refine o_p rfl (p_picky rfl rfl rfl (fun e => keq e)) ?_
       refine o_p rfl (p_assign (v := aB) rfl) ?_
       refine o_end (fr' := [(1, .box 0 0), (2, aB), (19, aI), (20, aB), (42, aB), (69, aB), (86, aB)]) rfl ?_
       refine e_kw ?_
       refine w_ret ?_
       refine e_blk_r ?_
       refine e_seq_r ?_
       have he23 := Option.some.inj h22
       subst he23
       refine e_ret (rs' := [.tmp 2]) rfl ?_
       refine r_tmp (v := aB) rfl ?_
       refine r_nil ?_
       exact fin_gen [] rfl rfl rfl (AV.le_refl _) st_nil
      ·
       have h22 := cond_f (b := (decide (p0C.Kind = (3 : Int)))) hb22 h20
       refine w_seqw ?_
       refine w_region ?_
       refine o_p rfl (p_eql rfl rfl) ?_
       refine o_p rfl (p_assign (v := aB) rfl) ?_
       refine o_end (fr' := [(1, .box 0 0), (19, aI), (20, aB), (42, aB), (69, aB), (86, aB), (103, aB)]) rfl ?_
       refine e_kw ?_
       refine w_cond _ rfl (fun hb24 => ?_) (fun hb24 => ?_)
       ·
        have h24 := cond_t (b := (decide (p0C.Kind = (4 : Int)))) hb24 h22
        refine w_seqw ?_
        refine w_region ?_
        refine o_p rfl (p_fa tf40x1 rfl) ?_
        refine o_p rfl (p_load (v := aI) tv3 rfl rfl rfl) ?_
        refine o_p rfl (p_eql rfl rfl) ?_
        refine o_p rfl (p_move (v := aB) rfl) ?_
        refine o_g rfl rfl (fun hc => ov_p rfl (p_fa tf40x2 rfl)) ?_
        refine o_g rfl rfl (fun hc => ov_p rfl (p_load (v := aS) tv9 (gx rfl hc) rfl rfl)) ?_
        refine o_g rfl rfl (fun hc => ov_p rfl (p_seql (gx rfl hc) rfl)) ?_
        refine o_p rfl (p_picky rfl rfl rfl (fun e => keq e)) ?_
        refine o_p rfl (p_move (v := aB) rfl) ?_
        refine o_g rfl rfl (fun hc => ov_p rfl (p_fa tf40x4 rfl)) ?_
        refine o_g rfl rfl (fun hc => ov_p rfl (p_load (v := aL) tv38 (gx rfl hc) rfl rfl)) ?_
        refine o_g rfl rfl (fun hc => ov_p rfl (p_len ti38 (isl_c (gx rfl hc)))) ?_
        refine o_g rfl rfl (fun hc => ov_p rfl (p_eql (gx rfl hc) rfl)) ?_
        refine o_p rfl (p_picky rfl rfl rfl (fun e => keq e)) ?_
        refine o_p rfl (p_assign (v := aB) rfl) ?_
        refine o_end (fr' := [(1, .box 0 0), (2, aB), (19, aI), (20, aB), (42, aB), (69, aB), (86, aB), (103, aB)]) rfl ?_
        refine e_kw ?_
        refine w_ret ?_
        refine e_blk_r ?_
        refine e_seq_r ?_
        have he25 := Option.some.inj h24
        subst he25
        refine e_ret (rs' := [.tmp 2]) rfl ?_
        refine r_tmp (v := aB) rfl ?_
        refine r_nil ?_
        exact fin_gen [] rfl rfl rfl (AV.le_refl _) st_nil
       ·
        have h24 := cond_f (b := (decide (p0C.Kind = (4 : Int)))) hb24 h22
        refine w_seqw ?_
        refine w_region ?_
        refine o_p rfl (p_eql rfl rfl) ?_
        refine o_p rfl (p_assign (v := aB) rfl) ?_
        refine o_end (fr' := [(1, .box 0 0), (19, aI), (20, aB), (42, aB), (69, aB), (86, aB), (103, aB), (119, aB)]) rfl ?_
        refine e_kw ?_
        refine w_cond _ rfl (fun hb26 => ?_) (fun hb26 => ?_)
        ·
         have h26 := cond_t (b := (decide (p0C.Kind = (5 : Int)))) hb26 h24
         refine w_seqw ?_
         refine w_region ?_
         refine o_p rfl (p_fa tf40x1 rfl) ?_
         refine o_p rfl (p_load (v := aI) tv3 rfl rfl rfl) ?_
         refine o_p rfl (p_eql rfl rfl) ?_
         refine o_p rfl (p_move (v := aB) rfl) ?_
         refine o_g rfl rfl (fun hc => ov_p rfl (p_fa tf40x2 rfl)) ?_
         refine o_g rfl rfl (fun hc => ov_p rfl (p_load (v := aS) tv9 (gx rfl hc) rfl rfl)) ?_
         refine o_g rfl rfl (fun hc => ov_p rfl (p_seql (gx rfl hc) rfl)) ?_
         refine o_p rfl (p_picky rfl rfl rfl (fun e => keq e)) ?_
         refine o_p rfl (p_move (v := aB) rfl) ?_
         refine o_g rfl rfl (fun hc => ov_p rfl (p_fa tf40x4 rfl)) ?_
         refine o_g rfl rfl (fun hc => ov_p rfl (p_load (v := aL) tv38 (gx rfl hc) rfl rfl)) ?_
         refine o_g rfl rfl (fun hc => ov_p rfl (p_len ti38 (isl_c (gx rfl hc)))) ?_
         refine o_g rfl rfl (fun hc => ov_p rfl (p_fa tf40x3 rfl)) ?_
         refine o_g rfl rfl (fun hc => ov_p rfl (p_load (v := aL) tv37 (gx rfl hc) rfl rfl)) ?_
         refine o_g rfl rfl (fun hc => ov_p rfl (p_len ti37 (isl_c (gx rfl hc)))) ?_
         refine o_g rfl rfl (fun hc => ov_p rfl (p_eql (gx rfl hc) (gx rfl hc))) ?_
         refine o_p rfl (p_picky rfl rfl rfl (fun e => keq e)) ?_
         refine o_p rfl (p_move (v := aB) rfl) ?_
         refine o_g rfl rfl (fun hc => ov_p rfl (p_fa tf40x4 rfl)) ?_
         refine o_g rfl rfl (fun hc => ov_p rfl (p_load (v := aL) tv38 (gx rfl hc) rfl rfl)) ?_
         obtain ⟨x27, hx27, h28⟩ := bind_s h26
         refine o_g rfl rfl (fun hc => ov_call (v := aB) rfl (w_ref02xRising (gd_some hx27 hc)) ⟨(le_gv (gx rfl hc) (AV.le_refl _)), trivial⟩ (ok_eq (by repeat (first | exact ok_nil | refine ok_cons rfl ?_ | refine ok_cons (dgv rfl) ?_))) rfl rfl) ?_
         refine o_p rfl (p_picky rfl rfl rfl (fun e => keq e)) ?_
         refine o_p rfl (p_assign (v := aB) rfl) ?_
         refine o_end (fr' := [(1, .box 0 0), (2, aB), (19, aI), (20, aB), (42, aB), (69, aB), (86, aB), (103, aB), (119, aB)]) rfl ?_
         refine e_kw ?_
         refine w_ret ?_
         refine e_blk_r ?_
         refine e_seq_r ?_
         have he29 := Option.some.inj h28
         subst he29
         refine e_ret (rs' := [.tmp 2]) rfl ?_
         refine r_tmp (v := aB) rfl ?_
         refine r_nil ?_
         exact fin_gen [] rfl rfl rfl (AV.le_refl _) st_nil
        ·
         have h26 := cond_f (b := (decide (p0C.Kind = (5 : Int)))) hb26 h24
         refine w_seqw ?_
         refine w_region ?_
         refine o_p rfl (p_eql rfl rfl) ?_
         refine o_p rfl (p_assign (v := aB) rfl) ?_
         refine o_end (fr' := [(1, .box 0 0), (19, aI), (20, aB), (42, aB), (69, aB), (86, aB), (103, aB), (119, aB), (143, aB)]) rfl ?_
         refine e_kw ?_
         refine w_cond _ rfl (fun hb30 => ?_) (fun hb30 => ?_)
         ·
          have h30 := cond_t (b := (decide (p0C.Kind = (6 : Int)))) hb30 h26
          refine w_seqw ?_
          refine w_region ?_
          refine o_p rfl (p_fa tf40x1 rfl) ?_
          refine o_p rfl (p_load (v := aI) tv3 rfl rfl rfl) ?_
          refine o_p rfl (p_geq rfl rfl) ?_
          refine o_p rfl (p_move (v := aB) rfl) ?_
          refine o_g rfl rfl (fun hc => ov_p rfl (p_fa tf40x2 rfl)) ?_
          refine o_g rfl rfl (fun hc => ov_p rfl (p_load (v := aS) tv9 (gx rfl hc) rfl rfl)) ?_
          refine o_g rfl rfl (fun hc => ov_p rfl (p_seql (gx rfl hc) rfl)) ?_
          refine o_p rfl (p_picky rfl rfl rfl (fun e => keq e)) ?_
          refine o_p rfl (p_move (v := aB) rfl) ?_
          refine o_g rfl rfl (fun hc => ov_p rfl (p_fa tf40x3 rfl)) ?_
          refine o_g rfl rfl (fun hc => ov_p rfl (p_load (v := aL) tv37 (gx rfl hc) rfl rfl)) ?_
          refine o_g rfl rfl (fun hc => ov_p rfl (p_len ti37 (isl_c (gx rfl hc)))) ?_
          refine o_g rfl rfl (fun hc => ov_p rfl (p_eql (gx rfl hc) rfl)) ?_
          refine o_p rfl (p_picky rfl rfl rfl (fun e => keq e)) ?_
          refine o_p rfl (p_move (v := aB) rfl) ?_
          refine o_g rfl rfl (fun hc => ov_p rfl (p_fa tf40x4 rfl)) ?_
          refine o_g rfl rfl (fun hc => ov_p rfl (p_load (v := aL) tv38 (gx rfl hc) rfl rfl)) ?_
          refine o_g rfl rfl (fun hc => ov_p rfl (p_len ti38 (isl_c (gx rfl hc)))) ?_
          refine o_g rfl rfl (fun hc => ov_p rfl (p_eql (gx rfl hc) rfl)) ?_
          refine o_p rfl (p_picky rfl rfl rfl (fun e => keq e)) ?_
          refine o_p rfl (p_assign (v := aB) rfl) ?_
          refine o_end (fr' := [(1, .box 0 0), (2, aB), (19, aI), (20, aB), (42, aB), (69, aB), (86, aB), (103, aB), (119, aB), (143, aB)]) rfl ?_
          refine e_kw ?_
          refine w_ret ?_
          refine e_blk_r ?_
          refine e_seq_r ?_
          have he31 := Option.some.inj h30
          subst he31
          refine e_ret (rs' := [.tmp 2]) rfl ?_
          refine r_tmp (v := aB) rfl ?_
          refine r_nil ?_
          exact fin_gen [] rfl rfl rfl (AV.le_refl _) st_nil
         ·
          have h30 := cond_f (b := (decide (p0C.Kind = (6 : Int)))) hb30 h26
          refine w_skip ?_
          refine e_blk_n ?_
          refine e_kw ?_
          refine w_seqw ?_
          refine w_region ?_
          refine o_p rfl (p_assign (v := aB) rfl) ?_
          refine o_end (fr' := [(1, .box 0 0), (2, aB), (19, aI), (20, aB), (42, aB), (69, aB), (86, aB), (103, aB), (119, aB), (143, aB)]) rfl ?_
          refine e_kw ?_
          refine w_ret ?_
          have he32 := Option.some.inj h30
          subst he32
          refine e_ret (rs' := [.tmp 2]) rfl ?_
          refine r_tmp (v := aB) rfl ?_
          refine r_nil ?_
          exact fin_gen [] rfl rfl rfl (AV.le_refl _) st_nil
noncomputable def ref02xWellFormed (p0C : ApiValue) : Option Bool := lim fun n => ref02xWellFormedF n p0C
theorem w_ref02xWellFormed {p0C : ApiValue} {res : Bool} (h : ref02xWellFormed p0C = some res) : ACalls Try.prog 85 [.agg (AV.cs (exApiValue p0C))] [] (.c (.bool res)) [] := by
 obtain ⟨n, hn⟩ := lim_some h
 exact (wF_ref02xWellFormed n) hn
noncomputable def ref02xSize_l1 (rec_ref02xSize : ApiValue → Option Int) (p0v : ApiValue) (s4 : (Int × Int)) : Option (Step (Int × Int) Int) :=
 cond (decide (s4.2 < ((p0v.Items).length : Int))) ((idx p0v.Items s4.2).bind fun (x6 : ApiValue) => (rec_ref02xSize x6).bind fun (x8 : Int) => some (Step.next ((IntKind.wrap .i64 (s4.1 + x8)), (IntKind.wrap .i64 (s4.2 + (1 : Int)))))) (some (Step.out s4.1))
noncomputable def ref02xSizeF : Nat → ApiValue → Option Int
 | 0, _ => none
 | n + 1, p0v =>
  ((loopO (ref02xSize_l1 (ref02xSizeF n) p0v) (((1 : Int), (0 : Int)))) : Option Int).bind fun (x1 : Int) => (some x1)
theorem wF_ref02xSize : ∀ n : Nat, (∀ {p0v : ApiValue} {res : Int}, ref02xSizeF n p0v = some res → ACalls Try.prog 100 [.agg (AV.cs (exApiValue p0v))] [] (.c (.int .i64 res)) []) := by
 intro n
 induction n with
 | zero => exact fun {p0v res} h => absurd h (by simp [ref02xSizeF])
 | succ n ih =>
  have ih_ref02xSize := @ih
  intro p0v res h
  rw [ref02xSizeF] at h
  refine acalls (fn := Try.f100) [0, 1, 2, 3, 4, 9] (by kernel_rfl) Try.func100 rfl (by kernel_rfl) (by kernel_rfl) ?_
  refine w_seqw ?_
  refine w_region ?_
  refine o_box (v := .agg [aI, aI, aS, aL, aL]) (n := 0) (cs := [aI, aI, aS, aL, aL]) (σ' := [[aI, aI, aS, aL, aL]]) rfl rfl rfl rfl rfl ?_
  refine o_p rfl (p_assign (v := aI) rfl) ?_
  refine o_end (fr' := [(0, .agg [aI, aI, aS, aL, aL]), (1, .box 0 0), (2, aI)]) rfl ?_
  refine e_kw ?_
  refine w_seqw ?_
  refine w_region ?_
  refine o_p rfl (p_assign (v := aI) rfl) ?_
  refine o_end (fr' := [(0, .agg [aI, aI, aS, aL, aL]), (1, .box 0 0), (2, aI), (3, aI)]) rfl ?_
  refine e_kw ?_
  refine w_seqw ?_
  refine w_seqw ?_
  refine w_region ?_
  refine o_p rfl (p_assign (v := aI) rfl) ?_
  refine o_end (fr' := [(0, .agg [aI, aI, aS, aL, aL]), (1, .box 0 0), (2, aI), (3, aI), (4, aI)]) rfl ?_
  refine e_kw ?_
  obtain ⟨x1, hx1, h2⟩ := bind_s h
  refine w_jtail cl_kw (fun j3 => x1 = j3) (fun (j3 : Int) => ([(3, .c (.int .i64 j3))] : Fr)) (fun (j3 : Int) => ([[.c (.int .i64 p0v.Kind), .c (.int .i64 p0v.Int), .c (.str p0v.Text), .c (PV.ls 5 rowApiValue p0v.Items), .c (PV.ls 1 rowS p0v.Keys)]] : St)) ?_ ?_
  ·
   refine w_block ?_
   refine w_loopo _ (fun (s4 : (Int × Int)) => ([(1, .box 0 0), (3, .c (.int .i64 s4.1)), (4, .c (.int .i64 s4.2))] : Fr)) (fun (s4 : (Int × Int)) => ([[.c (.int .i64 p0v.Kind), .c (.int .i64 p0v.Int), .c (.str p0v.Text), .c (PV.ls 5 rowApiValue p0v.Items), .c (PV.ls 1 rowS p0v.Keys)]] : St)) hx1 (w_weak [] 1 rfl rfl rfl rfl ⟨(AV.le_refl _), (AV.le_refl _), (AV.le_refl _), trivial⟩ (st_r rfl st_nil)) ?_
   intro s4 st4 hs4 ho4
   unfold ref02xSize_l1 at hs4
   refine w_seqw ?_
   refine w_seqw ?_
   refine w_region ?_
   refine o_p rfl (p_move (v := aI) rfl) ?_
   refine o_p rfl (p_fa tf40x3 rfl) ?_
   refine o_p rfl (p_load (v := aL) tv37 rfl rfl rfl) ?_
   refine o_p rfl (p_len ti37 (isl_c rfl)) ?_
   refine o_p rfl (p_lss rfl rfl) ?_
   refine o_end (fr' := [(1, .box 0 0), (3, aI), (4, aI), (9, aB)]) rfl ?_
   refine e_kw ?_
   refine w_cond _ rfl (fun hb5 => ?_) (fun hb5 => ?_)
   ·
    have h5 := cond_t (b := (decide (s4.2 < ((p0v.Items).length : Int)))) hb5 hs4
    refine w_skip ?_
    refine e_kw ?_
    refine w_seqw ?_
    refine w_block ?_
    refine w_region ?_
    refine o_p rfl (p_move (v := aI) rfl) ?_
    refine o_p rfl (p_fa tf40x3 rfl) ?_
    refine o_p rfl (p_load (v := aL) tv37 rfl rfl rfl) ?_
    refine o_p rfl (p_move (v := aI) rfl) ?_
    obtain ⟨x6, hx6, h7⟩ := bind_s h5
    refine o_p rfl (p_ia (cs := [.int _ _, .int _ _, .str _, PV.ls _ _ _, PV.ls _ _ _]) ts37 (isl_c rfl) rfl hx6 (rowApiValue_eq _)) ?_
    refine o_p rfl (p_loades (us := [.int _ _, .int _ _, .str _, PV.ls _ _ _, PV.ls _ _ _]) tv40 rfl rfl rfl) ?_
    obtain ⟨x8, hx8, h9⟩ := bind_s h7
    refine o_v (ov_call (v := aI) rfl (ih_ref02xSize hx8) ⟨(le_aggc rfl ⟨rfl, rfl, rfl, rfl, rfl, trivial⟩), trivial⟩ rfl rfl rfl) ?_
    refine o_p rfl (p_add rfl rfl) ?_
    refine o_p rfl (p_assign (v := aI) rfl) ?_
    refine o_end (fr' := [(1, .box 0 0), (3, aI), (4, aI), (9, aB)]) rfl ?_
    refine e_blk_n ?_
    refine e_kw ?_
    refine w_region ?_
    refine o_p rfl (p_move (v := aI) rfl) ?_
    refine o_p rfl (p_add rfl rfl) ?_
    refine o_p rfl (p_assign (v := aI) rfl) ?_
    refine o_end (fr' := [(1, .box 0 0), (3, aI), (4, aI), (9, aB)]) rfl ?_
    exact e_l _ (Option.some.inj h9).symm (w_weak [] 1 rfl rfl rfl rfl ⟨(AV.le_refl _), (AV.le_refl _), (AV.le_refl _), trivial⟩ (st_r rfl st_nil))
   ·
    have h5 := cond_f (b := (decide (s4.2 < ((p0v.Items).length : Int)))) hb5 hs4
    refine w_exit ?_
    refine e_seq_x ?_
    refine e_seq_x ?_
    refine e_blk_h ?_
    have h10 := un_out h5 ho4
    exact e_j _ (Option.some.inj h10).symm (w_weak [] 1 rfl rfl rfl rfl ⟨(AV.le_refl _), trivial⟩ (st_r rfl st_nil))
  ·
   intro j3 hj11
   subst hj11
   refine e_kw ?_
   refine w_seqw ?_
   refine w_region ?_
   refine o_p rfl (p_move (v := aI) rfl) ?_
   refine o_p rfl (p_assign (v := aI) rfl) ?_
   refine o_end (fr' := [(2, aI), (3, aI)]) rfl ?_
   refine e_kw ?_
   refine w_ret ?_
   have he12 := Option.some.inj h2
   subst he12
   refine e_ret (rs' := [.tmp 2]) rfl ?_
   refine r_tmp (v := aI) rfl ?_
   refine r_nil ?_
   exact fin_gen [] rfl rfl rfl (AV.le_refl _) st_nil
noncomputable def ref02xSize (p0v : ApiValue) : Option Int := lim fun n => ref02xSizeF n p0v
theorem w_ref02xSize {p0v : ApiValue} {res : Int} (h : ref02xSize p0v = some res) : ACalls Try.prog 100 [.agg (AV.cs (exApiValue p0v))] [] (.c (.int .i64 res)) [] := by
 obtain ⟨n, hn⟩ := lim_some h
 exact (wF_ref02xSize n) hn
noncomputable def ref02xShort_l1 (p0v : ApiValue) (s6 : Int) : Option (Step Int (Fl Bool Unit)) :=
 cond (decide (s6 < ((p0v.Keys).length : Int))) ((idx p0v.Keys s6).bind fun (x8 : (List UInt8)) => cond (decide ((4096 : Int) < ((x8).length : Int))) (some (Step.out (Fl.done false))) (some (Step.next (IntKind.wrap .i64 (s6 + (1 : Int)))))) (some (Step.out (Fl.go ())))
noncomputable def ref02xShort_l2 (rec_ref02xShort : ApiValue → Option Bool) (p0v : ApiValue) (s19 : Int) : Option (Step Int (Fl Bool Unit)) :=
 cond (decide (s19 < ((p0v.Items).length : Int))) ((idx p0v.Items s19).bind fun (x21 : ApiValue) => (rec_ref02xShort x21).bind fun (x23 : Bool) => cond (!x23) (some (Step.out (Fl.done false))) (some (Step.next (IntKind.wrap .i64 (s19 + (1 : Int)))))) (some (Step.out (Fl.go ())))
noncomputable def ref02xShortF : Nat → ApiValue → Option Bool
 | 0, _ => none
 | n + 1, p0v =>
  cond (decide ((4096 : Int) < ((p0v.Text).length : Int))) (some false) (((loopO (ref02xShort_l1 p0v) ((0 : Int))) : Option (Fl Bool Unit)).bind fun (x3 : (Fl Bool Unit)) => Fl.next x3 (fun (j5 : Unit) => (((loopO (ref02xShort_l2 (ref02xShortF n) p0v) ((0 : Int))) : Option (Fl Bool Unit)).bind fun (x16 : (Fl Bool Unit)) => Fl.next x16 (fun (j18 : Unit) => (some true)))))
theorem wF_ref02xShort : ∀ n : Nat, (∀ {p0v : ApiValue} {res : Bool}, ref02xShortF n p0v = some res → ACalls Try.prog 98 [.agg (AV.cs (exApiValue p0v))] [] (.c (.bool res)) []) := by
 intro n
 induction n with
 | zero => exact fun {p0v res} h => absurd h (by simp [ref02xShortF])
 | succ n ih =>
  have ih_ref02xShort := @ih
  intro p0v res h
  rw [ref02xShortF] at h
  refine acalls (fn := Try.f98) [0, 1, 2, 3, 4, 8, 13, 22, 27, 36] (by kernel_rfl) Try.func98 rfl (by kernel_rfl) (by kernel_rfl) ?_
  refine w_seqw ?_
  refine w_region ?_
  refine o_box (v := .agg [aI, aI, aS, aL, aL]) (n := 0) (cs := [aI, aI, aS, aL, aL]) (σ' := [[aI, aI, aS, aL, aL]]) rfl rfl rfl rfl rfl ?_
  refine o_p rfl (p_assign (v := aB) rfl) ?_
  refine o_end (fr' := [(0, .agg [aI, aI, aS, aL, aL]), (1, .box 0 0), (2, aB)]) rfl ?_
  refine e_kw ?_
  refine w_seqw ?_
  refine w_seqw ?_
  refine w_region ?_
  refine o_p rfl (p_fa tf40x2 rfl) ?_
  refine o_p rfl (p_load (v := aS) tv9 rfl rfl rfl) ?_
  refine o_p rfl (p_lens ti9 rfl) ?_
  refine o_p rfl (p_gtr rfl rfl) ?_
  refine o_end (fr' := [(0, .agg [aI, aI, aS, aL, aL]), (1, .box 0 0), (2, aB), (8, aB)]) rfl ?_
  refine e_kw ?_
  refine w_cond _ rfl (fun hb1 => ?_) (fun hb1 => ?_)
  ·
   have h1 := cond_t (b := (decide ((4096 : Int) < ((p0v.Text).length : Int)))) hb1 h
   refine w_seqw ?_
   refine w_region ?_
   refine o_p rfl (p_assign (v := aB) rfl) ?_
   refine o_end (fr' := [(0, .agg [aI, aI, aS, aL, aL]), (1, .box 0 0), (2, aB), (8, aB)]) rfl ?_
   refine e_kw ?_
   refine w_ret ?_
   refine e_seq_r ?_
   have he2 := Option.some.inj h1
   subst he2
   refine e_ret (rs' := [.tmp 2]) rfl ?_
   refine r_tmp (v := aB) rfl ?_
   refine r_nil ?_
   exact fin_gen [] rfl rfl rfl (AV.le_refl _) st_nil
  ·
   have h1 := cond_f (b := (decide ((4096 : Int) < ((p0v.Text).length : Int)))) hb1 h
   refine w_skip ?_
   refine e_kw ?_
   refine w_seqw ?_
   refine w_seqw ?_
   refine w_region ?_
   refine o_p rfl (p_assign (v := aI) rfl) ?_
   refine o_end (fr' := [(0, .agg [aI, aI, aS, aL, aL]), (1, .box 0 0), (2, aB), (3, aI), (8, aB)]) rfl ?_
   refine e_kw ?_
   obtain ⟨x3, hx3, h4⟩ := bind_s h1
   refine w_jtail cl_kw (fun j5 => x3 = Fl.go j5) (fun (j5 : Unit) => ([(1, .box 0 0)] : Fr)) (fun (j5 : Unit) => ([[.c (.int .i64 p0v.Kind), .c (.int .i64 p0v.Int), .c (.str p0v.Text), .c (PV.ls 5 rowApiValue p0v.Items), .c (PV.ls 1 rowS p0v.Keys)]] : St)) ?_ ?_
   ·
    refine w_block ?_
    refine w_loopo _ (fun (s6 : Int) => ([(1, .box 0 0), (3, .c (.int .i64 s6))] : Fr)) (fun (s6 : Int) => ([[.c (.int .i64 p0v.Kind), .c (.int .i64 p0v.Int), .c (.str p0v.Text), .c (PV.ls 5 rowApiValue p0v.Items), .c (PV.ls 1 rowS p0v.Keys)]] : St)) hx3 (w_weak [] 1 rfl rfl rfl rfl ⟨(AV.le_refl _), (AV.le_refl _), trivial⟩ (st_r rfl st_nil)) ?_
    intro s6 st6 hs6 ho6
    unfold ref02xShort_l1 at hs6
    refine w_seqw ?_
    refine w_seqw ?_
    refine w_region ?_
    refine o_p rfl (p_move (v := aI) rfl) ?_
    refine o_p rfl (p_fa tf40x4 rfl) ?_
    refine o_p rfl (p_load (v := aL) tv38 rfl rfl rfl) ?_
    refine o_p rfl (p_len ti38 (isl_c rfl)) ?_
    refine o_p rfl (p_lss rfl rfl) ?_
    refine o_end (fr' := [(1, .box 0 0), (3, aI), (13, aB)]) rfl ?_
    refine e_kw ?_
    refine w_cond _ rfl (fun hb7 => ?_) (fun hb7 => ?_)
    ·
     have h7 := cond_t (b := (decide (s6 < ((p0v.Keys).length : Int)))) hb7 hs6
     refine w_skip ?_
     refine e_kw ?_
     refine w_seqw ?_
     refine w_block ?_
     refine w_seqw ?_
     refine w_region ?_
     refine o_p rfl (p_fa tf40x4 rfl) ?_
     refine o_p rfl (p_load (v := aL) tv38 rfl rfl rfl) ?_
     refine o_p rfl (p_move (v := aI) rfl) ?_
     obtain ⟨x8, hx8, h9⟩ := bind_s h7
     refine o_p rfl (p_ia (cs := [.str _]) ts38 (isl_c rfl) rfl hx8 rfl) ?_
     refine o_p rfl (p_loade (p := .str _) tv9 rfl rfl) ?_
     refine o_p rfl (p_lens ti9 rfl) ?_
     refine o_p rfl (p_gtr rfl rfl) ?_
     refine o_end (fr' := [(1, .box 0 0), (3, aI), (13, aB), (22, aB)]) rfl ?_
     refine e_kw ?_
     refine w_cond _ rfl (fun hb10 => ?_) (fun hb10 => ?_)
     ·
      have h10 := cond_t (b := (decide ((4096 : Int) < ((x8).length : Int)))) hb10 h9
      refine w_seqw ?_
      refine w_region ?_
      refine o_p rfl (p_assign (v := aB) rfl) ?_
      refine o_end (fr' := [(1, .box 0 0), (2, aB), (3, aI), (13, aB), (22, aB)]) rfl ?_
      refine e_kw ?_
      refine w_ret ?_
      refine e_blk_r ?_
      refine e_seq_r ?_
      refine e_seq_r ?_
      refine e_blk_r ?_
      refine e_seq_r ?_
      refine e_seq_r ?_
      have h11 := un_out h10 ho6
      have h12 := un_done h11 h4
      have he13 := Option.some.inj h12
      subst he13
      refine e_ret (rs' := [.tmp 2]) rfl ?_
      refine r_tmp (v := aB) rfl ?_
      refine r_nil ?_
      exact fin_gen [] rfl rfl rfl (AV.le_refl _) st_nil
     ·
      have h10 := cond_f (b := (decide ((4096 : Int) < ((x8).length : Int)))) hb10 h9
      refine w_skip ?_
      refine e_blk_n ?_
      refine e_kw ?_
      refine w_region ?_
      refine o_p rfl (p_move (v := aI) rfl) ?_
      refine o_p rfl (p_add rfl rfl) ?_
      refine o_p rfl (p_assign (v := aI) rfl) ?_
      refine o_end (fr' := [(1, .box 0 0), (3, aI), (13, aB), (22, aB)]) rfl ?_
      exact e_l _ (Option.some.inj h10).symm (w_weak [] 1 rfl rfl rfl rfl ⟨(AV.le_refl _), (AV.le_refl _), trivial⟩ (st_r rfl st_nil))
    ·
     have h7 := cond_f (b := (decide (s6 < ((p0v.Keys).length : Int)))) hb7 hs6
     refine w_exit ?_
     refine e_seq_x ?_
     refine e_seq_x ?_
     refine e_blk_h ?_
     have h14 := un_out h7 ho6
     exact e_j _ (Option.some.inj h14).symm (w_weak [] 1 rfl rfl rfl rfl ⟨(AV.le_refl _), trivial⟩ (st_r rfl st_nil))
   ·
    intro j5 hj15
    have h15 := un_go hj15 h4
    refine e_kw ?_
    refine w_seqw ?_
    refine w_seqw ?_
    refine w_region ?_
    refine o_p rfl (p_assign (v := aI) rfl) ?_
    refine o_end (fr' := [(1, .box 0 0), (4, aI)]) rfl ?_
    refine e_kw ?_
    obtain ⟨x16, hx16, h17⟩ := bind_s h15
    refine w_jtail cl_kw (fun j18 => x16 = Fl.go j18) (fun (j18 : Unit) => ([] : Fr)) (fun (j18 : Unit) => ([[.c (.int .i64 p0v.Kind), .c (.int .i64 p0v.Int), .c (.str p0v.Text), .c (PV.ls 5 rowApiValue p0v.Items), .c (PV.ls 1 rowS p0v.Keys)]] : St)) ?_ ?_
    ·
     refine w_block ?_
     refine w_loopo _ (fun (s19 : Int) => ([(1, .box 0 0), (4, .c (.int .i64 s19))] : Fr)) (fun (s19 : Int) => ([[.c (.int .i64 p0v.Kind), .c (.int .i64 p0v.Int), .c (.str p0v.Text), .c (PV.ls 5 rowApiValue p0v.Items), .c (PV.ls 1 rowS p0v.Keys)]] : St)) hx16 (w_weak [] 1 rfl rfl rfl rfl ⟨(AV.le_refl _), (AV.le_refl _), trivial⟩ (st_r rfl st_nil)) ?_
     intro s19 st19 hs19 ho19
     unfold ref02xShort_l2 at hs19
     refine w_seqw ?_
     refine w_seqw ?_
     refine w_region ?_
     refine o_p rfl (p_move (v := aI) rfl) ?_
     refine o_p rfl (p_fa tf40x3 rfl) ?_
     refine o_p rfl (p_load (v := aL) tv37 rfl rfl rfl) ?_
     refine o_p rfl (p_len ti37 (isl_c rfl)) ?_
     refine o_p rfl (p_lss rfl rfl) ?_
     refine o_end (fr' := [(1, .box 0 0), (4, aI), (27, aB)]) rfl ?_
     refine e_kw ?_
     refine w_cond _ rfl (fun hb20 => ?_) (fun hb20 => ?_)
     ·
      have h20 := cond_t (b := (decide (s19 < ((p0v.Items).length : Int)))) hb20 hs19
      refine w_skip ?_
      refine e_kw ?_
      refine w_seqw ?_
      refine w_block ?_
      refine w_seqw ?_
      refine w_region ?_
      refine o_p rfl (p_fa tf40x3 rfl) ?_
      refine o_p rfl (p_load (v := aL) tv37 rfl rfl rfl) ?_
      refine o_p rfl (p_move (v := aI) rfl) ?_
      obtain ⟨x21, hx21, h22⟩ := bind_s h20
      refine o_p rfl (p_ia (cs := [.int _ _, .int _ _, .str _, PV.ls _ _ _, PV.ls _ _ _]) ts37 (isl_c rfl) rfl hx21 (rowApiValue_eq _)) ?_
      refine o_p rfl (p_loades (us := [.int _ _, .int _ _, .str _, PV.ls _ _ _, PV.ls _ _ _]) tv40 rfl rfl rfl) ?_
      obtain ⟨x23, hx23, h24⟩ := bind_s h22
      refine o_v (ov_call (v := aB) rfl (ih_ref02xShort hx23) ⟨(le_aggc rfl ⟨rfl, rfl, rfl, rfl, rfl, trivial⟩), trivial⟩ rfl rfl rfl) ?_
      refine o_p rfl (p_not rfl) ?_
      refine o_end (fr' := [(1, .box 0 0), (4, aI), (27, aB), (36, aB)]) rfl ?_
      refine e_kw ?_
      refine w_cond _ rfl (fun hb25 => ?_) (fun hb25 => ?_)
      ·
       have h25 := cond_t (b := (!x23)) hb25 h24
       refine w_seqw ?_
       refine w_region ?_
       refine o_p rfl (p_assign (v := aB) rfl) ?_
       refine o_end (fr' := [(1, .box 0 0), (2, aB), (4, aI), (27, aB), (36, aB)]) rfl ?_
       refine e_kw ?_
       refine w_ret ?_
       refine e_blk_r ?_
       refine e_seq_r ?_
       refine e_seq_r ?_
       refine e_blk_r ?_
       refine e_seq_r ?_
       refine e_seq_r ?_
       have h26 := un_out h25 ho19
       have h27 := un_done h26 h17
       have he28 := Option.some.inj h27
       subst he28
       refine e_ret (rs' := [.tmp 2]) rfl ?_
       refine r_tmp (v := aB) rfl ?_
       refine r_nil ?_
       exact fin_gen [] rfl rfl rfl (AV.le_refl _) st_nil
      ·
       have h25 := cond_f (b := (!x23)) hb25 h24
       refine w_skip ?_
       refine e_blk_n ?_
       refine e_kw ?_
       refine w_region ?_
       refine o_p rfl (p_move (v := aI) rfl) ?_
       refine o_p rfl (p_add rfl rfl) ?_
       refine o_p rfl (p_assign (v := aI) rfl) ?_
       refine o_end (fr' := [(1, .box 0 0), (4, aI), (27, aB), (36, aB)]) rfl ?_
       exact e_l _ (Option.some.inj h25).symm (w_weak [] 1 rfl rfl rfl rfl ⟨(AV.le_refl _), (AV.le_refl _), trivial⟩ (st_r rfl st_nil))
     ·
      have h20 := cond_f (b := (decide (s19 < ((p0v.Items).length : Int)))) hb20 hs19
      refine w_exit ?_
      refine e_seq_x ?_
      refine e_seq_x ?_
      refine e_blk_h ?_
      have h29 := un_out h20 ho19
      exact e_j _ (Option.some.inj h29).symm (w_weak [] 1 rfl rfl rfl rfl trivial (st_r rfl st_nil))
    ·
     intro j18 hj30
     have h30 := un_go hj30 h17
     refine e_kw ?_
     refine w_seqw ?_
     refine w_region ?_
     refine o_p rfl (p_assign (v := aB) rfl) ?_
     refine o_end (fr' := [(2, aB)]) rfl ?_
     refine e_kw ?_
     refine w_ret ?_
     have he31 := Option.some.inj h30
     subst he31
     refine e_ret (rs' := [.tmp 2]) rfl ?_
     refine r_tmp (v := aB) rfl ?_
     refine r_nil ?_
     exact fin_gen [] rfl rfl rfl (AV.le_refl _) st_nil
noncomputable def ref02xShort (p0v : ApiValue) : Option Bool := lim fun n => ref02xShortF n p0v
theorem w_ref02xShort {p0v : ApiValue} {res : Bool} (h : ref02xShort p0v = some res) : ACalls Try.prog 98 [.agg (AV.cs (exApiValue p0v))] [] (.c (.bool res)) [] := by
 obtain ⟨n, hn⟩ := lim_some h
 exact (wF_ref02xShort n) hn
end Go.Proofs.Ytnhchphmmdgphaa

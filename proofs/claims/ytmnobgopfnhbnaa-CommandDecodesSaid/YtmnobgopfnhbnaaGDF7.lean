import Derived.Test.YtmnobgopfnhbnaaGDTy
namespace Go.Proofs.Ytmnobgopfnhbnaa
open Go Abs
set_option maxRecDepth 100000
set_option linter.unusedVariables false
set_option linter.unusedSimpArgs false
noncomputable def ref20xbare (p0c : ApiCommand) : Option ApiCommand :=
 ((((cond (decide (p0c.Kind = (1 : Int))) (some (decide (p0c.Kind = (1 : Int)))) (cond (decide (p0c.Kind = (2 : Int))) (some (decide (p0c.Kind = (2 : Int)))) (cond (decide (p0c.Kind = (3 : Int))) (some (decide (p0c.Kind = (3 : Int)))) (cond (decide (p0c.Kind = (4 : Int))) (some (decide (p0c.Kind = (4 : Int)))) (cond (decide (p0c.Kind = (5 : Int))) (some (decide (p0c.Kind = (5 : Int)))) (some (decide (p0c.Kind = (6 : Int))))))))) : Option Bool).bind fun (x4 : Bool) => (cond x4 (some (0 : Int)) (some p0c.Seq))) : Option Int).bind fun (x1 : Int) => (((((cond (decide (p0c.Kind = (1 : Int))) (some (decide (p0c.Kind = (1 : Int)))) (cond (decide (p0c.Kind = (5 : Int))) (some (decide (p0c.Kind = (5 : Int)))) (cond (decide (p0c.Kind = (6 : Int))) (some (decide (p0c.Kind = (6 : Int)))) (cond (decide (p0c.Kind = (7 : Int))) (some (decide (p0c.Kind = (7 : Int)))) (cond (decide (p0c.Kind = (8 : Int))) (some (decide (p0c.Kind = (8 : Int)))) (some (decide (p0c.Kind = (12 : Int))))))))) : Option Bool).bind fun (x18 : Bool) => (cond x18 (some ([] : List UInt8)) (some p0c.Name))) : Option (List UInt8)).bind fun (x15 : (List UInt8)) => (((((cond (decide (p0c.Kind = (5 : Int))) (some (decide (p0c.Kind = (5 : Int)))) (cond (decide (p0c.Kind = (6 : Int))) (some (decide (p0c.Kind = (6 : Int)))) (cond (decide (p0c.Kind = (8 : Int))) (some (decide (p0c.Kind = (8 : Int)))) (some (decide (p0c.Kind = (9 : Int))))))) : Option Bool).bind fun (x32 : Bool) => (cond x32 (some ([] : List UInt8)) (some p0c.Key))) : Option (List UInt8)).bind fun (x29 : (List UInt8)) => (((((cond (decide (p0c.Kind = (3 : Int))) (some (decide (p0c.Kind = (3 : Int)))) (cond (decide (p0c.Kind = (5 : Int))) (some (decide (p0c.Kind = (5 : Int)))) (cond (decide (p0c.Kind = (7 : Int))) (some (decide (p0c.Kind = (7 : Int)))) (some (decide (p0c.Kind = (9 : Int))))))) : Option Bool).bind fun (x44 : Bool) => (cond x44 (some (0 : Int)) (some p0c.N))) : Option Int).bind fun (x41 : Int) => (((((cond (decide (p0c.Kind = (2 : Int))) (some (decide (p0c.Kind = (2 : Int)))) (cond (decide (p0c.Kind = (3 : Int))) (some (decide (p0c.Kind = (3 : Int)))) (some (decide (p0c.Kind = (4 : Int)))))) : Option Bool).bind fun (x56 : Bool) => (cond x56 (some (ApiCommand.mk p0c.Kind x1 x15 x29 x41 p0c.Data p0c.Opts)) (some (ApiCommand.mk p0c.Kind x1 x15 x29 x41 (ApiValue.mk (0 : Int) (0 : Int) ([] : List UInt8) ([] : (List ApiValue)) ([] : (List (List UInt8)))) p0c.Opts)))) : Option ApiCommand).bind fun (x53 : ApiCommand) => (cond (decide (x53.Kind = (1 : Int))) (some (ApiCommand.mk x53.Kind x53.Seq x53.Name x53.Key x53.N x53.Data (ApiPolicy.mk ([] : List UInt8) (0 : Int) (0 : Int) (0 : Int) (0 : Int) (0 : Int) (0 : Int) (0 : Int) (0 : Int) ([] : (List (List UInt8)))))) (some x53))))))
theorem w_ref20xbare {p0c : ApiCommand} {res : ApiCommand} (h : ref20xbare p0c = some res) : ACalls Try.prog 49 [.agg (AV.cs (rowApiCommand p0c))] [] (.agg (AV.cs (rowApiCommand res))) [] := by
 unfold ref20xbare at h
 refine acalls (fn := Try.f49) [0, 1, 2, 4, 5, 14, 15, 24, 25, 32, 33, 40, 43, 49] (by kernel_rfl) Try.func49 rfl (by kernel_rfl) (by kernel_rfl) <| w_sr <| o_box (v := .agg aIISSIIISLLSIIIIIIIIL) (n := 0) (cs := aIISSIIISLLSIIIIIIIIL) (σ' := [aIISSIIISLLSIIIIIIIIL]) rfl rfl rfl rfl rfl <| o_alloc (n := 1) (cs := [aI, aI, aS, aS, aI, aI, aI, aS, .nil, .nil, aS, aI, aI, aI, aI, aI, aI, aI, aI, .nil]) (σ' := [aIISSIIISLLSIIIIIIIIL, [aI, aI, aS, aS, aI, aI, aI, aS, .nil, .nil, aS, aI, aI, aI, aI, aI, aI, aI, aI, .nil]]) tz29 rfl rfl rfl <| o_ek (fr' := [(1, .box 0 0), (2, .box 1 0)]) rfl rfl ?_
 obtain ⟨x1, hx1, h2⟩ := bind_s h
 refine w_join (fun j3 => x1 = j3) (fun (j3 : Int) => ([(1, .box 0 0), (2, .box 1 0)] : Fr)) (fun (j3 : Int) => ([[.c (.int .i64 p0c.Kind), .c (.int .i64 j3), .c (.str p0c.Name), .c (.str p0c.Key), .c (.int .i64 p0c.N), .c (.int .i64 p0c.Data.Kind), .c (.int .i64 p0c.Data.Int), .c (.str p0c.Data.Text), .c (PV.ls 5 rowApiValue p0c.Data.Items), .c (PV.ls 1 rowS p0c.Data.Keys), .c (.str p0c.Opts.Queue), .c (.int .i64 p0c.Opts.ToStart), .c (.int .i64 p0c.Opts.ToClose), .c (.int .i64 p0c.Opts.Total), .c (.int .i64 p0c.Opts.Beat), .c (.int .i64 p0c.Opts.First), .c (.int .i64 p0c.Opts.Coef), .c (.int .i64 p0c.Opts.Most), .c (.int .i64 p0c.Opts.Attempts), .c (PV.ls 1 rowS p0c.Opts.Fatal)], [.c (.int .i64 (0 : Int)), .c (.int .i64 (0 : Int)), .c (.str ([] : List UInt8)), .c (.str ([] : List UInt8)), .c (.int .i64 (0 : Int)), .c (.int .i64 (0 : Int)), .c (.int .i64 (0 : Int)), .c (.str ([] : List UInt8)), .nil, .nil, .c (.str ([] : List UInt8)), .c (.int .i64 (0 : Int)), .c (.int .i64 (0 : Int)), .c (.int .i64 (0 : Int)), .c (.int .i64 (0 : Int)), .c (.int .i64 (0 : Int)), .c (.int .i64 (0 : Int)), .c (.int .i64 (0 : Int)), .c (.int .i64 (0 : Int)), .nil]] : St)) ?_ ?_
 ·
  refine w_sr <| o_p rfl (p_fa tf29x0 rfl) <| o_p rfl (p_load (v := aI) tv3 rfl rfl rfl) <| o_ek (fr' := [(1, .box 0 0), (2, .box 1 0), (4, aI)]) rfl rfl <| w_block ?_
  obtain ⟨x4, hx4, h5⟩ := bind_s hx1
  refine w_join (fun j6 => x4 = j6) (fun (j6 : Bool) => ([(1, .box 0 0), (2, .box 1 0), (5, .c (.bool j6))] : Fr)) (fun (j6 : Bool) => ([[.c (.int .i64 p0c.Kind), .c (.int .i64 p0c.Seq), .c (.str p0c.Name), .c (.str p0c.Key), .c (.int .i64 p0c.N), .c (.int .i64 p0c.Data.Kind), .c (.int .i64 p0c.Data.Int), .c (.str p0c.Data.Text), .c (PV.ls 5 rowApiValue p0c.Data.Items), .c (PV.ls 1 rowS p0c.Data.Keys), .c (.str p0c.Opts.Queue), .c (.int .i64 p0c.Opts.ToStart), .c (.int .i64 p0c.Opts.ToClose), .c (.int .i64 p0c.Opts.Total), .c (.int .i64 p0c.Opts.Beat), .c (.int .i64 p0c.Opts.First), .c (.int .i64 p0c.Opts.Coef), .c (.int .i64 p0c.Opts.Most), .c (.int .i64 p0c.Opts.Attempts), .c (PV.ls 1 rowS p0c.Opts.Fatal)], [.c (.int .i64 (0 : Int)), .c (.int .i64 (0 : Int)), .c (.str ([] : List UInt8)), .c (.str ([] : List UInt8)), .c (.int .i64 (0 : Int)), .c (.int .i64 (0 : Int)), .c (.int .i64 (0 : Int)), .c (.str ([] : List UInt8)), .nil, .nil, .c (.str ([] : List UInt8)), .c (.int .i64 (0 : Int)), .c (.int .i64 (0 : Int)), .c (.int .i64 (0 : Int)), .c (.int .i64 (0 : Int)), .c (.int .i64 (0 : Int)), .c (.int .i64 (0 : Int)), .c (.int .i64 (0 : Int)), .c (.int .i64 (0 : Int)), .nil]] : St)) ?_ ?_
  ·
   refine w_sr <| o_p rfl (p_eql rfl rfl) <| sB rfl <| o_ek (fr' := [(1, .box 0 0), (2, .box 1 0), (4, aI), (5, aB)]) rfl rfl <| w_ch hx4 rfl (fun hb7 h7 => ?_) (fun hb7 h7 => ?_)
   ·
    exact w_skip <| e_j _ (sy h7) (w_weak [] 2 rfl rfl rfl rfl ⟨lr, lr, lr, trivial⟩ (st_r rfl (st_r rfl st_nil)))
   ·
    refine w_sr <| o_p rfl (p_eql rfl rfl) <| sB rfl <| o_ek (fr' := [(1, .box 0 0), (2, .box 1 0), (4, aI), (5, aB)]) rfl rfl <| w_ch h7 rfl (fun hb8 h8 => ?_) (fun hb8 h8 => ?_)
    ·
     exact w_skip <| e_j _ (sy h8) (w_weak [] 2 rfl rfl rfl rfl ⟨lr, lr, lr, trivial⟩ (st_r rfl (st_r rfl st_nil)))
    ·
     refine w_sr <| o_p rfl (p_eql rfl rfl) <| sB rfl <| o_ek (fr' := [(1, .box 0 0), (2, .box 1 0), (4, aI), (5, aB)]) rfl rfl <| w_ch h8 rfl (fun hb9 h9 => ?_) (fun hb9 h9 => ?_)
     ·
      exact w_skip <| e_j _ (sy h9) (w_weak [] 2 rfl rfl rfl rfl ⟨lr, lr, lr, trivial⟩ (st_r rfl (st_r rfl st_nil)))
     ·
      refine w_sr <| o_p rfl (p_eql rfl rfl) <| sB rfl <| o_ek (fr' := [(1, .box 0 0), (2, .box 1 0), (4, aI), (5, aB)]) rfl rfl <| w_ch h9 rfl (fun hb10 h10 => ?_) (fun hb10 h10 => ?_)
      ·
       exact w_skip <| e_j _ (sy h10) (w_weak [] 2 rfl rfl rfl rfl ⟨lr, lr, lr, trivial⟩ (st_r rfl (st_r rfl st_nil)))
      ·
       refine w_sr <| o_p rfl (p_eql rfl rfl) <| sB rfl <| o_ek (fr' := [(1, .box 0 0), (2, .box 1 0), (4, aI), (5, aB)]) rfl rfl <| w_ch h10 rfl (fun hb11 h11 => ?_) (fun hb11 h11 => ?_)
       ·
        exact w_skip <| e_j _ (sy h11) (w_weak [] 2 rfl rfl rfl rfl ⟨lr, lr, lr, trivial⟩ (st_r rfl (st_r rfl st_nil)))
       ·
        exact w_region <| o_p rfl (p_eql rfl rfl) <| sB rfl <| o_end (fr' := [(1, .box 0 0), (2, .box 1 0), (4, aI), (5, aB)]) rfl <| e_j _ (sy h11) (w_weak [] 2 rfl rfl rfl rfl ⟨lr, lr, lr, trivial⟩ (st_r rfl (st_r rfl st_nil)))
  ·
   intro j6 hj12
   subst hj12
   refine w_ch h5 rfl (fun hb13 h13 => ?_) (fun hb13 h13 => ?_)
   ·
    exact w_region <| o_p rfl (p_fa tf29x1 rfl) <| o_store (v := aI) (us := [aI]) (cs := aIISSIIISLLSIIIIIIIIL) (σ' := [aIISSIIISLLSIIIIIIIIL, [aI, aI, aS, aS, aI, aI, aI, aS, .nil, .nil, aS, aI, aI, aI, aI, aI, aI, aI, aI, .nil]]) rfl tv3 rfl rfl rfl rfl rfl rfl rfl rfl <| o_end (fr' := [(1, .box 0 0), (2, .box 1 0), (5, aB)]) rfl <| e_blk_n <| e_j _ (sy h13) (w_weak [] 2 rfl rfl rfl rfl ⟨lr, lr, trivial⟩ (st_r rfl (st_r rfl st_nil)))
   ·
    exact w_skip <| e_blk_n <| e_j _ (sy h13) (w_weak [] 2 rfl rfl rfl rfl ⟨lr, lr, trivial⟩ (st_r rfl (st_r rfl st_nil)))
 ·
  intro j3 hj14
  subst hj14
  obtain ⟨x15, hx15, h16⟩ := bind_s h2
  refine w_join (fun j17 => x15 = j17) (fun (j17 : (List UInt8)) => ([(1, .box 0 0), (2, .box 1 0)] : Fr)) (fun (j17 : (List UInt8)) => ([[.c (.int .i64 p0c.Kind), .c (.int .i64 x1), .c (.str j17), .c (.str p0c.Key), .c (.int .i64 p0c.N), .c (.int .i64 p0c.Data.Kind), .c (.int .i64 p0c.Data.Int), .c (.str p0c.Data.Text), .c (PV.ls 5 rowApiValue p0c.Data.Items), .c (PV.ls 1 rowS p0c.Data.Keys), .c (.str p0c.Opts.Queue), .c (.int .i64 p0c.Opts.ToStart), .c (.int .i64 p0c.Opts.ToClose), .c (.int .i64 p0c.Opts.Total), .c (.int .i64 p0c.Opts.Beat), .c (.int .i64 p0c.Opts.First), .c (.int .i64 p0c.Opts.Coef), .c (.int .i64 p0c.Opts.Most), .c (.int .i64 p0c.Opts.Attempts), .c (PV.ls 1 rowS p0c.Opts.Fatal)], [.c (.int .i64 (0 : Int)), .c (.int .i64 (0 : Int)), .c (.str ([] : List UInt8)), .c (.str ([] : List UInt8)), .c (.int .i64 (0 : Int)), .c (.int .i64 (0 : Int)), .c (.int .i64 (0 : Int)), .c (.str ([] : List UInt8)), .nil, .nil, .c (.str ([] : List UInt8)), .c (.int .i64 (0 : Int)), .c (.int .i64 (0 : Int)), .c (.int .i64 (0 : Int)), .c (.int .i64 (0 : Int)), .c (.int .i64 (0 : Int)), .c (.int .i64 (0 : Int)), .c (.int .i64 (0 : Int)), .c (.int .i64 (0 : Int)), .nil]] : St)) ?_ ?_
  ·
   refine w_sr <| o_p rfl (p_fa tf29x0 rfl) <| o_p rfl (p_load (v := aI) tv3 rfl rfl rfl) <| o_ek (fr' := [(1, .box 0 0), (2, .box 1 0), (14, aI)]) rfl rfl <| w_block ?_
   obtain ⟨x18, hx18, h19⟩ := bind_s hx15
   refine w_join (fun j20 => x18 = j20) (fun (j20 : Bool) => ([(1, .box 0 0), (2, .box 1 0), (15, .c (.bool j20))] : Fr)) (fun (j20 : Bool) => ([[.c (.int .i64 p0c.Kind), .c (.int .i64 x1), .c (.str p0c.Name), .c (.str p0c.Key), .c (.int .i64 p0c.N), .c (.int .i64 p0c.Data.Kind), .c (.int .i64 p0c.Data.Int), .c (.str p0c.Data.Text), .c (PV.ls 5 rowApiValue p0c.Data.Items), .c (PV.ls 1 rowS p0c.Data.Keys), .c (.str p0c.Opts.Queue), .c (.int .i64 p0c.Opts.ToStart), .c (.int .i64 p0c.Opts.ToClose), .c (.int .i64 p0c.Opts.Total), .c (.int .i64 p0c.Opts.Beat), .c (.int .i64 p0c.Opts.First), .c (.int .i64 p0c.Opts.Coef), .c (.int .i64 p0c.Opts.Most), .c (.int .i64 p0c.Opts.Attempts), .c (PV.ls 1 rowS p0c.Opts.Fatal)], [.c (.int .i64 (0 : Int)), .c (.int .i64 (0 : Int)), .c (.str ([] : List UInt8)), .c (.str ([] : List UInt8)), .c (.int .i64 (0 : Int)), .c (.int .i64 (0 : Int)), .c (.int .i64 (0 : Int)), .c (.str ([] : List UInt8)), .nil, .nil, .c (.str ([] : List UInt8)), .c (.int .i64 (0 : Int)), .c (.int .i64 (0 : Int)), .c (.int .i64 (0 : Int)), .c (.int .i64 (0 : Int)), .c (.int .i64 (0 : Int)), .c (.int .i64 (0 : Int)), .c (.int .i64 (0 : Int)), .c (.int .i64 (0 : Int)), .nil]] : St)) ?_ ?_
   ·
    refine w_sr <| o_p rfl (p_eql rfl rfl) <| sB rfl <| o_ek (fr' := [(1, .box 0 0), (2, .box 1 0), (14, aI), (15, aB)]) rfl rfl <| w_ch hx18 rfl (fun hb21 h21 => ?_) (fun hb21 h21 => ?_)
    ·
     exact w_skip <| e_j _ (sy h21) (w_weak [] 2 rfl rfl rfl rfl ⟨lr, lr, lr, trivial⟩ (st_r rfl (st_r rfl st_nil)))
    ·
     refine w_sr <| o_p rfl (p_eql rfl rfl) <| sB rfl <| o_ek (fr' := [(1, .box 0 0), (2, .box 1 0), (14, aI), (15, aB)]) rfl rfl <| w_ch h21 rfl (fun hb22 h22 => ?_) (fun hb22 h22 => ?_)
     ·
      exact w_skip <| e_j _ (sy h22) (w_weak [] 2 rfl rfl rfl rfl ⟨lr, lr, lr, trivial⟩ (st_r rfl (st_r rfl st_nil)))
     ·
      refine w_sr <| o_p rfl (p_eql rfl rfl) <| sB rfl <| o_ek (fr' := [(1, .box 0 0), (2, .box 1 0), (14, aI), (15, aB)]) rfl rfl <| w_ch h22 rfl (fun hb23 h23 => ?_) (fun hb23 h23 => ?_)
      ·
       exact w_skip <| e_j _ (sy h23) (w_weak [] 2 rfl rfl rfl rfl ⟨lr, lr, lr, trivial⟩ (st_r rfl (st_r rfl st_nil)))
      ·
       refine w_sr <| o_p rfl (p_eql rfl rfl) <| sB rfl <| o_ek (fr' := [(1, .box 0 0), (2, .box 1 0), (14, aI), (15, aB)]) rfl rfl <| w_ch h23 rfl (fun hb24 h24 => ?_) (fun hb24 h24 => ?_)
       ·
        exact w_skip <| e_j _ (sy h24) (w_weak [] 2 rfl rfl rfl rfl ⟨lr, lr, lr, trivial⟩ (st_r rfl (st_r rfl st_nil)))
       ·
        refine w_sr <| o_p rfl (p_eql rfl rfl) <| sB rfl <| o_ek (fr' := [(1, .box 0 0), (2, .box 1 0), (14, aI), (15, aB)]) rfl rfl <| w_ch h24 rfl (fun hb25 h25 => ?_) (fun hb25 h25 => ?_)
        ·
         exact w_skip <| e_j _ (sy h25) (w_weak [] 2 rfl rfl rfl rfl ⟨lr, lr, lr, trivial⟩ (st_r rfl (st_r rfl st_nil)))
        ·
         exact w_region <| o_p rfl (p_eql rfl rfl) <| sB rfl <| o_end (fr' := [(1, .box 0 0), (2, .box 1 0), (14, aI), (15, aB)]) rfl <| e_j _ (sy h25) (w_weak [] 2 rfl rfl rfl rfl ⟨lr, lr, lr, trivial⟩ (st_r rfl (st_r rfl st_nil)))
   ·
    intro j20 hj26
    subst hj26
    refine w_ch h19 rfl (fun hb27 h27 => ?_) (fun hb27 h27 => ?_)
    ·
     exact w_region <| o_p rfl (p_fa tf29x2 rfl) <| o_store (v := aS) (us := [aS]) (cs := aIISSIIISLLSIIIIIIIIL) (σ' := [aIISSIIISLLSIIIIIIIIL, [aI, aI, aS, aS, aI, aI, aI, aS, .nil, .nil, aS, aI, aI, aI, aI, aI, aI, aI, aI, .nil]]) rfl tv9 rfl rfl rfl rfl rfl rfl rfl rfl <| o_end (fr' := [(1, .box 0 0), (2, .box 1 0), (15, aB)]) rfl <| e_blk_n <| e_j _ (sy h27) (w_weak [] 2 rfl rfl rfl rfl ⟨lr, lr, trivial⟩ (st_r rfl (st_r rfl st_nil)))
    ·
     exact w_skip <| e_blk_n <| e_j _ (sy h27) (w_weak [] 2 rfl rfl rfl rfl ⟨lr, lr, trivial⟩ (st_r rfl (st_r rfl st_nil)))
  ·
   intro j17 hj28
   subst hj28
   obtain ⟨x29, hx29, h30⟩ := bind_s h16
   refine w_join (fun j31 => x29 = j31) (fun (j31 : (List UInt8)) => ([(1, .box 0 0), (2, .box 1 0)] : Fr)) (fun (j31 : (List UInt8)) => ([[.c (.int .i64 p0c.Kind), .c (.int .i64 x1), .c (.str x15), .c (.str j31), .c (.int .i64 p0c.N), .c (.int .i64 p0c.Data.Kind), .c (.int .i64 p0c.Data.Int), .c (.str p0c.Data.Text), .c (PV.ls 5 rowApiValue p0c.Data.Items), .c (PV.ls 1 rowS p0c.Data.Keys), .c (.str p0c.Opts.Queue), .c (.int .i64 p0c.Opts.ToStart), .c (.int .i64 p0c.Opts.ToClose), .c (.int .i64 p0c.Opts.Total), .c (.int .i64 p0c.Opts.Beat), .c (.int .i64 p0c.Opts.First), .c (.int .i64 p0c.Opts.Coef), .c (.int .i64 p0c.Opts.Most), .c (.int .i64 p0c.Opts.Attempts), .c (PV.ls 1 rowS p0c.Opts.Fatal)], [.c (.int .i64 (0 : Int)), .c (.int .i64 (0 : Int)), .c (.str ([] : List UInt8)), .c (.str ([] : List UInt8)), .c (.int .i64 (0 : Int)), .c (.int .i64 (0 : Int)), .c (.int .i64 (0 : Int)), .c (.str ([] : List UInt8)), .nil, .nil, .c (.str ([] : List UInt8)), .c (.int .i64 (0 : Int)), .c (.int .i64 (0 : Int)), .c (.int .i64 (0 : Int)), .c (.int .i64 (0 : Int)), .c (.int .i64 (0 : Int)), .c (.int .i64 (0 : Int)), .c (.int .i64 (0 : Int)), .c (.int .i64 (0 : Int)), .nil]] : St)) ?_ ?_
   ·
    refine w_sr <| o_p rfl (p_fa tf29x0 rfl) <| o_p rfl (p_load (v := aI) tv3 rfl rfl rfl) <| o_ek (fr' := [(1, .box 0 0), (2, .box 1 0), (24, aI)]) rfl rfl <| w_block ?_
    obtain ⟨x32, hx32, h33⟩ := bind_s hx29
    refine w_join (fun j34 => x32 = j34) (fun (j34 : Bool) => ([(1, .box 0 0), (2, .box 1 0), (25, .c (.bool j34))] : Fr)) (fun (j34 : Bool) => ([[.c (.int .i64 p0c.Kind), .c (.int .i64 x1), .c (.str x15), .c (.str p0c.Key), .c (.int .i64 p0c.N), .c (.int .i64 p0c.Data.Kind), .c (.int .i64 p0c.Data.Int), .c (.str p0c.Data.Text), .c (PV.ls 5 rowApiValue p0c.Data.Items), .c (PV.ls 1 rowS p0c.Data.Keys), .c (.str p0c.Opts.Queue), .c (.int .i64 p0c.Opts.ToStart), .c (.int .i64 p0c.Opts.ToClose), .c (.int .i64 p0c.Opts.Total), .c (.int .i64 p0c.Opts.Beat), .c (.int .i64 p0c.Opts.First), .c (.int .i64 p0c.Opts.Coef), .c (.int .i64 p0c.Opts.Most), .c (.int .i64 p0c.Opts.Attempts), .c (PV.ls 1 rowS p0c.Opts.Fatal)], [.c (.int .i64 (0 : Int)), .c (.int .i64 (0 : Int)), .c (.str ([] : List UInt8)), .c (.str ([] : List UInt8)), .c (.int .i64 (0 : Int)), .c (.int .i64 (0 : Int)), .c (.int .i64 (0 : Int)), .c (.str ([] : List UInt8)), .nil, .nil, .c (.str ([] : List UInt8)), .c (.int .i64 (0 : Int)), .c (.int .i64 (0 : Int)), .c (.int .i64 (0 : Int)), .c (.int .i64 (0 : Int)), .c (.int .i64 (0 : Int)), .c (.int .i64 (0 : Int)), .c (.int .i64 (0 : Int)), .c (.int .i64 (0 : Int)), .nil]] : St)) ?_ ?_
    ·
     refine w_sr <| o_p rfl (p_eql rfl rfl) <| sB rfl <| o_ek (fr' := [(1, .box 0 0), (2, .box 1 0), (24, aI), (25, aB)]) rfl rfl <| w_ch hx32 rfl (fun hb35 h35 => ?_) (fun hb35 h35 => ?_)
     ·
      exact w_skip <| e_j _ (sy h35) (w_weak [] 2 rfl rfl rfl rfl ⟨lr, lr, lr, trivial⟩ (st_r rfl (st_r rfl st_nil)))
     ·
      refine w_sr <| o_p rfl (p_eql rfl rfl) <| sB rfl <| o_ek (fr' := [(1, .box 0 0), (2, .box 1 0), (24, aI), (25, aB)]) rfl rfl <| w_ch h35 rfl (fun hb36 h36 => ?_) (fun hb36 h36 => ?_)
      ·
       exact w_skip <| e_j _ (sy h36) (w_weak [] 2 rfl rfl rfl rfl ⟨lr, lr, lr, trivial⟩ (st_r rfl (st_r rfl st_nil)))
      ·
       refine w_sr <| o_p rfl (p_eql rfl rfl) <| sB rfl <| o_ek (fr' := [(1, .box 0 0), (2, .box 1 0), (24, aI), (25, aB)]) rfl rfl <| w_ch h36 rfl (fun hb37 h37 => ?_) (fun hb37 h37 => ?_)
       ·
        exact w_skip <| e_j _ (sy h37) (w_weak [] 2 rfl rfl rfl rfl ⟨lr, lr, lr, trivial⟩ (st_r rfl (st_r rfl st_nil)))
       ·
        exact w_region <| o_p rfl (p_eql rfl rfl) <| sB rfl <| o_end (fr' := [(1, .box 0 0), (2, .box 1 0), (24, aI), (25, aB)]) rfl <| e_j _ (sy h37) (w_weak [] 2 rfl rfl rfl rfl ⟨lr, lr, lr, trivial⟩ (st_r rfl (st_r rfl st_nil)))
    ·
     intro j34 hj38
     subst hj38
     refine w_ch h33 rfl (fun hb39 h39 => ?_) (fun hb39 h39 => ?_)
     ·
      exact w_region <| o_p rfl (p_fa tf29x3 rfl) <| o_store (v := aS) (us := [aS]) (cs := aIISSIIISLLSIIIIIIIIL) (σ' := [aIISSIIISLLSIIIIIIIIL, [aI, aI, aS, aS, aI, aI, aI, aS, .nil, .nil, aS, aI, aI, aI, aI, aI, aI, aI, aI, .nil]]) rfl tv9 rfl rfl rfl rfl rfl rfl rfl rfl <| o_end (fr' := [(1, .box 0 0), (2, .box 1 0), (25, aB)]) rfl <| e_blk_n <| e_j _ (sy h39) (w_weak [] 2 rfl rfl rfl rfl ⟨lr, lr, trivial⟩ (st_r rfl (st_r rfl st_nil)))
     ·
      exact w_skip <| e_blk_n <| e_j _ (sy h39) (w_weak [] 2 rfl rfl rfl rfl ⟨lr, lr, trivial⟩ (st_r rfl (st_r rfl st_nil)))
   ·
    intro j31 hj40
    subst hj40
    obtain ⟨x41, hx41, h42⟩ := bind_s h30
    refine w_join (fun j43 => x41 = j43) (fun (j43 : Int) => ([(1, .box 0 0), (2, .box 1 0)] : Fr)) (fun (j43 : Int) => ([[.c (.int .i64 p0c.Kind), .c (.int .i64 x1), .c (.str x15), .c (.str x29), .c (.int .i64 j43), .c (.int .i64 p0c.Data.Kind), .c (.int .i64 p0c.Data.Int), .c (.str p0c.Data.Text), .c (PV.ls 5 rowApiValue p0c.Data.Items), .c (PV.ls 1 rowS p0c.Data.Keys), .c (.str p0c.Opts.Queue), .c (.int .i64 p0c.Opts.ToStart), .c (.int .i64 p0c.Opts.ToClose), .c (.int .i64 p0c.Opts.Total), .c (.int .i64 p0c.Opts.Beat), .c (.int .i64 p0c.Opts.First), .c (.int .i64 p0c.Opts.Coef), .c (.int .i64 p0c.Opts.Most), .c (.int .i64 p0c.Opts.Attempts), .c (PV.ls 1 rowS p0c.Opts.Fatal)], [.c (.int .i64 (0 : Int)), .c (.int .i64 (0 : Int)), .c (.str ([] : List UInt8)), .c (.str ([] : List UInt8)), .c (.int .i64 (0 : Int)), .c (.int .i64 (0 : Int)), .c (.int .i64 (0 : Int)), .c (.str ([] : List UInt8)), .nil, .nil, .c (.str ([] : List UInt8)), .c (.int .i64 (0 : Int)), .c (.int .i64 (0 : Int)), .c (.int .i64 (0 : Int)), .c (.int .i64 (0 : Int)), .c (.int .i64 (0 : Int)), .c (.int .i64 (0 : Int)), .c (.int .i64 (0 : Int)), .c (.int .i64 (0 : Int)), .nil]] : St)) ?_ ?_
    ·
     refine w_sr <| o_p rfl (p_fa tf29x0 rfl) <| o_p rfl (p_load (v := aI) tv3 rfl rfl rfl) <| o_ek (fr' := [(1, .box 0 0), (2, .box 1 0), (32, aI)]) rfl rfl <| w_block ?_
     obtain ⟨x44, hx44, h45⟩ := bind_s hx41
     refine w_join (fun j46 => x44 = j46) (fun (j46 : Bool) => ([(1, .box 0 0), (2, .box 1 0), (33, .c (.bool j46))] : Fr)) (fun (j46 : Bool) => ([[.c (.int .i64 p0c.Kind), .c (.int .i64 x1), .c (.str x15), .c (.str x29), .c (.int .i64 p0c.N), .c (.int .i64 p0c.Data.Kind), .c (.int .i64 p0c.Data.Int), .c (.str p0c.Data.Text), .c (PV.ls 5 rowApiValue p0c.Data.Items), .c (PV.ls 1 rowS p0c.Data.Keys), .c (.str p0c.Opts.Queue), .c (.int .i64 p0c.Opts.ToStart), .c (.int .i64 p0c.Opts.ToClose), .c (.int .i64 p0c.Opts.Total), .c (.int .i64 p0c.Opts.Beat), .c (.int .i64 p0c.Opts.First), .c (.int .i64 p0c.Opts.Coef), .c (.int .i64 p0c.Opts.Most), .c (.int .i64 p0c.Opts.Attempts), .c (PV.ls 1 rowS p0c.Opts.Fatal)], [.c (.int .i64 (0 : Int)), .c (.int .i64 (0 : Int)), .c (.str ([] : List UInt8)), .c (.str ([] : List UInt8)), .c (.int .i64 (0 : Int)), .c (.int .i64 (0 : Int)), .c (.int .i64 (0 : Int)), .c (.str ([] : List UInt8)), .nil, .nil, .c (.str ([] : List UInt8)), .c (.int .i64 (0 : Int)), .c (.int .i64 (0 : Int)), .c (.int .i64 (0 : Int)), .c (.int .i64 (0 : Int)), .c (.int .i64 (0 : Int)), .c (.int .i64 (0 : Int)), .c (.int .i64 (0 : Int)), .c (.int .i64 (0 : Int)), .nil]] : St)) ?_ ?_
     ·
      refine w_sr <| o_p rfl (p_eql rfl rfl) <| sB rfl <| o_ek (fr' := [(1, .box 0 0), (2, .box 1 0), (32, aI), (33, aB)]) rfl rfl <| w_ch hx44 rfl (fun hb47 h47 => ?_) (fun hb47 h47 => ?_)
      ·
       exact w_skip <| e_j _ (sy h47) (w_weak [] 2 rfl rfl rfl rfl ⟨lr, lr, lr, trivial⟩ (st_r rfl (st_r rfl st_nil)))
      ·
       refine w_sr <| o_p rfl (p_eql rfl rfl) <| sB rfl <| o_ek (fr' := [(1, .box 0 0), (2, .box 1 0), (32, aI), (33, aB)]) rfl rfl <| w_ch h47 rfl (fun hb48 h48 => ?_) (fun hb48 h48 => ?_)
       ·
        exact w_skip <| e_j _ (sy h48) (w_weak [] 2 rfl rfl rfl rfl ⟨lr, lr, lr, trivial⟩ (st_r rfl (st_r rfl st_nil)))
       ·
        refine w_sr <| o_p rfl (p_eql rfl rfl) <| sB rfl <| o_ek (fr' := [(1, .box 0 0), (2, .box 1 0), (32, aI), (33, aB)]) rfl rfl <| w_ch h48 rfl (fun hb49 h49 => ?_) (fun hb49 h49 => ?_)
        ·
         exact w_skip <| e_j _ (sy h49) (w_weak [] 2 rfl rfl rfl rfl ⟨lr, lr, lr, trivial⟩ (st_r rfl (st_r rfl st_nil)))
        ·
         exact w_region <| o_p rfl (p_eql rfl rfl) <| sB rfl <| o_end (fr' := [(1, .box 0 0), (2, .box 1 0), (32, aI), (33, aB)]) rfl <| e_j _ (sy h49) (w_weak [] 2 rfl rfl rfl rfl ⟨lr, lr, lr, trivial⟩ (st_r rfl (st_r rfl st_nil)))
     ·
      intro j46 hj50
      subst hj50
      refine w_ch h45 rfl (fun hb51 h51 => ?_) (fun hb51 h51 => ?_)
      ·
       exact w_region <| o_p rfl (p_fa tf29x4 rfl) <| o_store (v := aI) (us := [aI]) (cs := aIISSIIISLLSIIIIIIIIL) (σ' := [aIISSIIISLLSIIIIIIIIL, [aI, aI, aS, aS, aI, aI, aI, aS, .nil, .nil, aS, aI, aI, aI, aI, aI, aI, aI, aI, .nil]]) rfl tv3 rfl rfl rfl rfl rfl rfl rfl rfl <| o_end (fr' := [(1, .box 0 0), (2, .box 1 0), (33, aB)]) rfl <| e_blk_n <| e_j _ (sy h51) (w_weak [] 2 rfl rfl rfl rfl ⟨lr, lr, trivial⟩ (st_r rfl (st_r rfl st_nil)))
      ·
       exact w_skip <| e_blk_n <| e_j _ (sy h51) (w_weak [] 2 rfl rfl rfl rfl ⟨lr, lr, trivial⟩ (st_r rfl (st_r rfl st_nil)))
    ·
     intro j43 hj52
     subst hj52
     obtain ⟨x53, hx53, h54⟩ := bind_s h42
     refine w_join (fun j55 => x53 = j55) (fun (j55 : ApiCommand) => ([(1, .box 0 0), (2, .box 1 0)] : Fr)) (fun (j55 : ApiCommand) => ([[.c (.int .i64 j55.Kind), .c (.int .i64 j55.Seq), .c (.str j55.Name), .c (.str j55.Key), .c (.int .i64 j55.N), .c (.int .i64 j55.Data.Kind), .c (.int .i64 j55.Data.Int), .c (.str j55.Data.Text), .c (PV.ls 5 rowApiValue j55.Data.Items), .c (PV.ls 1 rowS j55.Data.Keys), .c (.str j55.Opts.Queue), .c (.int .i64 j55.Opts.ToStart), .c (.int .i64 j55.Opts.ToClose), .c (.int .i64 j55.Opts.Total), .c (.int .i64 j55.Opts.Beat), .c (.int .i64 j55.Opts.First), .c (.int .i64 j55.Opts.Coef), .c (.int .i64 j55.Opts.Most), .c (.int .i64 j55.Opts.Attempts), .c (PV.ls 1 rowS j55.Opts.Fatal)], [.c (.int .i64 (0 : Int)), .c (.int .i64 (0 : Int)), .c (.str ([] : List UInt8)), .c (.str ([] : List UInt8)), .c (.int .i64 (0 : Int)), .c (.int .i64 (0 : Int)), .c (.int .i64 (0 : Int)), .c (.str ([] : List UInt8)), .nil, .nil, .c (.str ([] : List UInt8)), .c (.int .i64 (0 : Int)), .c (.int .i64 (0 : Int)), .c (.int .i64 (0 : Int)), .c (.int .i64 (0 : Int)), .c (.int .i64 (0 : Int)), .c (.int .i64 (0 : Int)), .c (.int .i64 (0 : Int)), .c (.int .i64 (0 : Int)), .nil]] : St)) ?_ ?_
     ·
      refine w_sr <| o_p rfl (p_fa tf29x0 rfl) <| o_p rfl (p_load (v := aI) tv3 rfl rfl rfl) <| o_ek (fr' := [(1, .box 0 0), (2, .box 1 0), (40, aI)]) rfl rfl <| w_block ?_
      obtain ⟨x56, hx56, h57⟩ := bind_s hx53
      refine w_join (fun j58 => x56 = j58) (fun (j58 : Bool) => ([(1, .box 0 0), (2, .box 1 0), (43, .c (.bool j58))] : Fr)) (fun (j58 : Bool) => ([[.c (.int .i64 p0c.Kind), .c (.int .i64 x1), .c (.str x15), .c (.str x29), .c (.int .i64 x41), .c (.int .i64 p0c.Data.Kind), .c (.int .i64 p0c.Data.Int), .c (.str p0c.Data.Text), .c (PV.ls 5 rowApiValue p0c.Data.Items), .c (PV.ls 1 rowS p0c.Data.Keys), .c (.str p0c.Opts.Queue), .c (.int .i64 p0c.Opts.ToStart), .c (.int .i64 p0c.Opts.ToClose), .c (.int .i64 p0c.Opts.Total), .c (.int .i64 p0c.Opts.Beat), .c (.int .i64 p0c.Opts.First), .c (.int .i64 p0c.Opts.Coef), .c (.int .i64 p0c.Opts.Most), .c (.int .i64 p0c.Opts.Attempts), .c (PV.ls 1 rowS p0c.Opts.Fatal)], [.c (.int .i64 (0 : Int)), .c (.int .i64 (0 : Int)), .c (.str ([] : List UInt8)), .c (.str ([] : List UInt8)), .c (.int .i64 (0 : Int)), .c (.int .i64 (0 : Int)), .c (.int .i64 (0 : Int)), .c (.str ([] : List UInt8)), .nil, .nil, .c (.str ([] : List UInt8)), .c (.int .i64 (0 : Int)), .c (.int .i64 (0 : Int)), .c (.int .i64 (0 : Int)), .c (.int .i64 (0 : Int)), .c (.int .i64 (0 : Int)), .c (.int .i64 (0 : Int)), .c (.int .i64 (0 : Int)), .c (.int .i64 (0 : Int)), .nil]] : St)) ?_ ?_
      ·
       refine w_sr <| o_p rfl (p_eql rfl rfl) <| sB rfl <| o_ek (fr' := [(1, .box 0 0), (2, .box 1 0), (40, aI), (43, aB)]) rfl rfl <| w_ch hx56 rfl (fun hb59 h59 => ?_) (fun hb59 h59 => ?_)
       ·
        exact w_skip <| e_j _ (sy h59) (w_weak [] 2 rfl rfl rfl rfl ⟨lr, lr, lr, trivial⟩ (st_r rfl (st_r rfl st_nil)))
       ·
        refine w_sr <| o_p rfl (p_eql rfl rfl) <| sB rfl <| o_ek (fr' := [(1, .box 0 0), (2, .box 1 0), (40, aI), (43, aB)]) rfl rfl <| w_ch h59 rfl (fun hb60 h60 => ?_) (fun hb60 h60 => ?_)
        ·
         exact w_skip <| e_j _ (sy h60) (w_weak [] 2 rfl rfl rfl rfl ⟨lr, lr, lr, trivial⟩ (st_r rfl (st_r rfl st_nil)))
        ·
         exact w_region <| o_p rfl (p_eql rfl rfl) <| sB rfl <| o_end (fr' := [(1, .box 0 0), (2, .box 1 0), (40, aI), (43, aB)]) rfl <| e_j _ (sy h60) (w_weak [] 2 rfl rfl rfl rfl ⟨lr, lr, lr, trivial⟩ (st_r rfl (st_r rfl st_nil)))
      ·
       intro j58 hj61
       subst hj61
       refine w_ch h57 rfl (fun hb62 h62 => ?_) (fun hb62 h62 => ?_)
       ·
        exact w_skip <| e_blk_n <| e_j _ (sy h62) (w_weak [] 2 rfl rfl rfl rfl ⟨lr, lr, trivial⟩ (st_r rfl (st_r rfl st_nil)))
       ·
        exact w_region <| o_p rfl (p_build (cs := [aI, aI, aS, .nil, .nil]) tb25 rfl) <| o_p rfl (p_fa tf29x5 rfl) <| o_store (v := .agg [aI, aI, aS, .nil, .nil]) (us := [aI, aI, aS, .nil, .nil]) (cs := aIISSIIISLLSIIIIIIIIL) (σ' := [[aI, aI, aS, aS, aI, aI, aI, aS, .nil, .nil, aS, aI, aI, aI, aI, aI, aI, aI, aI, aL], [aI, aI, aS, aS, aI, aI, aI, aS, .nil, .nil, aS, aI, aI, aI, aI, aI, aI, aI, aI, .nil]]) rfl tv25 rfl rfl rfl rfl rfl rfl rfl rfl <| o_end (fr' := [(1, .box 0 0), (2, .box 1 0), (43, aB)]) rfl <| e_blk_n <| e_j _ (sy h62) (w_weak [] 2 rfl rfl rfl rfl ⟨lr, lr, trivial⟩ (st_p ⟨lr, lr, lr, lr, lr, lr, lr, lr, le_nls, le_nls, lr, lr, lr, lr, lr, lr, lr, lr, lr, lr, trivial⟩ (st_r rfl st_nil)))
     ·
      intro j55 hj63
      subst hj63
      refine w_seqw <| w_sr <| o_p rfl (p_fa tf29x0 rfl) <| o_p rfl (p_load (v := aI) tv3 rfl rfl rfl) <| o_p rfl (p_eql rfl rfl) <| o_ek (fr' := [(1, .box 0 0), (2, .box 1 0), (49, aB)]) rfl rfl <| w_ch h54 rfl (fun hb64 h64 => ?_) (fun hb64 h64 => ?_)
      ·
       refine w_region <| o_p rfl (p_buildc (c0 := [aS, aI, aI, aI, aI, aI, aI, aI, aI, .nil]) (cs := [aS, aI, aI, aI, aI, aI, aI, aI, aI, .nil]) tb27 rfl fill_nil) <| o_p rfl (p_fa tf29x6 rfl) <| o_store (v := .agg [aS, aI, aI, aI, aI, aI, aI, aI, aI, .nil]) (us := [aS, aI, aI, aI, aI, aI, aI, aI, aI, .nil]) (cs := aIISSIIISLLSIIIIIIIIL) (σ' := [[aI, aI, aS, aS, aI, aI, aI, aS, aL, aL, aS, aI, aI, aI, aI, aI, aI, aI, aI, .nil], [aI, aI, aS, aS, aI, aI, aI, aS, .nil, .nil, aS, aI, aI, aI, aI, aI, aI, aI, aI, .nil]]) rfl tv27 rfl rfl rfl rfl rfl rfl rfl rfl <| o_ek (fr' := [(1, .box 0 0), (2, .box 1 0)]) rfl rfl <| w_sr <| o_p rfl (p_loads (us := [aI, aI, aS, aS, aI, aI, aI, aS, aL, aL, aS, aI, aI, aI, aI, aI, aI, aI, aI, .nil]) tv29 rfl rfl rfl rfl) <| o_store (v := .agg [aI, aI, aS, aS, aI, aI, aI, aS, aL, aL, aS, aI, aI, aI, aI, aI, aI, aI, aI, .nil]) (us := [aI, aI, aS, aS, aI, aI, aI, aS, aL, aL, aS, aI, aI, aI, aI, aI, aI, aI, aI, .nil]) (cs := [aI, aI, aS, aS, aI, aI, aI, aS, .nil, .nil, aS, aI, aI, aI, aI, aI, aI, aI, aI, .nil]) (σ' := [[aI, aI, aS, aS, aI, aI, aI, aS, aL, aL, aS, aI, aI, aI, aI, aI, aI, aI, aI, .nil], [aI, aI, aS, aS, aI, aI, aI, aS, aL, aL, aS, aI, aI, aI, aI, aI, aI, aI, aI, .nil]]) rfl tv29 rfl rfl rfl rfl rfl rfl rfl rfl <| o_ek (fr' := [(2, .box 1 0)]) rfl rfl <| w_ret ?_
       obtain rfl := sy h64
       exact e_ret (rs' := [.cell 2 29]) rfl <| r_cells (us := [aI, aI, aS, aS, aI, aI, aI, aS, aL, aL, aS, aI, aI, aI, aI, aI, aI, aI, aI, .nil]) (cs := [aI, aI, aS, aS, aI, aI, aI, aS, aL, aL, aS, aI, aI, aI, aI, aI, aI, aI, aI, .nil]) tv29 rfl rfl rfl rfl <| r_nil <| fin_gen [] rfl rfl rfl (le_aggc rfl ⟨rfl, rfl, rfl, rfl, rfl, rfl, rfl, rfl, rfl, rfl, rfl, rfl, rfl, rfl, rfl, rfl, rfl, rfl, rfl, ⟨_, rfl⟩, trivial⟩) st_nil
      ·
       refine w_skip <| e_kw <| w_sr <| o_p rfl (p_loads (us := aIISSIIISLLSIIIIIIIIL) tv29 rfl rfl rfl rfl) <| o_store (v := .agg aIISSIIISLLSIIIIIIIIL) (us := aIISSIIISLLSIIIIIIIIL) (cs := [aI, aI, aS, aS, aI, aI, aI, aS, .nil, .nil, aS, aI, aI, aI, aI, aI, aI, aI, aI, .nil]) (σ' := [aIISSIIISLLSIIIIIIIIL, aIISSIIISLLSIIIIIIIIL]) rfl tv29 rfl rfl rfl rfl rfl rfl rfl rfl <| o_ek (fr' := [(2, .box 1 0)]) rfl rfl <| w_ret ?_
       obtain rfl := sy h64
       exact e_ret (rs' := [.cell 2 29]) rfl <| r_cells (us := aIISSIIISLLSIIIIIIIIL) (cs := aIISSIIISLLSIIIIIIIIL) tv29 rfl rfl rfl rfl <| r_nil <| fin_gen [] rfl rfl rfl (le_aggc rfl ⟨rfl, rfl, rfl, rfl, rfl, rfl, rfl, rfl, rfl, rfl, rfl, rfl, rfl, rfl, rfl, rfl, rfl, rfl, rfl, rfl, trivial⟩) st_nil
noncomputable def ref02xRising_l1 (p0keys : (List (List UInt8))) (s4 : Int) : Option (Step Int (Fl Bool Unit)) :=
 cond (decide (s4 < ((p0keys).length : Int))) ((idx p0keys (IntKind.wrap .i64 (s4 - (1 : Int)))).bind fun (x6 : (List UInt8)) => (idx p0keys s4).bind fun (x8 : (List UInt8)) => cond (!Op.bytesLess x6 x8) (some (Step.out (Fl.done false))) (some (Step.next (IntKind.wrap .i64 (s4 + (1 : Int)))))) (some (Step.out (Fl.go ())))
noncomputable def ref02xRising (p0keys : (List (List UInt8))) : Option Bool :=
 ((loopO (ref02xRising_l1 p0keys) ((1 : Int))) : Option (Fl Bool Unit)).bind fun (x1 : (Fl Bool Unit)) => Fl.next x1 (fun (j3 : Unit) => (some true))
theorem w_ref02xRising {p0keys : (List (List UInt8))} {res : Bool} (h : ref02xRising p0keys = some res) : ACalls Try.prog 109 [.c (PV.ls 1 rowS p0keys)] [] (.c (.bool res)) [] := by
 unfold ref02xRising at h
 refine acalls (fn := Try.f109) [0, 2, 3, 7, 19] (by kernel_rfl) Try.func109 rfl (by kernel_rfl) (by kernel_rfl) <| w_sr <| sB rfl <| o_ek (fr' := [(0, aL)]) rfl rfl <| w_seqw <| w_sr <| sI rfl <| o_ek (fr' := [(0, aL), (3, aI)]) rfl rfl ?_
 obtain ⟨x1, hx1, h2⟩ := bind_s h
 refine w_jtail cl_kw (fun j3 => x1 = Fl.go j3) (fun (j3 : Unit) => ([] : Fr)) (fun (j3 : Unit) => ([] : St)) ?_ ?_
 ·
  refine w_block <| w_loopo _ (fun (s4 : Int) => ([(0, .c (PV.ls 1 rowS p0keys)), (3, .c (.int .i64 s4))] : Fr)) (fun (s4 : Int) => ([] : St)) hx1 (w_weak [] 0 rfl rfl rfl rfl ⟨lr, lr, trivial⟩ st_nil) ?_
  intro s4 st4 hs4 ho4
  unfold ref02xRising_l1 at hs4
  refine w_seqw <| w_sr <| mI rfl <| mL rfl <| o_p rfl (p_len ti23 (isl_c rfl)) <| o_p rfl (p_lss rfl rfl) <| o_ek (fr' := [(0, aL), (3, aI), (7, aB)]) rfl rfl <| w_ch hs4 rfl (fun hb5 h5 => ?_) (fun hb5 h5 => ?_)
  ·
   refine w_skip <| e_kw <| w_seqw <| w_block <| w_seqw <| w_planT [.q 0, .q 1, .q 2, .q 3, .q 4, .q 5, .q 6, .q 7, .q 8, .q 9] [(some 10, [0]), (some 11, [3]), (some 12, [11]), (some 13, [10, 12]), (some 14, [13]), (some 15, [0]), (some 16, [3]), (some 17, [15, 16]), (some 18, [17]), (some 19, [14, 18])] [0, 0, 2, 7, 15, 0, 0, 96, 224, 511] (by kernel_rfl) <| dq rfl rfl (p_move (v := aL) rfl) <| dq rfl rfl (p_move (v := aI) rfl) <| dq rfl rfl (p_sub rfl rfl) ?_
   obtain ⟨x6, hx6, h7⟩ := bind_s h5
   refine dq rfl rfl (p_ia (cs := [.str _]) ts23 (isl_c rfl) rfl hx6 rfl) <| dq rfl rfl (p_loade (p := .str _) tv9 rfl rfl) <| dq rfl rfl (p_move (v := aL) rfl) <| dq rfl rfl (p_move (v := aI) rfl) ?_
   obtain ⟨x8, hx8, h9⟩ := bind_s h7
   refine dq rfl rfl (p_ia (cs := [.str _]) ts23 (isl_c rfl) rfl hx8 rfl) <| dq rfl rfl (p_loade (p := .str _) tv9 rfl rfl) <| dq rfl rfl (p_sgeq rfl rfl) <| d_ek (fr' := [(0, aL), (3, aI), (19, aB)]) rfl rfl <| w_ch h9 rfl (fun hb10 h10 => ?_) (fun hb10 h10 => ?_)
   ·
    refine w_sr <| sB rfl <| o_ek (fr' := [(2, aB)]) rfl rfl <| w_ret <| e_blk_r <| e_seq_r <| e_seq_r <| e_blk_r <| e_seq_r <| e_seq_r ?_
    have h11 := un_out h10 ho4
    have h12 := un_done h11 h2
    obtain rfl := sy h12
    exact e_ret (rs' := [.tmp 2]) rfl <| r_tmp (v := aB) rfl <| r_nil <| fin_gen [] rfl rfl rfl lr st_nil
   ·
    exact w_skip <| e_blk_n <| e_kw <| w_region <| mI rfl <| o_p rfl (p_add rfl rfl) <| sI rfl <| o_end (fr' := [(0, aL), (3, aI), (19, aB)]) rfl <| e_l _ (sy h10) (w_weak [] 0 rfl rfl rfl rfl ⟨lr, lr, trivial⟩ st_nil)
  ·
   refine w_exit <| e_seq_x <| e_seq_x <| e_blk_h ?_
   have h14 := un_out h5 ho4
   exact e_j _ (sy h14) (w_weak [] 0 rfl rfl rfl rfl trivial st_nil)
 ·
  intro j3 hj15
  have h15 := un_go hj15 h2
  refine e_kw <| w_sr <| sB rfl <| o_ek (fr' := [(2, aB)]) rfl rfl <| w_ret ?_
  obtain rfl := sy h15
  exact e_ret (rs' := [.tmp 2]) rfl <| r_tmp (v := aB) rfl <| r_nil <| fin_gen [] rfl rfl rfl lr st_nil
noncomputable def ref02xWellFormed_l1 (rec_ref02xWellFormed : ApiValue → Option Bool) (p0C : ApiValue) (s4 : Int) : Option (Step Int (Fl Bool Unit)) :=
 cond (decide (s4 < ((p0C.Items).length : Int))) ((idx p0C.Items s4).bind fun (x6 : ApiValue) => (rec_ref02xWellFormed x6).bind fun (x8 : Bool) => cond (!x8) (some (Step.out (Fl.done false))) (some (Step.next (IntKind.wrap .i64 (s4 + (1 : Int)))))) (some (Step.out (Fl.go ())))
noncomputable def ref02xWellFormedF : Nat → ApiValue → Option Bool
 | 0, _ => none
 | n + 1, p0C =>
  ((loopO (ref02xWellFormed_l1 (ref02xWellFormedF n) p0C) ((0 : Int))) : Option (Fl Bool Unit)).bind fun (x1 : (Fl Bool Unit)) => Fl.next x1 (fun (j3 : Unit) => (cond (decide (p0C.Kind = (0 : Int))) (some (cond (cond (cond (decide (p0C.Int = (0 : Int))) (decide (p0C.Text = ([] : List UInt8))) false) (decide (((p0C.Items).length : Int) = (0 : Int))) false) (decide (((p0C.Keys).length : Int) = (0 : Int))) false)) (cond (decide (p0C.Kind = (1 : Int))) (some (cond (cond (cond (cond (decide (p0C.Int = (0 : Int))) true (decide (p0C.Int = (1 : Int)))) (decide (p0C.Text = ([] : List UInt8))) false) (decide (((p0C.Items).length : Int) = (0 : Int))) false) (decide (((p0C.Keys).length : Int) = (0 : Int))) false)) (cond (decide (p0C.Kind = (2 : Int))) (some (cond (cond (decide (p0C.Text = ([] : List UInt8))) (decide (((p0C.Items).length : Int) = (0 : Int))) false) (decide (((p0C.Keys).length : Int) = (0 : Int))) false)) (cond (decide (p0C.Kind = (3 : Int))) (some (cond (cond (decide (p0C.Int = (0 : Int))) (decide (((p0C.Items).length : Int) = (0 : Int))) false) (decide (((p0C.Keys).length : Int) = (0 : Int))) false)) (cond (decide (p0C.Kind = (4 : Int))) (some (cond (cond (decide (p0C.Int = (0 : Int))) (decide (p0C.Text = ([] : List UInt8))) false) (decide (((p0C.Keys).length : Int) = (0 : Int))) false)) (cond (decide (p0C.Kind = (5 : Int))) ((gd ((cond (cond (decide (p0C.Int = (0 : Int))) (decide (p0C.Text = ([] : List UInt8))) false) (decide (((p0C.Keys).length : Int) = ((p0C.Items).length : Int))) false) == true) (ref02xRising p0C.Keys)).bind fun (x27 : Bool) => some (cond (cond (cond (decide (p0C.Int = (0 : Int))) (decide (p0C.Text = ([] : List UInt8))) false) (decide (((p0C.Keys).length : Int) = ((p0C.Items).length : Int))) false) x27 false)) (cond (decide (p0C.Kind = (6 : Int))) (some (cond (cond (cond (decide ((0 : Int) ≤ p0C.Int)) (decide (p0C.Text = ([] : List UInt8))) false) (decide (((p0C.Items).length : Int) = (0 : Int))) false) (decide (((p0C.Keys).length : Int) = (0 : Int))) false)) (some false)))))))))
theorem wF_ref02xWellFormed : ∀ n : Nat, (∀ {p0C : ApiValue} {res : Bool}, ref02xWellFormedF n p0C = some res → ACalls Try.prog 85 [.agg (AV.cs (exApiValue p0C))] [] (.c (.bool res)) []) := by
 intro n
 induction n with
 | zero => exact fun {p0C res} h => absurd h (by simp [ref02xWellFormedF])
 | succ n ih =>
  have ih_ref02xWellFormed := @ih
  intro p0C res h
  rw [ref02xWellFormedF] at h
  refine acalls (fn := Try.f85) [0, 1, 2, 3, 8, 17, 19, 20, 42, 69, 86, 103, 119, 143] (by kernel_rfl) Try.func85 rfl (by kernel_rfl) (by kernel_rfl) <| w_sr <| o_box (v := .agg aIISLL) (n := 0) (cs := aIISLL) (σ' := [aIISLL]) rfl rfl rfl rfl rfl <| sB rfl <| o_ek (fr' := [(1, .box 0 0)]) rfl rfl <| w_seqw <| w_sr <| sI rfl <| o_ek (fr' := [(1, .box 0 0), (3, aI)]) rfl rfl ?_
  obtain ⟨x1, hx1, h2⟩ := bind_s h
  refine w_jtail cl_kw (fun j3 => x1 = Fl.go j3) (fun (j3 : Unit) => ([(1, .box 0 0)] : Fr)) (fun (j3 : Unit) => ([[.c (.int .i64 p0C.Kind), .c (.int .i64 p0C.Int), .c (.str p0C.Text), .c (PV.ls 5 rowApiValue p0C.Items), .c (PV.ls 1 rowS p0C.Keys)]] : St)) ?_ ?_
  ·
   refine w_block <| w_loopo _ (fun (s4 : Int) => ([(1, .box 0 0), (3, .c (.int .i64 s4))] : Fr)) (fun (s4 : Int) => ([[.c (.int .i64 p0C.Kind), .c (.int .i64 p0C.Int), .c (.str p0C.Text), .c (PV.ls 5 rowApiValue p0C.Items), .c (PV.ls 1 rowS p0C.Keys)]] : St)) hx1 (w_weak [] 1 rfl rfl rfl rfl ⟨lr, lr, trivial⟩ (st_r rfl st_nil)) ?_
   intro s4 st4 hs4 ho4
   unfold ref02xWellFormed_l1 at hs4
   refine w_seqw <| w_sr <| mI rfl <| o_p rfl (p_fa tf25x3 rfl) <| o_p rfl (p_load (v := aL) tv22 rfl rfl rfl) <| o_p rfl (p_len ti22 (isl_c rfl)) <| o_p rfl (p_lss rfl rfl) <| o_ek (fr' := [(1, .box 0 0), (3, aI), (8, aB)]) rfl rfl <| w_ch hs4 rfl (fun hb5 h5 => ?_) (fun hb5 h5 => ?_)
   ·
    refine w_skip <| e_kw <| w_seqw <| w_block <| w_sr <| o_p rfl (p_fa tf25x3 rfl) <| o_p rfl (p_load (v := aL) tv22 rfl rfl rfl) <| mI rfl ?_
    obtain ⟨x6, hx6, h7⟩ := bind_s h5
    refine o_p rfl (p_ia (cs := [.int _ _, .int _ _, .str _, PV.ls _ _ _, PV.ls _ _ _]) ts22 (isl_c rfl) rfl hx6 (rowApiValue_eq _)) <| o_p rfl (p_loades (us := [.int _ _, .int _ _, .str _, PV.ls _ _ _, PV.ls _ _ _]) tv25 rfl rfl rfl) ?_
    obtain ⟨x8, hx8, h9⟩ := bind_s h7
    refine o_v (ov_call (v := aB) rfl (ih_ref02xWellFormed hx8) ⟨(le_aggc rfl ⟨rfl, rfl, rfl, rfl, rfl, trivial⟩), trivial⟩ rfl rfl rfl) <| o_p rfl (p_not rfl) <| o_ek (fr' := [(1, .box 0 0), (3, aI), (17, aB)]) rfl rfl <| w_ch h9 rfl (fun hb10 h10 => ?_) (fun hb10 h10 => ?_)
    ·
     refine w_sr <| sB rfl <| o_ek (fr' := [(2, aB)]) rfl rfl <| w_ret <| e_blk_r <| e_seq_r <| e_seq_r <| e_blk_r <| e_seq_r <| e_seq_r ?_
     have h11 := un_out h10 ho4
     have h12 := un_done h11 h2
     obtain rfl := sy h12
     exact e_ret (rs' := [.tmp 2]) rfl <| r_tmp (v := aB) rfl <| r_nil <| fin_gen [] rfl rfl rfl lr st_nil
    ·
     exact w_skip <| e_blk_n <| e_kw <| w_region <| mI rfl <| o_p rfl (p_add rfl rfl) <| sI rfl <| o_end (fr' := [(1, .box 0 0), (3, aI), (17, aB)]) rfl <| e_l _ (sy h10) (w_weak [] 1 rfl rfl rfl rfl ⟨lr, lr, trivial⟩ (st_r rfl st_nil))
   ·
    refine w_exit <| e_seq_x <| e_seq_x <| e_blk_h ?_
    have h14 := un_out h5 ho4
    exact e_j _ (sy h14) (w_weak [] 1 rfl rfl rfl rfl ⟨lr, trivial⟩ (st_r rfl st_nil))
  ·
   intro j3 hj15
   have h15 := un_go hj15 h2
   refine e_kw <| w_seqw <| w_sr <| o_p rfl (p_fa tf25x0 rfl) <| o_p rfl (p_load (v := aI) tv3 rfl rfl rfl) <| o_ek (fr' := [(1, .box 0 0), (19, aI)]) rfl rfl <| w_block <| w_sr <| o_p rfl (p_eql rfl rfl) <| sB rfl <| o_ek (fr' := [(1, .box 0 0), (19, aI), (20, aB)]) rfl rfl ?_
   refine w_ch h15 rfl (fun hb16 h16 => ?_) (fun hb16 h16 => ?_)
   ·
    refine w_sr <| o_p rfl (p_fa tf25x1 rfl) <| o_p rfl (p_load (v := aI) tv3 rfl rfl rfl) <| o_p rfl (p_eql rfl rfl) <| mB rfl <| og rfl rfl rfl (fun hc => (p_fa tf25x2 rfl)) <| og rfl rfl rfl (fun hc => (p_load (v := aS) tv9 (gx rfl hc) rfl rfl)) <| og rfl rfl rfl (fun hc => (p_seql (gx rfl hc) rfl)) <| o_p rfl (p_picky rfl rfl rfl (fun e => keq e)) <| mB rfl <| og rfl rfl rfl (fun hc => (p_fa tf25x3 rfl)) <| og rfl rfl rfl (fun hc => (p_load (v := aL) tv22 (gx rfl hc) rfl rfl)) ?_
    refine og rfl rfl rfl (fun hc => (p_len ti22 (isl_c (gx rfl hc)))) <| og rfl rfl rfl (fun hc => (p_eql (gx rfl hc) rfl)) <| o_p rfl (p_picky rfl rfl rfl (fun e => keq e)) <| mB rfl <| og rfl rfl rfl (fun hc => (p_fa tf25x4 rfl)) <| og rfl rfl rfl (fun hc => (p_load (v := aL) tv23 (gx rfl hc) rfl rfl)) <| og rfl rfl rfl (fun hc => (p_len ti23 (isl_c (gx rfl hc)))) <| og rfl rfl rfl (fun hc => (p_eql (gx rfl hc) rfl)) <| o_p rfl (p_picky rfl rfl rfl (fun e => keq e)) <| sB rfl <| o_ek (fr' := [(2, aB)]) rfl rfl <| w_ret <| e_blk_r ?_
    refine e_seq_r ?_
    obtain rfl := sy h16
    exact e_ret (rs' := [.tmp 2]) rfl <| r_tmp (v := aB) rfl <| r_nil <| fin_gen [] rfl rfl rfl lr st_nil
   ·
    refine w_sr <| o_p rfl (p_eql rfl rfl) <| sB rfl <| o_ek (fr' := [(1, .box 0 0), (19, aI), (42, aB)]) rfl rfl <| w_ch h16 rfl (fun hb18 h18 => ?_) (fun hb18 h18 => ?_)
    ·
     refine w_sr <| o_p rfl (p_fa tf25x1 rfl) <| o_p rfl (p_load (v := aI) tv3 rfl rfl rfl) <| o_p rfl (p_eql rfl rfl) <| mB rfl <| og rfl rfl rfl (fun hc => (p_fa tf25x1 rfl)) <| og rfl rfl rfl (fun hc => (p_load (v := aI) tv3 (gx rfl hc) rfl rfl)) <| og rfl rfl rfl (fun hc => (p_eql (gx rfl hc) rfl)) <| o_p rfl (p_pickz rfl rfl rfl (fun e => keq e)) <| mB rfl <| og rfl rfl rfl (fun hc => (p_fa tf25x2 rfl)) <| og rfl rfl rfl (fun hc => (p_load (v := aS) tv9 (gx rfl hc) rfl rfl)) ?_
     refine og rfl rfl rfl (fun hc => (p_seql (gx rfl hc) rfl)) <| o_p rfl (p_picky rfl rfl rfl (fun e => keq e)) <| mB rfl <| og rfl rfl rfl (fun hc => (p_fa tf25x3 rfl)) <| og rfl rfl rfl (fun hc => (p_load (v := aL) tv22 (gx rfl hc) rfl rfl)) <| og rfl rfl rfl (fun hc => (p_len ti22 (isl_c (gx rfl hc)))) <| og rfl rfl rfl (fun hc => (p_eql (gx rfl hc) rfl)) <| o_p rfl (p_picky rfl rfl rfl (fun e => keq e)) <| mB rfl <| og rfl rfl rfl (fun hc => (p_fa tf25x4 rfl)) <| og rfl rfl rfl (fun hc => (p_load (v := aL) tv23 (gx rfl hc) rfl rfl)) <| og rfl rfl rfl (fun hc => (p_len ti23 (isl_c (gx rfl hc)))) <| og rfl rfl rfl (fun hc => (p_eql (gx rfl hc) rfl)) ?_
     refine o_p rfl (p_picky rfl rfl rfl (fun e => keq e)) <| sB rfl <| o_ek (fr' := [(2, aB)]) rfl rfl <| w_ret <| e_blk_r <| e_seq_r ?_
     obtain rfl := sy h18
     exact e_ret (rs' := [.tmp 2]) rfl <| r_tmp (v := aB) rfl <| r_nil <| fin_gen [] rfl rfl rfl lr st_nil
    ·
     refine w_sr <| o_p rfl (p_eql rfl rfl) <| sB rfl <| o_ek (fr' := [(1, .box 0 0), (19, aI), (69, aB)]) rfl rfl <| w_ch h18 rfl (fun hb20 h20 => ?_) (fun hb20 h20 => ?_)
     ·
      refine w_sr <| o_p rfl (p_fa tf25x2 rfl) <| o_p rfl (p_load (v := aS) tv9 rfl rfl rfl) <| o_p rfl (p_seql rfl rfl) <| mB rfl <| og rfl rfl rfl (fun hc => (p_fa tf25x3 rfl)) <| og rfl rfl rfl (fun hc => (p_load (v := aL) tv22 (gx rfl hc) rfl rfl)) <| og rfl rfl rfl (fun hc => (p_len ti22 (isl_c (gx rfl hc)))) <| og rfl rfl rfl (fun hc => (p_eql (gx rfl hc) rfl)) <| o_p rfl (p_picky rfl rfl rfl (fun e => keq e)) <| mB rfl <| og rfl rfl rfl (fun hc => (p_fa tf25x4 rfl)) ?_
      refine og rfl rfl rfl (fun hc => (p_load (v := aL) tv23 (gx rfl hc) rfl rfl)) <| og rfl rfl rfl (fun hc => (p_len ti23 (isl_c (gx rfl hc)))) <| og rfl rfl rfl (fun hc => (p_eql (gx rfl hc) rfl)) <| o_p rfl (p_picky rfl rfl rfl (fun e => keq e)) <| sB rfl <| o_ek (fr' := [(2, aB)]) rfl rfl <| w_ret <| e_blk_r <| e_seq_r ?_
      obtain rfl := sy h20
      exact e_ret (rs' := [.tmp 2]) rfl <| r_tmp (v := aB) rfl <| r_nil <| fin_gen [] rfl rfl rfl lr st_nil
     ·
      refine w_sr <| o_p rfl (p_eql rfl rfl) <| sB rfl <| o_ek (fr' := [(1, .box 0 0), (19, aI), (86, aB)]) rfl rfl <| w_ch h20 rfl (fun hb22 h22 => ?_) (fun hb22 h22 => ?_)
      ·
       refine w_sr <| o_p rfl (p_fa tf25x1 rfl) <| o_p rfl (p_load (v := aI) tv3 rfl rfl rfl) <| o_p rfl (p_eql rfl rfl) <| mB rfl <| og rfl rfl rfl (fun hc => (p_fa tf25x3 rfl)) <| og rfl rfl rfl (fun hc => (p_load (v := aL) tv22 (gx rfl hc) rfl rfl)) <| og rfl rfl rfl (fun hc => (p_len ti22 (isl_c (gx rfl hc)))) <| og rfl rfl rfl (fun hc => (p_eql (gx rfl hc) rfl)) <| o_p rfl (p_picky rfl rfl rfl (fun e => keq e)) <| mB rfl <| og rfl rfl rfl (fun hc => (p_fa tf25x4 rfl)) ?_
       refine og rfl rfl rfl (fun hc => (p_load (v := aL) tv23 (gx rfl hc) rfl rfl)) <| og rfl rfl rfl (fun hc => (p_len ti23 (isl_c (gx rfl hc)))) <| og rfl rfl rfl (fun hc => (p_eql (gx rfl hc) rfl)) <| o_p rfl (p_picky rfl rfl rfl (fun e => keq e)) <| sB rfl <| o_ek (fr' := [(2, aB)]) rfl rfl <| w_ret <| e_blk_r <| e_seq_r ?_
       obtain rfl := sy h22
       exact e_ret (rs' := [.tmp 2]) rfl <| r_tmp (v := aB) rfl <| r_nil <| fin_gen [] rfl rfl rfl lr st_nil
      ·
       refine w_sr <| o_p rfl (p_eql rfl rfl) <| sB rfl <| o_ek (fr' := [(1, .box 0 0), (19, aI), (103, aB)]) rfl rfl <| w_ch h22 rfl (fun hb24 h24 => ?_) (fun hb24 h24 => ?_)
       ·
        refine w_sr <| o_p rfl (p_fa tf25x1 rfl) <| o_p rfl (p_load (v := aI) tv3 rfl rfl rfl) <| o_p rfl (p_eql rfl rfl) <| mB rfl <| og rfl rfl rfl (fun hc => (p_fa tf25x2 rfl)) <| og rfl rfl rfl (fun hc => (p_load (v := aS) tv9 (gx rfl hc) rfl rfl)) <| og rfl rfl rfl (fun hc => (p_seql (gx rfl hc) rfl)) <| o_p rfl (p_picky rfl rfl rfl (fun e => keq e)) <| mB rfl <| og rfl rfl rfl (fun hc => (p_fa tf25x4 rfl)) <| og rfl rfl rfl (fun hc => (p_load (v := aL) tv23 (gx rfl hc) rfl rfl)) ?_
        refine og rfl rfl rfl (fun hc => (p_len ti23 (isl_c (gx rfl hc)))) <| og rfl rfl rfl (fun hc => (p_eql (gx rfl hc) rfl)) <| o_p rfl (p_picky rfl rfl rfl (fun e => keq e)) <| sB rfl <| o_ek (fr' := [(2, aB)]) rfl rfl <| w_ret <| e_blk_r <| e_seq_r ?_
        obtain rfl := sy h24
        exact e_ret (rs' := [.tmp 2]) rfl <| r_tmp (v := aB) rfl <| r_nil <| fin_gen [] rfl rfl rfl lr st_nil
       ·
        refine w_sr <| o_p rfl (p_eql rfl rfl) <| sB rfl <| o_ek (fr' := [(1, .box 0 0), (19, aI), (119, aB)]) rfl rfl <| w_ch h24 rfl (fun hb26 h26 => ?_) (fun hb26 h26 => ?_)
        ·
         refine w_sr <| o_p rfl (p_fa tf25x1 rfl) <| o_p rfl (p_load (v := aI) tv3 rfl rfl rfl) <| o_p rfl (p_eql rfl rfl) <| mB rfl <| og rfl rfl rfl (fun hc => (p_fa tf25x2 rfl)) <| og rfl rfl rfl (fun hc => (p_load (v := aS) tv9 (gx rfl hc) rfl rfl)) <| og rfl rfl rfl (fun hc => (p_seql (gx rfl hc) rfl)) <| o_p rfl (p_picky rfl rfl rfl (fun e => keq e)) <| mB rfl <| og rfl rfl rfl (fun hc => (p_fa tf25x4 rfl)) <| og rfl rfl rfl (fun hc => (p_load (v := aL) tv23 (gx rfl hc) rfl rfl)) ?_
         refine og rfl rfl rfl (fun hc => (p_len ti23 (isl_c (gx rfl hc)))) <| og rfl rfl rfl (fun hc => (p_fa tf25x3 rfl)) <| og rfl rfl rfl (fun hc => (p_load (v := aL) tv22 (gx rfl hc) rfl rfl)) <| og rfl rfl rfl (fun hc => (p_len ti22 (isl_c (gx rfl hc)))) <| og rfl rfl rfl (fun hc => (p_eql (gx rfl hc) (gx rfl hc))) <| o_p rfl (p_picky rfl rfl rfl (fun e => keq e)) <| mB rfl <| og rfl rfl rfl (fun hc => (p_fa tf25x4 rfl)) <| og rfl rfl rfl (fun hc => (p_load (v := aL) tv23 (gx rfl hc) rfl rfl)) ?_
         obtain ⟨x27, hx27, h28⟩ := bind_s h26
         refine o_g rfl rfl (fun hc => ov_call (v := aB) rfl (w_ref02xRising (gd_some hx27 hc)) ⟨(le_gv (gx rfl hc) lr), trivial⟩ (ok_eq (by repeat (first | exact ok_nil | refine ok_cons rfl ?_ | refine ok_cons (dgv rfl) ?_))) rfl rfl) ?_
         refine o_p rfl (p_picky rfl rfl rfl (fun e => keq e)) <| sB rfl <| o_ek (fr' := [(2, aB)]) rfl rfl <| w_ret <| e_blk_r <| e_seq_r ?_
         obtain rfl := sy h28
         exact e_ret (rs' := [.tmp 2]) rfl <| r_tmp (v := aB) rfl <| r_nil <| fin_gen [] rfl rfl rfl lr st_nil
        ·
         refine w_sr <| o_p rfl (p_eql rfl rfl) <| sB rfl <| o_ek (fr' := [(1, .box 0 0), (143, aB)]) rfl rfl <| w_ch h26 rfl (fun hb30 h30 => ?_) (fun hb30 h30 => ?_)
         ·
          refine w_sr <| o_p rfl (p_fa tf25x1 rfl) <| o_p rfl (p_load (v := aI) tv3 rfl rfl rfl) <| o_p rfl (p_geq rfl rfl) <| mB rfl <| og rfl rfl rfl (fun hc => (p_fa tf25x2 rfl)) <| og rfl rfl rfl (fun hc => (p_load (v := aS) tv9 (gx rfl hc) rfl rfl)) <| og rfl rfl rfl (fun hc => (p_seql (gx rfl hc) rfl)) <| o_p rfl (p_picky rfl rfl rfl (fun e => keq e)) <| mB rfl <| og rfl rfl rfl (fun hc => (p_fa tf25x3 rfl)) <| og rfl rfl rfl (fun hc => (p_load (v := aL) tv22 (gx rfl hc) rfl rfl)) ?_
          refine og rfl rfl rfl (fun hc => (p_len ti22 (isl_c (gx rfl hc)))) <| og rfl rfl rfl (fun hc => (p_eql (gx rfl hc) rfl)) <| o_p rfl (p_picky rfl rfl rfl (fun e => keq e)) <| mB rfl <| og rfl rfl rfl (fun hc => (p_fa tf25x4 rfl)) <| og rfl rfl rfl (fun hc => (p_load (v := aL) tv23 (gx rfl hc) rfl rfl)) <| og rfl rfl rfl (fun hc => (p_len ti23 (isl_c (gx rfl hc)))) <| og rfl rfl rfl (fun hc => (p_eql (gx rfl hc) rfl)) <| o_p rfl (p_picky rfl rfl rfl (fun e => keq e)) <| sB rfl <| o_ek (fr' := [(2, aB)]) rfl rfl <| w_ret <| e_blk_r ?_
          refine e_seq_r ?_
          obtain rfl := sy h30
          exact e_ret (rs' := [.tmp 2]) rfl <| r_tmp (v := aB) rfl <| r_nil <| fin_gen [] rfl rfl rfl lr st_nil
         ·
          refine w_skip <| e_blk_n <| e_kw <| w_sr <| sB rfl <| o_ek (fr' := [(2, aB)]) rfl rfl <| w_ret ?_
          obtain rfl := sy h30
          exact e_ret (rs' := [.tmp 2]) rfl <| r_tmp (v := aB) rfl <| r_nil <| fin_gen [] rfl rfl rfl lr st_nil
noncomputable def ref02xWellFormed (p0C : ApiValue) : Option Bool := lim fun n => ref02xWellFormedF n p0C
theorem w_ref02xWellFormed {p0C : ApiValue} {res : Bool} (h : ref02xWellFormed p0C = some res) : ACalls Try.prog 85 [.agg (AV.cs (exApiValue p0C))] [] (.c (.bool res)) [] := by
 obtain ⟨n, hn⟩ := lim_some h
 exact (wF_ref02xWellFormed n) hn
noncomputable def ref02xShort_l1 (p0v : ApiValue) (s6 : Int) : Option (Step Int (Fl Bool Unit)) :=
 cond (decide (s6 < ((p0v.Keys).length : Int))) ((idx p0v.Keys s6).bind fun (x8 : (List UInt8)) => cond (decide ((4096 : Int) < ((x8).length : Int))) (some (Step.out (Fl.done false))) (some (Step.next (IntKind.wrap .i64 (s6 + (1 : Int)))))) (some (Step.out (Fl.go ())))
noncomputable def ref02xShort_l2 (rec_ref02xShort : ApiValue → Option Bool) (p0v : ApiValue) (s19 : Int) : Option (Step Int (Fl Bool Unit)) :=
 cond (decide (s19 < ((p0v.Items).length : Int))) ((idx p0v.Items s19).bind fun (x21 : ApiValue) => (rec_ref02xShort x21).bind fun (x23 : Bool) => cond (!x23) (some (Step.out (Fl.done false))) (some (Step.next (IntKind.wrap .i64 (s19 + (1 : Int)))))) (some (Step.out (Fl.go ())))
noncomputable def ref02xShortF : Nat → ApiValue → Option Bool
 | 0, _ => none
 | n + 1, p0v =>
  cond (decide ((4096 : Int) < ((p0v.Text).length : Int))) (some false) (((loopO (ref02xShort_l1 p0v) ((0 : Int))) : Option (Fl Bool Unit)).bind fun (x3 : (Fl Bool Unit)) => Fl.next x3 (fun (j5 : Unit) => (((loopO (ref02xShort_l2 (ref02xShortF n) p0v) ((0 : Int))) : Option (Fl Bool Unit)).bind fun (x16 : (Fl Bool Unit)) => Fl.next x16 (fun (j18 : Unit) => (some true)))))
theorem wF_ref02xShort : ∀ n : Nat, (∀ {p0v : ApiValue} {res : Bool}, ref02xShortF n p0v = some res → ACalls Try.prog 110 [.agg (AV.cs (exApiValue p0v))] [] (.c (.bool res)) []) := by
 intro n
 induction n with
 | zero => exact fun {p0v res} h => absurd h (by simp [ref02xShortF])
 | succ n ih =>
  have ih_ref02xShort := @ih
  intro p0v res h
  rw [ref02xShortF] at h
  refine acalls (fn := Try.f110) [0, 1, 2, 3, 4, 8, 13, 22, 27, 36] (by kernel_rfl) Try.func110 rfl (by kernel_rfl) (by kernel_rfl) <| w_sr <| o_box (v := .agg aIISLL) (n := 0) (cs := aIISLL) (σ' := [aIISLL]) rfl rfl rfl rfl rfl <| sB rfl <| o_ek (fr' := [(1, .box 0 0)]) rfl rfl <| w_seqw <| w_sr <| o_p rfl (p_fa tf25x2 rfl) <| o_p rfl (p_load (v := aS) tv9 rfl rfl rfl) <| o_p rfl (p_lens ti9 rfl) <| o_p rfl (p_gtr rfl rfl) ?_
  refine o_ek (fr' := [(1, .box 0 0), (8, aB)]) rfl rfl <| w_ch h rfl (fun hb1 h1 => ?_) (fun hb1 h1 => ?_)
  ·
   refine w_sr <| sB rfl <| o_ek (fr' := [(2, aB)]) rfl rfl <| w_ret <| e_seq_r ?_
   obtain rfl := sy h1
   exact e_ret (rs' := [.tmp 2]) rfl <| r_tmp (v := aB) rfl <| r_nil <| fin_gen [] rfl rfl rfl lr st_nil
  ·
   refine w_skip <| e_kw <| w_seqw <| w_sr <| sI rfl <| o_ek (fr' := [(1, .box 0 0), (3, aI)]) rfl rfl ?_
   obtain ⟨x3, hx3, h4⟩ := bind_s h1
   refine w_jtail cl_kw (fun j5 => x3 = Fl.go j5) (fun (j5 : Unit) => ([(1, .box 0 0)] : Fr)) (fun (j5 : Unit) => ([[.c (.int .i64 p0v.Kind), .c (.int .i64 p0v.Int), .c (.str p0v.Text), .c (PV.ls 5 rowApiValue p0v.Items), .c (PV.ls 1 rowS p0v.Keys)]] : St)) ?_ ?_
   ·
    refine w_block <| w_loopo _ (fun (s6 : Int) => ([(1, .box 0 0), (3, .c (.int .i64 s6))] : Fr)) (fun (s6 : Int) => ([[.c (.int .i64 p0v.Kind), .c (.int .i64 p0v.Int), .c (.str p0v.Text), .c (PV.ls 5 rowApiValue p0v.Items), .c (PV.ls 1 rowS p0v.Keys)]] : St)) hx3 (w_weak [] 1 rfl rfl rfl rfl ⟨lr, lr, trivial⟩ (st_r rfl st_nil)) ?_
    intro s6 st6 hs6 ho6
    unfold ref02xShort_l1 at hs6
    refine w_seqw <| w_sr <| mI rfl <| o_p rfl (p_fa tf25x4 rfl) <| o_p rfl (p_load (v := aL) tv23 rfl rfl rfl) <| o_p rfl (p_len ti23 (isl_c rfl)) <| o_p rfl (p_lss rfl rfl) <| o_ek (fr' := [(1, .box 0 0), (3, aI), (13, aB)]) rfl rfl <| w_ch hs6 rfl (fun hb7 h7 => ?_) (fun hb7 h7 => ?_)
    ·
     refine w_skip <| e_kw <| w_seqw <| w_block <| w_sr <| o_p rfl (p_fa tf25x4 rfl) <| o_p rfl (p_load (v := aL) tv23 rfl rfl rfl) <| mI rfl ?_
     obtain ⟨x8, hx8, h9⟩ := bind_s h7
     refine o_p rfl (p_ia (cs := [.str _]) ts23 (isl_c rfl) rfl hx8 rfl) <| o_p rfl (p_loade (p := .str _) tv9 rfl rfl) <| o_p rfl (p_lens ti9 rfl) <| o_p rfl (p_gtr rfl rfl) <| o_ek (fr' := [(1, .box 0 0), (3, aI), (22, aB)]) rfl rfl <| w_ch h9 rfl (fun hb10 h10 => ?_) (fun hb10 h10 => ?_)
     ·
      refine w_sr <| sB rfl <| o_ek (fr' := [(2, aB)]) rfl rfl <| w_ret <| e_blk_r <| e_seq_r <| e_seq_r <| e_blk_r <| e_seq_r <| e_seq_r ?_
      have h11 := un_out h10 ho6
      have h12 := un_done h11 h4
      obtain rfl := sy h12
      exact e_ret (rs' := [.tmp 2]) rfl <| r_tmp (v := aB) rfl <| r_nil <| fin_gen [] rfl rfl rfl lr st_nil
     ·
      exact w_skip <| e_blk_n <| e_kw <| w_region <| mI rfl <| o_p rfl (p_add rfl rfl) <| sI rfl <| o_end (fr' := [(1, .box 0 0), (3, aI), (22, aB)]) rfl <| e_l _ (sy h10) (w_weak [] 1 rfl rfl rfl rfl ⟨lr, lr, trivial⟩ (st_r rfl st_nil))
    ·
     refine w_exit <| e_seq_x <| e_seq_x <| e_blk_h ?_
     have h14 := un_out h7 ho6
     exact e_j _ (sy h14) (w_weak [] 1 rfl rfl rfl rfl ⟨lr, trivial⟩ (st_r rfl st_nil))
   ·
    intro j5 hj15
    have h15 := un_go hj15 h4
    refine e_kw <| w_seqw <| w_sr <| sI rfl <| o_ek (fr' := [(1, .box 0 0), (4, aI)]) rfl rfl ?_
    obtain ⟨x16, hx16, h17⟩ := bind_s h15
    refine w_jtail cl_kw (fun j18 => x16 = Fl.go j18) (fun (j18 : Unit) => ([] : Fr)) (fun (j18 : Unit) => ([[.c (.int .i64 p0v.Kind), .c (.int .i64 p0v.Int), .c (.str p0v.Text), .c (PV.ls 5 rowApiValue p0v.Items), .c (PV.ls 1 rowS p0v.Keys)]] : St)) ?_ ?_
    ·
     refine w_block <| w_loopo _ (fun (s19 : Int) => ([(1, .box 0 0), (4, .c (.int .i64 s19))] : Fr)) (fun (s19 : Int) => ([[.c (.int .i64 p0v.Kind), .c (.int .i64 p0v.Int), .c (.str p0v.Text), .c (PV.ls 5 rowApiValue p0v.Items), .c (PV.ls 1 rowS p0v.Keys)]] : St)) hx16 (w_weak [] 1 rfl rfl rfl rfl ⟨lr, lr, trivial⟩ (st_r rfl st_nil)) ?_
     intro s19 st19 hs19 ho19
     unfold ref02xShort_l2 at hs19
     refine w_seqw <| w_sr <| mI rfl <| o_p rfl (p_fa tf25x3 rfl) <| o_p rfl (p_load (v := aL) tv22 rfl rfl rfl) <| o_p rfl (p_len ti22 (isl_c rfl)) <| o_p rfl (p_lss rfl rfl) <| o_ek (fr' := [(1, .box 0 0), (4, aI), (27, aB)]) rfl rfl <| w_ch hs19 rfl (fun hb20 h20 => ?_) (fun hb20 h20 => ?_)
     ·
      refine w_skip <| e_kw <| w_seqw <| w_block <| w_sr <| o_p rfl (p_fa tf25x3 rfl) <| o_p rfl (p_load (v := aL) tv22 rfl rfl rfl) <| mI rfl ?_
      obtain ⟨x21, hx21, h22⟩ := bind_s h20
      refine o_p rfl (p_ia (cs := [.int _ _, .int _ _, .str _, PV.ls _ _ _, PV.ls _ _ _]) ts22 (isl_c rfl) rfl hx21 (rowApiValue_eq _)) <| o_p rfl (p_loades (us := [.int _ _, .int _ _, .str _, PV.ls _ _ _, PV.ls _ _ _]) tv25 rfl rfl rfl) ?_
      obtain ⟨x23, hx23, h24⟩ := bind_s h22
      refine o_v (ov_call (v := aB) rfl (ih_ref02xShort hx23) ⟨(le_aggc rfl ⟨rfl, rfl, rfl, rfl, rfl, trivial⟩), trivial⟩ rfl rfl rfl) <| o_p rfl (p_not rfl) <| o_ek (fr' := [(1, .box 0 0), (4, aI), (36, aB)]) rfl rfl <| w_ch h24 rfl (fun hb25 h25 => ?_) (fun hb25 h25 => ?_)
      ·
       refine w_sr <| sB rfl <| o_ek (fr' := [(2, aB)]) rfl rfl <| w_ret <| e_blk_r <| e_seq_r <| e_seq_r <| e_blk_r <| e_seq_r <| e_seq_r ?_
       have h26 := un_out h25 ho19
       have h27 := un_done h26 h17
       obtain rfl := sy h27
       exact e_ret (rs' := [.tmp 2]) rfl <| r_tmp (v := aB) rfl <| r_nil <| fin_gen [] rfl rfl rfl lr st_nil
      ·
       exact w_skip <| e_blk_n <| e_kw <| w_region <| mI rfl <| o_p rfl (p_add rfl rfl) <| sI rfl <| o_end (fr' := [(1, .box 0 0), (4, aI), (36, aB)]) rfl <| e_l _ (sy h25) (w_weak [] 1 rfl rfl rfl rfl ⟨lr, lr, trivial⟩ (st_r rfl st_nil))
     ·
      refine w_exit <| e_seq_x <| e_seq_x <| e_blk_h ?_
      have h29 := un_out h20 ho19
      exact e_j _ (sy h29) (w_weak [] 1 rfl rfl rfl rfl trivial (st_r rfl st_nil))
    ·
     intro j18 hj30
     have h30 := un_go hj30 h17
     refine e_kw <| w_sr <| sB rfl <| o_ek (fr' := [(2, aB)]) rfl rfl <| w_ret ?_
     obtain rfl := sy h30
     exact e_ret (rs' := [.tmp 2]) rfl <| r_tmp (v := aB) rfl <| r_nil <| fin_gen [] rfl rfl rfl lr st_nil
noncomputable def ref02xShort (p0v : ApiValue) : Option Bool := lim fun n => ref02xShortF n p0v
theorem w_ref02xShort {p0v : ApiValue} {res : Bool} (h : ref02xShort p0v = some res) : ACalls Try.prog 110 [.agg (AV.cs (exApiValue p0v))] [] (.c (.bool res)) [] := by
 obtain ⟨n, hn⟩ := lim_some h
 exact (wF_ref02xShort n) hn
noncomputable def ref02xDepth_l1 (rec_ref02xDepth : ApiValue → Option Int) (p0v : ApiValue) (s4 : (Int × Int)) : Option (Step (Int × Int) Int) :=
 cond (decide (s4.2 < ((p0v.Items).length : Int))) ((idx p0v.Items s4.2).bind fun (x6 : ApiValue) => (rec_ref02xDepth x6).bind fun (x8 : Int) => cond (decide (s4.1 < x8)) (some (Step.next (x8, (IntKind.wrap .i64 (s4.2 + (1 : Int)))))) (some (Step.next (s4.1, (IntKind.wrap .i64 (s4.2 + (1 : Int))))))) (some (Step.out s4.1))
noncomputable def ref02xDepthF : Nat → ApiValue → Option Int
 | 0, _ => none
 | n + 1, p0v =>
  ((loopO (ref02xDepth_l1 (ref02xDepthF n) p0v) (((0 : Int), (0 : Int)))) : Option Int).bind fun (x1 : Int) => (some (IntKind.wrap .i64 (x1 + (1 : Int))))
theorem wF_ref02xDepth : ∀ n : Nat, (∀ {p0v : ApiValue} {res : Int}, ref02xDepthF n p0v = some res → ACalls Try.prog 111 [.agg (AV.cs (exApiValue p0v))] [] (.c (.int .i64 res)) []) := by
 intro n
 induction n with
 | zero => exact fun {p0v res} h => absurd h (by simp [ref02xDepthF])
 | succ n ih =>
  have ih_ref02xDepth := @ih
  intro p0v res h
  rw [ref02xDepthF] at h
  refine acalls (fn := Try.f111) [0, 1, 2, 3, 4, 5, 10, 21] (by kernel_rfl) Try.func111 rfl (by kernel_rfl) (by kernel_rfl) <| w_sr <| o_box (v := .agg aIISLL) (n := 0) (cs := aIISLL) (σ' := [aIISLL]) rfl rfl rfl rfl rfl <| sI rfl <| o_ek (fr' := [(1, .box 0 0)]) rfl rfl <| w_sr <| sI rfl <| o_ek (fr' := [(1, .box 0 0), (3, aI)]) rfl rfl <| w_seqw <| w_seqw <| w_region ?_
  refine sI rfl <| o_ek (fr' := [(1, .box 0 0), (3, aI), (4, aI)]) rfl rfl ?_
  obtain ⟨x1, hx1, h2⟩ := bind_s h
  refine w_jtail cl_kw (fun j3 => x1 = j3) (fun (j3 : Int) => ([(3, .c (.int .i64 j3))] : Fr)) (fun (j3 : Int) => ([[.c (.int .i64 p0v.Kind), .c (.int .i64 p0v.Int), .c (.str p0v.Text), .c (PV.ls 5 rowApiValue p0v.Items), .c (PV.ls 1 rowS p0v.Keys)]] : St)) ?_ ?_
  ·
   refine w_block <| w_loopo _ (fun (s4 : (Int × Int)) => ([(1, .box 0 0), (3, .c (.int .i64 s4.1)), (4, .c (.int .i64 s4.2))] : Fr)) (fun (s4 : (Int × Int)) => ([[.c (.int .i64 p0v.Kind), .c (.int .i64 p0v.Int), .c (.str p0v.Text), .c (PV.ls 5 rowApiValue p0v.Items), .c (PV.ls 1 rowS p0v.Keys)]] : St)) hx1 (w_weak [] 1 rfl rfl rfl rfl ⟨lr, lr, lr, trivial⟩ (st_r rfl st_nil)) ?_
   intro s4 st4 hs4 ho4
   unfold ref02xDepth_l1 at hs4
   refine w_seqw <| w_sr <| mI rfl <| o_p rfl (p_fa tf25x3 rfl) <| o_p rfl (p_load (v := aL) tv22 rfl rfl rfl) <| o_p rfl (p_len ti22 (isl_c rfl)) <| o_p rfl (p_lss rfl rfl) <| o_ek (fr' := [(1, .box 0 0), (3, aI), (4, aI), (10, aB)]) rfl rfl <| w_ch hs4 rfl (fun hb5 h5 => ?_) (fun hb5 h5 => ?_)
   ·
    refine w_skip <| e_kw <| w_seqw <| w_block <| w_sr <| o_p rfl (p_fa tf25x3 rfl) <| o_p rfl (p_load (v := aL) tv22 rfl rfl rfl) <| mI rfl ?_
    obtain ⟨x6, hx6, h7⟩ := bind_s h5
    refine o_p rfl (p_ia (cs := [.int _ _, .int _ _, .str _, PV.ls _ _ _, PV.ls _ _ _]) ts22 (isl_c rfl) rfl hx6 (rowApiValue_eq _)) <| o_p rfl (p_loades (us := [.int _ _, .int _ _, .str _, PV.ls _ _ _, PV.ls _ _ _]) tv25 rfl rfl rfl) ?_
    obtain ⟨x8, hx8, h9⟩ := bind_s h7
    refine o_v (ov_call (v := aI) rfl (ih_ref02xDepth hx8) ⟨(le_aggc rfl ⟨rfl, rfl, rfl, rfl, rfl, trivial⟩), trivial⟩ rfl rfl rfl) <| sI rfl <| o_ek (fr' := [(1, .box 0 0), (3, aI), (4, aI), (5, aI)]) rfl rfl <| w_sr <| mI rfl <| mI rfl <| o_p rfl (p_gtr rfl rfl) <| o_ek (fr' := [(1, .box 0 0), (3, aI), (4, aI), (5, aI), (21, aB)]) rfl rfl <| w_ch h9 rfl (fun hb10 h10 => ?_) (fun hb10 h10 => ?_)
    ·
     exact w_region <| mI rfl <| sI rfl <| o_end (fr' := [(1, .box 0 0), (3, aI), (4, aI), (5, aI), (21, aB)]) rfl <| e_blk_n <| e_kw <| w_region <| mI rfl <| o_p rfl (p_add rfl rfl) <| sI rfl <| o_end (fr' := [(1, .box 0 0), (3, aI), (4, aI), (5, aI), (21, aB)]) rfl <| e_l _ (sy h10) (w_weak [] 1 rfl rfl rfl rfl ⟨lr, lr, lr, trivial⟩ (st_r rfl st_nil))
    ·
     exact w_skip <| e_blk_n <| e_kw <| w_region <| mI rfl <| o_p rfl (p_add rfl rfl) <| sI rfl <| o_end (fr' := [(1, .box 0 0), (3, aI), (4, aI), (5, aI), (21, aB)]) rfl <| e_l _ (sy h10) (w_weak [] 1 rfl rfl rfl rfl ⟨lr, lr, lr, trivial⟩ (st_r rfl st_nil))
   ·
    refine w_exit <| e_seq_x <| e_seq_x <| e_blk_h ?_
    have h11 := un_out h5 ho4
    exact e_j _ (sy h11) (w_weak [] 1 rfl rfl rfl rfl ⟨lr, trivial⟩ (st_r rfl st_nil))
  ·
   intro j3 hj12
   subst hj12
   refine e_kw <| w_sr <| mI rfl <| o_p rfl (p_add rfl rfl) <| sI rfl <| o_ek (fr' := [(2, aI)]) rfl rfl <| w_ret ?_
   obtain rfl := sy h2
   exact e_ret (rs' := [.tmp 2]) rfl <| r_tmp (v := aI) rfl <| r_nil <| fin_gen [] rfl rfl rfl lr st_nil
noncomputable def ref02xDepth (p0v : ApiValue) : Option Int := lim fun n => ref02xDepthF n p0v
theorem w_ref02xDepth {p0v : ApiValue} {res : Int} (h : ref02xDepth p0v = some res) : ACalls Try.prog 111 [.agg (AV.cs (exApiValue p0v))] [] (.c (.int .i64 res)) [] := by
 obtain ⟨n, hn⟩ := lim_some h
 exact (wF_ref02xDepth n) hn
noncomputable def ref02xSize_l1 (rec_ref02xSize : ApiValue → Option Int) (p0v : ApiValue) (s4 : (Int × Int)) : Option (Step (Int × Int) Int) :=
 cond (decide (s4.2 < ((p0v.Items).length : Int))) ((idx p0v.Items s4.2).bind fun (x6 : ApiValue) => (rec_ref02xSize x6).bind fun (x8 : Int) => some (Step.next ((IntKind.wrap .i64 (s4.1 + x8)), (IntKind.wrap .i64 (s4.2 + (1 : Int)))))) (some (Step.out s4.1))
noncomputable def ref02xSizeF : Nat → ApiValue → Option Int
 | 0, _ => none
 | n + 1, p0v =>
  ((loopO (ref02xSize_l1 (ref02xSizeF n) p0v) (((1 : Int), (0 : Int)))) : Option Int).bind fun (x1 : Int) => (some x1)
theorem wF_ref02xSize : ∀ n : Nat, (∀ {p0v : ApiValue} {res : Int}, ref02xSizeF n p0v = some res → ACalls Try.prog 112 [.agg (AV.cs (exApiValue p0v))] [] (.c (.int .i64 res)) []) := by
 intro n
 induction n with
 | zero => exact fun {p0v res} h => absurd h (by simp [ref02xSizeF])
 | succ n ih =>
  have ih_ref02xSize := @ih
  intro p0v res h
  rw [ref02xSizeF] at h
  refine acalls (fn := Try.f112) [0, 1, 2, 3, 4, 9] (by kernel_rfl) Try.func112 rfl (by kernel_rfl) (by kernel_rfl) <| w_sr <| o_box (v := .agg aIISLL) (n := 0) (cs := aIISLL) (σ' := [aIISLL]) rfl rfl rfl rfl rfl <| sI rfl <| o_ek (fr' := [(1, .box 0 0)]) rfl rfl <| w_sr <| sI rfl <| o_ek (fr' := [(1, .box 0 0), (3, aI)]) rfl rfl <| w_seqw <| w_seqw <| w_region ?_
  refine sI rfl <| o_ek (fr' := [(1, .box 0 0), (3, aI), (4, aI)]) rfl rfl ?_
  obtain ⟨x1, hx1, h2⟩ := bind_s h
  refine w_jtail cl_kw (fun j3 => x1 = j3) (fun (j3 : Int) => ([(3, .c (.int .i64 j3))] : Fr)) (fun (j3 : Int) => ([[.c (.int .i64 p0v.Kind), .c (.int .i64 p0v.Int), .c (.str p0v.Text), .c (PV.ls 5 rowApiValue p0v.Items), .c (PV.ls 1 rowS p0v.Keys)]] : St)) ?_ ?_
  ·
   refine w_block <| w_loopo _ (fun (s4 : (Int × Int)) => ([(1, .box 0 0), (3, .c (.int .i64 s4.1)), (4, .c (.int .i64 s4.2))] : Fr)) (fun (s4 : (Int × Int)) => ([[.c (.int .i64 p0v.Kind), .c (.int .i64 p0v.Int), .c (.str p0v.Text), .c (PV.ls 5 rowApiValue p0v.Items), .c (PV.ls 1 rowS p0v.Keys)]] : St)) hx1 (w_weak [] 1 rfl rfl rfl rfl ⟨lr, lr, lr, trivial⟩ (st_r rfl st_nil)) ?_
   intro s4 st4 hs4 ho4
   unfold ref02xSize_l1 at hs4
   refine w_seqw <| w_sr <| mI rfl <| o_p rfl (p_fa tf25x3 rfl) <| o_p rfl (p_load (v := aL) tv22 rfl rfl rfl) <| o_p rfl (p_len ti22 (isl_c rfl)) <| o_p rfl (p_lss rfl rfl) <| o_ek (fr' := [(1, .box 0 0), (3, aI), (4, aI), (9, aB)]) rfl rfl <| w_ch hs4 rfl (fun hb5 h5 => ?_) (fun hb5 h5 => ?_)
   ·
    refine w_skip <| e_kw <| w_seqw <| w_block <| w_region <| mI rfl <| o_p rfl (p_fa tf25x3 rfl) <| o_p rfl (p_load (v := aL) tv22 rfl rfl rfl) <| mI rfl ?_
    obtain ⟨x6, hx6, h7⟩ := bind_s h5
    refine o_p rfl (p_ia (cs := [.int _ _, .int _ _, .str _, PV.ls _ _ _, PV.ls _ _ _]) ts22 (isl_c rfl) rfl hx6 (rowApiValue_eq _)) <| o_p rfl (p_loades (us := [.int _ _, .int _ _, .str _, PV.ls _ _ _, PV.ls _ _ _]) tv25 rfl rfl rfl) ?_
    obtain ⟨x8, hx8, h9⟩ := bind_s h7
    exact o_v (ov_call (v := aI) rfl (ih_ref02xSize hx8) ⟨(le_aggc rfl ⟨rfl, rfl, rfl, rfl, rfl, trivial⟩), trivial⟩ rfl rfl rfl) <| o_p rfl (p_add rfl rfl) <| sI rfl <| o_end (fr' := [(1, .box 0 0), (3, aI), (4, aI), (9, aB)]) rfl <| e_blk_n <| e_kw <| w_region <| mI rfl <| o_p rfl (p_add rfl rfl) <| sI rfl <| o_end (fr' := [(1, .box 0 0), (3, aI), (4, aI), (9, aB)]) rfl <| e_l _ (sy h9) (w_weak [] 1 rfl rfl rfl rfl ⟨lr, lr, lr, trivial⟩ (st_r rfl st_nil))
   ·
    refine w_exit <| e_seq_x <| e_seq_x <| e_blk_h ?_
    have h10 := un_out h5 ho4
    exact e_j _ (sy h10) (w_weak [] 1 rfl rfl rfl rfl ⟨lr, trivial⟩ (st_r rfl st_nil))
  ·
   intro j3 hj11
   subst hj11
   refine e_kw <| w_sr <| mI rfl <| sI rfl <| o_ek (fr' := [(2, aI)]) rfl rfl <| w_ret ?_
   obtain rfl := sy h2
   exact e_ret (rs' := [.tmp 2]) rfl <| r_tmp (v := aI) rfl <| r_nil <| fin_gen [] rfl rfl rfl lr st_nil
noncomputable def ref02xSize (p0v : ApiValue) : Option Int := lim fun n => ref02xSizeF n p0v
theorem w_ref02xSize {p0v : ApiValue} {res : Int} (h : ref02xSize p0v = some res) : ACalls Try.prog 112 [.agg (AV.cs (exApiValue p0v))] [] (.c (.int .i64 res)) [] := by
 obtain ⟨n, hn⟩ := lim_some h
 exact (wF_ref02xSize n) hn
noncomputable def ref02xWithin (p0v : ApiValue) : Option Bool :=
 (ref02xShort p0v).bind fun (x1 : Bool) => (gd (x1 == true) (ref02xDepth p0v)).bind fun (x3 : Int) => (gd ((cond x1 (decide (x3 ≤ (16 : Int))) false) == true) (ref02xSize p0v)).bind fun (x5 : Int) => some (cond (cond x1 (decide (x3 ≤ (16 : Int))) false) (decide (x5 ≤ (1000 : Int))) false)
theorem w_ref02xWithin {p0v : ApiValue} {res : Bool} (h : ref02xWithin p0v = some res) : ACalls Try.prog 86 [.agg (AV.cs (exApiValue p0v))] [] (.c (.bool res)) [] := by
 unfold ref02xWithin at h
 refine acalls (fn := Try.f86) [0, 1, 2] (by kernel_rfl) Try.func86 rfl (by kernel_rfl) (by kernel_rfl) <| w_sr <| o_box (v := .agg aIISLL) (n := 0) (cs := aIISLL) (σ' := [aIISLL]) rfl rfl rfl rfl rfl <| sB rfl <| o_ek (fr' := [(1, .box 0 0)]) rfl rfl <| w_sr <| o_p rfl (p_loads (us := aIISLL) tv25 rfl rfl rfl rfl) ?_
 obtain ⟨x1, hx1, h2⟩ := bind_s h
 refine o_v (ov_call (v := aB) rfl (w_ref02xShort hx1) ⟨(le_aggc rfl ⟨rfl, rfl, rfl, rfl, rfl, trivial⟩), trivial⟩ rfl rfl rfl) <| mB rfl <| og rfl rfl rfl (fun hc => (p_loads (us := aIISLL) tv25 rfl rfl rfl rfl)) ?_
 obtain ⟨x3, hx3, h4⟩ := bind_s h2
 refine o_g rfl rfl (fun hc => ov_call (v := aI) rfl (w_ref02xDepth (gd_some hx3 hc)) ⟨(le_gv (gx rfl hc) (le_aggc rfl ⟨rfl, rfl, rfl, rfl, rfl, trivial⟩)), trivial⟩ (ok_eq (by repeat (first | exact ok_nil | refine ok_cons rfl ?_ | refine ok_cons (dgv rfl) ?_))) rfl rfl) ?_
 refine og rfl rfl rfl (fun hc => (p_leq (gx rfl hc) rfl)) <| o_p rfl (p_picky rfl rfl rfl (fun e => keq e)) <| mB rfl <| og rfl rfl rfl (fun hc => (p_loads (us := aIISLL) tv25 rfl rfl rfl rfl)) ?_
 obtain ⟨x5, hx5, h6⟩ := bind_s h4
 refine o_g rfl rfl (fun hc => ov_call (v := aI) rfl (w_ref02xSize (gd_some hx5 hc)) ⟨(le_gv (gx rfl hc) (le_aggc rfl ⟨rfl, rfl, rfl, rfl, rfl, trivial⟩)), trivial⟩ (ok_eq (by repeat (first | exact ok_nil | refine ok_cons rfl ?_ | refine ok_cons (dgv rfl) ?_))) rfl rfl) ?_
 refine og rfl rfl rfl (fun hc => (p_leq (gx rfl hc) rfl)) <| o_p rfl (p_picky rfl rfl rfl (fun e => keq e)) <| sB rfl <| o_ek (fr' := [(2, aB)]) rfl rfl <| w_ret ?_
 obtain rfl := sy h6
 exact e_ret (rs' := [.tmp 2]) rfl <| r_tmp (v := aB) rfl <| r_nil <| fin_gen [] rfl rfl rfl lr st_nil
noncomputable def ref02xFuture_l1 (rec_ref02xFuture : ApiValue → Option Bool) (p0v : ApiValue) (s4 : Int) : Option (Step Int (Fl Bool Unit)) :=
 cond (decide (s4 < ((p0v.Items).length : Int))) ((idx p0v.Items s4).bind fun (x6 : ApiValue) => (rec_ref02xFuture x6).bind fun (x8 : Bool) => cond x8 (some (Step.out (Fl.done true))) (some (Step.next (IntKind.wrap .i64 (s4 + (1 : Int)))))) (some (Step.out (Fl.go ())))
noncomputable def ref02xFutureF : Nat → ApiValue → Option Bool
 | 0, _ => none
 | n + 1, p0v =>
  ((loopO (ref02xFuture_l1 (ref02xFutureF n) p0v) ((0 : Int))) : Option (Fl Bool Unit)).bind fun (x1 : (Fl Bool Unit)) => Fl.next x1 (fun (j3 : Unit) => (some (decide (p0v.Kind = (6 : Int)))))
theorem wF_ref02xFuture : ∀ n : Nat, (∀ {p0v : ApiValue} {res : Bool}, ref02xFutureF n p0v = some res → ACalls Try.prog 87 [.agg (AV.cs (exApiValue p0v))] [] (.c (.bool res)) []) := by
 intro n
 induction n with
 | zero => exact fun {p0v res} h => absurd h (by simp [ref02xFutureF])
 | succ n ih =>
  have ih_ref02xFuture := @ih
  intro p0v res h
  rw [ref02xFutureF] at h
  refine acalls (fn := Try.f87) [0, 1, 2, 3, 8, 16] (by kernel_rfl) Try.func87 rfl (by kernel_rfl) (by kernel_rfl) <| w_sr <| o_box (v := .agg aIISLL) (n := 0) (cs := aIISLL) (σ' := [aIISLL]) rfl rfl rfl rfl rfl <| sB rfl <| o_ek (fr' := [(1, .box 0 0)]) rfl rfl <| w_seqw <| w_sr <| sI rfl <| o_ek (fr' := [(1, .box 0 0), (3, aI)]) rfl rfl ?_
  obtain ⟨x1, hx1, h2⟩ := bind_s h
  refine w_jtail cl_kw (fun j3 => x1 = Fl.go j3) (fun (j3 : Unit) => ([(1, .box 0 0)] : Fr)) (fun (j3 : Unit) => ([[.c (.int .i64 p0v.Kind), .c (.int .i64 p0v.Int), .c (.str p0v.Text), .c (PV.ls 5 rowApiValue p0v.Items), .c (PV.ls 1 rowS p0v.Keys)]] : St)) ?_ ?_
  ·
   refine w_block <| w_loopo _ (fun (s4 : Int) => ([(1, .box 0 0), (3, .c (.int .i64 s4))] : Fr)) (fun (s4 : Int) => ([[.c (.int .i64 p0v.Kind), .c (.int .i64 p0v.Int), .c (.str p0v.Text), .c (PV.ls 5 rowApiValue p0v.Items), .c (PV.ls 1 rowS p0v.Keys)]] : St)) hx1 (w_weak [] 1 rfl rfl rfl rfl ⟨lr, lr, trivial⟩ (st_r rfl st_nil)) ?_
   intro s4 st4 hs4 ho4
   unfold ref02xFuture_l1 at hs4
   refine w_seqw <| w_sr <| mI rfl <| o_p rfl (p_fa tf25x3 rfl) <| o_p rfl (p_load (v := aL) tv22 rfl rfl rfl) <| o_p rfl (p_len ti22 (isl_c rfl)) <| o_p rfl (p_lss rfl rfl) <| o_ek (fr' := [(1, .box 0 0), (3, aI), (8, aB)]) rfl rfl <| w_ch hs4 rfl (fun hb5 h5 => ?_) (fun hb5 h5 => ?_)
   ·
    refine w_skip <| e_kw <| w_seqw <| w_block <| w_sr <| o_p rfl (p_fa tf25x3 rfl) <| o_p rfl (p_load (v := aL) tv22 rfl rfl rfl) <| mI rfl ?_
    obtain ⟨x6, hx6, h7⟩ := bind_s h5
    refine o_p rfl (p_ia (cs := [.int _ _, .int _ _, .str _, PV.ls _ _ _, PV.ls _ _ _]) ts22 (isl_c rfl) rfl hx6 (rowApiValue_eq _)) <| o_p rfl (p_loades (us := [.int _ _, .int _ _, .str _, PV.ls _ _ _, PV.ls _ _ _]) tv25 rfl rfl rfl) ?_
    obtain ⟨x8, hx8, h9⟩ := bind_s h7
    refine o_v (ov_call (v := aB) rfl (ih_ref02xFuture hx8) ⟨(le_aggc rfl ⟨rfl, rfl, rfl, rfl, rfl, trivial⟩), trivial⟩ rfl rfl rfl) <| o_ek (fr' := [(1, .box 0 0), (3, aI), (16, aB)]) rfl rfl <| w_ch h9 rfl (fun hb10 h10 => ?_) (fun hb10 h10 => ?_)
    ·
     refine w_sr <| sB rfl <| o_ek (fr' := [(2, aB)]) rfl rfl <| w_ret <| e_blk_r <| e_seq_r <| e_seq_r <| e_blk_r <| e_seq_r <| e_seq_r ?_
     have h11 := un_out h10 ho4
     have h12 := un_done h11 h2
     obtain rfl := sy h12
     exact e_ret (rs' := [.tmp 2]) rfl <| r_tmp (v := aB) rfl <| r_nil <| fin_gen [] rfl rfl rfl lr st_nil
    ·
     exact w_skip <| e_blk_n <| e_kw <| w_region <| mI rfl <| o_p rfl (p_add rfl rfl) <| sI rfl <| o_end (fr' := [(1, .box 0 0), (3, aI), (16, aB)]) rfl <| e_l _ (sy h10) (w_weak [] 1 rfl rfl rfl rfl ⟨lr, lr, trivial⟩ (st_r rfl st_nil))
   ·
    refine w_exit <| e_seq_x <| e_seq_x <| e_blk_h ?_
    have h14 := un_out h5 ho4
    exact e_j _ (sy h14) (w_weak [] 1 rfl rfl rfl rfl ⟨lr, trivial⟩ (st_r rfl st_nil))
  ·
   intro j3 hj15
   have h15 := un_go hj15 h2
   refine e_kw <| w_sr <| o_p rfl (p_fa tf25x0 rfl) <| o_p rfl (p_load (v := aI) tv3 rfl rfl rfl) <| o_p rfl (p_eql rfl rfl) <| sB rfl <| o_ek (fr' := [(2, aB)]) rfl rfl <| w_ret ?_
   obtain rfl := sy h15
   exact e_ret (rs' := [.tmp 2]) rfl <| r_tmp (v := aB) rfl <| r_nil <| fin_gen [] rfl rfl rfl lr st_nil
noncomputable def ref02xFuture (p0v : ApiValue) : Option Bool := lim fun n => ref02xFutureF n p0v
theorem w_ref02xFuture {p0v : ApiValue} {res : Bool} (h : ref02xFuture p0v = some res) : ACalls Try.prog 87 [.agg (AV.cs (exApiValue p0v))] [] (.c (.bool res)) [] := by
 obtain ⟨n, hn⟩ := lim_some h
 exact (wF_ref02xFuture n) hn
noncomputable def ref02xRight (p0v : ApiValue) : Option Bool :=
 (ref02xWellFormed p0v).bind fun (x1 : Bool) => (gd (x1 == true) (ref02xWithin p0v)).bind fun (x3 : Bool) => (gd ((cond x1 x3 false) == true) (ref02xFuture p0v)).bind fun (x5 : Bool) => some (cond (cond x1 x3 false) (!x5) false)
theorem w_ref02xRight {p0v : ApiValue} {res : Bool} (h : ref02xRight p0v = some res) : ACalls Try.prog 50 [.agg (AV.cs (exApiValue p0v))] [] (.c (.bool res)) [] := by
 unfold ref02xRight at h
 refine acalls (fn := Try.f50) [0, 1, 2] (by kernel_rfl) Try.func50 rfl (by kernel_rfl) (by kernel_rfl) <| w_sr <| o_box (v := .agg aIISLL) (n := 0) (cs := aIISLL) (σ' := [aIISLL]) rfl rfl rfl rfl rfl <| sB rfl <| o_ek (fr' := [(1, .box 0 0)]) rfl rfl <| w_sr <| o_p rfl (p_loads (us := aIISLL) tv25 rfl rfl rfl rfl) ?_
 obtain ⟨x1, hx1, h2⟩ := bind_s h
 refine o_v (ov_call (v := aB) rfl (w_ref02xWellFormed hx1) ⟨(le_aggc rfl ⟨rfl, rfl, rfl, rfl, rfl, trivial⟩), trivial⟩ rfl rfl rfl) <| mB rfl <| og rfl rfl rfl (fun hc => (p_loads (us := aIISLL) tv25 rfl rfl rfl rfl)) ?_
 obtain ⟨x3, hx3, h4⟩ := bind_s h2
 refine o_g rfl rfl (fun hc => ov_call (v := aB) rfl (w_ref02xWithin (gd_some hx3 hc)) ⟨(le_gv (gx rfl hc) (le_aggc rfl ⟨rfl, rfl, rfl, rfl, rfl, trivial⟩)), trivial⟩ (ok_eq (by repeat (first | exact ok_nil | refine ok_cons rfl ?_ | refine ok_cons (dgv rfl) ?_))) rfl rfl) ?_
 refine o_p rfl (p_picky rfl rfl rfl (fun e => keq e)) <| mB rfl <| og rfl rfl rfl (fun hc => (p_loads (us := aIISLL) tv25 rfl rfl rfl rfl)) ?_
 obtain ⟨x5, hx5, h6⟩ := bind_s h4
 refine o_g rfl rfl (fun hc => ov_call (v := aB) rfl (w_ref02xFuture (gd_some hx5 hc)) ⟨(le_gv (gx rfl hc) (le_aggc rfl ⟨rfl, rfl, rfl, rfl, rfl, trivial⟩)), trivial⟩ (ok_eq (by repeat (first | exact ok_nil | refine ok_cons rfl ?_ | refine ok_cons (dgv rfl) ?_))) rfl rfl) ?_
 refine og rfl rfl rfl (fun hc => (p_not (gx rfl hc))) <| o_p rfl (p_picky rfl rfl rfl (fun e => keq e)) <| sB rfl <| o_ek (fr' := [(2, aB)]) rfl rfl <| w_ret ?_
 obtain rfl := sy h6
 exact e_ret (rs' := [.tmp 2]) rfl <| r_tmp (v := aB) rfl <| r_nil <| fin_gen [] rfl rfl rfl lr st_nil
end Go.Proofs.Ytmnobgopfnhbnaa

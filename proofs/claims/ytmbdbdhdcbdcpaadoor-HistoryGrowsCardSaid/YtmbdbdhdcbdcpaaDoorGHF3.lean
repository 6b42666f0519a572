import Derived.Test.YtmbdbdhdcbdcpaaDoorGHTy
import Derived.Test.YtmbdbdhdcbdcpaaDoorGHF0
import Derived.Test.YtmbdbdhdcbdcpaaDoorGHF2
namespace Go.Proofs.YtmbdbdhdcbdcpaaDoor
open Go Abs
set_option maxRecDepth 100000
set_option linter.unusedVariables false
set_option linter.unusedSimpArgs false
noncomputable def event_particular (p0e : ApiEvent) : Option Bool :=
 cond (decide (p0e.Kind = (1 : Int))) ((name_Right p0e.Name).bind fun (x2 : Bool) => (gd (x2 == true) (event_identifier p0e.Key)).bind fun (x4 : Bool) => (gd ((cond x2 x4 false) == true) (event_within p0e.N (0 : Int) (4294967295 : Int))).bind fun (x6 : Bool) => (gd ((cond (cond x2 x4 false) x6 false) == true) (event_input p0e.Data)).bind fun (x8 : Bool) => some (cond (cond (cond x2 x4 false) x6 false) x8 false)) (cond (decide (p0e.Kind = (2 : Int))) (some (decide ((1 : Int) ≤ p0e.N))) (cond (decide (p0e.Kind = (5 : Int))) ((event_within p0e.Code (1 : Int) (30 : Int)).bind fun (x14 : Bool) => some x14) (cond (decide (p0e.Kind = (8 : Int))) ((event_within p0e.N (1 : Int) (1000 : Int)).bind fun (x18 : Bool) => some x18) (cond (decide (p0e.Kind = (11 : Int))) ((event_within p0e.Code (1 : Int) (4 : Int)).bind fun (x22 : Bool) => some x22) (((cond (decide (p0e.Kind = (10 : Int))) (some (decide (p0e.Kind = (10 : Int)))) (cond (decide (p0e.Kind = (22 : Int))) (some (decide (p0e.Kind = (22 : Int)))) (some (decide (p0e.Kind = (25 : Int)))))) : Option Bool).bind fun (x25 : Bool) => (cond x25 (some (decide (((p0e.Name).length : Int) ≤ (4096 : Int)))) (cond (decide (p0e.Kind = (33 : Int))) (some (decide (((p0e.Name).length : Int) ≤ (64 : Int)))) (cond (decide (p0e.Kind = (17 : Int))) ((name_Right p0e.Name).bind fun (x36 : Bool) => (gd (x36 == true) (event_identifier p0e.Key)).bind fun (x38 : Bool) => some (cond x36 x38 false)) (cond (decide (p0e.Kind = (26 : Int))) ((event_identifier p0e.Key).bind fun (x42 : Bool) => some x42) (cond (decide (p0e.Kind = (20 : Int))) ((name_Number p0e.Key).bind fun (x46 : (Int × Bool)) => some x46.2) (some true)))))))))))
theorem w_event_particular {p0e : ApiEvent} {res : Bool} (h : event_particular p0e = some res) : ACalls Tryd.prog 116 [.agg (AV.cs (rowApiEvent p0e))] [] (.c (.bool res)) [] := by
 unfold event_particular at h
 refine acalls (fn := Tryd.f116) [0, 1, 2, 4, 6, 7, 27, 32, 37, 42, 47, 55, 61, 71, 76] (by kernel_rfl) Tryd.func116 rfl (by kernel_rfl) (by kernel_rfl) <| w_sr <| o_box (v := .agg aIIIIIIISSIISLLSIIIIIIIIL) (n := 0) (cs := aIIIIIIISSIISLLSIIIIIIIIL) (σ' := [aIIIIIIISSIISLLSIIIIIIIIL]) rfl rfl rfl rfl rfl <| sB rfl <| o_ek (fr' := [(1, .box 0 0)]) rfl rfl <| w_seqw <| w_sr <| o_p rfl (p_fa tf116x1 rfl) <| o_p rfl (p_load (v := aI) tv3 rfl rfl rfl) <| o_ek (fr' := [(1, .box 0 0), (6, aI)]) rfl rfl <| w_block ?_
 refine w_sr <| o_p rfl (p_eql rfl rfl) <| sB rfl <| o_ek (fr' := [(1, .box 0 0), (6, aI), (7, aB)]) rfl rfl <| w_ch h rfl (fun hb1 h1 => ?_) (fun hb1 h1 => ?_)
 ·
  refine w_sr <| o_p rfl (p_fa tf116x7 rfl) <| o_p rfl (p_load (v := aS) tv9 rfl rfl rfl) ?_
  obtain ⟨x2, hx2, h3⟩ := bind_s h1
  refine o_v (ov_call (v := aB) rfl (w_name_Right hx2) ⟨lr, trivial⟩ rfl rfl rfl) <| mB rfl <| og rfl rfl rfl (fun hc => (p_fa tf116x8 rfl)) <| og rfl rfl rfl (fun hc => (p_load (v := aS) tv9 (gx rfl hc) rfl rfl)) ?_
  obtain ⟨x4, hx4, h5⟩ := bind_s h3
  refine o_g rfl rfl (fun hc => ov_call (v := aB) rfl (w_event_identifier (gd_some hx4 hc)) ⟨(le_gv (gx rfl hc) lr), trivial⟩ (ok_eq (by repeat (first | exact ok_nil | refine ok_cons rfl ?_ | refine ok_cons (dgv rfl) ?_ | refine ok_cons dar ?_))) rfl rfl) ?_
  refine o_p rfl (p_picky rfl rfl rfl (fun e => keq e)) <| mB rfl <| og rfl rfl rfl (fun hc => (p_fa tf116x5 rfl)) <| og rfl rfl rfl (fun hc => (p_load (v := aI) tv3 (gx rfl hc) rfl rfl)) ?_
  obtain ⟨x6, hx6, h7⟩ := bind_s h5
  refine o_g rfl rfl (fun hc => ov_call (v := aB) rfl (w_event_within (gd_some hx6 hc)) ⟨(le_gv (gx rfl hc) lr), lr, lr, trivial⟩ (ok_eq (by repeat (first | exact ok_nil | refine ok_cons rfl ?_ | refine ok_cons (dgv rfl) ?_ | refine ok_cons dar ?_))) rfl rfl) ?_
  refine o_p rfl (p_picky rfl rfl rfl (fun e => keq e)) <| mB rfl <| og rfl rfl rfl (fun hc => (p_fa tf116x9 rfl)) <| og rfl rfl rfl (fun hc => (p_loads (us := aIISLL) tv112 (gx rfl hc) rfl rfl rfl)) ?_
  obtain ⟨x8, hx8, h9⟩ := bind_s h7
  refine o_g rfl rfl (fun hc => ov_call (v := aB) rfl (w_event_input (gd_some hx8 hc)) ⟨(le_gv (gx rfl hc) (le_aggc rfl ⟨rfl, rfl, rfl, rfl, rfl, trivial⟩)), trivial⟩ (ok_eq (by repeat (first | exact ok_nil | refine ok_cons rfl ?_ | refine ok_cons (dgv rfl) ?_ | refine ok_cons dar ?_))) rfl rfl) ?_
  refine o_p rfl (p_picky rfl rfl rfl (fun e => keq e)) <| sB rfl <| o_ek (fr' := [(2, aB)]) rfl rfl <| w_ret <| e_blk_r <| e_seq_r ?_
  obtain rfl := sy h9
  exact e_ret (rs' := [.tmp 2]) rfl <| r_tmp (v := aB) rfl <| r_nil <| fin_gen [] rfl rfl rfl lr st_nil
 ·
  refine w_sr <| o_p rfl (p_eql rfl rfl) <| sB rfl <| o_ek (fr' := [(1, .box 0 0), (6, aI), (27, aB)]) rfl rfl <| w_ch h1 rfl (fun hb11 h11 => ?_) (fun hb11 h11 => ?_)
  ·
   refine w_sr <| o_p rfl (p_fa tf116x5 rfl) <| o_p rfl (p_load (v := aI) tv3 rfl rfl rfl) <| o_p rfl (p_geq rfl rfl) <| sB rfl <| o_ek (fr' := [(2, aB)]) rfl rfl <| w_ret <| e_blk_r <| e_seq_r ?_
   obtain rfl := sy h11
   exact e_ret (rs' := [.tmp 2]) rfl <| r_tmp (v := aB) rfl <| r_nil <| fin_gen [] rfl rfl rfl lr st_nil
  ·
   refine w_sr <| o_p rfl (p_eql rfl rfl) <| sB rfl <| o_ek (fr' := [(1, .box 0 0), (6, aI), (32, aB)]) rfl rfl <| w_ch h11 rfl (fun hb13 h13 => ?_) (fun hb13 h13 => ?_)
   ·
    refine w_sr <| o_p rfl (p_fa tf116x6 rfl) <| o_p rfl (p_load (v := aI) tv3 rfl rfl rfl) ?_
    obtain ⟨x14, hx14, h15⟩ := bind_s h13
    refine o_v (ov_call (v := aB) rfl (w_event_within hx14) ⟨lr, lr, lr, trivial⟩ rfl rfl rfl) <| sB rfl <| o_ek (fr' := [(2, aB)]) rfl rfl <| w_ret <| e_blk_r <| e_seq_r ?_
    obtain rfl := sy h15
    exact e_ret (rs' := [.tmp 2]) rfl <| r_tmp (v := aB) rfl <| r_nil <| fin_gen [] rfl rfl rfl lr st_nil
   ·
    refine w_sr <| o_p rfl (p_eql rfl rfl) <| sB rfl <| o_ek (fr' := [(1, .box 0 0), (6, aI), (37, aB)]) rfl rfl <| w_ch h13 rfl (fun hb17 h17 => ?_) (fun hb17 h17 => ?_)
    ·
     refine w_sr <| o_p rfl (p_fa tf116x5 rfl) <| o_p rfl (p_load (v := aI) tv3 rfl rfl rfl) ?_
     obtain ⟨x18, hx18, h19⟩ := bind_s h17
     refine o_v (ov_call (v := aB) rfl (w_event_within hx18) ⟨lr, lr, lr, trivial⟩ rfl rfl rfl) <| sB rfl <| o_ek (fr' := [(2, aB)]) rfl rfl <| w_ret <| e_blk_r <| e_seq_r ?_
     obtain rfl := sy h19
     exact e_ret (rs' := [.tmp 2]) rfl <| r_tmp (v := aB) rfl <| r_nil <| fin_gen [] rfl rfl rfl lr st_nil
    ·
     refine w_sr <| o_p rfl (p_eql rfl rfl) <| sB rfl <| o_ek (fr' := [(1, .box 0 0), (6, aI), (42, aB)]) rfl rfl <| w_ch h17 rfl (fun hb21 h21 => ?_) (fun hb21 h21 => ?_)
     ·
      refine w_sr <| o_p rfl (p_fa tf116x6 rfl) <| o_p rfl (p_load (v := aI) tv3 rfl rfl rfl) ?_
      obtain ⟨x22, hx22, h23⟩ := bind_s h21
      refine o_v (ov_call (v := aB) rfl (w_event_within hx22) ⟨lr, lr, lr, trivial⟩ rfl rfl rfl) <| sB rfl <| o_ek (fr' := [(2, aB)]) rfl rfl <| w_ret <| e_blk_r <| e_seq_r ?_
      obtain rfl := sy h23
      exact e_ret (rs' := [.tmp 2]) rfl <| r_tmp (v := aB) rfl <| r_nil <| fin_gen [] rfl rfl rfl lr st_nil
     ·
      obtain ⟨x25, hx25, h26⟩ := bind_s h21
      refine w_join (fun j27 => x25 = j27) (fun (j27 : Bool) => ([(1, .box 0 0), (6, .c (.int .i64 p0e.Kind)), (47, .c (.bool j27))] : Fr)) (fun (j27 : Bool) => ([[.c (.int .i64 p0e.ID), .c (.int .i64 p0e.Kind), .c (.int .i64 p0e.Time), .c (.int .i64 p0e.Seq), .c (.int .i64 p0e.Ref), .c (.int .i64 p0e.N), .c (.int .i64 p0e.Code), .c (.str p0e.Name), .c (.str p0e.Key), .c (.int .i64 p0e.Data.Kind), .c (.int .i64 p0e.Data.Int), .c (.str p0e.Data.Text), .c (PV.ls 5 rowApiValue p0e.Data.Items), .c (PV.ls 1 rowS p0e.Data.Keys), .c (.str p0e.Opts.Queue), .c (.int .i64 p0e.Opts.ToStart), .c (.int .i64 p0e.Opts.ToClose), .c (.int .i64 p0e.Opts.Total), .c (.int .i64 p0e.Opts.Beat), .c (.int .i64 p0e.Opts.First), .c (.int .i64 p0e.Opts.Coef), .c (.int .i64 p0e.Opts.Most), .c (.int .i64 p0e.Opts.Attempts), .c (PV.ls 1 rowS p0e.Opts.Fatal)]] : St)) ?_ ?_
      ·
       refine w_sr <| o_p rfl (p_eql rfl rfl) <| sB rfl <| o_ek (fr' := [(1, .box 0 0), (6, aI), (47, aB)]) rfl rfl <| w_ch hx25 rfl (fun hb28 h28 => ?_) (fun hb28 h28 => ?_)
       ·
        exact w_skip <| e_j _ (sy h28) (w_weak [] 1 rfl rfl rfl rfl ⟨lr, lr, lr, trivial⟩ (st_r rfl st_nil))
       ·
        refine w_sr <| o_p rfl (p_eql rfl rfl) <| sB rfl <| o_ek (fr' := [(1, .box 0 0), (6, aI), (47, aB)]) rfl rfl <| w_ch h28 rfl (fun hb29 h29 => ?_) (fun hb29 h29 => ?_)
        ·
         exact w_skip <| e_j _ (sy h29) (w_weak [] 1 rfl rfl rfl rfl ⟨lr, lr, lr, trivial⟩ (st_r rfl st_nil))
        ·
         exact w_region <| o_p rfl (p_eql rfl rfl) <| sB rfl <| o_end (fr' := [(1, .box 0 0), (6, aI), (47, aB)]) rfl <| e_j _ (sy h29) (w_weak [] 1 rfl rfl rfl rfl ⟨lr, lr, lr, trivial⟩ (st_r rfl st_nil))
      ·
       intro j27 hj30
       subst hj30
       refine w_ch h26 rfl (fun hb31 h31 => ?_) (fun hb31 h31 => ?_)
       ·
        refine w_sr <| o_p rfl (p_fa tf116x7 rfl) <| o_p rfl (p_load (v := aS) tv9 rfl rfl rfl) <| o_p rfl (p_lens ti9 rfl) <| o_p rfl (p_leq rfl rfl) <| sB rfl <| o_ek (fr' := [(2, aB)]) rfl rfl <| w_ret <| e_blk_r <| e_seq_r ?_
        obtain rfl := sy h31
        exact e_ret (rs' := [.tmp 2]) rfl <| r_tmp (v := aB) rfl <| r_nil <| fin_gen [] rfl rfl rfl lr st_nil
       ·
        refine w_sr <| o_p rfl (p_eql rfl rfl) <| sB rfl <| o_ek (fr' := [(1, .box 0 0), (6, aI), (55, aB)]) rfl rfl <| w_ch h31 rfl (fun hb33 h33 => ?_) (fun hb33 h33 => ?_)
        ·
         refine w_sr <| o_p rfl (p_fa tf116x7 rfl) <| o_p rfl (p_load (v := aS) tv9 rfl rfl rfl) <| o_p rfl (p_lens ti9 rfl) <| o_p rfl (p_leq rfl rfl) <| sB rfl <| o_ek (fr' := [(2, aB)]) rfl rfl <| w_ret <| e_blk_r <| e_seq_r ?_
         obtain rfl := sy h33
         exact e_ret (rs' := [.tmp 2]) rfl <| r_tmp (v := aB) rfl <| r_nil <| fin_gen [] rfl rfl rfl lr st_nil
        ·
         refine w_sr <| o_p rfl (p_eql rfl rfl) <| sB rfl <| o_ek (fr' := [(1, .box 0 0), (6, aI), (61, aB)]) rfl rfl <| w_ch h33 rfl (fun hb35 h35 => ?_) (fun hb35 h35 => ?_)
         ·
          refine w_sr <| o_p rfl (p_fa tf116x7 rfl) <| o_p rfl (p_load (v := aS) tv9 rfl rfl rfl) ?_
          obtain ⟨x36, hx36, h37⟩ := bind_s h35
          refine o_v (ov_call (v := aB) rfl (w_name_Right hx36) ⟨lr, trivial⟩ rfl rfl rfl) <| mB rfl <| og rfl rfl rfl (fun hc => (p_fa tf116x8 rfl)) <| og rfl rfl rfl (fun hc => (p_load (v := aS) tv9 (gx rfl hc) rfl rfl)) ?_
          obtain ⟨x38, hx38, h39⟩ := bind_s h37
          refine o_g rfl rfl (fun hc => ov_call (v := aB) rfl (w_event_identifier (gd_some hx38 hc)) ⟨(le_gv (gx rfl hc) lr), trivial⟩ (ok_eq (by repeat (first | exact ok_nil | refine ok_cons rfl ?_ | refine ok_cons (dgv rfl) ?_ | refine ok_cons dar ?_))) rfl rfl) ?_
          refine o_p rfl (p_picky rfl rfl rfl (fun e => keq e)) <| sB rfl <| o_ek (fr' := [(2, aB)]) rfl rfl <| w_ret <| e_blk_r <| e_seq_r ?_
          obtain rfl := sy h39
          exact e_ret (rs' := [.tmp 2]) rfl <| r_tmp (v := aB) rfl <| r_nil <| fin_gen [] rfl rfl rfl lr st_nil
         ·
          refine w_sr <| o_p rfl (p_eql rfl rfl) <| sB rfl <| o_ek (fr' := [(1, .box 0 0), (6, aI), (71, aB)]) rfl rfl <| w_ch h35 rfl (fun hb41 h41 => ?_) (fun hb41 h41 => ?_)
          ·
           refine w_sr <| o_p rfl (p_fa tf116x8 rfl) <| o_p rfl (p_load (v := aS) tv9 rfl rfl rfl) ?_
           obtain ⟨x42, hx42, h43⟩ := bind_s h41
           refine o_v (ov_call (v := aB) rfl (w_event_identifier hx42) ⟨lr, trivial⟩ rfl rfl rfl) <| sB rfl <| o_ek (fr' := [(2, aB)]) rfl rfl <| w_ret <| e_blk_r <| e_seq_r ?_
           obtain rfl := sy h43
           exact e_ret (rs' := [.tmp 2]) rfl <| r_tmp (v := aB) rfl <| r_nil <| fin_gen [] rfl rfl rfl lr st_nil
          ·
           refine w_sr <| o_p rfl (p_eql rfl rfl) <| sB rfl <| o_ek (fr' := [(1, .box 0 0), (76, aB)]) rfl rfl <| w_ch h41 rfl (fun hb45 h45 => ?_) (fun hb45 h45 => ?_)
           ·
            refine w_sr <| o_p rfl (p_fa tf116x8 rfl) <| o_p rfl (p_load (v := aS) tv9 rfl rfl rfl) ?_
            obtain ⟨x46, hx46, h47⟩ := bind_s h45
            refine o_v (ov_call (v := .tup [aI, aB]) rfl (w_name_Number hx46) ⟨lr, trivial⟩ rfl rfl rfl) <| mV (v := .tup [aI, aB]) rfl <| o_p rfl (p_ex (v := aI) rfl rfl) <| o_p rfl (p_ex (v := aB) rfl rfl) <| sI rfl <| sB rfl <| o_ek (fr' := [(4, aB)]) rfl rfl <| w_sr <| mB rfl <| sB rfl <| o_ek (fr' := [(2, aB)]) rfl rfl <| w_ret ?_
            refine e_blk_r <| e_seq_r ?_
            obtain rfl := sy h47
            exact e_ret (rs' := [.tmp 2]) rfl <| r_tmp (v := aB) rfl <| r_nil <| fin_gen [] rfl rfl rfl lr st_nil
           ·
            refine w_skip <| e_blk_n <| e_kw <| w_sr <| sB rfl <| o_ek (fr' := [(2, aB)]) rfl rfl <| w_ret ?_
            obtain rfl := sy h45
            exact e_ret (rs' := [.tmp 2]) rfl <| r_tmp (v := aB) rfl <| r_nil <| fin_gen [] rfl rfl rfl lr st_nil
noncomputable def event_commandOf (p0kind : Int) : Option Int :=
 cond (decide (p0kind = (7 : Int))) (some (1 : Int)) (cond (decide (p0kind = (12 : Int))) (some (2 : Int)) (cond (decide (p0kind = (14 : Int))) (some (3 : Int)) (cond (decide (p0kind = (16 : Int))) (some (4 : Int)) (cond (decide (p0kind = (19 : Int))) (some (5 : Int)) (cond (decide (p0kind = (23 : Int))) (some (6 : Int)) (cond (decide (p0kind = (18 : Int))) (some (7 : Int)) (cond (decide (p0kind = (27 : Int))) (some (8 : Int)) (cond (decide (p0kind = (28 : Int))) (some (9 : Int)) (cond (decide (p0kind = (29 : Int))) (some (10 : Int)) (cond (decide (p0kind = (30 : Int))) (some (11 : Int)) (cond (decide (p0kind = (31 : Int))) (some (12 : Int)) (cond (decide (p0kind = (32 : Int))) (some (13 : Int)) (cond (decide (p0kind = (35 : Int))) (some (14 : Int)) (some (0 : Int)))))))))))))))
theorem w_event_commandOf {p0kind : Int} {res : Int} (h : event_commandOf p0kind = some res) : ACalls Tryd.prog 91 [.c (.int .i64 p0kind)] [] (.c (.int .i64 res)) [] := by
 unfold event_commandOf at h
 refine acalls (fn := Tryd.f91) [0, 2, 3, 4, 6, 8, 10, 12, 14, 16, 18, 20, 22, 24, 26, 28, 30] (by kernel_rfl) Tryd.func91 rfl (by kernel_rfl) (by kernel_rfl) <| w_sr <| sI rfl <| o_ek (fr' := [(0, aI)]) rfl rfl <| w_seqw <| w_sr <| mI rfl <| o_ek (fr' := [(3, aI)]) rfl rfl <| w_block <| w_seqw <| w_region ?_
 refine o_p rfl (p_eql rfl rfl) <| sB rfl <| o_ek (fr' := [(3, aI), (4, aB)]) rfl rfl <| w_ch h rfl (fun hb1 h1 => ?_) (fun hb1 h1 => ?_)
 ·
  refine w_sr <| sI rfl <| o_ek (fr' := [(2, aI)]) rfl rfl <| w_ret <| e_blk_r <| e_seq_r ?_
  obtain rfl := sy h1
  exact e_ret (rs' := [.tmp 2]) rfl <| r_tmp (v := aI) rfl <| r_nil <| fin_gen [] rfl rfl rfl lr st_nil
 ·
  refine w_sr <| o_p rfl (p_eql rfl rfl) <| sB rfl <| o_ek (fr' := [(3, aI), (6, aB)]) rfl rfl <| w_ch h1 rfl (fun hb3 h3 => ?_) (fun hb3 h3 => ?_)
  ·
   refine w_sr <| sI rfl <| o_ek (fr' := [(2, aI)]) rfl rfl <| w_ret <| e_blk_r <| e_seq_r ?_
   obtain rfl := sy h3
   exact e_ret (rs' := [.tmp 2]) rfl <| r_tmp (v := aI) rfl <| r_nil <| fin_gen [] rfl rfl rfl lr st_nil
  ·
   refine w_sr <| o_p rfl (p_eql rfl rfl) <| sB rfl <| o_ek (fr' := [(3, aI), (8, aB)]) rfl rfl <| w_ch h3 rfl (fun hb5 h5 => ?_) (fun hb5 h5 => ?_)
   ·
    refine w_sr <| sI rfl <| o_ek (fr' := [(2, aI)]) rfl rfl <| w_ret <| e_blk_r <| e_seq_r ?_
    obtain rfl := sy h5
    exact e_ret (rs' := [.tmp 2]) rfl <| r_tmp (v := aI) rfl <| r_nil <| fin_gen [] rfl rfl rfl lr st_nil
   ·
    refine w_sr <| o_p rfl (p_eql rfl rfl) <| sB rfl <| o_ek (fr' := [(3, aI), (10, aB)]) rfl rfl <| w_ch h5 rfl (fun hb7 h7 => ?_) (fun hb7 h7 => ?_)
    ·
     refine w_sr <| sI rfl <| o_ek (fr' := [(2, aI)]) rfl rfl <| w_ret <| e_blk_r <| e_seq_r ?_
     obtain rfl := sy h7
     exact e_ret (rs' := [.tmp 2]) rfl <| r_tmp (v := aI) rfl <| r_nil <| fin_gen [] rfl rfl rfl lr st_nil
    ·
     refine w_sr <| o_p rfl (p_eql rfl rfl) <| sB rfl <| o_ek (fr' := [(3, aI), (12, aB)]) rfl rfl <| w_ch h7 rfl (fun hb9 h9 => ?_) (fun hb9 h9 => ?_)
     ·
      refine w_sr <| sI rfl <| o_ek (fr' := [(2, aI)]) rfl rfl <| w_ret <| e_blk_r <| e_seq_r ?_
      obtain rfl := sy h9
      exact e_ret (rs' := [.tmp 2]) rfl <| r_tmp (v := aI) rfl <| r_nil <| fin_gen [] rfl rfl rfl lr st_nil
     ·
      refine w_sr <| o_p rfl (p_eql rfl rfl) <| sB rfl <| o_ek (fr' := [(3, aI), (14, aB)]) rfl rfl <| w_ch h9 rfl (fun hb11 h11 => ?_) (fun hb11 h11 => ?_)
      ·
       refine w_sr <| sI rfl <| o_ek (fr' := [(2, aI)]) rfl rfl <| w_ret <| e_blk_r <| e_seq_r ?_
       obtain rfl := sy h11
       exact e_ret (rs' := [.tmp 2]) rfl <| r_tmp (v := aI) rfl <| r_nil <| fin_gen [] rfl rfl rfl lr st_nil
      ·
       refine w_sr <| o_p rfl (p_eql rfl rfl) <| sB rfl <| o_ek (fr' := [(3, aI), (16, aB)]) rfl rfl <| w_ch h11 rfl (fun hb13 h13 => ?_) (fun hb13 h13 => ?_)
       ·
        refine w_sr <| sI rfl <| o_ek (fr' := [(2, aI)]) rfl rfl <| w_ret <| e_blk_r <| e_seq_r ?_
        obtain rfl := sy h13
        exact e_ret (rs' := [.tmp 2]) rfl <| r_tmp (v := aI) rfl <| r_nil <| fin_gen [] rfl rfl rfl lr st_nil
       ·
        refine w_sr <| o_p rfl (p_eql rfl rfl) <| sB rfl <| o_ek (fr' := [(3, aI), (18, aB)]) rfl rfl <| w_ch h13 rfl (fun hb15 h15 => ?_) (fun hb15 h15 => ?_)
        ·
         refine w_sr <| sI rfl <| o_ek (fr' := [(2, aI)]) rfl rfl <| w_ret <| e_blk_r <| e_seq_r ?_
         obtain rfl := sy h15
         exact e_ret (rs' := [.tmp 2]) rfl <| r_tmp (v := aI) rfl <| r_nil <| fin_gen [] rfl rfl rfl lr st_nil
        ·
         refine w_sr <| o_p rfl (p_eql rfl rfl) <| sB rfl <| o_ek (fr' := [(3, aI), (20, aB)]) rfl rfl <| w_ch h15 rfl (fun hb17 h17 => ?_) (fun hb17 h17 => ?_)
         ·
          refine w_sr <| sI rfl <| o_ek (fr' := [(2, aI)]) rfl rfl <| w_ret <| e_blk_r <| e_seq_r ?_
          obtain rfl := sy h17
          exact e_ret (rs' := [.tmp 2]) rfl <| r_tmp (v := aI) rfl <| r_nil <| fin_gen [] rfl rfl rfl lr st_nil
         ·
          refine w_sr <| o_p rfl (p_eql rfl rfl) <| sB rfl <| o_ek (fr' := [(3, aI), (22, aB)]) rfl rfl <| w_ch h17 rfl (fun hb19 h19 => ?_) (fun hb19 h19 => ?_)
          ·
           refine w_sr <| sI rfl <| o_ek (fr' := [(2, aI)]) rfl rfl <| w_ret <| e_blk_r <| e_seq_r ?_
           obtain rfl := sy h19
           exact e_ret (rs' := [.tmp 2]) rfl <| r_tmp (v := aI) rfl <| r_nil <| fin_gen [] rfl rfl rfl lr st_nil
          ·
           refine w_sr <| o_p rfl (p_eql rfl rfl) <| sB rfl <| o_ek (fr' := [(3, aI), (24, aB)]) rfl rfl <| w_ch h19 rfl (fun hb21 h21 => ?_) (fun hb21 h21 => ?_)
           ·
            refine w_sr <| sI rfl <| o_ek (fr' := [(2, aI)]) rfl rfl <| w_ret <| e_blk_r <| e_seq_r ?_
            obtain rfl := sy h21
            exact e_ret (rs' := [.tmp 2]) rfl <| r_tmp (v := aI) rfl <| r_nil <| fin_gen [] rfl rfl rfl lr st_nil
           ·
            refine w_sr <| o_p rfl (p_eql rfl rfl) <| sB rfl <| o_ek (fr' := [(3, aI), (26, aB)]) rfl rfl <| w_ch h21 rfl (fun hb23 h23 => ?_) (fun hb23 h23 => ?_)
            ·
             refine w_sr <| sI rfl <| o_ek (fr' := [(2, aI)]) rfl rfl <| w_ret <| e_blk_r <| e_seq_r ?_
             obtain rfl := sy h23
             exact e_ret (rs' := [.tmp 2]) rfl <| r_tmp (v := aI) rfl <| r_nil <| fin_gen [] rfl rfl rfl lr st_nil
            ·
             refine w_sr <| o_p rfl (p_eql rfl rfl) <| sB rfl <| o_ek (fr' := [(3, aI), (28, aB)]) rfl rfl <| w_ch h23 rfl (fun hb25 h25 => ?_) (fun hb25 h25 => ?_)
             ·
              refine w_sr <| sI rfl <| o_ek (fr' := [(2, aI)]) rfl rfl <| w_ret <| e_blk_r <| e_seq_r ?_
              obtain rfl := sy h25
              exact e_ret (rs' := [.tmp 2]) rfl <| r_tmp (v := aI) rfl <| r_nil <| fin_gen [] rfl rfl rfl lr st_nil
             ·
              refine w_sr <| o_p rfl (p_eql rfl rfl) <| sB rfl <| o_ek (fr' := [(30, aB)]) rfl rfl <| w_ch h25 rfl (fun hb27 h27 => ?_) (fun hb27 h27 => ?_)
              ·
               refine w_sr <| sI rfl <| o_ek (fr' := [(2, aI)]) rfl rfl <| w_ret <| e_blk_r <| e_seq_r ?_
               obtain rfl := sy h27
               exact e_ret (rs' := [.tmp 2]) rfl <| r_tmp (v := aI) rfl <| r_nil <| fin_gen [] rfl rfl rfl lr st_nil
              ·
               refine w_skip <| e_blk_n <| e_kw <| w_sr <| sI rfl <| o_ek (fr' := [(2, aI)]) rfl rfl <| w_ret ?_
               obtain rfl := sy h27
               exact e_ret (rs' := [.tmp 2]) rfl <| r_tmp (v := aI) rfl <| r_nil <| fin_gen [] rfl rfl rfl lr st_nil
noncomputable def event_Right (p0e : ApiEvent) : Option Bool :=
 (event_within p0e.Kind (1 : Int) (35 : Int)).bind fun (x1 : Bool) => (gd ((!x1) == false) (event_within p0e.ID (0 : Int) (2000 : Int))).bind fun (x3 : Bool) => (gd ((cond (!x1) true (!x3)) == false) (event_within p0e.Time (0 : Int) (1099511627776 : Int))).bind fun (x5 : Bool) => (gd ((cond (cond (!x1) true (!x3)) true (!x5)) == false) (value_Right p0e.Data)).bind fun (x7 : Bool) => cond (cond (cond (cond (!x1) true (!x3)) true (!x5)) true (!x7)) (some false) ((event_commandOf p0e.Kind).bind fun (x11 : Int) => cond (!decide (x11 = (0 : Int))) ((event_commanded p0e x11).bind fun (x14 : Bool) => some x14) ((event_used p0e.Kind).bind fun (x17 : EventUses) => (event_uses_empty x17 p0e).bind fun (x19 : Bool) => (gd (((!x19) == false) && (x17.seq_ == true)) (event_within p0e.Seq (1 : Int) (2000 : Int))).bind fun (x21 : Bool) => (gd (((cond (!x19) true (cond x17.seq_ (!x21) false)) == false) && (x17.ref_ == true)) (event_within p0e.Ref (1 : Int) (2000 : Int))).bind fun (x23 : Bool) => cond (cond (cond (!x19) true (cond x17.seq_ (!x21) false)) true (cond x17.ref_ (!x23) false)) (some false) ((event_particular p0e).bind fun (x27 : Bool) => some x27)))
theorem w_event_Right {p0e : ApiEvent} {res : Bool} (h : event_Right p0e = some res) : ACalls Tryd.prog 85 [.agg (AV.cs (rowApiEvent p0e))] [] (.c (.bool res)) [] := by
 unfold event_Right at h
 refine acalls (fn := Tryd.f85) [0, 1, 2, 3, 4, 26, 31, 61] (by kernel_rfl) Tryd.func85 rfl (by kernel_rfl) (by kernel_rfl) <| w_sr <| o_box (v := .agg aIIIIIIISSIISLLSIIIIIIIIL) (n := 0) (cs := aIIIIIIISSIISLLSIIIIIIIIL) (σ' := [aIIIIIIISSIISLLSIIIIIIIIL]) rfl rfl rfl rfl rfl <| sB rfl <| o_ek (fr' := [(1, .box 0 0)]) rfl rfl <| w_seqw <| w_sr <| o_p rfl (p_fa tf116x1 rfl) <| o_p rfl (p_load (v := aI) tv3 rfl rfl rfl) ?_
 obtain ⟨x1, hx1, h2⟩ := bind_s h
 refine o_v (ov_call (v := aB) rfl (w_event_within hx1) ⟨lr, lr, lr, trivial⟩ rfl rfl rfl) <| o_p rfl (p_not rfl) <| mB rfl <| og rfl rfl rfl (fun hc => (p_fa tf116x0 rfl)) <| og rfl rfl rfl (fun hc => (p_load (v := aI) tv3 (gx rfl hc) rfl rfl)) ?_
 obtain ⟨x3, hx3, h4⟩ := bind_s h2
 refine o_g rfl rfl (fun hc => ov_call (v := aB) rfl (w_event_within (gd_some hx3 hc)) ⟨(le_gv (gx rfl hc) lr), lr, lr, trivial⟩ (ok_eq (by repeat (first | exact ok_nil | refine ok_cons rfl ?_ | refine ok_cons (dgv rfl) ?_ | refine ok_cons dar ?_))) rfl rfl) ?_
 refine og rfl rfl rfl (fun hc => (p_not (gx rfl hc))) <| o_p rfl (p_pickz rfl rfl rfl (fun e => keq e)) <| mB rfl <| og rfl rfl rfl (fun hc => (p_fa tf116x2 rfl)) <| og rfl rfl rfl (fun hc => (p_load (v := aI) tv3 (gx rfl hc) rfl rfl)) ?_
 obtain ⟨x5, hx5, h6⟩ := bind_s h4
 refine o_g rfl rfl (fun hc => ov_call (v := aB) rfl (w_event_within (gd_some hx5 hc)) ⟨(le_gv (gx rfl hc) lr), lr, lr, trivial⟩ (ok_eq (by repeat (first | exact ok_nil | refine ok_cons rfl ?_ | refine ok_cons (dgv rfl) ?_ | refine ok_cons dar ?_))) rfl rfl) ?_
 refine og rfl rfl rfl (fun hc => (p_not (gx rfl hc))) <| o_p rfl (p_pickz rfl rfl rfl (fun e => keq e)) <| mB rfl <| og rfl rfl rfl (fun hc => (p_fa tf116x9 rfl)) <| og rfl rfl rfl (fun hc => (p_loads (us := aIISLL) tv112 (gx rfl hc) rfl rfl rfl)) ?_
 obtain ⟨x7, hx7, h8⟩ := bind_s h6
 refine o_g rfl rfl (fun hc => ov_call (v := aB) rfl (w_value_Right (gd_some hx7 hc)) ⟨(le_gv (gx rfl hc) (le_aggc rfl ⟨rfl, rfl, rfl, rfl, rfl, trivial⟩)), trivial⟩ (ok_eq (by repeat (first | exact ok_nil | refine ok_cons rfl ?_ | refine ok_cons (dgv rfl) ?_ | refine ok_cons dar ?_))) rfl rfl) ?_
 refine og rfl rfl rfl (fun hc => (p_not (gx rfl hc))) <| o_p rfl (p_pickz rfl rfl rfl (fun e => keq e)) <| o_ek (fr' := [(1, .box 0 0), (26, aB)]) rfl rfl <| w_ch h8 rfl (fun hb9 h9 => ?_) (fun hb9 h9 => ?_)
 ·
  refine w_sr <| sB rfl <| o_ek (fr' := [(2, aB)]) rfl rfl <| w_ret <| e_seq_r ?_
  obtain rfl := sy h9
  exact e_ret (rs' := [.tmp 2]) rfl <| r_tmp (v := aB) rfl <| r_nil <| fin_gen [] rfl rfl rfl lr st_nil
 ·
  refine w_skip <| e_kw <| w_seqw <| w_sr <| o_p rfl (p_fa tf116x1 rfl) <| o_p rfl (p_load (v := aI) tv3 rfl rfl rfl) ?_
  obtain ⟨x11, hx11, h12⟩ := bind_s h9
  refine o_v (ov_call (v := aI) rfl (w_event_commandOf hx11) ⟨lr, trivial⟩ rfl rfl rfl) <| sI rfl <| o_ek (fr' := [(1, .box 0 0), (3, aI)]) rfl rfl <| w_sr <| mI rfl <| o_p rfl (p_neq rfl rfl) <| o_ek (fr' := [(1, .box 0 0), (3, aI), (31, aB)]) rfl rfl <| w_ch h12 rfl (fun hb13 h13 => ?_) (fun hb13 h13 => ?_)
  ·
   refine w_sr <| o_p rfl (p_loads (us := aIIIIIIISSIISLLSIIIIIIIIL) tv116 rfl rfl rfl rfl) <| mI rfl ?_
   obtain ⟨x14, hx14, h15⟩ := bind_s h13
   refine o_v (ov_call (v := aB) rfl (w_event_commanded hx14) ⟨(le_aggc rfl ⟨rfl, rfl, rfl, rfl, rfl, rfl, rfl, rfl, rfl, rfl, rfl, rfl, rfl, rfl, rfl, rfl, rfl, rfl, rfl, rfl, rfl, rfl, rfl, rfl, trivial⟩), lr, trivial⟩ rfl rfl rfl) <| sB rfl <| o_ek (fr' := [(2, aB)]) rfl rfl <| w_ret <| e_seq_r ?_
   obtain rfl := sy h15
   exact e_ret (rs' := [.tmp 2]) rfl <| r_tmp (v := aB) rfl <| r_nil <| fin_gen [] rfl rfl rfl lr st_nil
  ·
   refine w_skip <| e_kw <| w_sr <| o_p rfl (p_fa tf116x1 rfl) <| o_p rfl (p_load (v := aI) tv3 rfl rfl rfl) ?_
   obtain ⟨x17, hx17, h18⟩ := bind_s h13
   refine o_v (ov_call (v := .agg aBBBBBBB) rfl (w_event_used hx17) ⟨lr, trivial⟩ rfl rfl rfl) <| o_alloc (n := 1) (cs := aBBBBBBB) (σ' := [aIIIIIIISSIISLLSIIIIIIIIL, aBBBBBBB]) tz179 rfl rfl rfl <| o_store (v := .agg aBBBBBBB) (us := aBBBBBBB) (cs := aBBBBBBB) (σ' := [aIIIIIIISSIISLLSIIIIIIIIL, aBBBBBBB]) rfl tv179 rfl rfl rfl rfl rfl rfl rfl rfl <| o_ek (fr' := [(1, .box 0 0), (4, .box 1 0)]) rfl rfl <| w_seqw <| w_sr <| o_p rfl (p_loads (us := aBBBBBBB) tv179 rfl rfl rfl rfl) <| o_p rfl (p_loads (us := aIIIIIIISSIISLLSIIIIIIIIL) tv116 rfl rfl rfl rfl) ?_
   obtain ⟨x19, hx19, h20⟩ := bind_s h18
   refine o_v (ov_call (v := aB) rfl (w_event_uses_empty hx19) ⟨(le_aggc rfl ⟨rfl, rfl, rfl, rfl, rfl, rfl, rfl, trivial⟩), (le_aggc rfl ⟨rfl, rfl, rfl, rfl, rfl, rfl, rfl, rfl, rfl, rfl, rfl, rfl, rfl, rfl, rfl, rfl, rfl, rfl, rfl, rfl, rfl, rfl, rfl, rfl, trivial⟩), trivial⟩ rfl rfl rfl) <| o_p rfl (p_not rfl) <| mB rfl <| og rfl rfl rfl (fun hc => (p_fa tf179x0 rfl)) <| og rfl rfl rfl (fun hc => (p_load (v := aB) tv4 (gx rfl hc) rfl rfl)) <| og rfl rfl rfl (fun hc => (p_move (v := aB) (gx rfl hc))) <| o_gg rfl rfl (fun hc => ov_p rfl (p_fa tf116x3 rfl)) <| o_gg rfl rfl (fun hc => ov_p rfl (p_load (v := aI) tv3 (gx rfl hc) rfl rfl)) ?_
   obtain ⟨x21, hx21, h22⟩ := bind_s h20
   refine o_gg rfl rfl (fun hc => ov_call (v := aB) rfl (w_event_within (gd_some hx21 hc)) ⟨(le_gv (gx rfl hc) lr), lr, lr, trivial⟩ (ok_eq (by repeat (first | exact ok_nil | refine ok_cons rfl ?_ | refine ok_cons (dgv rfl) ?_ | refine ok_cons dar ?_))) rfl rfl) ?_
   refine o_gg rfl rfl (fun hc => ov_p rfl (p_not (gx rfl hc))) <| og rfl rfl rfl (fun hc => (p_picky (gx rfl hc) rfl rfl (fun e => band hc (keq e)))) <| o_p rfl (p_pickz rfl rfl rfl (fun e => keq e)) <| mB rfl <| og rfl rfl rfl (fun hc => (p_fa tf179x1 rfl)) <| og rfl rfl rfl (fun hc => (p_load (v := aB) tv4 (gx rfl hc) rfl rfl)) <| og rfl rfl rfl (fun hc => (p_move (v := aB) (gx rfl hc))) <| o_gg rfl rfl (fun hc => ov_p rfl (p_fa tf116x4 rfl)) <| o_gg rfl rfl (fun hc => ov_p rfl (p_load (v := aI) tv3 (gx rfl hc) rfl rfl)) ?_
   obtain ⟨x23, hx23, h24⟩ := bind_s h22
   refine o_gg rfl rfl (fun hc => ov_call (v := aB) rfl (w_event_within (gd_some hx23 hc)) ⟨(le_gv (gx rfl hc) lr), lr, lr, trivial⟩ (ok_eq (by repeat (first | exact ok_nil | refine ok_cons rfl ?_ | refine ok_cons (dgv rfl) ?_ | refine ok_cons dar ?_))) rfl rfl) ?_
   refine o_gg rfl rfl (fun hc => ov_p rfl (p_not (gx rfl hc))) <| og rfl rfl rfl (fun hc => (p_picky (gx rfl hc) rfl rfl (fun e => band hc (keq e)))) <| o_p rfl (p_pickz rfl rfl rfl (fun e => keq e)) <| o_ek (fr' := [(1, .box 0 0), (61, aB)]) rfl rfl <| w_ch h24 rfl (fun hb25 h25 => ?_) (fun hb25 h25 => ?_)
   ·
    refine w_sr <| sB rfl <| o_ek (fr' := [(2, aB)]) rfl rfl <| w_ret <| e_seq_r ?_
    obtain rfl := sy h25
    exact e_ret (rs' := [.tmp 2]) rfl <| r_tmp (v := aB) rfl <| r_nil <| fin_gen [] rfl rfl rfl lr st_nil
   ·
    refine w_skip <| e_kw <| w_sr <| o_p rfl (p_loads (us := aIIIIIIISSIISLLSIIIIIIIIL) tv116 rfl rfl rfl rfl) ?_
    obtain ⟨x27, hx27, h28⟩ := bind_s h25
    refine o_v (ov_call (v := aB) rfl (w_event_particular hx27) ⟨(le_aggc rfl ⟨rfl, rfl, rfl, rfl, rfl, rfl, rfl, rfl, rfl, rfl, rfl, rfl, rfl, rfl, rfl, rfl, rfl, rfl, rfl, rfl, rfl, rfl, rfl, rfl, trivial⟩), trivial⟩ rfl rfl rfl) <| sB rfl <| o_ek (fr' := [(2, aB)]) rfl rfl <| w_ret ?_
    obtain rfl := sy h28
    exact e_ret (rs' := [.tmp 2]) rfl <| r_tmp (v := aB) rfl <| r_nil <| fin_gen [] rfl rfl rfl lr st_nil
noncomputable def history_closesActivity (p0kind : Int) : Option Bool :=
 some (cond (cond (cond (decide (p0kind = (9 : Int))) true (decide (p0kind = (10 : Int)))) true (decide (p0kind = (11 : Int)))) true (decide (p0kind = (13 : Int))))
theorem w_history_closesActivity {p0kind : Int} {res : Bool} (h : history_closesActivity p0kind = some res) : ACalls Tryd.prog 117 [.c (.int .i64 p0kind)] [] (.c (.bool res)) [] := by
 unfold history_closesActivity at h
 refine acalls (fn := Tryd.f117) [0, 2] (by kernel_rfl) Tryd.func117 rfl (by kernel_rfl) (by kernel_rfl) <| w_sr <| sB rfl <| o_ek (fr' := [(0, aI)]) rfl rfl <| w_sr <| mI rfl <| o_p rfl (p_eql rfl rfl) <| mB rfl <| og rfl rfl rfl (fun hc => (p_move (v := aI) rfl)) <| og rfl rfl rfl (fun hc => (p_eql (gx rfl hc) rfl)) <| o_p rfl (p_pickz rfl rfl rfl (fun e => keq e)) ?_
 refine mB rfl <| og rfl rfl rfl (fun hc => (p_move (v := aI) rfl)) <| og rfl rfl rfl (fun hc => (p_eql (gx rfl hc) rfl)) <| o_p rfl (p_pickz rfl rfl rfl (fun e => keq e)) <| mB rfl <| og rfl rfl rfl (fun hc => (p_move (v := aI) rfl)) <| og rfl rfl rfl (fun hc => (p_eql (gx rfl hc) rfl)) <| o_p rfl (p_pickz rfl rfl rfl (fun e => keq e)) <| sB rfl <| o_ek (fr' := [(2, aB)]) rfl rfl <| w_ret ?_
 obtain rfl := sy h
 exact e_ret (rs' := [.tmp 2]) rfl <| r_tmp (v := aB) rfl <| r_nil <| fin_gen [] rfl rfl rfl lr st_nil
noncomputable def history_checker_step_v2 (p1e : ApiEvent) (p100v : HistoryChecker) : Option (Bool × Bool × HistoryChecker) :=
 ((cond (decide (p1e.Kind = (2 : Int))) (some (Fl.go ((decide (p100v.task_ = (0 : Int))), (HistoryChecker.mk (1 : Int) p1e.ID p100v.before_ p100v.closed_)))) (cond (decide (p1e.Kind = (3 : Int))) (some (Fl.go ((cond (decide (p100v.task_ = (1 : Int))) (decide (p1e.Ref = p100v.ref_)) false), (HistoryChecker.mk (2 : Int) p1e.ID p100v.before_ p100v.closed_)))) (((cond (decide (p1e.Kind = (4 : Int))) (some (decide (p1e.Kind = (4 : Int)))) (cond (decide (p1e.Kind = (5 : Int))) (some (decide (p1e.Kind = (5 : Int)))) (some (decide (p1e.Kind = (6 : Int)))))) : Option Bool).bind fun (x6 : Bool) => (cond x6 (some (Fl.go ((cond (decide (p100v.task_ = (2 : Int))) (decide (p1e.Ref = p100v.ref_)) false), (HistoryChecker.mk (0 : Int) p100v.ref_ p100v.before_ p100v.closed_)))) (some (Fl.done (false, false, p100v))))))) : Option (Fl (Bool × Bool × HistoryChecker) (Bool × HistoryChecker))).bind fun (x1 : (Fl (Bool × Bool × HistoryChecker) (Bool × HistoryChecker))) => Fl.next x1 (fun (j3 : (Bool × HistoryChecker)) => (some (j3.1, true, j3.2)))
theorem w_history_checker_step_v2 {p1e : ApiEvent} {p100v : HistoryChecker} {res : (Bool × Bool × HistoryChecker)} (h : history_checker_step_v2 p1e p100v = some res) : ACalls Tryd.prog 118 [.box 0 0, .agg (AV.cs (rowApiEvent p1e))] [AV.cs (rowHistoryChecker p100v)] (.tup [.c (.bool res.1), .c (.bool res.2.1)]) [AV.cs (rowHistoryChecker res.2.2)] := by
 unfold history_checker_step_v2 at h
 refine acalls (fn := Tryd.f118) [0, 1, 3, 4, 5, 7, 8, 23, 47] (by kernel_rfl) Tryd.func118 rfl (by kernel_rfl) (by kernel_rfl) <| w_sr <| o_box (v := .agg aIIIIIIISSIISLLSIIIIIIIIL) (n := 1) (cs := aIIIIIIISSIISLLSIIIIIIIIL) (σ' := [aIIIIIIIIISSIISLLSIIIIIIIILB, aIIIIIIISSIISLLSIIIIIIIIL]) rfl rfl rfl rfl rfl <| sB rfl <| sB rfl <| o_ek (fr' := [(0, .box 0 0), (3, .box 1 0)]) rfl rfl ?_
 obtain ⟨x1, hx1, h2⟩ := bind_s h
 refine w_join (fun j3 => x1 = Fl.go j3) (fun (j3 : (Bool × HistoryChecker)) => ([(4, .c (.bool j3.1))] : Fr)) (fun (j3 : (Bool × HistoryChecker)) => ([[.c (.int .i64 j3.2.task_), .c (.int .i64 j3.2.ref_), .c (.int .i64 j3.2.before_.ID), .c (.int .i64 j3.2.before_.Kind), .c (.int .i64 j3.2.before_.Time), .c (.int .i64 j3.2.before_.Seq), .c (.int .i64 j3.2.before_.Ref), .c (.int .i64 j3.2.before_.N), .c (.int .i64 j3.2.before_.Code), .c (.str j3.2.before_.Name), .c (.str j3.2.before_.Key), .c (.int .i64 j3.2.before_.Data.Kind), .c (.int .i64 j3.2.before_.Data.Int), .c (.str j3.2.before_.Data.Text), .c (PV.ls 5 rowApiValue j3.2.before_.Data.Items), .c (PV.ls 1 rowS j3.2.before_.Data.Keys), .c (.str j3.2.before_.Opts.Queue), .c (.int .i64 j3.2.before_.Opts.ToStart), .c (.int .i64 j3.2.before_.Opts.ToClose), .c (.int .i64 j3.2.before_.Opts.Total), .c (.int .i64 j3.2.before_.Opts.Beat), .c (.int .i64 j3.2.before_.Opts.First), .c (.int .i64 j3.2.before_.Opts.Coef), .c (.int .i64 j3.2.before_.Opts.Most), .c (.int .i64 j3.2.before_.Opts.Attempts), .c (PV.ls 1 rowS j3.2.before_.Opts.Fatal), .c (.bool j3.2.closed_)], [.c (.int .i64 p1e.ID), .c (.int .i64 p1e.Kind), .c (.int .i64 p1e.Time), .c (.int .i64 p1e.Seq), .c (.int .i64 p1e.Ref), .c (.int .i64 p1e.N), .c (.int .i64 p1e.Code), .c (.str p1e.Name), .c (.str p1e.Key), .c (.int .i64 p1e.Data.Kind), .c (.int .i64 p1e.Data.Int), .c (.str p1e.Data.Text), .c (PV.ls 5 rowApiValue p1e.Data.Items), .c (PV.ls 1 rowS p1e.Data.Keys), .c (.str p1e.Opts.Queue), .c (.int .i64 p1e.Opts.ToStart), .c (.int .i64 p1e.Opts.ToClose), .c (.int .i64 p1e.Opts.Total), .c (.int .i64 p1e.Opts.Beat), .c (.int .i64 p1e.Opts.First), .c (.int .i64 p1e.Opts.Coef), .c (.int .i64 p1e.Opts.Most), .c (.int .i64 p1e.Opts.Attempts), .c (PV.ls 1 rowS p1e.Opts.Fatal)]] : St)) ?_ ?_
 ·
  refine w_sr <| o_p rfl (p_fa tf116x1 rfl) <| o_p rfl (p_load (v := aI) tv3 rfl rfl rfl) <| o_ek (fr' := [(0, .box 0 0), (3, .box 1 0), (7, aI)]) rfl rfl <| w_block <| w_sr <| o_p rfl (p_eql rfl rfl) <| sB rfl <| o_ek (fr' := [(0, .box 0 0), (3, .box 1 0), (7, aI), (8, aB)]) rfl rfl <| w_ch hx1 rfl (fun hb4 h4 => ?_) (fun hb4 h4 => ?_)
  ·
   refine w_sr <| mV (v := .box 0 0) rfl <| o_p rfl (p_nc rfl) <| o_p rfl (p_fa tf153x0 rfl) <| o_p rfl (p_load (v := aI) tv3 rfl rfl rfl) <| o_p rfl (p_eql rfl rfl) <| sB rfl <| o_ek (fr' := [(0, .box 0 0), (3, .box 1 0), (4, aB)]) rfl rfl <| w_planT [.q 0, .q 1, .q 2, .q 3, .q 4, .q 5, .n 6 [1, 2, 3], .q 7, .q 8, .n 9 []] [(some 15, [0]), (some 16, [0]), (some 17, [3]), (some 18, [17]), (some 19, [15]), (some 20, [19]), (none, [20]), (some 21, [16]), (some 22, [21]), (none, [22, 18])] [0, 0, 0, 4, 1, 17, 49, 127, 255, 511] (by kernel_rfl) <| dq rfl rfl (p_move (v := .box 0 0) rfl) <| dq rfl rfl (p_move (v := .box 0 0) rfl) <| dq rfl rfl (p_fa tf116x0 rfl) ?_
   refine dq rfl rfl (p_load (v := aI) tv3 rfl rfl rfl) <| dq rfl rfl (p_nc rfl) <| dq rfl rfl (p_fa tf153x0 rfl) <| d_n rfl ?_ rfl
   refine o_store (v := aI) (us := [aI]) (cs := aIIIIIIIIISSIISLLSIIIIIIIILB) (σ' := [aIIIIIIIIISSIISLLSIIIIIIIILB, aIIIIIIISSIISLLSIIIIIIIIL]) rfl tv3 rfl rfl rfl rfl rfl rfl rfl rfl <| o_rc <| ⟨(rc_q (v := .box 0 0) rfl rfl (qv_p rfl (p_move (v := .box 0 0) rfl)) (rc_q (v := .box 1 0) rfl rfl (qv_p rfl (p_fa tf116x0 rfl)) (rc_q (v := aI) rfl rfl (qv_p rfl (p_load (v := aI) tv3 rfl rfl rfl)) rc_nil))), ?_⟩
   refine dq rfl rfl (p_nc rfl) <| dq rfl rfl (p_fa tf153x1 rfl) <| d_n rfl ?_ rfl
   refine o_store (v := aI) (us := [aI]) (cs := aIIIIIIIIISSIISLLSIIIIIIIILB) (σ' := [aIIIIIIIIISSIISLLSIIIIIIIILB, aIIIIIIISSIISLLSIIIIIIIIL]) rfl tv3 rfl rfl rfl rfl rfl rfl rfl rfl <| o_rc <| ⟨rc_nil, ?_⟩
   exact d_end (fr' := [(0, .box 0 0), (3, .box 1 0), (4, aB)]) rfl <| e_blk_n <| e_j _ (sy h4) (w_weak [] 2 rfl rfl rfl rfl ⟨lr, trivial⟩ (st_r rfl (st_r rfl st_nil)))
  ·
   refine w_sr <| o_p rfl (p_eql rfl rfl) <| sB rfl <| o_ek (fr' := [(0, .box 0 0), (3, .box 1 0), (7, aI), (23, aB)]) rfl rfl <| w_ch h4 rfl (fun hb5 h5 => ?_) (fun hb5 h5 => ?_)
   ·
    refine w_seqw <| w_planT [.q 0, .q 1, .q 2, .q 3, .q 4, .q 5, .q 6, .q 7, .q 8, .q 9, .q 10, .q 11, .q 12, .q 13, .n 14 []] [(some 25, [0]), (some 26, [25]), (some 27, [26]), (some 28, [27]), (some 29, [28]), (some 30, [29]), (some 31, [3, 30]), (some 32, [31, 30]), (some 33, [0, 30]), (some 34, [33, 30]), (some 35, [34, 30]), (some 36, [35, 30]), (some 37, [32, 36, 30]), (some 38, [30, 37]), (some 4, [38])] [0, 1, 3, 7, 15, 31, 63, 127, 63, 319, 831, 1855, 4095, 8191, 16383] (by kernel_rfl) <| dq rfl rfl (p_move (v := .box 0 0) rfl) <| dq rfl rfl (p_nc rfl) <| dq rfl rfl (p_fa tf153x0 rfl) <| dq rfl rfl (p_load (v := aI) tv3 rfl rfl rfl) <| dq rfl rfl (p_eql rfl rfl) <| dq rfl rfl (p_move (v := aB) rfl) <| d_g rfl rfl rfl (fun hc => qv_p rfl (p_fa tf116x4 rfl)) <| d_g rfl rfl rfl (fun hc => qv_p rfl (p_load (v := aI) tv3 (gx rfl hc) rfl rfl)) <| d_g rfl rfl rfl (fun hc => qv_p rfl (p_move (v := .box 0 0) rfl)) <| d_g rfl rfl rfl (fun hc => qv_p rfl (p_nc (gx rfl hc))) <| d_g rfl rfl rfl (fun hc => qv_p rfl (p_fa tf153x1 (gx rfl hc))) ?_
    refine d_g rfl rfl rfl (fun hc => qv_p rfl (p_load (v := aI) tv3 (gx rfl hc) rfl rfl)) <| d_g rfl rfl rfl (fun hc => qv_p rfl (p_eql (gx rfl hc) (gx rfl hc))) <| dq rfl rfl (p_picky rfl rfl rfl (fun e => keq e)) <| d_n rfl ?_ rfl
    refine sB rfl <| o_rc <| ⟨rc_nil, ?_⟩
    refine d_ek (fr' := [(0, .box 0 0), (3, .box 1 0), (4, aB)]) rfl rfl <| w_planT [.q 0, .q 1, .q 2, .q 3, .q 4, .q 5, .n 6 [1, 2, 3], .q 7, .q 8, .n 9 []] [(some 39, [0]), (some 40, [0]), (some 41, [3]), (some 42, [41]), (some 43, [39]), (some 44, [43]), (none, [44]), (some 45, [40]), (some 46, [45]), (none, [46, 42])] [0, 0, 0, 4, 1, 17, 49, 127, 255, 511] (by kernel_rfl) <| dq rfl rfl (p_move (v := .box 0 0) rfl) <| dq rfl rfl (p_move (v := .box 0 0) rfl) <| dq rfl rfl (p_fa tf116x0 rfl) <| dq rfl rfl (p_load (v := aI) tv3 rfl rfl rfl) <| dq rfl rfl (p_nc rfl) <| dq rfl rfl (p_fa tf153x0 rfl) <| d_n rfl ?_ rfl
    refine o_store (v := aI) (us := [aI]) (cs := aIIIIIIIIISSIISLLSIIIIIIIILB) (σ' := [aIIIIIIIIISSIISLLSIIIIIIIILB, aIIIIIIISSIISLLSIIIIIIIIL]) rfl tv3 rfl rfl rfl rfl rfl rfl rfl rfl <| o_rc <| ⟨(rc_q (v := .box 0 0) rfl rfl (qv_p rfl (p_move (v := .box 0 0) rfl)) (rc_q (v := .box 1 0) rfl rfl (qv_p rfl (p_fa tf116x0 rfl)) (rc_q (v := aI) rfl rfl (qv_p rfl (p_load (v := aI) tv3 rfl rfl rfl)) rc_nil))), ?_⟩
    refine dq rfl rfl (p_nc rfl) <| dq rfl rfl (p_fa tf153x1 rfl) <| d_n rfl ?_ rfl
    refine o_store (v := aI) (us := [aI]) (cs := aIIIIIIIIISSIISLLSIIIIIIIILB) (σ' := [aIIIIIIIIISSIISLLSIIIIIIIILB, aIIIIIIISSIISLLSIIIIIIIIL]) rfl tv3 rfl rfl rfl rfl rfl rfl rfl rfl <| o_rc <| ⟨rc_nil, ?_⟩
    exact d_end (fr' := [(0, .box 0 0), (3, .box 1 0), (4, aB)]) rfl <| e_blk_n <| e_j _ (sy h5) (w_weak [] 2 rfl rfl rfl rfl ⟨lr, trivial⟩ (st_r rfl (st_r rfl st_nil)))
   ·
    obtain ⟨x6, hx6, h7⟩ := bind_s h5
    refine w_join (fun j8 => x6 = j8) (fun (j8 : Bool) => ([(0, .box 0 0), (3, .box 1 0), (47, .c (.bool j8))] : Fr)) (fun (j8 : Bool) => ([[.c (.int .i64 p100v.task_), .c (.int .i64 p100v.ref_), .c (.int .i64 p100v.before_.ID), .c (.int .i64 p100v.before_.Kind), .c (.int .i64 p100v.before_.Time), .c (.int .i64 p100v.before_.Seq), .c (.int .i64 p100v.before_.Ref), .c (.int .i64 p100v.before_.N), .c (.int .i64 p100v.before_.Code), .c (.str p100v.before_.Name), .c (.str p100v.before_.Key), .c (.int .i64 p100v.before_.Data.Kind), .c (.int .i64 p100v.before_.Data.Int), .c (.str p100v.before_.Data.Text), .c (PV.ls 5 rowApiValue p100v.before_.Data.Items), .c (PV.ls 1 rowS p100v.before_.Data.Keys), .c (.str p100v.before_.Opts.Queue), .c (.int .i64 p100v.before_.Opts.ToStart), .c (.int .i64 p100v.before_.Opts.ToClose), .c (.int .i64 p100v.before_.Opts.Total), .c (.int .i64 p100v.before_.Opts.Beat), .c (.int .i64 p100v.before_.Opts.First), .c (.int .i64 p100v.before_.Opts.Coef), .c (.int .i64 p100v.before_.Opts.Most), .c (.int .i64 p100v.before_.Opts.Attempts), .c (PV.ls 1 rowS p100v.before_.Opts.Fatal), .c (.bool p100v.closed_)], [.c (.int .i64 p1e.ID), .c (.int .i64 p1e.Kind), .c (.int .i64 p1e.Time), .c (.int .i64 p1e.Seq), .c (.int .i64 p1e.Ref), .c (.int .i64 p1e.N), .c (.int .i64 p1e.Code), .c (.str p1e.Name), .c (.str p1e.Key), .c (.int .i64 p1e.Data.Kind), .c (.int .i64 p1e.Data.Int), .c (.str p1e.Data.Text), .c (PV.ls 5 rowApiValue p1e.Data.Items), .c (PV.ls 1 rowS p1e.Data.Keys), .c (.str p1e.Opts.Queue), .c (.int .i64 p1e.Opts.ToStart), .c (.int .i64 p1e.Opts.ToClose), .c (.int .i64 p1e.Opts.Total), .c (.int .i64 p1e.Opts.Beat), .c (.int .i64 p1e.Opts.First), .c (.int .i64 p1e.Opts.Coef), .c (.int .i64 p1e.Opts.Most), .c (.int .i64 p1e.Opts.Attempts), .c (PV.ls 1 rowS p1e.Opts.Fatal)]] : St)) ?_ ?_
    ·
     refine w_sr <| o_p rfl (p_eql rfl rfl) <| sB rfl <| o_ek (fr' := [(0, .box 0 0), (3, .box 1 0), (7, aI), (47, aB)]) rfl rfl <| w_ch hx6 rfl (fun hb9 h9 => ?_) (fun hb9 h9 => ?_)
     ·
      exact w_skip <| e_j _ (sy h9) (w_weak [] 2 rfl rfl rfl rfl ⟨lr, lr, lr, trivial⟩ (st_r rfl (st_r rfl st_nil)))
     ·
      refine w_sr <| o_p rfl (p_eql rfl rfl) <| sB rfl <| o_ek (fr' := [(0, .box 0 0), (3, .box 1 0), (7, aI), (47, aB)]) rfl rfl <| w_ch h9 rfl (fun hb10 h10 => ?_) (fun hb10 h10 => ?_)
      ·
       exact w_skip <| e_j _ (sy h10) (w_weak [] 2 rfl rfl rfl rfl ⟨lr, lr, lr, trivial⟩ (st_r rfl (st_r rfl st_nil)))
      ·
       exact w_region <| o_p rfl (p_eql rfl rfl) <| sB rfl <| o_end (fr' := [(0, .box 0 0), (3, .box 1 0), (7, aI), (47, aB)]) rfl <| e_j _ (sy h10) (w_weak [] 2 rfl rfl rfl rfl ⟨lr, lr, lr, trivial⟩ (st_r rfl (st_r rfl st_nil)))
    ·
     intro j8 hj11
     subst hj11
     refine w_ch h7 rfl (fun hb12 h12 => ?_) (fun hb12 h12 => ?_)
     ·
      refine w_seqw <| w_planT [.q 0, .q 1, .q 2, .q 3, .q 4, .q 5, .q 6, .q 7, .q 8, .q 9, .q 10, .q 11, .q 12, .q 13, .n 14 []] [(some 51, [0]), (some 52, [51]), (some 53, [52]), (some 54, [53]), (some 55, [54]), (some 56, [55]), (some 57, [3, 56]), (some 58, [57, 56]), (some 59, [0, 56]), (some 60, [59, 56]), (some 61, [60, 56]), (some 62, [61, 56]), (some 63, [58, 62, 56]), (some 64, [56, 63]), (some 4, [64])] [0, 1, 3, 7, 15, 31, 63, 127, 63, 319, 831, 1855, 4095, 8191, 16383] (by kernel_rfl) <| dq rfl rfl (p_move (v := .box 0 0) rfl) <| dq rfl rfl (p_nc rfl) <| dq rfl rfl (p_fa tf153x0 rfl) <| dq rfl rfl (p_load (v := aI) tv3 rfl rfl rfl) <| dq rfl rfl (p_eql rfl rfl) <| dq rfl rfl (p_move (v := aB) rfl) <| d_g rfl rfl rfl (fun hc => qv_p rfl (p_fa tf116x4 rfl)) <| d_g rfl rfl rfl (fun hc => qv_p rfl (p_load (v := aI) tv3 (gx rfl hc) rfl rfl)) <| d_g rfl rfl rfl (fun hc => qv_p rfl (p_move (v := .box 0 0) rfl)) <| d_g rfl rfl rfl (fun hc => qv_p rfl (p_nc (gx rfl hc))) <| d_g rfl rfl rfl (fun hc => qv_p rfl (p_fa tf153x1 (gx rfl hc))) ?_
      refine d_g rfl rfl rfl (fun hc => qv_p rfl (p_load (v := aI) tv3 (gx rfl hc) rfl rfl)) <| d_g rfl rfl rfl (fun hc => qv_p rfl (p_eql (gx rfl hc) (gx rfl hc))) <| dq rfl rfl (p_picky rfl rfl rfl (fun e => keq e)) <| d_n rfl ?_ rfl
      refine sB rfl <| o_rc <| ⟨rc_nil, ?_⟩
      exact d_ek (fr' := [(0, .box 0 0), (4, aB)]) rfl rfl <| w_region <| mV (v := .box 0 0) rfl <| o_p rfl (p_nc rfl) <| o_p rfl (p_fa tf153x0 rfl) <| o_store (v := aI) (us := [aI]) (cs := aIIIIIIIIISSIISLLSIIIIIIIILB) (σ' := [aIIIIIIIIISSIISLLSIIIIIIIILB, aIIIIIIISSIISLLSIIIIIIIIL]) rfl tv3 rfl rfl rfl rfl rfl rfl rfl rfl <| o_end (fr' := [(0, .box 0 0), (4, aB)]) rfl <| e_blk_n <| e_j _ (sy h12) (w_weak [] 2 rfl rfl rfl rfl ⟨lr, trivial⟩ (st_r rfl (st_r rfl st_nil)))
     ·
      refine w_sr <| sB rfl <| sB rfl <| o_ek (fr' := [(4, aB), (5, aB)]) rfl rfl <| w_ret <| e_blk_r <| e_seq_r ?_
      have h13 := un_done h12 h2
      obtain rfl := sy h13
      exact e_ret (rs' := [.tmp 4, .tmp 5]) rfl <| r_tmp (v := aB) rfl <| r_tmp (v := aB) rfl <| r_nil <| fin_gen [] rfl rfl rfl (le_tupp rfl ⟨lr, lr, trivial⟩) (st_c ⟨rfl, rfl, rfl, rfl, rfl, rfl, rfl, rfl, rfl, rfl, rfl, rfl, rfl, rfl, rfl, rfl, rfl, rfl, rfl, rfl, rfl, rfl, rfl, rfl, rfl, rfl, rfl, trivial⟩ st_nil)
 ·
  intro j3 hj15
  have h15 := un_go hj15 h2
  refine w_sr <| mB rfl <| sB rfl <| sB rfl <| o_ek (fr' := [(4, aB), (5, aB)]) rfl rfl <| w_ret ?_
  obtain rfl := sy h15
  exact e_ret (rs' := [.tmp 4, .tmp 5]) rfl <| r_tmp (v := aB) rfl <| r_tmp (v := aB) rfl <| r_nil <| fin_gen [] rfl rfl rfl (le_tupp rfl ⟨lr, lr, trivial⟩) (st_c ⟨rfl, rfl, rfl, rfl, rfl, rfl, rfl, rfl, rfl, rfl, rfl, rfl, rfl, rfl, rfl, rfl, rfl, rfl, rfl, rfl, rfl, rfl, rfl, rfl, rfl, rfl, rfl, trivial⟩ st_nil)
noncomputable def event_IsCommand (p0kind : Int) : Option Bool :=
 (event_commandOf p0kind).bind fun (x1 : Int) => some (!decide (x1 = (0 : Int)))
theorem w_event_IsCommand {p0kind : Int} {res : Bool} (h : event_IsCommand p0kind = some res) : ACalls Tryd.prog 52 [.c (.int .i64 p0kind)] [] (.c (.bool res)) [] := by
 unfold event_IsCommand at h
 refine acalls (fn := Tryd.f52) [0, 2] (by kernel_rfl) Tryd.func52 rfl (by kernel_rfl) (by kernel_rfl) <| w_sr <| sB rfl <| o_ek (fr' := [(0, aI)]) rfl rfl <| w_sr <| mI rfl ?_
 obtain ⟨x1, hx1, h2⟩ := bind_s h
 refine o_v (ov_call (v := aI) rfl (w_event_commandOf hx1) ⟨lr, trivial⟩ rfl rfl rfl) <| o_p rfl (p_neq rfl rfl) <| sB rfl <| o_ek (fr' := [(2, aB)]) rfl rfl <| w_ret ?_
 obtain rfl := sy h2
 exact e_ret (rs' := [.tmp 2]) rfl <| r_tmp (v := aB) rfl <| r_nil <| fin_gen [] rfl rfl rfl lr st_nil
noncomputable def history_checker_allows_v2 (p1at : Int) (p2e : ApiEvent) (p100v : HistoryChecker) : Option (Bool × HistoryChecker) :=
 ((cond p100v.closed_ (some p100v.closed_) (cond (!((decide (p1at = (0 : Int))) == (decide (p2e.Kind = (1 : Int))))) (some (!((decide (p1at = (0 : Int))) == (decide (p2e.Kind = (1 : Int)))))) (some (cond (decide (p1at = (1 : Int))) (!decide (p2e.Kind = (2 : Int))) false)))) : Option Bool).bind fun (x1 : Bool) => (cond x1 (some (false, p100v)) ((gd ((cond (decide ((0 : Int) < p1at)) (decide (p100v.before_.Kind = (8 : Int))) false) == true) (history_closesActivity p2e.Kind)).bind fun (x9 : Bool) => cond (cond (cond (decide ((0 : Int) < p1at)) (decide (p100v.before_.Kind = (8 : Int))) false) (cond (!x9) true (!decide (p2e.Seq = p100v.before_.Seq))) false) (some (false, p100v)) ((history_checker_step_v2 p2e p100v).bind fun (x13 : (Bool × Bool × HistoryChecker)) => cond x13.2.1 (some (x13.1, x13.2.2)) (cond (cond (cond (decide (p100v.task_ = (2 : Int))) (!decide (p2e.Kind = (33 : Int))) false) (!decide (p2e.Kind = (34 : Int))) false) (some (false, x13.2.2)) ((event_IsCommand p2e.Kind).bind fun (x19 : Bool) => cond x19 ((gd ((decide (p100v.before_.Kind = (4 : Int))) == false) (event_IsCommand p100v.before_.Kind)).bind fun (x22 : Bool) => some ((cond (decide (p100v.before_.Kind = (4 : Int))) true x22), x13.2.2)) (some (true, x13.2.2)))))))
theorem w_history_checker_allows_v2 {p1at : Int} {p2e : ApiEvent} {p100v : HistoryChecker} {res : (Bool × HistoryChecker)} (h : history_checker_allows_v2 p1at p2e p100v = some res) : ACalls Tryd.prog 86 [.box 0 0, .c (.int .i64 p1at), .agg (AV.cs (rowApiEvent p2e))] [AV.cs (rowHistoryChecker p100v)] (.c (.bool res.1)) [AV.cs (rowHistoryChecker res.2)] := by
 unfold history_checker_allows_v2 at h
 refine acalls (fn := Tryd.f86) [0, 1, 2, 5, 6, 7, 8, 9, 10, 15, 33, 65, 68, 80] (by kernel_rfl) Tryd.func86 rfl (by kernel_rfl) (by kernel_rfl) <| w_sr <| o_box (v := .agg aIIIIIIISSIISLLSIIIIIIIIL) (n := 1) (cs := aIIIIIIISSIISLLSIIIIIIIIL) (σ' := [aIIIIIIIIISSIISLLSIIIIIIIILB, aIIIIIIISSIISLLSIIIIIIIIL]) rfl rfl rfl rfl rfl <| sB rfl <| o_ek (fr' := [(0, .box 0 0), (1, aI), (5, .box 1 0)]) rfl rfl <| w_sr <| mV (v := .box 0 0) rfl <| o_p rfl (p_nc rfl) <| o_p rfl (p_fa tf153x2 rfl) <| o_p rfl (p_loads (us := aIIIIIIISSIISLLSIIIIIIIIL) tv116 rfl rfl rfl rfl) <| o_alloc (n := 2) (cs := [aI, aI, aI, aI, aI, aI, aI, aS, aS, aI, aI, aS, AV.nil, AV.nil, aS, aI, aI, aI, aI, aI, aI, aI, aI, AV.nil]) (σ' := [aIIIIIIIIISSIISLLSIIIIIIIILB, aIIIIIIISSIISLLSIIIIIIIIL, [aI, aI, aI, aI, aI, aI, aI, aS, aS, aI, aI, aS, AV.nil, AV.nil, aS, aI, aI, aI, aI, aI, aI, aI, aI, AV.nil]]) tz116 rfl rfl rfl ?_
 refine o_store (v := .agg aIIIIIIISSIISLLSIIIIIIIIL) (us := aIIIIIIISSIISLLSIIIIIIIIL) (cs := [aI, aI, aI, aI, aI, aI, aI, aS, aS, aI, aI, aS, AV.nil, AV.nil, aS, aI, aI, aI, aI, aI, aI, aI, aI, AV.nil]) (σ' := [aIIIIIIIIISSIISLLSIIIIIIIILB, aIIIIIIISSIISLLSIIIIIIIIL, aIIIIIIISSIISLLSIIIIIIIIL]) rfl tv116 rfl rfl rfl rfl rfl rfl rfl rfl <| o_ek (fr' := [(0, .box 0 0), (1, aI), (5, .box 1 0), (7, .box 2 0)]) rfl rfl <| w_seqw <| w_block ?_
 obtain ⟨x1, hx1, h2⟩ := bind_s h
 refine w_join (fun j3 => x1 = j3) (fun (j3 : Bool) => ([(0, .box 0 0), (1, .c (.int .i64 p1at)), (5, .box 1 0), (7, .box 2 0), (15, .c (.bool j3))] : Fr)) (fun (j3 : Bool) => ([[.c (.int .i64 p100v.task_), .c (.int .i64 p100v.ref_), .c (.int .i64 p100v.before_.ID), .c (.int .i64 p100v.before_.Kind), .c (.int .i64 p100v.before_.Time), .c (.int .i64 p100v.before_.Seq), .c (.int .i64 p100v.before_.Ref), .c (.int .i64 p100v.before_.N), .c (.int .i64 p100v.before_.Code), .c (.str p100v.before_.Name), .c (.str p100v.before_.Key), .c (.int .i64 p100v.before_.Data.Kind), .c (.int .i64 p100v.before_.Data.Int), .c (.str p100v.before_.Data.Text), .c (PV.ls 5 rowApiValue p100v.before_.Data.Items), .c (PV.ls 1 rowS p100v.before_.Data.Keys), .c (.str p100v.before_.Opts.Queue), .c (.int .i64 p100v.before_.Opts.ToStart), .c (.int .i64 p100v.before_.Opts.ToClose), .c (.int .i64 p100v.before_.Opts.Total), .c (.int .i64 p100v.before_.Opts.Beat), .c (.int .i64 p100v.before_.Opts.First), .c (.int .i64 p100v.before_.Opts.Coef), .c (.int .i64 p100v.before_.Opts.Most), .c (.int .i64 p100v.before_.Opts.Attempts), .c (PV.ls 1 rowS p100v.before_.Opts.Fatal), .c (.bool p100v.closed_)], [.c (.int .i64 p2e.ID), .c (.int .i64 p2e.Kind), .c (.int .i64 p2e.Time), .c (.int .i64 p2e.Seq), .c (.int .i64 p2e.Ref), .c (.int .i64 p2e.N), .c (.int .i64 p2e.Code), .c (.str p2e.Name), .c (.str p2e.Key), .c (.int .i64 p2e.Data.Kind), .c (.int .i64 p2e.Data.Int), .c (.str p2e.Data.Text), .c (PV.ls 5 rowApiValue p2e.Data.Items), .c (PV.ls 1 rowS p2e.Data.Keys), .c (.str p2e.Opts.Queue), .c (.int .i64 p2e.Opts.ToStart), .c (.int .i64 p2e.Opts.ToClose), .c (.int .i64 p2e.Opts.Total), .c (.int .i64 p2e.Opts.Beat), .c (.int .i64 p2e.Opts.First), .c (.int .i64 p2e.Opts.Coef), .c (.int .i64 p2e.Opts.Most), .c (.int .i64 p2e.Opts.Attempts), .c (PV.ls 1 rowS p2e.Opts.Fatal)], [.c (.int .i64 p100v.before_.ID), .c (.int .i64 p100v.before_.Kind), .c (.int .i64 p100v.before_.Time), .c (.int .i64 p100v.before_.Seq), .c (.int .i64 p100v.before_.Ref), .c (.int .i64 p100v.before_.N), .c (.int .i64 p100v.before_.Code), .c (.str p100v.before_.Name), .c (.str p100v.before_.Key), .c (.int .i64 p100v.before_.Data.Kind), .c (.int .i64 p100v.before_.Data.Int), .c (.str p100v.before_.Data.Text), .c (PV.ls 5 rowApiValue p100v.before_.Data.Items), .c (PV.ls 1 rowS p100v.before_.Data.Keys), .c (.str p100v.before_.Opts.Queue), .c (.int .i64 p100v.before_.Opts.ToStart), .c (.int .i64 p100v.before_.Opts.ToClose), .c (.int .i64 p100v.before_.Opts.Total), .c (.int .i64 p100v.before_.Opts.Beat), .c (.int .i64 p100v.before_.Opts.First), .c (.int .i64 p100v.before_.Opts.Coef), .c (.int .i64 p100v.before_.Opts.Most), .c (.int .i64 p100v.before_.Opts.Attempts), .c (PV.ls 1 rowS p100v.before_.Opts.Fatal)]] : St)) ?_ ?_
 ·
  refine w_sr <| mV (v := .box 0 0) rfl <| o_p rfl (p_nc rfl) <| o_p rfl (p_fa tf153x3 rfl) <| o_p rfl (p_load (v := aB) tv4 rfl rfl rfl) <| sB rfl <| o_ek (fr' := [(0, .box 0 0), (1, aI), (5, .box 1 0), (7, .box 2 0), (15, aB)]) rfl rfl <| w_ch hx1 rfl (fun hb4 h4 => ?_) (fun hb4 h4 => ?_)
  ·
   exact w_skip <| e_j _ (sy h4) (w_weak [] 3 rfl rfl rfl rfl ⟨lr, lr, lr, lr, lr, trivial⟩ (st_r rfl (st_r rfl (st_r rfl st_nil))))
  ·
   refine w_sr <| mI rfl <| o_p rfl (p_eql rfl rfl) <| o_p rfl (p_fa tf116x1 rfl) <| o_p rfl (p_load (v := aI) tv3 rfl rfl rfl) <| o_p rfl (p_eql rfl rfl) <| o_p rfl (p_bneq ti4 rfl rfl) <| sB rfl <| o_ek (fr' := [(0, .box 0 0), (1, aI), (5, .box 1 0), (7, .box 2 0), (15, aB)]) rfl rfl <| w_ch h4 rfl (fun hb5 h5 => ?_) (fun hb5 h5 => ?_)
   ·
    exact w_skip <| e_j _ (sy h5) (w_weak [] 3 rfl rfl rfl rfl ⟨lr, lr, lr, lr, lr, trivial⟩ (st_r rfl (st_r rfl (st_r rfl st_nil))))
   ·
    exact w_region <| mI rfl <| o_p rfl (p_eql rfl rfl) <| mB rfl <| og rfl rfl rfl (fun hc => (p_fa tf116x1 rfl)) <| og rfl rfl rfl (fun hc => (p_load (v := aI) tv3 (gx rfl hc) rfl rfl)) <| og rfl rfl rfl (fun hc => (p_neq (gx rfl hc) rfl)) <| o_p rfl (p_picky rfl rfl rfl (fun e => keq e)) <| sB rfl <| o_end (fr' := [(0, .box 0 0), (1, aI), (5, .box 1 0), (7, .box 2 0), (15, aB)]) rfl <| e_j _ (sy h5) (w_weak [] 3 rfl rfl rfl rfl ⟨lr, lr, lr, lr, lr, trivial⟩ (st_r rfl (st_r rfl (st_r rfl st_nil))))
 ·
  intro j3 hj6
  subst hj6
  refine w_ch h2 rfl (fun hb7 h7 => ?_) (fun hb7 h7 => ?_)
  ·
   refine w_sr <| sB rfl <| o_ek (fr' := [(6, aB)]) rfl rfl <| w_ret <| e_blk_r <| e_seq_r ?_
   obtain rfl := sy h7
   exact e_ret (rs' := [.tmp 6]) rfl <| r_tmp (v := aB) rfl <| r_nil <| fin_gen [] rfl rfl rfl lr (st_c ⟨rfl, rfl, rfl, rfl, rfl, rfl, rfl, rfl, rfl, rfl, rfl, rfl, rfl, rfl, rfl, rfl, rfl, rfl, rfl, rfl, rfl, rfl, rfl, rfl, rfl, rfl, rfl, trivial⟩ st_nil)
  ·
   refine w_sr <| mI rfl <| o_p rfl (p_gtr rfl rfl) <| mB rfl <| og rfl rfl rfl (fun hc => (p_fa tf116x1 rfl)) <| og rfl rfl rfl (fun hc => (p_load (v := aI) tv3 (gx rfl hc) rfl rfl)) <| og rfl rfl rfl (fun hc => (p_eql (gx rfl hc) rfl)) <| o_p rfl (p_picky rfl rfl rfl (fun e => keq e)) <| mB rfl <| og rfl rfl rfl (fun hc => (p_fa tf116x1 rfl)) <| og rfl rfl rfl (fun hc => (p_load (v := aI) tv3 (gx rfl hc) rfl rfl)) ?_
   obtain ⟨x9, hx9, h10⟩ := bind_s h7
   refine o_g rfl rfl (fun hc => ov_call (v := aB) rfl (w_history_closesActivity (gd_some hx9 hc)) ⟨(le_gv (gx rfl hc) lr), trivial⟩ (ok_eq (by repeat (first | exact ok_nil | refine ok_cons rfl ?_ | refine ok_cons (dgv rfl) ?_ | refine ok_cons dar ?_))) rfl rfl) ?_
   refine og rfl rfl rfl (fun hc => (p_not (gx rfl hc))) <| og rfl rfl rfl (fun hc => (p_move (v := aB) (gx rfl hc))) <| o_gg rfl rfl (fun hc => ov_p rfl (p_fa tf116x3 rfl)) <| o_gg rfl rfl (fun hc => ov_p rfl (p_load (v := aI) tv3 (gx rfl hc) rfl rfl)) <| o_gg rfl rfl (fun hc => ov_p rfl (p_fa tf116x3 rfl)) <| o_gg rfl rfl (fun hc => ov_p rfl (p_load (v := aI) tv3 (gx rfl hc) rfl rfl)) <| o_gg rfl rfl (fun hc => ov_p rfl (p_neq (gx rfl hc) (gx rfl hc))) <| og rfl rfl rfl (fun hc => (p_pickz (gx rfl hc) rfl rfl (fun e => band hc (keq e)))) <| o_p rfl (p_picky rfl rfl rfl (fun e => keq e)) <| sB rfl <| o_ek (fr' := [(0, .box 0 0), (5, .box 1 0), (7, .box 2 0), (33, aB)]) rfl rfl <| w_ch h10 rfl (fun hb11 h11 => ?_) (fun hb11 h11 => ?_)
   ·
    refine w_sr <| sB rfl <| o_ek (fr' := [(6, aB)]) rfl rfl <| w_ret <| e_blk_r <| e_seq_r ?_
    obtain rfl := sy h11
    exact e_ret (rs' := [.tmp 6]) rfl <| r_tmp (v := aB) rfl <| r_nil <| fin_gen [] rfl rfl rfl lr (st_c ⟨rfl, rfl, rfl, rfl, rfl, rfl, rfl, rfl, rfl, rfl, rfl, rfl, rfl, rfl, rfl, rfl, rfl, rfl, rfl, rfl, rfl, rfl, rfl, rfl, rfl, rfl, rfl, trivial⟩ st_nil)
   ·
    refine w_skip <| e_blk_n <| e_kw <| w_sr <| mV (v := .box 0 0) rfl <| o_p rfl (p_nc rfl) <| o_p rfl (p_fa tf153x0 rfl) <| o_p rfl (p_load (v := aI) tv3 rfl rfl rfl) <| o_p rfl (p_eql rfl rfl) <| sB rfl <| o_ek (fr' := [(0, .box 0 0), (5, .box 1 0), (7, .box 2 0), (8, aB)]) rfl rfl <| w_seqw ?_
    refine w_region <| mV (v := .box 0 0) rfl <| o_p rfl (p_loads (us := aIIIIIIISSIISLLSIIIIIIIIL) tv116 rfl rfl rfl rfl) ?_
    obtain ⟨x13, hx13, h14⟩ := bind_s h11
    refine o_call (v := .tup [aB, aB]) (σ' := [aIIIIIIIIISSIISLLSIIIIIIIILB, aIIIIIIISSIISLLSIIIIIIIIL, aIIIIIIISSIISLLSIIIIIIIIL]) [0] rfl (w_history_checker_step_v2 hx13) rfl rfl ⟨lr, (le_aggc rfl ⟨rfl, rfl, rfl, rfl, rfl, rfl, rfl, rfl, rfl, rfl, rfl, rfl, rfl, rfl, rfl, rfl, rfl, rfl, rfl, rfl, rfl, rfl, rfl, rfl, trivial⟩), trivial⟩ (st_c ⟨rfl, rfl, rfl, rfl, rfl, rfl, rfl, rfl, rfl, rfl, rfl, rfl, rfl, rfl, rfl, rfl, rfl, rfl, rfl, rfl, rfl, rfl, rfl, rfl, rfl, rfl, rfl, trivial⟩ st_nil) rfl rfl rfl <| mV (v := .tup [aB, aB]) rfl <| o_p rfl (p_ex (v := aB) rfl rfl) <| o_p rfl (p_ex (v := aB) rfl rfl) <| sB rfl <| sB rfl <| o_ek (fr' := [(5, .box 1 0), (7, .box 2 0), (8, aB), (9, aB), (10, aB)]) rfl rfl <| w_seqw <| w_block <| w_sr <| mB rfl <| sB rfl ?_
    refine o_ek (fr' := [(5, .box 1 0), (7, .box 2 0), (8, aB), (9, aB), (65, aB)]) rfl rfl <| w_ch h14 rfl (fun hb15 h15 => ?_) (fun hb15 h15 => ?_)
    ·
     refine w_sr <| mB rfl <| sB rfl <| o_ek (fr' := [(6, aB)]) rfl rfl <| w_ret <| e_blk_r <| e_seq_r ?_
     obtain rfl := sy h15
     exact e_ret (rs' := [.tmp 6]) rfl <| r_tmp (v := aB) rfl <| r_nil <| fin_gen [] rfl rfl rfl lr (st_c ⟨rfl, rfl, rfl, rfl, rfl, rfl, rfl, rfl, rfl, rfl, rfl, rfl, rfl, rfl, rfl, rfl, rfl, rfl, rfl, rfl, rfl, rfl, rfl, rfl, rfl, rfl, rfl, trivial⟩ st_nil)
    ·
     refine w_sr <| mB rfl <| mB rfl <| og rfl rfl rfl (fun hc => (p_fa tf116x1 rfl)) <| og rfl rfl rfl (fun hc => (p_load (v := aI) tv3 (gx rfl hc) rfl rfl)) <| og rfl rfl rfl (fun hc => (p_neq (gx rfl hc) rfl)) <| o_p rfl (p_picky rfl rfl rfl (fun e => keq e)) <| mB rfl <| og rfl rfl rfl (fun hc => (p_fa tf116x1 rfl)) <| og rfl rfl rfl (fun hc => (p_load (v := aI) tv3 (gx rfl hc) rfl rfl)) <| og rfl rfl rfl (fun hc => (p_neq (gx rfl hc) rfl)) <| o_p rfl (p_picky rfl rfl rfl (fun e => keq e)) ?_
     refine sB rfl <| o_ek (fr' := [(5, .box 1 0), (7, .box 2 0), (68, aB)]) rfl rfl <| w_ch h15 rfl (fun hb17 h17 => ?_) (fun hb17 h17 => ?_)
     ·
      refine w_sr <| sB rfl <| o_ek (fr' := [(6, aB)]) rfl rfl <| w_ret <| e_blk_r <| e_seq_r ?_
      obtain rfl := sy h17
      exact e_ret (rs' := [.tmp 6]) rfl <| r_tmp (v := aB) rfl <| r_nil <| fin_gen [] rfl rfl rfl lr (st_c ⟨rfl, rfl, rfl, rfl, rfl, rfl, rfl, rfl, rfl, rfl, rfl, rfl, rfl, rfl, rfl, rfl, rfl, rfl, rfl, rfl, rfl, rfl, rfl, rfl, rfl, rfl, rfl, trivial⟩ st_nil)
     ·
      refine w_sr <| o_p rfl (p_fa tf116x1 rfl) <| o_p rfl (p_load (v := aI) tv3 rfl rfl rfl) ?_
      obtain ⟨x19, hx19, h20⟩ := bind_s h17
      refine o_v (ov_call (v := aB) rfl (w_event_IsCommand hx19) ⟨lr, trivial⟩ rfl rfl rfl) <| sB rfl <| o_ek (fr' := [(7, .box 2 0), (80, aB)]) rfl rfl <| w_ch h20 rfl (fun hb21 h21 => ?_) (fun hb21 h21 => ?_)
      ·
       refine w_sr <| o_p rfl (p_fa tf116x1 rfl) <| o_p rfl (p_load (v := aI) tv3 rfl rfl rfl) <| o_p rfl (p_eql rfl rfl) <| mB rfl <| og rfl rfl rfl (fun hc => (p_fa tf116x1 rfl)) <| og rfl rfl rfl (fun hc => (p_load (v := aI) tv3 (gx rfl hc) rfl rfl)) ?_
       obtain ⟨x22, hx22, h23⟩ := bind_s h21
       refine o_g rfl rfl (fun hc => ov_call (v := aB) rfl (w_event_IsCommand (gd_some hx22 hc)) ⟨(le_gv (gx rfl hc) lr), trivial⟩ (ok_eq (by repeat (first | exact ok_nil | refine ok_cons rfl ?_ | refine ok_cons (dgv rfl) ?_ | refine ok_cons dar ?_))) rfl rfl) ?_
       refine o_p rfl (p_pickz rfl rfl rfl (fun e => keq e)) <| sB rfl <| o_ek (fr' := [(6, aB)]) rfl rfl <| w_ret <| e_blk_r <| e_seq_r ?_
       obtain rfl := sy h23
       exact e_ret (rs' := [.tmp 6]) rfl <| r_tmp (v := aB) rfl <| r_nil <| fin_gen [] rfl rfl rfl lr (st_c ⟨rfl, rfl, rfl, rfl, rfl, rfl, rfl, rfl, rfl, rfl, rfl, rfl, rfl, rfl, rfl, rfl, rfl, rfl, rfl, rfl, rfl, rfl, rfl, rfl, rfl, rfl, rfl, trivial⟩ st_nil)
      ·
       refine w_skip <| e_blk_n <| e_kw <| w_sr <| sB rfl <| o_ek (fr' := [(6, aB)]) rfl rfl <| w_ret ?_
       obtain rfl := sy h21
       exact e_ret (rs' := [.tmp 6]) rfl <| r_tmp (v := aB) rfl <| r_nil <| fin_gen [] rfl rfl rfl lr (st_c ⟨rfl, rfl, rfl, rfl, rfl, rfl, rfl, rfl, rfl, rfl, rfl, rfl, rfl, rfl, rfl, rfl, rfl, rfl, rfl, rfl, rfl, rfl, rfl, rfl, rfl, rfl, rfl, trivial⟩ st_nil)
noncomputable def history_checker_step (p1e : ApiEvent) (p100vx0 : Int) (p100vx1 : Int) (p100vx2 : Int) (p100vx3 : Int) (p100vx4 : Int) (p100vx5 : Int) (p100vx6 : Int) (p100vx7 : Int) (p100vx8 : Int) (p100vx9 : (List UInt8)) (p100vx10 : (List UInt8)) (p100vx11 : Int) (p100vx12 : Int) (p100vx13 : (List UInt8)) (p100vx16 : (List UInt8)) (p100vx17 : Int) (p100vx18 : Int) (p100vx19 : Int) (p100vx20 : Int) (p100vx21 : Int) (p100vx22 : Int) (p100vx23 : Int) (p100vx24 : Int) (p100vx26 : Bool) : Option (Bool × Bool × HistoryChecker) :=
 ((cond (decide (p1e.Kind = (2 : Int))) (some (Fl.go ((decide (p100vx0 = (0 : Int))), (1 : Int), p1e.ID))) (cond (decide (p1e.Kind = (3 : Int))) (some (Fl.go ((cond (decide (p100vx0 = (1 : Int))) (decide (p1e.Ref = p100vx1)) false), (2 : Int), p1e.ID))) (((cond (decide (p1e.Kind = (4 : Int))) (some (decide (p1e.Kind = (4 : Int)))) (cond (decide (p1e.Kind = (5 : Int))) (some (decide (p1e.Kind = (5 : Int)))) (some (decide (p1e.Kind = (6 : Int)))))) : Option Bool).bind fun (x6 : Bool) => (cond x6 (some (Fl.go ((cond (decide (p100vx0 = (2 : Int))) (decide (p1e.Ref = p100vx1)) false), (0 : Int), p100vx1))) (some (Fl.done (false, false, (HistoryChecker.mk p100vx0 p100vx1 (ApiEvent.mk p100vx2 p100vx3 p100vx4 p100vx5 p100vx6 p100vx7 p100vx8 p100vx9 p100vx10 (ApiValue.mk p100vx11 p100vx12 p100vx13 ([] : (List ApiValue)) ([] : (List (List UInt8)))) (ApiPolicy.mk p100vx16 p100vx17 p100vx18 p100vx19 p100vx20 p100vx21 p100vx22 p100vx23 p100vx24 ([] : (List (List UInt8))))) p100vx26)))))))) : Option (Fl (Bool × Bool × HistoryChecker) (Bool × Int × Int))).bind fun (x1 : (Fl (Bool × Bool × HistoryChecker) (Bool × Int × Int))) => Fl.next x1 (fun (j3 : (Bool × Int × Int)) => (some (j3.1, true, (HistoryChecker.mk j3.2.1 j3.2.2 (ApiEvent.mk p100vx2 p100vx3 p100vx4 p100vx5 p100vx6 p100vx7 p100vx8 p100vx9 p100vx10 (ApiValue.mk p100vx11 p100vx12 p100vx13 ([] : (List ApiValue)) ([] : (List (List UInt8)))) (ApiPolicy.mk p100vx16 p100vx17 p100vx18 p100vx19 p100vx20 p100vx21 p100vx22 p100vx23 p100vx24 ([] : (List (List UInt8))))) p100vx26))))
theorem w_history_checker_step {p1e : ApiEvent} {p100vx0 : Int} {p100vx1 : Int} {p100vx2 : Int} {p100vx3 : Int} {p100vx4 : Int} {p100vx5 : Int} {p100vx6 : Int} {p100vx7 : Int} {p100vx8 : Int} {p100vx9 : (List UInt8)} {p100vx10 : (List UInt8)} {p100vx11 : Int} {p100vx12 : Int} {p100vx13 : (List UInt8)} {p100vx16 : (List UInt8)} {p100vx17 : Int} {p100vx18 : Int} {p100vx19 : Int} {p100vx20 : Int} {p100vx21 : Int} {p100vx22 : Int} {p100vx23 : Int} {p100vx24 : Int} {p100vx26 : Bool} {res : (Bool × Bool × HistoryChecker)} (h : history_checker_step p1e p100vx0 p100vx1 p100vx2 p100vx3 p100vx4 p100vx5 p100vx6 p100vx7 p100vx8 p100vx9 p100vx10 p100vx11 p100vx12 p100vx13 p100vx16 p100vx17 p100vx18 p100vx19 p100vx20 p100vx21 p100vx22 p100vx23 p100vx24 p100vx26 = some res) : ACalls Tryd.prog 118 [.box 0 0, .agg (AV.cs (rowApiEvent p1e))] [[.c (.int .i64 p100vx0), .c (.int .i64 p100vx1), .c (.int .i64 p100vx2), .c (.int .i64 p100vx3), .c (.int .i64 p100vx4), .c (.int .i64 p100vx5), .c (.int .i64 p100vx6), .c (.int .i64 p100vx7), .c (.int .i64 p100vx8), .c (.str p100vx9), .c (.str p100vx10), .c (.int .i64 p100vx11), .c (.int .i64 p100vx12), .c (.str p100vx13), AV.nil, AV.nil, .c (.str p100vx16), .c (.int .i64 p100vx17), .c (.int .i64 p100vx18), .c (.int .i64 p100vx19), .c (.int .i64 p100vx20), .c (.int .i64 p100vx21), .c (.int .i64 p100vx22), .c (.int .i64 p100vx23), .c (.int .i64 p100vx24), AV.nil, .c (.bool p100vx26)]] (.tup [.c (.bool res.1), .c (.bool res.2.1)]) [AV.cs (rowHistoryChecker res.2.2)] := by
 unfold history_checker_step at h
 refine acalls (fn := Tryd.f118) [0, 1, 3, 4, 5, 7, 8, 23, 47] (by kernel_rfl) Tryd.func118 rfl (by kernel_rfl) (by kernel_rfl) <| w_sr <| o_box (v := .agg aIIIIIIISSIISLLSIIIIIIIIL) (n := 1) (cs := aIIIIIIISSIISLLSIIIIIIIIL) (σ' := [[aI, aI, aI, aI, aI, aI, aI, aI, aI, aS, aS, aI, aI, aS, AV.nil, AV.nil, aS, aI, aI, aI, aI, aI, aI, aI, aI, AV.nil, aB], aIIIIIIISSIISLLSIIIIIIIIL]) rfl rfl rfl rfl rfl <| sB rfl <| sB rfl <| o_ek (fr' := [(0, .box 0 0), (3, .box 1 0)]) rfl rfl ?_
 obtain ⟨x1, hx1, h2⟩ := bind_s h
 refine w_join (fun j3 => x1 = Fl.go j3) (fun (j3 : (Bool × Int × Int)) => ([(4, .c (.bool j3.1))] : Fr)) (fun (j3 : (Bool × Int × Int)) => ([[.c (.int .i64 j3.2.1), .c (.int .i64 j3.2.2), .c (.int .i64 p100vx2), .c (.int .i64 p100vx3), .c (.int .i64 p100vx4), .c (.int .i64 p100vx5), .c (.int .i64 p100vx6), .c (.int .i64 p100vx7), .c (.int .i64 p100vx8), .c (.str p100vx9), .c (.str p100vx10), .c (.int .i64 p100vx11), .c (.int .i64 p100vx12), .c (.str p100vx13), AV.nil, AV.nil, .c (.str p100vx16), .c (.int .i64 p100vx17), .c (.int .i64 p100vx18), .c (.int .i64 p100vx19), .c (.int .i64 p100vx20), .c (.int .i64 p100vx21), .c (.int .i64 p100vx22), .c (.int .i64 p100vx23), .c (.int .i64 p100vx24), AV.nil, .c (.bool p100vx26)], [.c (.int .i64 p1e.ID), .c (.int .i64 p1e.Kind), .c (.int .i64 p1e.Time), .c (.int .i64 p1e.Seq), .c (.int .i64 p1e.Ref), .c (.int .i64 p1e.N), .c (.int .i64 p1e.Code), .c (.str p1e.Name), .c (.str p1e.Key), .c (.int .i64 p1e.Data.Kind), .c (.int .i64 p1e.Data.Int), .c (.str p1e.Data.Text), .c (PV.ls 5 rowApiValue p1e.Data.Items), .c (PV.ls 1 rowS p1e.Data.Keys), .c (.str p1e.Opts.Queue), .c (.int .i64 p1e.Opts.ToStart), .c (.int .i64 p1e.Opts.ToClose), .c (.int .i64 p1e.Opts.Total), .c (.int .i64 p1e.Opts.Beat), .c (.int .i64 p1e.Opts.First), .c (.int .i64 p1e.Opts.Coef), .c (.int .i64 p1e.Opts.Most), .c (.int .i64 p1e.Opts.Attempts), .c (PV.ls 1 rowS p1e.Opts.Fatal)]] : St)) ?_ ?_
 ·
  refine w_sr <| o_p rfl (p_fa tf116x1 rfl) <| o_p rfl (p_load (v := aI) tv3 rfl rfl rfl) <| o_ek (fr' := [(0, .box 0 0), (3, .box 1 0), (7, aI)]) rfl rfl <| w_block <| w_sr <| o_p rfl (p_eql rfl rfl) <| sB rfl <| o_ek (fr' := [(0, .box 0 0), (3, .box 1 0), (7, aI), (8, aB)]) rfl rfl <| w_ch hx1 rfl (fun hb4 h4 => ?_) (fun hb4 h4 => ?_)
  ·
   refine w_sr <| mV (v := .box 0 0) rfl <| o_p rfl (p_nc rfl) <| o_p rfl (p_fa tf153x0 rfl) <| o_p rfl (p_load (v := aI) tv3 rfl rfl rfl) <| o_p rfl (p_eql rfl rfl) <| sB rfl <| o_ek (fr' := [(0, .box 0 0), (3, .box 1 0), (4, aB)]) rfl rfl <| w_planT [.q 0, .q 1, .q 2, .q 3, .q 4, .q 5, .n 6 [1, 2, 3], .q 7, .q 8, .n 9 []] [(some 15, [0]), (some 16, [0]), (some 17, [3]), (some 18, [17]), (some 19, [15]), (some 20, [19]), (none, [20]), (some 21, [16]), (some 22, [21]), (none, [22, 18])] [0, 0, 0, 4, 1, 17, 49, 127, 255, 511] (by kernel_rfl) <| dq rfl rfl (p_move (v := .box 0 0) rfl) <| dq rfl rfl (p_move (v := .box 0 0) rfl) <| dq rfl rfl (p_fa tf116x0 rfl) ?_
   refine dq rfl rfl (p_load (v := aI) tv3 rfl rfl rfl) <| dq rfl rfl (p_nc rfl) <| dq rfl rfl (p_fa tf153x0 rfl) <| d_n rfl ?_ rfl
   refine o_store (v := aI) (us := [aI]) (cs := [aI, aI, aI, aI, aI, aI, aI, aI, aI, aS, aS, aI, aI, aS, AV.nil, AV.nil, aS, aI, aI, aI, aI, aI, aI, aI, aI, AV.nil, aB]) (σ' := [[aI, aI, aI, aI, aI, aI, aI, aI, aI, aS, aS, aI, aI, aS, AV.nil, AV.nil, aS, aI, aI, aI, aI, aI, aI, aI, aI, AV.nil, aB], aIIIIIIISSIISLLSIIIIIIIIL]) rfl tv3 rfl rfl rfl rfl rfl rfl rfl rfl <| o_rc <| ⟨(rc_q (v := .box 0 0) rfl rfl (qv_p rfl (p_move (v := .box 0 0) rfl)) (rc_q (v := .box 1 0) rfl rfl (qv_p rfl (p_fa tf116x0 rfl)) (rc_q (v := aI) rfl rfl (qv_p rfl (p_load (v := aI) tv3 rfl rfl rfl)) rc_nil))), ?_⟩
   refine dq rfl rfl (p_nc rfl) <| dq rfl rfl (p_fa tf153x1 rfl) <| d_n rfl ?_ rfl
   refine o_store (v := aI) (us := [aI]) (cs := [aI, aI, aI, aI, aI, aI, aI, aI, aI, aS, aS, aI, aI, aS, AV.nil, AV.nil, aS, aI, aI, aI, aI, aI, aI, aI, aI, AV.nil, aB]) (σ' := [[aI, aI, aI, aI, aI, aI, aI, aI, aI, aS, aS, aI, aI, aS, AV.nil, AV.nil, aS, aI, aI, aI, aI, aI, aI, aI, aI, AV.nil, aB], aIIIIIIISSIISLLSIIIIIIIIL]) rfl tv3 rfl rfl rfl rfl rfl rfl rfl rfl <| o_rc <| ⟨rc_nil, ?_⟩
   exact d_end (fr' := [(0, .box 0 0), (3, .box 1 0), (4, aB)]) rfl <| e_blk_n <| e_j _ (sy h4) (w_weak [] 2 rfl rfl rfl rfl ⟨lr, trivial⟩ (st_r rfl (st_r rfl st_nil)))
  ·
   refine w_sr <| o_p rfl (p_eql rfl rfl) <| sB rfl <| o_ek (fr' := [(0, .box 0 0), (3, .box 1 0), (7, aI), (23, aB)]) rfl rfl <| w_ch h4 rfl (fun hb5 h5 => ?_) (fun hb5 h5 => ?_)
   ·
    refine w_seqw <| w_planT [.q 0, .q 1, .q 2, .q 3, .q 4, .q 5, .q 6, .q 7, .q 8, .q 9, .q 10, .q 11, .q 12, .q 13, .n 14 []] [(some 25, [0]), (some 26, [25]), (some 27, [26]), (some 28, [27]), (some 29, [28]), (some 30, [29]), (some 31, [3, 30]), (some 32, [31, 30]), (some 33, [0, 30]), (some 34, [33, 30]), (some 35, [34, 30]), (some 36, [35, 30]), (some 37, [32, 36, 30]), (some 38, [30, 37]), (some 4, [38])] [0, 1, 3, 7, 15, 31, 63, 127, 63, 319, 831, 1855, 4095, 8191, 16383] (by kernel_rfl) <| dq rfl rfl (p_move (v := .box 0 0) rfl) <| dq rfl rfl (p_nc rfl) <| dq rfl rfl (p_fa tf153x0 rfl) <| dq rfl rfl (p_load (v := aI) tv3 rfl rfl rfl) <| dq rfl rfl (p_eql rfl rfl) <| dq rfl rfl (p_move (v := aB) rfl) <| d_g rfl rfl rfl (fun hc => qv_p rfl (p_fa tf116x4 rfl)) <| d_g rfl rfl rfl (fun hc => qv_p rfl (p_load (v := aI) tv3 (gx rfl hc) rfl rfl)) <| d_g rfl rfl rfl (fun hc => qv_p rfl (p_move (v := .box 0 0) rfl)) <| d_g rfl rfl rfl (fun hc => qv_p rfl (p_nc (gx rfl hc))) <| d_g rfl rfl rfl (fun hc => qv_p rfl (p_fa tf153x1 (gx rfl hc))) ?_
    refine d_g rfl rfl rfl (fun hc => qv_p rfl (p_load (v := aI) tv3 (gx rfl hc) rfl rfl)) <| d_g rfl rfl rfl (fun hc => qv_p rfl (p_eql (gx rfl hc) (gx rfl hc))) <| dq rfl rfl (p_picky rfl rfl rfl (fun e => keq e)) <| d_n rfl ?_ rfl
    refine sB rfl <| o_rc <| ⟨rc_nil, ?_⟩
    refine d_ek (fr' := [(0, .box 0 0), (3, .box 1 0), (4, aB)]) rfl rfl <| w_planT [.q 0, .q 1, .q 2, .q 3, .q 4, .q 5, .n 6 [1, 2, 3], .q 7, .q 8, .n 9 []] [(some 39, [0]), (some 40, [0]), (some 41, [3]), (some 42, [41]), (some 43, [39]), (some 44, [43]), (none, [44]), (some 45, [40]), (some 46, [45]), (none, [46, 42])] [0, 0, 0, 4, 1, 17, 49, 127, 255, 511] (by kernel_rfl) <| dq rfl rfl (p_move (v := .box 0 0) rfl) <| dq rfl rfl (p_move (v := .box 0 0) rfl) <| dq rfl rfl (p_fa tf116x0 rfl) <| dq rfl rfl (p_load (v := aI) tv3 rfl rfl rfl) <| dq rfl rfl (p_nc rfl) <| dq rfl rfl (p_fa tf153x0 rfl) <| d_n rfl ?_ rfl
    refine o_store (v := aI) (us := [aI]) (cs := [aI, aI, aI, aI, aI, aI, aI, aI, aI, aS, aS, aI, aI, aS, AV.nil, AV.nil, aS, aI, aI, aI, aI, aI, aI, aI, aI, AV.nil, aB]) (σ' := [[aI, aI, aI, aI, aI, aI, aI, aI, aI, aS, aS, aI, aI, aS, AV.nil, AV.nil, aS, aI, aI, aI, aI, aI, aI, aI, aI, AV.nil, aB], aIIIIIIISSIISLLSIIIIIIIIL]) rfl tv3 rfl rfl rfl rfl rfl rfl rfl rfl <| o_rc <| ⟨(rc_q (v := .box 0 0) rfl rfl (qv_p rfl (p_move (v := .box 0 0) rfl)) (rc_q (v := .box 1 0) rfl rfl (qv_p rfl (p_fa tf116x0 rfl)) (rc_q (v := aI) rfl rfl (qv_p rfl (p_load (v := aI) tv3 rfl rfl rfl)) rc_nil))), ?_⟩
    refine dq rfl rfl (p_nc rfl) <| dq rfl rfl (p_fa tf153x1 rfl) <| d_n rfl ?_ rfl
    refine o_store (v := aI) (us := [aI]) (cs := [aI, aI, aI, aI, aI, aI, aI, aI, aI, aS, aS, aI, aI, aS, AV.nil, AV.nil, aS, aI, aI, aI, aI, aI, aI, aI, aI, AV.nil, aB]) (σ' := [[aI, aI, aI, aI, aI, aI, aI, aI, aI, aS, aS, aI, aI, aS, AV.nil, AV.nil, aS, aI, aI, aI, aI, aI, aI, aI, aI, AV.nil, aB], aIIIIIIISSIISLLSIIIIIIIIL]) rfl tv3 rfl rfl rfl rfl rfl rfl rfl rfl <| o_rc <| ⟨rc_nil, ?_⟩
    exact d_end (fr' := [(0, .box 0 0), (3, .box 1 0), (4, aB)]) rfl <| e_blk_n <| e_j _ (sy h5) (w_weak [] 2 rfl rfl rfl rfl ⟨lr, trivial⟩ (st_r rfl (st_r rfl st_nil)))
   ·
    obtain ⟨x6, hx6, h7⟩ := bind_s h5
    refine w_join (fun j8 => x6 = j8) (fun (j8 : Bool) => ([(0, .box 0 0), (3, .box 1 0), (47, .c (.bool j8))] : Fr)) (fun (j8 : Bool) => ([[.c (.int .i64 p100vx0), .c (.int .i64 p100vx1), .c (.int .i64 p100vx2), .c (.int .i64 p100vx3), .c (.int .i64 p100vx4), .c (.int .i64 p100vx5), .c (.int .i64 p100vx6), .c (.int .i64 p100vx7), .c (.int .i64 p100vx8), .c (.str p100vx9), .c (.str p100vx10), .c (.int .i64 p100vx11), .c (.int .i64 p100vx12), .c (.str p100vx13), AV.nil, AV.nil, .c (.str p100vx16), .c (.int .i64 p100vx17), .c (.int .i64 p100vx18), .c (.int .i64 p100vx19), .c (.int .i64 p100vx20), .c (.int .i64 p100vx21), .c (.int .i64 p100vx22), .c (.int .i64 p100vx23), .c (.int .i64 p100vx24), AV.nil, .c (.bool p100vx26)], [.c (.int .i64 p1e.ID), .c (.int .i64 p1e.Kind), .c (.int .i64 p1e.Time), .c (.int .i64 p1e.Seq), .c (.int .i64 p1e.Ref), .c (.int .i64 p1e.N), .c (.int .i64 p1e.Code), .c (.str p1e.Name), .c (.str p1e.Key), .c (.int .i64 p1e.Data.Kind), .c (.int .i64 p1e.Data.Int), .c (.str p1e.Data.Text), .c (PV.ls 5 rowApiValue p1e.Data.Items), .c (PV.ls 1 rowS p1e.Data.Keys), .c (.str p1e.Opts.Queue), .c (.int .i64 p1e.Opts.ToStart), .c (.int .i64 p1e.Opts.ToClose), .c (.int .i64 p1e.Opts.Total), .c (.int .i64 p1e.Opts.Beat), .c (.int .i64 p1e.Opts.First), .c (.int .i64 p1e.Opts.Coef), .c (.int .i64 p1e.Opts.Most), .c (.int .i64 p1e.Opts.Attempts), .c (PV.ls 1 rowS p1e.Opts.Fatal)]] : St)) ?_ ?_
    ·
     refine w_sr <| o_p rfl (p_eql rfl rfl) <| sB rfl <| o_ek (fr' := [(0, .box 0 0), (3, .box 1 0), (7, aI), (47, aB)]) rfl rfl <| w_ch hx6 rfl (fun hb9 h9 => ?_) (fun hb9 h9 => ?_)
     ·
      exact w_skip <| e_j _ (sy h9) (w_weak [] 2 rfl rfl rfl rfl ⟨lr, lr, lr, trivial⟩ (st_r rfl (st_r rfl st_nil)))
     ·
      refine w_sr <| o_p rfl (p_eql rfl rfl) <| sB rfl <| o_ek (fr' := [(0, .box 0 0), (3, .box 1 0), (7, aI), (47, aB)]) rfl rfl <| w_ch h9 rfl (fun hb10 h10 => ?_) (fun hb10 h10 => ?_)
      ·
       exact w_skip <| e_j _ (sy h10) (w_weak [] 2 rfl rfl rfl rfl ⟨lr, lr, lr, trivial⟩ (st_r rfl (st_r rfl st_nil)))
      ·
       exact w_region <| o_p rfl (p_eql rfl rfl) <| sB rfl <| o_end (fr' := [(0, .box 0 0), (3, .box 1 0), (7, aI), (47, aB)]) rfl <| e_j _ (sy h10) (w_weak [] 2 rfl rfl rfl rfl ⟨lr, lr, lr, trivial⟩ (st_r rfl (st_r rfl st_nil)))
    ·
     intro j8 hj11
     subst hj11
     refine w_ch h7 rfl (fun hb12 h12 => ?_) (fun hb12 h12 => ?_)
     ·
      refine w_seqw <| w_planT [.q 0, .q 1, .q 2, .q 3, .q 4, .q 5, .q 6, .q 7, .q 8, .q 9, .q 10, .q 11, .q 12, .q 13, .n 14 []] [(some 51, [0]), (some 52, [51]), (some 53, [52]), (some 54, [53]), (some 55, [54]), (some 56, [55]), (some 57, [3, 56]), (some 58, [57, 56]), (some 59, [0, 56]), (some 60, [59, 56]), (some 61, [60, 56]), (some 62, [61, 56]), (some 63, [58, 62, 56]), (some 64, [56, 63]), (some 4, [64])] [0, 1, 3, 7, 15, 31, 63, 127, 63, 319, 831, 1855, 4095, 8191, 16383] (by kernel_rfl) <| dq rfl rfl (p_move (v := .box 0 0) rfl) <| dq rfl rfl (p_nc rfl) <| dq rfl rfl (p_fa tf153x0 rfl) <| dq rfl rfl (p_load (v := aI) tv3 rfl rfl rfl) <| dq rfl rfl (p_eql rfl rfl) <| dq rfl rfl (p_move (v := aB) rfl) <| d_g rfl rfl rfl (fun hc => qv_p rfl (p_fa tf116x4 rfl)) <| d_g rfl rfl rfl (fun hc => qv_p rfl (p_load (v := aI) tv3 (gx rfl hc) rfl rfl)) <| d_g rfl rfl rfl (fun hc => qv_p rfl (p_move (v := .box 0 0) rfl)) <| d_g rfl rfl rfl (fun hc => qv_p rfl (p_nc (gx rfl hc))) <| d_g rfl rfl rfl (fun hc => qv_p rfl (p_fa tf153x1 (gx rfl hc))) ?_
      refine d_g rfl rfl rfl (fun hc => qv_p rfl (p_load (v := aI) tv3 (gx rfl hc) rfl rfl)) <| d_g rfl rfl rfl (fun hc => qv_p rfl (p_eql (gx rfl hc) (gx rfl hc))) <| dq rfl rfl (p_picky rfl rfl rfl (fun e => keq e)) <| d_n rfl ?_ rfl
      refine sB rfl <| o_rc <| ⟨rc_nil, ?_⟩
      exact d_ek (fr' := [(0, .box 0 0), (4, aB)]) rfl rfl <| w_region <| mV (v := .box 0 0) rfl <| o_p rfl (p_nc rfl) <| o_p rfl (p_fa tf153x0 rfl) <| o_store (v := aI) (us := [aI]) (cs := [aI, aI, aI, aI, aI, aI, aI, aI, aI, aS, aS, aI, aI, aS, AV.nil, AV.nil, aS, aI, aI, aI, aI, aI, aI, aI, aI, AV.nil, aB]) (σ' := [[aI, aI, aI, aI, aI, aI, aI, aI, aI, aS, aS, aI, aI, aS, AV.nil, AV.nil, aS, aI, aI, aI, aI, aI, aI, aI, aI, AV.nil, aB], aIIIIIIISSIISLLSIIIIIIIIL]) rfl tv3 rfl rfl rfl rfl rfl rfl rfl rfl <| o_end (fr' := [(0, .box 0 0), (4, aB)]) rfl <| e_blk_n <| e_j _ (sy h12) (w_weak [] 2 rfl rfl rfl rfl ⟨lr, trivial⟩ (st_r rfl (st_r rfl st_nil)))
     ·
      refine w_sr <| sB rfl <| sB rfl <| o_ek (fr' := [(4, aB), (5, aB)]) rfl rfl <| w_ret <| e_blk_r <| e_seq_r ?_
      have h13 := un_done h12 h2
      obtain rfl := sy h13
      exact e_ret (rs' := [.tmp 4, .tmp 5]) rfl <| r_tmp (v := aB) rfl <| r_tmp (v := aB) rfl <| r_nil <| fin_gen [] rfl rfl rfl (le_tupp rfl ⟨lr, lr, trivial⟩) (st_c ⟨rfl, rfl, rfl, rfl, rfl, rfl, rfl, rfl, rfl, rfl, rfl, rfl, rfl, rfl, ⟨_, rfl⟩, ⟨_, rfl⟩, rfl, rfl, rfl, rfl, rfl, rfl, rfl, rfl, rfl, ⟨_, rfl⟩, rfl, trivial⟩ st_nil)
 ·
  intro j3 hj15
  have h15 := un_go hj15 h2
  refine w_sr <| mB rfl <| sB rfl <| sB rfl <| o_ek (fr' := [(4, aB), (5, aB)]) rfl rfl <| w_ret ?_
  obtain rfl := sy h15
  exact e_ret (rs' := [.tmp 4, .tmp 5]) rfl <| r_tmp (v := aB) rfl <| r_tmp (v := aB) rfl <| r_nil <| fin_gen [] rfl rfl rfl (le_tupp rfl ⟨lr, lr, trivial⟩) (st_c ⟨rfl, rfl, rfl, rfl, rfl, rfl, rfl, rfl, rfl, rfl, rfl, rfl, rfl, rfl, ⟨_, rfl⟩, ⟨_, rfl⟩, rfl, rfl, rfl, rfl, rfl, rfl, rfl, rfl, rfl, ⟨_, rfl⟩, rfl, trivial⟩ st_nil)
end Go.Proofs.YtmbdbdhdcbdcpaaDoor

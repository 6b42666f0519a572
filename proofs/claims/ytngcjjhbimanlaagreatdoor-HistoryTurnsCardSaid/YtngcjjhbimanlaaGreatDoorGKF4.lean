import Derived.Test.YtngcjjhbimanlaaGreatDoorGKTy
import Derived.Test.YtngcjjhbimanlaaGreatDoorGKF0
import Derived.Test.YtngcjjhbimanlaaGreatDoorGKF1
import Derived.Test.YtngcjjhbimanlaaGreatDoorGKF3
namespace Go.Proofs.YtngcjjhbimanlaaGreatDoor
open Go Abs
set_option maxRecDepth 100000
set_option linter.unusedVariables false
set_option linter.unusedSimpArgs false
noncomputable def event_particular (p0e : ApiEvent) : Option Bool :=
 cond (decide (p0e.Kind = (1 : Int))) ((name_Right p0e.Name).bind fun (x2 : Bool) => (gd (x2 == true) (event_identifier p0e.Key)).bind fun (x4 : Bool) => (gd ((cond x2 x4 false) == true) (event_within p0e.N (0 : Int) (4294967295 : Int))).bind fun (x6 : Bool) => (gd ((cond (cond x2 x4 false) x6 false) == true) (event_input p0e.Data)).bind fun (x8 : Bool) => some (cond (cond (cond x2 x4 false) x6 false) x8 false)) (cond (decide (p0e.Kind = (2 : Int))) (some (decide ((1 : Int) ≤ p0e.N))) (cond (decide (p0e.Kind = (5 : Int))) ((event_within p0e.Code (1 : Int) (30 : Int)).bind fun (x14 : Bool) => some x14) (cond (decide (p0e.Kind = (8 : Int))) ((event_within p0e.N (1 : Int) (1000 : Int)).bind fun (x18 : Bool) => some x18) (cond (decide (p0e.Kind = (11 : Int))) ((event_within p0e.Code (1 : Int) (4 : Int)).bind fun (x22 : Bool) => some x22) (((cond (decide (p0e.Kind = (10 : Int))) (some (decide (p0e.Kind = (10 : Int)))) (cond (decide (p0e.Kind = (22 : Int))) (some (decide (p0e.Kind = (22 : Int)))) (some (decide (p0e.Kind = (25 : Int)))))) : Option Bool).bind fun (x25 : Bool) => (cond x25 (some (decide (((p0e.Name).length : Int) ≤ (4096 : Int)))) (cond (decide (p0e.Kind = (33 : Int))) (some (decide (((p0e.Name).length : Int) ≤ (64 : Int)))) (cond (decide (p0e.Kind = (17 : Int))) ((name_Right p0e.Name).bind fun (x36 : Bool) => (gd (x36 == true) (event_identifier p0e.Key)).bind fun (x38 : Bool) => some (cond x36 x38 false)) (cond (decide (p0e.Kind = (26 : Int))) ((event_identifier p0e.Key).bind fun (x42 : Bool) => some x42) (cond (decide (p0e.Kind = (20 : Int))) ((name_Number p0e.Key).bind fun (x46 : (Int × Bool)) => some x46.2) (some true)))))))))))
theorem w_event_particular {p0e : ApiEvent} {res : Bool} (h : event_particular p0e = some res) : ACalls Tryz.prog 33 [.agg (AV.cs (rowApiEvent p0e))] [] (.c (.bool res)) [] := by
 unfold event_particular at h
 refine acalls (fn := Tryz.f33) [0, 1, 2, 4, 6, 7, 27, 32, 37, 42, 47, 55, 61, 71, 76] (by kernel_rfl) Tryz.func33 rfl (by kernel_rfl) (by kernel_rfl) <| w_sr <| o_box (v := .agg aIIIIIIISSIISLLSIIIIIIIIL) (n := 0) (cs := aIIIIIIISSIISLLSIIIIIIIIL) (σ' := [aIIIIIIISSIISLLSIIIIIIIIL]) rfl rfl rfl rfl rfl <| sB rfl <| o_ek (fr' := [(1, .box 0 0)]) rfl rfl <| w_seqw <| w_sr <| o_p rfl (p_fa tf29x1 rfl) <| o_p rfl (p_load (v := aI) tv3 rfl rfl rfl) <| o_ek (fr' := [(1, .box 0 0), (6, aI)]) rfl rfl <| w_block ?_
 refine w_sr <| o_p rfl (p_eql rfl rfl) <| sB rfl <| o_ek (fr' := [(1, .box 0 0), (6, aI), (7, aB)]) rfl rfl <| w_ch h rfl (fun hb1 h1 => ?_) (fun hb1 h1 => ?_)
 ·
  refine w_sr <| o_p rfl (p_fa tf29x7 rfl) <| o_p rfl (p_load (v := aS) tv9 rfl rfl rfl) ?_
  obtain ⟨x2, hx2, h3⟩ := bind_s h1
  refine o_v (ov_call (v := aB) rfl (w_name_Right hx2) ⟨lr, trivial⟩ rfl rfl rfl) <| mB rfl <| og rfl rfl rfl (fun hc => (p_fa tf29x8 rfl)) <| og rfl rfl rfl (fun hc => (p_load (v := aS) tv9 (gx rfl hc) rfl rfl)) ?_
  obtain ⟨x4, hx4, h5⟩ := bind_s h3
  refine o_g rfl rfl (fun hc => ov_call (v := aB) rfl (w_event_identifier (gd_some hx4 hc)) ⟨(le_gv (gx rfl hc) lr), trivial⟩ (ok_eq (by repeat (first | exact ok_nil | refine ok_cons rfl ?_ | refine ok_cons (dgv rfl) ?_ | refine ok_cons dar ?_))) rfl rfl) ?_
  refine o_p rfl (p_picky rfl rfl rfl (fun e => keq e)) <| mB rfl <| og rfl rfl rfl (fun hc => (p_fa tf29x5 rfl)) <| og rfl rfl rfl (fun hc => (p_load (v := aI) tv3 (gx rfl hc) rfl rfl)) ?_
  obtain ⟨x6, hx6, h7⟩ := bind_s h5
  refine o_g rfl rfl (fun hc => ov_call (v := aB) rfl (w_event_within (gd_some hx6 hc)) ⟨(le_gv (gx rfl hc) lr), lr, lr, trivial⟩ (ok_eq (by repeat (first | exact ok_nil | refine ok_cons rfl ?_ | refine ok_cons (dgv rfl) ?_ | refine ok_cons dar ?_))) rfl rfl) ?_
  refine o_p rfl (p_picky rfl rfl rfl (fun e => keq e)) <| mB rfl <| og rfl rfl rfl (fun hc => (p_fa tf29x9 rfl)) <| og rfl rfl rfl (fun hc => (p_loads (us := aIISLL) tv25 (gx rfl hc) rfl rfl rfl)) ?_
  obtain ⟨x8, hx8, h9⟩ := bind_s h7
  refine o_g rfl rfl (fun hc => ov_call (v := aB) rfl (w_event_input (gd_some hx8 hc)) ⟨(le_gv (gx rfl hc) (le_aggc rfl ⟨rfl, rfl, rfl, rfl, rfl, trivial⟩)), trivial⟩ (ok_eq (by repeat (first | exact ok_nil | refine ok_cons rfl ?_ | refine ok_cons (dgv rfl) ?_ | refine ok_cons dar ?_))) rfl rfl) ?_
  refine o_p rfl (p_picky rfl rfl rfl (fun e => keq e)) <| sB rfl <| o_ek (fr' := [(2, aB)]) rfl rfl <| w_ret <| e_blk_r <| e_seq_r ?_
  obtain rfl := sy h9
  exact e_ret (rs' := [.tmp 2]) rfl <| r_tmp (v := aB) rfl <| r_nil <| fin_gen [] rfl rfl rfl lr st_nil
 ·
  refine w_sr <| o_p rfl (p_eql rfl rfl) <| sB rfl <| o_ek (fr' := [(1, .box 0 0), (6, aI), (27, aB)]) rfl rfl <| w_ch h1 rfl (fun hb11 h11 => ?_) (fun hb11 h11 => ?_)
  ·
   refine w_sr <| o_p rfl (p_fa tf29x5 rfl) <| o_p rfl (p_load (v := aI) tv3 rfl rfl rfl) <| o_p rfl (p_geq rfl rfl) <| sB rfl <| o_ek (fr' := [(2, aB)]) rfl rfl <| w_ret <| e_blk_r <| e_seq_r ?_
   obtain rfl := sy h11
   exact e_ret (rs' := [.tmp 2]) rfl <| r_tmp (v := aB) rfl <| r_nil <| fin_gen [] rfl rfl rfl lr st_nil
  ·
   refine w_sr <| o_p rfl (p_eql rfl rfl) <| sB rfl <| o_ek (fr' := [(1, .box 0 0), (6, aI), (32, aB)]) rfl rfl <| w_ch h11 rfl (fun hb13 h13 => ?_) (fun hb13 h13 => ?_)
   ·
    refine w_sr <| o_p rfl (p_fa tf29x6 rfl) <| o_p rfl (p_load (v := aI) tv3 rfl rfl rfl) ?_
    obtain ⟨x14, hx14, h15⟩ := bind_s h13
    refine o_v (ov_call (v := aB) rfl (w_event_within hx14) ⟨lr, lr, lr, trivial⟩ rfl rfl rfl) <| sB rfl <| o_ek (fr' := [(2, aB)]) rfl rfl <| w_ret <| e_blk_r <| e_seq_r ?_
    obtain rfl := sy h15
    exact e_ret (rs' := [.tmp 2]) rfl <| r_tmp (v := aB) rfl <| r_nil <| fin_gen [] rfl rfl rfl lr st_nil
   ·
    refine w_sr <| o_p rfl (p_eql rfl rfl) <| sB rfl <| o_ek (fr' := [(1, .box 0 0), (6, aI), (37, aB)]) rfl rfl <| w_ch h13 rfl (fun hb17 h17 => ?_) (fun hb17 h17 => ?_)
    ·
     refine w_sr <| o_p rfl (p_fa tf29x5 rfl) <| o_p rfl (p_load (v := aI) tv3 rfl rfl rfl) ?_
     obtain ⟨x18, hx18, h19⟩ := bind_s h17
     refine o_v (ov_call (v := aB) rfl (w_event_within hx18) ⟨lr, lr, lr, trivial⟩ rfl rfl rfl) <| sB rfl <| o_ek (fr' := [(2, aB)]) rfl rfl <| w_ret <| e_blk_r <| e_seq_r ?_
     obtain rfl := sy h19
     exact e_ret (rs' := [.tmp 2]) rfl <| r_tmp (v := aB) rfl <| r_nil <| fin_gen [] rfl rfl rfl lr st_nil
    ·
     refine w_sr <| o_p rfl (p_eql rfl rfl) <| sB rfl <| o_ek (fr' := [(1, .box 0 0), (6, aI), (42, aB)]) rfl rfl <| w_ch h17 rfl (fun hb21 h21 => ?_) (fun hb21 h21 => ?_)
     ·
      refine w_sr <| o_p rfl (p_fa tf29x6 rfl) <| o_p rfl (p_load (v := aI) tv3 rfl rfl rfl) ?_
      obtain ⟨x22, hx22, h23⟩ := bind_s h21
      refine o_v (ov_call (v := aB) rfl (w_event_within hx22) ⟨lr, lr, lr, trivial⟩ rfl rfl rfl) <| sB rfl <| o_ek (fr' := [(2, aB)]) rfl rfl <| w_ret <| e_blk_r <| e_seq_r ?_
      obtain rfl := sy h23
      exact e_ret (rs' := [.tmp 2]) rfl <| r_tmp (v := aB) rfl <| r_nil <| fin_gen [] rfl rfl rfl lr st_nil
     ·
      obtain ⟨x25, hx25, h26⟩ := bind_s h21
      refine w_join (fun j27 => x25 = j27) (fun (j27 : Bool) => ([(1, .box 0 0), (6, .c (.int .i64 p0e.Kind)), (47, .c (.bool j27))] : Fr)) (fun (j27 : Bool) => ([[.c (.int .i64 p0e.ID), .c (.int .i64 p0e.Kind), .c (.int .i64 p0e.Time), .c (.int .i64 p0e.Seq), .c (.int .i64 p0e.Ref), .c (.int .i64 p0e.N), .c (.int .i64 p0e.Code), .c (.str p0e.Name), .c (.str p0e.Key), .c (.int .i64 p0e.Data.Kind), .c (.int .i64 p0e.Data.Int), .c (.str p0e.Data.Text), .c (PV.ls 5 rowApiValue p0e.Data.Items), .c (PV.ls 1 rowS p0e.Data.Keys), .c (.str p0e.Opts.Queue), .c (.int .i64 p0e.Opts.ToStart), .c (.int .i64 p0e.Opts.ToClose), .c (.int .i64 p0e.Opts.Total), .c (.int .i64 p0e.Opts.Beat), .c (.int .i64 p0e.Opts.First), .c (.int .i64 p0e.Opts.Coef), .c (.int .i64 p0e.Opts.Most), .c (.int .i64 p0e.Opts.Attempts), .c (PV.ls 1 rowS p0e.Opts.Fatal)]] : St)) ?_ ?_
      ·
       refine w_sr <| o_p rfl (p_eql rfl rfl) <| sB rfl <| o_ek (fr' := [(1, .box 0 0), (6, aI), (47, aB)]) rfl rfl <| w_ch hx25 rfl (fun hb28 h28 => ?_) (fun hb28 h28 => ?_)
       ·
        exact w_skip <| e_j _ (sy h28) (w_weak [] 1 rfl rfl rfl rfl ⟨lr, lr, lr, trivial⟩ (st_r rfl st_nil))
       ·
        refine w_sr <| o_p rfl (p_eql rfl rfl) <| sB rfl <| o_ek (fr' := [(1, .box 0 0), (6, aI), (47, aB)]) rfl rfl <| w_ch h28 rfl (fun hb29 h29 => ?_) (fun hb29 h29 => ?_)
        ·
         exact w_skip <| e_j _ (sy h29) (w_weak [] 1 rfl rfl rfl rfl ⟨lr, lr, lr, trivial⟩ (st_r rfl st_nil))
        ·
         exact w_region <| o_p rfl (p_eql rfl rfl) <| sB rfl <| o_end (fr' := [(1, .box 0 0), (6, aI), (47, aB)]) rfl <| e_j _ (sy h29) (w_weak [] 1 rfl rfl rfl rfl ⟨lr, lr, lr, trivial⟩ (st_r rfl st_nil))
      ·
       intro j27 hj30
       subst hj30
       refine w_ch h26 rfl (fun hb31 h31 => ?_) (fun hb31 h31 => ?_)
       ·
        refine w_sr <| o_p rfl (p_fa tf29x7 rfl) <| o_p rfl (p_load (v := aS) tv9 rfl rfl rfl) <| o_p rfl (p_lens ti9 rfl) <| o_p rfl (p_leq rfl rfl) <| sB rfl <| o_ek (fr' := [(2, aB)]) rfl rfl <| w_ret <| e_blk_r <| e_seq_r ?_
        obtain rfl := sy h31
        exact e_ret (rs' := [.tmp 2]) rfl <| r_tmp (v := aB) rfl <| r_nil <| fin_gen [] rfl rfl rfl lr st_nil
       ·
        refine w_sr <| o_p rfl (p_eql rfl rfl) <| sB rfl <| o_ek (fr' := [(1, .box 0 0), (6, aI), (55, aB)]) rfl rfl <| w_ch h31 rfl (fun hb33 h33 => ?_) (fun hb33 h33 => ?_)
        ·
         refine w_sr <| o_p rfl (p_fa tf29x7 rfl) <| o_p rfl (p_load (v := aS) tv9 rfl rfl rfl) <| o_p rfl (p_lens ti9 rfl) <| o_p rfl (p_leq rfl rfl) <| sB rfl <| o_ek (fr' := [(2, aB)]) rfl rfl <| w_ret <| e_blk_r <| e_seq_r ?_
         obtain rfl := sy h33
         exact e_ret (rs' := [.tmp 2]) rfl <| r_tmp (v := aB) rfl <| r_nil <| fin_gen [] rfl rfl rfl lr st_nil
        ·
         refine w_sr <| o_p rfl (p_eql rfl rfl) <| sB rfl <| o_ek (fr' := [(1, .box 0 0), (6, aI), (61, aB)]) rfl rfl <| w_ch h33 rfl (fun hb35 h35 => ?_) (fun hb35 h35 => ?_)
         ·
          refine w_sr <| o_p rfl (p_fa tf29x7 rfl) <| o_p rfl (p_load (v := aS) tv9 rfl rfl rfl) ?_
          obtain ⟨x36, hx36, h37⟩ := bind_s h35
          refine o_v (ov_call (v := aB) rfl (w_name_Right hx36) ⟨lr, trivial⟩ rfl rfl rfl) <| mB rfl <| og rfl rfl rfl (fun hc => (p_fa tf29x8 rfl)) <| og rfl rfl rfl (fun hc => (p_load (v := aS) tv9 (gx rfl hc) rfl rfl)) ?_
          obtain ⟨x38, hx38, h39⟩ := bind_s h37
          refine o_g rfl rfl (fun hc => ov_call (v := aB) rfl (w_event_identifier (gd_some hx38 hc)) ⟨(le_gv (gx rfl hc) lr), trivial⟩ (ok_eq (by repeat (first | exact ok_nil | refine ok_cons rfl ?_ | refine ok_cons (dgv rfl) ?_ | refine ok_cons dar ?_))) rfl rfl) ?_
          refine o_p rfl (p_picky rfl rfl rfl (fun e => keq e)) <| sB rfl <| o_ek (fr' := [(2, aB)]) rfl rfl <| w_ret <| e_blk_r <| e_seq_r ?_
          obtain rfl := sy h39
          exact e_ret (rs' := [.tmp 2]) rfl <| r_tmp (v := aB) rfl <| r_nil <| fin_gen [] rfl rfl rfl lr st_nil
         ·
          refine w_sr <| o_p rfl (p_eql rfl rfl) <| sB rfl <| o_ek (fr' := [(1, .box 0 0), (6, aI), (71, aB)]) rfl rfl <| w_ch h35 rfl (fun hb41 h41 => ?_) (fun hb41 h41 => ?_)
          ·
           refine w_sr <| o_p rfl (p_fa tf29x8 rfl) <| o_p rfl (p_load (v := aS) tv9 rfl rfl rfl) ?_
           obtain ⟨x42, hx42, h43⟩ := bind_s h41
           refine o_v (ov_call (v := aB) rfl (w_event_identifier hx42) ⟨lr, trivial⟩ rfl rfl rfl) <| sB rfl <| o_ek (fr' := [(2, aB)]) rfl rfl <| w_ret <| e_blk_r <| e_seq_r ?_
           obtain rfl := sy h43
           exact e_ret (rs' := [.tmp 2]) rfl <| r_tmp (v := aB) rfl <| r_nil <| fin_gen [] rfl rfl rfl lr st_nil
          ·
           refine w_sr <| o_p rfl (p_eql rfl rfl) <| sB rfl <| o_ek (fr' := [(1, .box 0 0), (76, aB)]) rfl rfl <| w_ch h41 rfl (fun hb45 h45 => ?_) (fun hb45 h45 => ?_)
           ·
            refine w_sr <| o_p rfl (p_fa tf29x8 rfl) <| o_p rfl (p_load (v := aS) tv9 rfl rfl rfl) ?_
            obtain ⟨x46, hx46, h47⟩ := bind_s h45
            refine o_v (ov_call (v := .tup [aI, aB]) rfl (w_name_Number hx46) ⟨lr, trivial⟩ rfl rfl rfl) <| mV (v := .tup [aI, aB]) rfl <| o_p rfl (p_ex (v := aI) rfl rfl) <| o_p rfl (p_ex (v := aB) rfl rfl) <| sI rfl <| sB rfl <| o_ek (fr' := [(4, aB)]) rfl rfl <| w_sr <| mB rfl <| sB rfl <| o_ek (fr' := [(2, aB)]) rfl rfl <| w_ret ?_
            refine e_blk_r <| e_seq_r ?_
            obtain rfl := sy h47
            exact e_ret (rs' := [.tmp 2]) rfl <| r_tmp (v := aB) rfl <| r_nil <| fin_gen [] rfl rfl rfl lr st_nil
           ·
            refine w_skip <| e_blk_n <| e_kw <| w_sr <| sB rfl <| o_ek (fr' := [(2, aB)]) rfl rfl <| w_ret ?_
            obtain rfl := sy h45
            exact e_ret (rs' := [.tmp 2]) rfl <| r_tmp (v := aB) rfl <| r_nil <| fin_gen [] rfl rfl rfl lr st_nil
noncomputable def event_Right (p0e : ApiEvent) : Option Bool :=
 (event_within p0e.Kind (1 : Int) (35 : Int)).bind fun (x1 : Bool) => (gd ((!x1) == false) (event_within p0e.ID (0 : Int) (2000 : Int))).bind fun (x3 : Bool) => (gd ((cond (!x1) true (!x3)) == false) (event_within p0e.Time (0 : Int) (1099511627776 : Int))).bind fun (x5 : Bool) => (gd ((cond (cond (!x1) true (!x3)) true (!x5)) == false) (value_Right p0e.Data)).bind fun (x7 : Bool) => cond (cond (cond (cond (!x1) true (!x3)) true (!x5)) true (!x7)) (some false) ((event_commandOf p0e.Kind).bind fun (x11 : Int) => cond (!decide (x11 = (0 : Int))) ((event_commanded p0e x11).bind fun (x14 : Bool) => some x14) ((event_used p0e.Kind).bind fun (x17 : EventUses) => (event_uses_empty x17 p0e).bind fun (x19 : Bool) => (gd (((!x19) == false) && (x17.seq_ == true)) (event_within p0e.Seq (1 : Int) (2000 : Int))).bind fun (x21 : Bool) => (gd (((cond (!x19) true (cond x17.seq_ (!x21) false)) == false) && (x17.ref_ == true)) (event_within p0e.Ref (1 : Int) (2000 : Int))).bind fun (x23 : Bool) => cond (cond (cond (!x19) true (cond x17.seq_ (!x21) false)) true (cond x17.ref_ (!x23) false)) (some false) ((event_particular p0e).bind fun (x27 : Bool) => some x27)))
theorem w_event_Right {p0e : ApiEvent} {res : Bool} (h : event_Right p0e = some res) : ACalls Tryz.prog 9 [.agg (AV.cs (rowApiEvent p0e))] [] (.c (.bool res)) [] := by
 unfold event_Right at h
 refine acalls (fn := Tryz.f9) [0, 1, 2, 3, 4, 26, 31, 61] (by kernel_rfl) Tryz.func9 rfl (by kernel_rfl) (by kernel_rfl) <| w_sr <| o_box (v := .agg aIIIIIIISSIISLLSIIIIIIIIL) (n := 0) (cs := aIIIIIIISSIISLLSIIIIIIIIL) (σ' := [aIIIIIIISSIISLLSIIIIIIIIL]) rfl rfl rfl rfl rfl <| sB rfl <| o_ek (fr' := [(1, .box 0 0)]) rfl rfl <| w_seqw <| w_sr <| o_p rfl (p_fa tf29x1 rfl) <| o_p rfl (p_load (v := aI) tv3 rfl rfl rfl) ?_
 obtain ⟨x1, hx1, h2⟩ := bind_s h
 refine o_v (ov_call (v := aB) rfl (w_event_within hx1) ⟨lr, lr, lr, trivial⟩ rfl rfl rfl) <| o_p rfl (p_not rfl) <| mB rfl <| og rfl rfl rfl (fun hc => (p_fa tf29x0 rfl)) <| og rfl rfl rfl (fun hc => (p_load (v := aI) tv3 (gx rfl hc) rfl rfl)) ?_
 obtain ⟨x3, hx3, h4⟩ := bind_s h2
 refine o_g rfl rfl (fun hc => ov_call (v := aB) rfl (w_event_within (gd_some hx3 hc)) ⟨(le_gv (gx rfl hc) lr), lr, lr, trivial⟩ (ok_eq (by repeat (first | exact ok_nil | refine ok_cons rfl ?_ | refine ok_cons (dgv rfl) ?_ | refine ok_cons dar ?_))) rfl rfl) ?_
 refine og rfl rfl rfl (fun hc => (p_not (gx rfl hc))) <| o_p rfl (p_pickz rfl rfl rfl (fun e => keq e)) <| mB rfl <| og rfl rfl rfl (fun hc => (p_fa tf29x2 rfl)) <| og rfl rfl rfl (fun hc => (p_load (v := aI) tv3 (gx rfl hc) rfl rfl)) ?_
 obtain ⟨x5, hx5, h6⟩ := bind_s h4
 refine o_g rfl rfl (fun hc => ov_call (v := aB) rfl (w_event_within (gd_some hx5 hc)) ⟨(le_gv (gx rfl hc) lr), lr, lr, trivial⟩ (ok_eq (by repeat (first | exact ok_nil | refine ok_cons rfl ?_ | refine ok_cons (dgv rfl) ?_ | refine ok_cons dar ?_))) rfl rfl) ?_
 refine og rfl rfl rfl (fun hc => (p_not (gx rfl hc))) <| o_p rfl (p_pickz rfl rfl rfl (fun e => keq e)) <| mB rfl <| og rfl rfl rfl (fun hc => (p_fa tf29x9 rfl)) <| og rfl rfl rfl (fun hc => (p_loads (us := aIISLL) tv25 (gx rfl hc) rfl rfl rfl)) ?_
 obtain ⟨x7, hx7, h8⟩ := bind_s h6
 refine o_g rfl rfl (fun hc => ov_call (v := aB) rfl (w_value_Right (gd_some hx7 hc)) ⟨(le_gv (gx rfl hc) (le_aggc rfl ⟨rfl, rfl, rfl, rfl, rfl, trivial⟩)), trivial⟩ (ok_eq (by repeat (first | exact ok_nil | refine ok_cons rfl ?_ | refine ok_cons (dgv rfl) ?_ | refine ok_cons dar ?_))) rfl rfl) ?_
 refine og rfl rfl rfl (fun hc => (p_not (gx rfl hc))) <| o_p rfl (p_pickz rfl rfl rfl (fun e => keq e)) <| o_ek (fr' := [(1, .box 0 0), (26, aB)]) rfl rfl <| w_ch h8 rfl (fun hb9 h9 => ?_) (fun hb9 h9 => ?_)
 ·
  refine w_sr <| sB rfl <| o_ek (fr' := [(2, aB)]) rfl rfl <| w_ret <| e_seq_r ?_
  obtain rfl := sy h9
  exact e_ret (rs' := [.tmp 2]) rfl <| r_tmp (v := aB) rfl <| r_nil <| fin_gen [] rfl rfl rfl lr st_nil
 ·
  refine w_skip <| e_kw <| w_seqw <| w_sr <| o_p rfl (p_fa tf29x1 rfl) <| o_p rfl (p_load (v := aI) tv3 rfl rfl rfl) ?_
  obtain ⟨x11, hx11, h12⟩ := bind_s h9
  refine o_v (ov_call (v := aI) rfl (w_event_commandOf hx11) ⟨lr, trivial⟩ rfl rfl rfl) <| sI rfl <| o_ek (fr' := [(1, .box 0 0), (3, aI)]) rfl rfl <| w_sr <| mI rfl <| o_p rfl (p_neq rfl rfl) <| o_ek (fr' := [(1, .box 0 0), (3, aI), (31, aB)]) rfl rfl <| w_ch h12 rfl (fun hb13 h13 => ?_) (fun hb13 h13 => ?_)
  ·
   refine w_sr <| o_p rfl (p_loads (us := aIIIIIIISSIISLLSIIIIIIIIL) tv29 rfl rfl rfl rfl) <| mI rfl ?_
   obtain ⟨x14, hx14, h15⟩ := bind_s h13
   refine o_v (ov_call (v := aB) rfl (w_event_commanded hx14) ⟨(le_aggc rfl ⟨rfl, rfl, rfl, rfl, rfl, rfl, rfl, rfl, rfl, rfl, rfl, rfl, rfl, rfl, rfl, rfl, rfl, rfl, rfl, rfl, rfl, rfl, rfl, rfl, trivial⟩), lr, trivial⟩ rfl rfl rfl) <| sB rfl <| o_ek (fr' := [(2, aB)]) rfl rfl <| w_ret <| e_seq_r ?_
   obtain rfl := sy h15
   exact e_ret (rs' := [.tmp 2]) rfl <| r_tmp (v := aB) rfl <| r_nil <| fin_gen [] rfl rfl rfl lr st_nil
  ·
   refine w_skip <| e_kw <| w_sr <| o_p rfl (p_fa tf29x1 rfl) <| o_p rfl (p_load (v := aI) tv3 rfl rfl rfl) ?_
   obtain ⟨x17, hx17, h18⟩ := bind_s h13
   refine o_v (ov_call (v := .agg aBBBBBBB) rfl (w_event_used hx17) ⟨lr, trivial⟩ rfl rfl rfl) <| o_alloc (n := 1) (cs := aBBBBBBB) (σ' := [aIIIIIIISSIISLLSIIIIIIIIL, aBBBBBBB]) tz60 rfl rfl rfl <| o_store (v := .agg aBBBBBBB) (us := aBBBBBBB) (cs := aBBBBBBB) (σ' := [aIIIIIIISSIISLLSIIIIIIIIL, aBBBBBBB]) rfl tv60 rfl rfl rfl rfl rfl rfl rfl rfl <| o_ek (fr' := [(1, .box 0 0), (4, .box 1 0)]) rfl rfl <| w_seqw <| w_sr <| o_p rfl (p_loads (us := aBBBBBBB) tv60 rfl rfl rfl rfl) <| o_p rfl (p_loads (us := aIIIIIIISSIISLLSIIIIIIIIL) tv29 rfl rfl rfl rfl) ?_
   obtain ⟨x19, hx19, h20⟩ := bind_s h18
   refine o_v (ov_call (v := aB) rfl (w_event_uses_empty hx19) ⟨(le_aggc rfl ⟨rfl, rfl, rfl, rfl, rfl, rfl, rfl, trivial⟩), (le_aggc rfl ⟨rfl, rfl, rfl, rfl, rfl, rfl, rfl, rfl, rfl, rfl, rfl, rfl, rfl, rfl, rfl, rfl, rfl, rfl, rfl, rfl, rfl, rfl, rfl, rfl, trivial⟩), trivial⟩ rfl rfl rfl) <| o_p rfl (p_not rfl) <| mB rfl <| og rfl rfl rfl (fun hc => (p_fa tf60x0 rfl)) <| og rfl rfl rfl (fun hc => (p_load (v := aB) tv4 (gx rfl hc) rfl rfl)) <| og rfl rfl rfl (fun hc => (p_move (v := aB) (gx rfl hc))) <| o_gg rfl rfl (fun hc => ov_p rfl (p_fa tf29x3 rfl)) <| o_gg rfl rfl (fun hc => ov_p rfl (p_load (v := aI) tv3 (gx rfl hc) rfl rfl)) ?_
   obtain ⟨x21, hx21, h22⟩ := bind_s h20
   refine o_gg rfl rfl (fun hc => ov_call (v := aB) rfl (w_event_within (gd_some hx21 hc)) ⟨(le_gv (gx rfl hc) lr), lr, lr, trivial⟩ (ok_eq (by repeat (first | exact ok_nil | refine ok_cons rfl ?_ | refine ok_cons (dgv rfl) ?_ | refine ok_cons dar ?_))) rfl rfl) ?_
   refine o_gg rfl rfl (fun hc => ov_p rfl (p_not (gx rfl hc))) <| og rfl rfl rfl (fun hc => (p_picky (gx rfl hc) rfl rfl (fun e => band hc (keq e)))) <| o_p rfl (p_pickz rfl rfl rfl (fun e => keq e)) <| mB rfl <| og rfl rfl rfl (fun hc => (p_fa tf60x1 rfl)) <| og rfl rfl rfl (fun hc => (p_load (v := aB) tv4 (gx rfl hc) rfl rfl)) <| og rfl rfl rfl (fun hc => (p_move (v := aB) (gx rfl hc))) <| o_gg rfl rfl (fun hc => ov_p rfl (p_fa tf29x4 rfl)) <| o_gg rfl rfl (fun hc => ov_p rfl (p_load (v := aI) tv3 (gx rfl hc) rfl rfl)) ?_
   obtain ⟨x23, hx23, h24⟩ := bind_s h22
   refine o_gg rfl rfl (fun hc => ov_call (v := aB) rfl (w_event_within (gd_some hx23 hc)) ⟨(le_gv (gx rfl hc) lr), lr, lr, trivial⟩ (ok_eq (by repeat (first | exact ok_nil | refine ok_cons rfl ?_ | refine ok_cons (dgv rfl) ?_ | refine ok_cons dar ?_))) rfl rfl) ?_
   refine o_gg rfl rfl (fun hc => ov_p rfl (p_not (gx rfl hc))) <| og rfl rfl rfl (fun hc => (p_picky (gx rfl hc) rfl rfl (fun e => band hc (keq e)))) <| o_p rfl (p_pickz rfl rfl rfl (fun e => keq e)) <| o_ek (fr' := [(1, .box 0 0), (61, aB)]) rfl rfl <| w_ch h24 rfl (fun hb25 h25 => ?_) (fun hb25 h25 => ?_)
   ·
    refine w_sr <| sB rfl <| o_ek (fr' := [(2, aB)]) rfl rfl <| w_ret <| e_seq_r ?_
    obtain rfl := sy h25
    exact e_ret (rs' := [.tmp 2]) rfl <| r_tmp (v := aB) rfl <| r_nil <| fin_gen [] rfl rfl rfl lr st_nil
   ·
    refine w_skip <| e_kw <| w_sr <| o_p rfl (p_loads (us := aIIIIIIISSIISLLSIIIIIIIIL) tv29 rfl rfl rfl rfl) ?_
    obtain ⟨x27, hx27, h28⟩ := bind_s h25
    refine o_v (ov_call (v := aB) rfl (w_event_particular hx27) ⟨(le_aggc rfl ⟨rfl, rfl, rfl, rfl, rfl, rfl, rfl, rfl, rfl, rfl, rfl, rfl, rfl, rfl, rfl, rfl, rfl, rfl, rfl, rfl, rfl, rfl, rfl, rfl, trivial⟩), trivial⟩ rfl rfl rfl) <| sB rfl <| o_ek (fr' := [(2, aB)]) rfl rfl <| w_ret ?_
    obtain rfl := sy h28
    exact e_ret (rs' := [.tmp 2]) rfl <| r_tmp (v := aB) rfl <| r_nil <| fin_gen [] rfl rfl rfl lr st_nil
noncomputable def history_Check_l1 (p0l : (List ApiEvent)) (s6 : (Int × HistoryChecker)) : Option (Step (Int × HistoryChecker) (Fl Int HistoryChecker)) :=
 cond (decide (s6.1 < ((p0l).length : Int))) ((idx p0l s6.1).bind fun (x8 : ApiEvent) => (event_Right x8).bind fun (x10 : Bool) => cond (!x10) (some (Step.out (Fl.done (11 : Int)))) (cond (cond (!decide (x8.ID = (IntKind.wrap .i64 (s6.1 + (1 : Int))))) true (cond (decide ((0 : Int) < s6.1)) (decide (x8.Time < s6.2.before_.Time)) false)) (some (Step.out (Fl.done (30 : Int)))) ((history_checker_allows_v2 s6.1 x8 s6.2).bind fun (x20 : (Bool × HistoryChecker)) => cond (!x20.1) (some (Step.out (Fl.done (16 : Int)))) ((event_Closes x8.Kind).bind fun (x26 : Bool) => some (Step.next ((IntKind.wrap .i64 (s6.1 + (1 : Int))), (HistoryChecker.mk x20.2.task_ x20.2.ref_ x8 x26))))))) (some (Step.out (Fl.go s6.2)))
noncomputable def history_Check (p0l : (List ApiEvent)) : Option Int :=
 cond (decide ((2000 : Int) < ((p0l).length : Int))) (some (6 : Int)) (((loopO (history_Check_l1 p0l) (((0 : Int), (HistoryChecker.mk (0 : Int) (0 : Int) (ApiEvent.mk (0 : Int) (0 : Int) (0 : Int) (0 : Int) (0 : Int) (0 : Int) (0 : Int) ([] : List UInt8) ([] : List UInt8) (ApiValue.mk (0 : Int) (0 : Int) ([] : List UInt8) ([] : (List ApiValue)) ([] : (List (List UInt8)))) (ApiPolicy.mk ([] : List UInt8) (0 : Int) (0 : Int) (0 : Int) (0 : Int) (0 : Int) (0 : Int) (0 : Int) (0 : Int) ([] : (List (List UInt8))))) false)))) : Option (Fl Int HistoryChecker)).bind fun (x3 : (Fl Int HistoryChecker)) => Fl.next x3 (fun (j5 : HistoryChecker) => (some (0 : Int))))
theorem w_history_Check {p0l : (List ApiEvent)} {res : Int} (h : history_Check p0l = some res) : ACalls Tryz.prog 19 [.c (PV.ls 24 rowApiEvent p0l)] [] (.c (.int .i64 res)) [] := by
 unfold history_Check at h
 refine acalls (fn := Tryz.f19) [0, 2, 3, 4, 5, 8, 9, 10, 11, 12, 16, 20, 38] (by kernel_rfl) Tryz.func19 rfl (by kernel_rfl) (by kernel_rfl) <| w_sr <| sI rfl <| o_ek (fr' := [(0, aL)]) rfl rfl <| w_seqw <| w_sr <| mL rfl <| o_p rfl (p_len ti40 (isl_c rfl)) <| o_p rfl (p_gtr rfl rfl) <| o_ek (fr' := [(0, aL), (8, aB)]) rfl rfl <| w_ch h rfl (fun hb1 h1 => ?_) (fun hb1 h1 => ?_)
 ·
  refine w_sr <| sI rfl <| o_ek (fr' := [(2, aI)]) rfl rfl <| w_ret <| e_seq_r ?_
  obtain rfl := sy h1
  exact e_ret (rs' := [.tmp 2]) rfl <| r_tmp (v := aI) rfl <| r_nil <| fin_gen [] rfl rfl rfl lr st_nil
 ·
  refine w_skip <| e_kw <| w_sr <| o_alloc (n := 0) (cs := [aI, aI, aI, aI, aI, aI, aI, aI, aI, aS, aS, aI, aI, aS, AV.nil, AV.nil, aS, aI, aI, aI, aI, aI, aI, aI, aI, AV.nil, aB]) (σ' := [[aI, aI, aI, aI, aI, aI, aI, aI, aI, aS, aS, aI, aI, aS, AV.nil, AV.nil, aS, aI, aI, aI, aI, aI, aI, aI, aI, AV.nil, aB]]) tz78 rfl rfl rfl <| o_ek (fr' := [(0, aL), (3, .box 0 0)]) rfl rfl <| w_seqw <| w_sr <| mL rfl <| o_p rfl (p_len ti40 (isl_c rfl)) <| mI rfl <| o_ek (fr' := [(3, .box 0 0), (9, aL), (10, aI), (11, aI)]) rfl rfl ?_
  obtain ⟨x3, hx3, h4⟩ := bind_s h1
  refine w_jtail cl_kw (fun j5 => x3 = Fl.go j5) (fun (j5 : HistoryChecker) => ([] : Fr)) (fun (j5 : HistoryChecker) => ([[.c (.int .i64 j5.task_), .c (.int .i64 j5.ref_), .c (.int .i64 j5.before_.ID), .c (.int .i64 j5.before_.Kind), .c (.int .i64 j5.before_.Time), .c (.int .i64 j5.before_.Seq), .c (.int .i64 j5.before_.Ref), .c (.int .i64 j5.before_.N), .c (.int .i64 j5.before_.Code), .c (.str j5.before_.Name), .c (.str j5.before_.Key), .c (.int .i64 j5.before_.Data.Kind), .c (.int .i64 j5.before_.Data.Int), .c (.str j5.before_.Data.Text), .c (PV.ls 5 rowApiValue j5.before_.Data.Items), .c (PV.ls 1 rowS j5.before_.Data.Keys), .c (.str j5.before_.Opts.Queue), .c (.int .i64 j5.before_.Opts.ToStart), .c (.int .i64 j5.before_.Opts.ToClose), .c (.int .i64 j5.before_.Opts.Total), .c (.int .i64 j5.before_.Opts.Beat), .c (.int .i64 j5.before_.Opts.First), .c (.int .i64 j5.before_.Opts.Coef), .c (.int .i64 j5.before_.Opts.Most), .c (.int .i64 j5.before_.Opts.Attempts), .c (PV.ls 1 rowS j5.before_.Opts.Fatal), .c (.bool j5.closed_)]] : St)) ?_ ?_
  ·
   refine w_block <| w_loopo _ (fun (s6 : (Int × HistoryChecker)) => ([(3, .box 0 0), (9, .c (PV.ls 24 rowApiEvent p0l)), (10, .c (.int .i64 ((p0l).length : Int))), (11, .c (.int .i64 s6.1))] : Fr)) (fun (s6 : (Int × HistoryChecker)) => ([[.c (.int .i64 s6.2.task_), .c (.int .i64 s6.2.ref_), .c (.int .i64 s6.2.before_.ID), .c (.int .i64 s6.2.before_.Kind), .c (.int .i64 s6.2.before_.Time), .c (.int .i64 s6.2.before_.Seq), .c (.int .i64 s6.2.before_.Ref), .c (.int .i64 s6.2.before_.N), .c (.int .i64 s6.2.before_.Code), .c (.str s6.2.before_.Name), .c (.str s6.2.before_.Key), .c (.int .i64 s6.2.before_.Data.Kind), .c (.int .i64 s6.2.before_.Data.Int), .c (.str s6.2.before_.Data.Text), .c (PV.ls 5 rowApiValue s6.2.before_.Data.Items), .c (PV.ls 1 rowS s6.2.before_.Data.Keys), .c (.str s6.2.before_.Opts.Queue), .c (.int .i64 s6.2.before_.Opts.ToStart), .c (.int .i64 s6.2.before_.Opts.ToClose), .c (.int .i64 s6.2.before_.Opts.Total), .c (.int .i64 s6.2.before_.Opts.Beat), .c (.int .i64 s6.2.before_.Opts.First), .c (.int .i64 s6.2.before_.Opts.Coef), .c (.int .i64 s6.2.before_.Opts.Most), .c (.int .i64 s6.2.before_.Opts.Attempts), .c (PV.ls 1 rowS s6.2.before_.Opts.Fatal), .c (.bool s6.2.closed_)]] : St)) hx3 (w_weak [] 1 rfl rfl rfl rfl ⟨lr, lr, lr, lr, trivial⟩ (st_p ⟨lr, lr, lr, lr, lr, lr, lr, lr, lr, lr, lr, lr, lr, lr, le_nls, le_nls, lr, lr, lr, lr, lr, lr, lr, lr, lr, le_nls, lr, trivial⟩ st_nil)) ?_
   intro s6 st6 hs6 ho6
   unfold history_Check_l1 at hs6
   refine w_sr <| o_p rfl (p_lss rfl rfl) <| o_ek (fr' := [(3, .box 0 0), (9, aL), (10, aI), (11, aI), (12, aB)]) rfl rfl <| w_seqw <| w_ch hs6 rfl (fun hb7 h7 => ?_) (fun hb7 h7 => ?_)
   ·
    refine w_skip <| e_kw <| w_seqw <| w_block <| w_sr <| mI rfl ?_
    obtain ⟨x8, hx8, h9⟩ := bind_s h7
    refine o_p rfl (p_ia (cs := [PV.int _ _, PV.int _ _, PV.int _ _, PV.int _ _, PV.int _ _, PV.int _ _, PV.int _ _, PV.str _, PV.str _, PV.int _ _, PV.int _ _, PV.str _, PV.ls _ _ _, PV.ls _ _ _, PV.str _, PV.int _ _, PV.int _ _, PV.int _ _, PV.int _ _, PV.int _ _, PV.int _ _, PV.int _ _, PV.int _ _, PV.ls _ _ _]) ts40 (isl_c rfl) rfl hx8 rfl) <| o_p rfl (p_loades (us := [PV.int _ _, PV.int _ _, PV.int _ _, PV.int _ _, PV.int _ _, PV.int _ _, PV.int _ _, PV.str _, PV.str _, PV.int _ _, PV.int _ _, PV.str _, PV.ls _ _ _, PV.ls _ _ _, PV.str _, PV.int _ _, PV.int _ _, PV.int _ _, PV.int _ _, PV.int _ _, PV.int _ _, PV.int _ _, PV.int _ _, PV.ls _ _ _]) tv29 rfl rfl rfl) <| o_alloc (n := 1) (cs := [aI, aI, aI, aI, aI, aI, aI, aS, aS, aI, aI, aS, AV.nil, AV.nil, aS, aI, aI, aI, aI, aI, aI, aI, aI, AV.nil]) (σ' := [aIIIIIIIIISSIISLLSIIIIIIIILB, [aI, aI, aI, aI, aI, aI, aI, aS, aS, aI, aI, aS, AV.nil, AV.nil, aS, aI, aI, aI, aI, aI, aI, aI, aI, AV.nil]]) tz29 rfl rfl rfl <| sI rfl <| o_store (v := .agg aIIIIIIISSIISLLSIIIIIIIIL) (us := aIIIIIIISSIISLLSIIIIIIIIL) (cs := [aI, aI, aI, aI, aI, aI, aI, aS, aS, aI, aI, aS, AV.nil, AV.nil, aS, aI, aI, aI, aI, aI, aI, aI, aI, AV.nil]) (σ' := [aIIIIIIIIISSIISLLSIIIIIIIILB, aIIIIIIISSIISLLSIIIIIIIIL]) rfl tv29 rfl rfl rfl rfl rfl rfl rfl rfl <| o_ek (fr' := [(3, .box 0 0), (4, aI), (5, .box 1 0), (9, aL), (10, aI), (11, aI)]) rfl rfl <| w_seqw <| w_block <| w_sr <| o_p rfl (p_loads (us := aIIIIIIISSIISLLSIIIIIIIIL) tv29 rfl rfl rfl rfl) ?_
    obtain ⟨x10, hx10, h11⟩ := bind_s h9
    refine o_v (ov_call (v := aB) rfl (w_event_Right hx10) ⟨(le_aggc rfl ⟨rfl, rfl, rfl, rfl, rfl, rfl, rfl, rfl, rfl, rfl, rfl, rfl, rfl, rfl, rfl, rfl, rfl, rfl, rfl, rfl, rfl, rfl, rfl, rfl, trivial⟩), trivial⟩ rfl rfl rfl) <| o_p rfl (p_not rfl) <| sB rfl <| o_ek (fr' := [(3, .box 0 0), (4, aI), (5, .box 1 0), (9, aL), (10, aI), (11, aI), (16, aB)]) rfl rfl <| w_ch h11 rfl (fun hb12 h12 => ?_) (fun hb12 h12 => ?_)
    ·
     refine w_sr <| sI rfl <| o_ek (fr' := [(2, aI)]) rfl rfl <| w_ret <| e_blk_r <| e_seq_r <| e_blk_r <| e_seq_r <| e_seq_r <| e_blk_r <| e_seq_r <| e_seq_r ?_
     have h13 := un_out h12 ho6
     have h14 := un_done h13 h4
     obtain rfl := sy h14
     exact e_ret (rs' := [.tmp 2]) rfl <| r_tmp (v := aI) rfl <| r_nil <| fin_gen [] rfl rfl rfl lr st_nil
    ·
     refine w_sr <| o_p rfl (p_fa tf29x0 rfl) <| o_p rfl (p_load (v := aI) tv3 rfl rfl rfl) <| mI rfl <| o_p rfl (p_add rfl rfl) <| o_p rfl (p_neq rfl rfl) <| mB rfl <| og rfl rfl rfl (fun hc => (p_move (v := aI) rfl)) <| og rfl rfl rfl (fun hc => (p_gtr (gx rfl hc) rfl)) <| og rfl rfl rfl (fun hc => (p_move (v := aB) (gx rfl hc))) <| o_gg rfl rfl (fun hc => ov_p rfl (p_fa tf29x2 rfl)) <| o_gg rfl rfl (fun hc => ov_p rfl (p_load (v := aI) tv3 (gx rfl hc) rfl rfl)) ?_
     refine o_gg rfl rfl (fun hc => ov_p rfl (p_fa tf78x2 rfl)) <| o_gg rfl rfl (fun hc => ov_p rfl (p_fa tf29x2 (gx rfl hc))) <| o_gg rfl rfl (fun hc => ov_p rfl (p_load (v := aI) tv3 (gx rfl hc) rfl rfl)) <| o_gg rfl rfl (fun hc => ov_p rfl (p_lss (gx rfl hc) (gx rfl hc))) <| og rfl rfl rfl (fun hc => (p_picky (gx rfl hc) rfl rfl (fun e => band hc (keq e)))) <| o_p rfl (p_pickz rfl rfl rfl (fun e => keq e)) <| sB rfl <| o_ek (fr' := [(3, .box 0 0), (4, aI), (5, .box 1 0), (9, aL), (10, aI), (11, aI), (20, aB)]) rfl rfl <| w_ch h12 rfl (fun hb16 h16 => ?_) (fun hb16 h16 => ?_)
     ·
      refine w_sr <| sI rfl <| o_ek (fr' := [(2, aI)]) rfl rfl <| w_ret <| e_blk_r <| e_seq_r <| e_blk_r <| e_seq_r <| e_seq_r <| e_blk_r <| e_seq_r <| e_seq_r ?_
      have h17 := un_out h16 ho6
      have h18 := un_done h17 h4
      obtain rfl := sy h18
      exact e_ret (rs' := [.tmp 2]) rfl <| r_tmp (v := aI) rfl <| r_nil <| fin_gen [] rfl rfl rfl lr st_nil
     ·
      refine w_sr <| mI rfl <| o_p rfl (p_loads (us := aIIIIIIISSIISLLSIIIIIIIIL) tv29 rfl rfl rfl rfl) ?_
      obtain ⟨x20, hx20, h21⟩ := bind_s h16
      refine o_call (v := aB) (σ' := [aIIIIIIIIISSIISLLSIIIIIIIILB, aIIIIIIISSIISLLSIIIIIIIIL]) [0] rfl (w_history_checker_allows_v2 hx20) rfl rfl ⟨lr, lr, (le_aggc rfl ⟨rfl, rfl, rfl, rfl, rfl, rfl, rfl, rfl, rfl, rfl, rfl, rfl, rfl, rfl, rfl, rfl, rfl, rfl, rfl, rfl, rfl, rfl, rfl, rfl, trivial⟩), trivial⟩ (st_c ⟨rfl, rfl, rfl, rfl, rfl, rfl, rfl, rfl, rfl, rfl, rfl, rfl, rfl, rfl, rfl, rfl, rfl, rfl, rfl, rfl, rfl, rfl, rfl, rfl, rfl, rfl, rfl, trivial⟩ st_nil) rfl rfl rfl <| o_p rfl (p_not rfl) <| sB rfl <| o_ek (fr' := [(3, .box 0 0), (5, .box 1 0), (9, aL), (10, aI), (11, aI), (38, aB)]) rfl rfl <| w_ch h21 rfl (fun hb22 h22 => ?_) (fun hb22 h22 => ?_)
      ·
       refine w_sr <| sI rfl <| o_ek (fr' := [(2, aI)]) rfl rfl <| w_ret <| e_blk_r <| e_seq_r <| e_blk_r <| e_seq_r <| e_seq_r <| e_blk_r <| e_seq_r <| e_seq_r ?_
       have h23 := un_out h22 ho6
       have h24 := un_done h23 h4
       obtain rfl := sy h24
       exact e_ret (rs' := [.tmp 2]) rfl <| r_tmp (v := aI) rfl <| r_nil <| fin_gen [] rfl rfl rfl lr st_nil
      ·
       refine w_skip <| e_blk_n <| e_kw <| w_planT [.q 0, .q 1, .q 2, .q 3, .q 4, .n 5 [], .q 6, .n 7 []] [(some 43, [5]), (some 44, [5]), (some 45, [44]), (some 46, [45]), (some 47, [3]), (none, [47, 43]), (some 48, [3]), (none, [48, 46])] [0, 0, 2, 6, 15, 31, 63, 127] (by kernel_rfl) <| dq rfl rfl (p_loads (us := aIIIIIIISSIISLLSIIIIIIIIL) tv29 rfl rfl rfl rfl) <| dq rfl rfl (p_fa tf29x1 rfl) <| dq rfl rfl (p_load (v := aI) tv3 rfl rfl rfl) ?_
       obtain ⟨x26, hx26, h27⟩ := bind_s h22
       refine d_q rfl (qv_call (v := aB) rfl (w_event_Closes hx26) ⟨lr, trivial⟩ rfl) <| dq rfl rfl (p_fa tf78x2 rfl) <| d_n rfl ?_ rfl
       refine o_store (v := .agg aIIIIIIISSIISLLSIIIIIIIIL) (us := aIIIIIIISSIISLLSIIIIIIIIL) (cs := aIIIIIIIIISSIISLLSIIIIIIIILB) (σ' := [aIIIIIIIIISSIISLLSIIIIIIIILB, aIIIIIIISSIISLLSIIIIIIIIL]) rfl tv29 rfl rfl rfl rfl rfl rfl rfl rfl <| o_rc <| ⟨rc_nil, ?_⟩
       refine dq rfl rfl (p_fa tf78x3 rfl) <| d_n rfl ?_ rfl
       refine o_store (v := aB) (us := [aB]) (cs := aIIIIIIIIISSIISLLSIIIIIIIILB) (σ' := [aIIIIIIIIISSIISLLSIIIIIIIILB, aIIIIIIISSIISLLSIIIIIIIIL]) rfl tv4 rfl rfl rfl rfl rfl rfl rfl rfl <| o_rc <| ⟨rc_nil, ?_⟩
       exact d_end (fr' := [(3, .box 0 0), (5, .box 1 0), (9, aL), (10, aI), (11, aI), (38, aB)]) rfl <| e_blk_n <| e_kw <| w_region <| o_p rfl (p_add rfl rfl) <| mI rfl <| o_end (fr' := [(3, .box 0 0), (5, .box 1 0), (9, aL), (10, aI), (11, aI), (38, aB)]) rfl <| e_l _ (sy h27) (w_weak [] 1 rfl rfl rfl rfl ⟨lr, lr, lr, lr, trivial⟩ (st_r rfl st_nil))
   ·
    refine w_exit <| e_seq_x <| e_seq_x <| e_blk_h ?_
    have h28 := un_out h7 ho6
    exact e_j _ (sy h28) (w_weak [] 1 rfl rfl rfl rfl trivial (st_r rfl st_nil))
  ·
   intro j5 hj29
   have h29 := un_go hj29 h4
   refine e_kw <| w_sr <| sI rfl <| o_ek (fr' := [(2, aI)]) rfl rfl <| w_ret ?_
   obtain rfl := sy h29
   exact e_ret (rs' := [.tmp 2]) rfl <| r_tmp (v := aI) rfl <| r_nil <| fin_gen [] rfl rfl rfl lr st_nil
noncomputable def history_Turns_l2 (p0l : (List ApiEvent)) (x16 : ApiEvent) (s21 : Int) : Option (Step Int Int) :=
 (gd ((cond (decide (x16.Kind = (4 : Int))) (decide (s21 < ((p0l).length : Int))) false) == true) (idx p0l s21)).bind fun (x22 : ApiEvent) => (gd ((cond (decide (x16.Kind = (4 : Int))) (decide (s21 < ((p0l).length : Int))) false) == true) (event_IsCommand x22.Kind)).bind fun (x24 : Bool) => cond (cond (cond (decide (x16.Kind = (4 : Int))) (decide (s21 < ((p0l).length : Int))) false) x24 false) (some (Step.next (IntKind.wrap .i64 (s21 + (1 : Int))))) (some (Step.out s21))
noncomputable def history_Turns_l1 (p0l : (List ApiEvent)) (s8 : ((List HistoryTurn) × Int)) : Option (Step ((List HistoryTurn) × Int) (List HistoryTurn)) :=
 cond (decide (s8.2 < ((p0l).length : Int))) ((idx p0l s8.2).bind fun (x10 : ApiEvent) => cond (!decide (x10.Kind = (3 : Int))) (some (Step.next (s8.1, (IntKind.wrap .i64 (s8.2 + (1 : Int)))))) (cond (decide (s8.2 = (IntKind.wrap .i64 (((p0l).length : Int) - (1 : Int))))) ((app 32 s8.1 ([(HistoryTurn.mk s8.2 (-1 : Int) ((p0l).length : Int) false)] : List HistoryTurn)).bind fun (x14 : (List HistoryTurn)) => some (Step.next (x14, (IntKind.wrap .i64 (s8.2 + (1 : Int)))))) ((idx p0l (IntKind.wrap .i64 (s8.2 + (1 : Int)))).bind fun (x16 : ApiEvent) => ((loopO (history_Turns_l2 p0l x16) ((IntKind.wrap .i64 (s8.2 + (2 : Int))))) : Option Int).bind fun (x18 : Int) => ((app 32 s8.1 ([(HistoryTurn.mk s8.2 (IntKind.wrap .i64 (s8.2 + (1 : Int))) x18 (decide (x16.Kind = (4 : Int))))] : List HistoryTurn)).bind fun (x29 : (List HistoryTurn)) => some (Step.next (x29, (IntKind.wrap .i64 (s8.2 + (1 : Int))))))))) (some (Step.out s8.1))
noncomputable def history_Turns (p0l : (List ApiEvent)) : Option (List HistoryTurn) :=
 (history_Check p0l).bind fun (x1 : Int) => cond (!decide (x1 = (0 : Int))) (some ([] : (List HistoryTurn))) (((loopO (history_Turns_l1 p0l) ((([] : (List HistoryTurn)), (0 : Int)))) : Option (List HistoryTurn)).bind fun (x5 : (List HistoryTurn)) => (some x5))
theorem w_history_Turns {p0l : (List ApiEvent)} {res : (List HistoryTurn)} (h : history_Turns p0l = some res) : ACalls Tryz.prog 21 [.c (PV.ls 24 rowApiEvent p0l)] [] (AV.os 0 4 rowHistoryTurn res) [] := by
 unfold history_Turns at h
 refine acalls (fn := Tryz.f21) [0, 2, 3, 4, 5, 6, 9, 10, 11, 12, 13, 19, 24, 62] (by kernel_rfl) Tryz.func21 rfl (by kernel_rfl) (by kernel_rfl) <| w_sr <| sV (v := AV.nil) rfl <| o_ek (fr' := [(0, aL)]) rfl rfl <| w_seqw <| w_sr <| mL rfl ?_
 obtain ⟨x1, hx1, h2⟩ := bind_s h
 refine o_v (ov_call (v := aI) rfl (w_history_Check hx1) ⟨lr, trivial⟩ rfl rfl rfl) <| o_p rfl (p_neq rfl rfl) <| o_ek (fr' := [(0, aL), (9, aB)]) rfl rfl <| w_ch h2 rfl (fun hb3 h3 => ?_) (fun hb3 h3 => ?_)
 ·
  refine w_sr <| sV (v := AV.nil) rfl <| o_ek (fr' := [(2, AV.nil)]) rfl rfl <| w_ret <| e_seq_r ?_
  obtain rfl := sy h3
  exact e_ret (rs' := [.tmp 2]) rfl <| r_tmp (v := AV.nil) rfl <| r_nil <| fin_gen [1000000] rfl rfl rfl (le_nos rfl) st_nil
 ·
  refine w_skip <| e_kw <| w_sr <| sV (v := AV.nil) rfl <| o_ek (fr' := [(0, aL), (3, AV.nil)]) rfl rfl <| w_seqw <| w_sr <| mL rfl <| o_p rfl (p_len ti40 (isl_c rfl)) <| mI rfl <| o_ek (fr' := [(0, aL), (3, AV.nil), (10, aL), (11, aI), (12, aI)]) rfl rfl ?_
  obtain ⟨x5, hx5, h6⟩ := bind_s h3
  refine w_jtail cl_kw (fun j7 => x5 = j7) (fun (j7 : (List HistoryTurn)) => ([(3, AV.os 0 4 rowHistoryTurn j7)] : Fr)) (fun (j7 : (List HistoryTurn)) => ([] : St)) ?_ ?_
  ·
   refine w_block <| w_loopo _ (fun (s8 : ((List HistoryTurn) × Int)) => ([(0, .c (PV.ls 24 rowApiEvent p0l)), (3, AV.os 0 4 rowHistoryTurn s8.1), (10, .c (PV.ls 24 rowApiEvent p0l)), (11, .c (.int .i64 ((p0l).length : Int))), (12, .c (.int .i64 s8.2))] : Fr)) (fun (s8 : ((List HistoryTurn) × Int)) => ([] : St)) hx5 (w_weak [1000000] 0 rfl rfl rfl rfl ⟨lr, (le_nos rfl), lr, lr, lr, trivial⟩ st_nil) ?_
   intro s8 st8 hs8 ho8
   unfold history_Turns_l1 at hs8
   refine w_sr <| o_p rfl (p_lss rfl rfl) <| o_ek (fr' := [(0, aL), (3, aO), (10, aL), (11, aI), (12, aI), (13, aB)]) rfl rfl <| w_seqw <| w_ch hs8 rfl (fun hb9 h9 => ?_) (fun hb9 h9 => ?_)
   ·
    refine w_skip <| e_kw <| w_seqw <| w_block <| w_sr <| mI rfl ?_
    obtain ⟨x10, hx10, h11⟩ := bind_s h9
    refine o_p rfl (p_ia (cs := [PV.int _ _, PV.int _ _, PV.int _ _, PV.int _ _, PV.int _ _, PV.int _ _, PV.int _ _, PV.str _, PV.str _, PV.int _ _, PV.int _ _, PV.str _, PV.ls _ _ _, PV.ls _ _ _, PV.str _, PV.int _ _, PV.int _ _, PV.int _ _, PV.int _ _, PV.int _ _, PV.int _ _, PV.int _ _, PV.int _ _, PV.ls _ _ _]) ts40 (isl_c rfl) rfl hx10 rfl) <| o_p rfl (p_loades (us := [PV.int _ _, PV.int _ _, PV.int _ _, PV.int _ _, PV.int _ _, PV.int _ _, PV.int _ _, PV.str _, PV.str _, PV.int _ _, PV.int _ _, PV.str _, PV.ls _ _ _, PV.ls _ _ _, PV.str _, PV.int _ _, PV.int _ _, PV.int _ _, PV.int _ _, PV.int _ _, PV.int _ _, PV.int _ _, PV.int _ _, PV.ls _ _ _]) tv29 rfl rfl rfl) <| o_alloc (n := 0) (cs := [aI, aI, aI, aI, aI, aI, aI, aS, aS, aI, aI, aS, AV.nil, AV.nil, aS, aI, aI, aI, aI, aI, aI, aI, aI, AV.nil]) (σ' := [[aI, aI, aI, aI, aI, aI, aI, aS, aS, aI, aI, aS, AV.nil, AV.nil, aS, aI, aI, aI, aI, aI, aI, aI, aI, AV.nil]]) tz29 rfl rfl rfl <| sI rfl <| o_store (v := .agg aIIIIIIISSIISLLSIIIIIIIIL) (us := aIIIIIIISSIISLLSIIIIIIIIL) (cs := [aI, aI, aI, aI, aI, aI, aI, aS, aS, aI, aI, aS, AV.nil, AV.nil, aS, aI, aI, aI, aI, aI, aI, aI, aI, AV.nil]) (σ' := [aIIIIIIISSIISLLSIIIIIIIIL]) rfl tv29 rfl rfl rfl rfl rfl rfl rfl rfl <| o_ek (fr' := [(0, aL), (3, aO), (4, aI), (5, .box 0 0), (10, aL), (11, aI), (12, aI)]) rfl rfl <| w_seqw <| w_sr <| o_p rfl (p_fa tf29x1 rfl) <| o_p rfl (p_load (v := aI) tv3 rfl rfl rfl) <| o_p rfl (p_neq rfl rfl) <| o_ek (fr' := [(0, aL), (3, aO), (4, aI), (10, aL), (11, aI), (12, aI), (19, aB)]) rfl rfl ?_
    refine w_ch h11 rfl (fun hb12 h12 => ?_) (fun hb12 h12 => ?_)
    ·
     exact w_exit <| e_seq_x <| e_blk_h <| e_kw <| w_region <| o_p rfl (p_add rfl rfl) <| mI rfl <| o_end (fr' := [(0, aL), (3, aO), (4, aI), (10, aL), (11, aI), (12, aI), (19, aB)]) rfl <| e_l _ (sy h12) (w_weak [0] 0 rfl rfl rfl rfl ⟨lr, lr, lr, lr, lr, trivial⟩ st_nil)
    ·
     refine w_skip <| e_kw <| w_seqw <| w_sr <| mI rfl <| mL rfl <| o_p rfl (p_len ti40 (isl_c rfl)) <| o_p rfl (p_sub rfl rfl) <| o_p rfl (p_eql rfl rfl) <| o_ek (fr' := [(0, aL), (3, aO), (4, aI), (10, aL), (11, aI), (12, aI), (24, aB)]) rfl rfl <| w_ch h12 rfl (fun hb13 h13 => ?_) (fun hb13 h13 => ?_)
     ·
      refine w_sr <| mV (v := aO) rfl <| mI rfl <| mL rfl <| o_p rfl (p_len ti40 (isl_c rfl)) <| o_p rfl (p_build (cs := aIIIB) tb49 rfl) <| o_rows (row := rowHistoryTurn) (xs := ([(HistoryTurn.mk s8.2 (-1 : Int) ((p0l).length : Int) false)] : List HistoryTurn)) (rows := [[_, _, _, _]]) (σ' := [aIIIIIIISSIISLLSIIIIIIIIL]) [0, 0, 0, 0] ts44 rfl rfl rfl (arow_cons rfl arow_nil) rfl rfl ?_
      obtain ⟨x14, hx14, h15⟩ := bind_s h13
      exact o_app (row := rowHistoryTurn) ts44 rfl ti44 rfl (isl_o rfl) (fun _ => rfl) hx14 <| sV (v := aO) rfl <| o_ek (fr' := [(0, aL), (3, aO), (10, aL), (11, aI), (12, aI)]) rfl rfl <| w_exit <| e_seq_x <| e_blk_h <| e_kw <| w_region <| o_p rfl (p_add rfl rfl) <| mI rfl <| o_end (fr' := [(0, aL), (3, aO), (10, aL), (11, aI), (12, aI)]) rfl <| e_l _ (sy h15) (w_weak [496] 0 rfl rfl rfl rfl ⟨lr, lr, lr, lr, lr, trivial⟩ st_nil)
     ·
      refine w_skip <| e_kw <| w_sr <| mI rfl <| mI rfl <| o_p rfl (p_add rfl rfl) <| mI rfl <| o_p rfl (p_add rfl rfl) <| mL rfl <| mI rfl <| o_p rfl (p_add rfl rfl) ?_
      obtain ⟨x16, hx16, h17⟩ := bind_s h13
      refine o_p rfl (p_ia (cs := [PV.int _ _, PV.int _ _, PV.int _ _, PV.int _ _, PV.int _ _, PV.int _ _, PV.int _ _, PV.str _, PV.str _, PV.int _ _, PV.int _ _, PV.str _, PV.ls _ _ _, PV.ls _ _ _, PV.str _, PV.int _ _, PV.int _ _, PV.int _ _, PV.int _ _, PV.int _ _, PV.int _ _, PV.int _ _, PV.int _ _, PV.ls _ _ _]) ts40 (isl_c rfl) rfl hx16 rfl) <| o_p rfl (p_fae tf29x1 rfl) <| o_p rfl (p_loade (p := PV.int _ _) tv3 rfl rfl) <| o_p rfl (p_eql rfl rfl) <| o_p rfl (p_build (cs := aIIIB) tb49 rfl) <| o_alloc (n := 1) (cs := aIIIB) (σ' := [aIIIIIIISSIISLLSIIIIIIIIL, aIIIB]) tz49 rfl rfl rfl <| o_store (v := .agg aIIIB) (us := aIIIB) (cs := aIIIB) (σ' := [aIIIIIIISSIISLLSIIIIIIIIL, aIIIB]) rfl tv49 rfl rfl rfl rfl rfl rfl rfl rfl <| o_ek (fr' := [(0, aL), (3, aO), (6, .box 1 0), (10, aL), (11, aI), (12, aI)]) rfl rfl ?_
      obtain ⟨x18, hx18, h19⟩ := bind_s h17
      refine w_join (fun j20 => x18 = j20) (fun (j20 : Int) => ([(0, .c (PV.ls 24 rowApiEvent p0l)), (3, AV.os 0 4 rowHistoryTurn s8.1), (6, .box 1 0), (10, .c (PV.ls 24 rowApiEvent p0l)), (11, .c (.int .i64 ((p0l).length : Int))), (12, .c (.int .i64 s8.2))] : Fr)) (fun (j20 : Int) => ([[.c (.int .i64 x10.ID), .c (.int .i64 x10.Kind), .c (.int .i64 x10.Time), .c (.int .i64 x10.Seq), .c (.int .i64 x10.Ref), .c (.int .i64 x10.N), .c (.int .i64 x10.Code), .c (.str x10.Name), .c (.str x10.Key), .c (.int .i64 x10.Data.Kind), .c (.int .i64 x10.Data.Int), .c (.str x10.Data.Text), .c (PV.ls 5 rowApiValue x10.Data.Items), .c (PV.ls 1 rowS x10.Data.Keys), .c (.str x10.Opts.Queue), .c (.int .i64 x10.Opts.ToStart), .c (.int .i64 x10.Opts.ToClose), .c (.int .i64 x10.Opts.Total), .c (.int .i64 x10.Opts.Beat), .c (.int .i64 x10.Opts.First), .c (.int .i64 x10.Opts.Coef), .c (.int .i64 x10.Opts.Most), .c (.int .i64 x10.Opts.Attempts), .c (PV.ls 1 rowS x10.Opts.Fatal)], [.c (.int .i64 s8.2), .c (.int .i64 (IntKind.wrap .i64 (s8.2 + (1 : Int)))), .c (.int .i64 j20), .c (.bool (decide (x16.Kind = (4 : Int))))]] : St)) ?_ ?_
      ·
       refine w_block <| w_loopo _ (fun (s21 : Int) => ([(0, .c (PV.ls 24 rowApiEvent p0l)), (3, AV.os 0 4 rowHistoryTurn s8.1), (6, .box 1 0), (10, .c (PV.ls 24 rowApiEvent p0l)), (11, .c (.int .i64 ((p0l).length : Int))), (12, .c (.int .i64 s8.2))] : Fr)) (fun (s21 : Int) => ([[.c (.int .i64 x10.ID), .c (.int .i64 x10.Kind), .c (.int .i64 x10.Time), .c (.int .i64 x10.Seq), .c (.int .i64 x10.Ref), .c (.int .i64 x10.N), .c (.int .i64 x10.Code), .c (.str x10.Name), .c (.str x10.Key), .c (.int .i64 x10.Data.Kind), .c (.int .i64 x10.Data.Int), .c (.str x10.Data.Text), .c (PV.ls 5 rowApiValue x10.Data.Items), .c (PV.ls 1 rowS x10.Data.Keys), .c (.str x10.Opts.Queue), .c (.int .i64 x10.Opts.ToStart), .c (.int .i64 x10.Opts.ToClose), .c (.int .i64 x10.Opts.Total), .c (.int .i64 x10.Opts.Beat), .c (.int .i64 x10.Opts.First), .c (.int .i64 x10.Opts.Coef), .c (.int .i64 x10.Opts.Most), .c (.int .i64 x10.Opts.Attempts), .c (PV.ls 1 rowS x10.Opts.Fatal)], [.c (.int .i64 s8.2), .c (.int .i64 (IntKind.wrap .i64 (s8.2 + (1 : Int)))), .c (.int .i64 s21), .c (.bool (decide (x16.Kind = (4 : Int))))]] : St)) hx18 (w_weak [0] 2 rfl rfl rfl rfl ⟨lr, lr, lr, lr, lr, lr, trivial⟩ (st_r rfl (st_r rfl st_nil))) ?_
       intro s21 st21 hs21 ho21
       unfold history_Turns_l2 at hs21
       refine w_seqw <| w_sr <| o_p rfl (p_fa tf49x3 rfl) <| o_p rfl (p_load (v := aB) tv4 rfl rfl rfl) <| mB rfl <| og rfl rfl rfl (fun hc => (p_fa tf49x2 rfl)) <| og rfl rfl rfl (fun hc => (p_load (v := aI) tv3 (gx rfl hc) rfl rfl)) <| og rfl rfl rfl (fun hc => (p_move (v := aL) rfl)) <| og rfl rfl rfl (fun hc => (p_len ti40 (isl_c (gx rfl hc)))) <| og rfl rfl rfl (fun hc => (p_lss (gx rfl hc) (gx rfl hc))) <| o_p rfl (p_picky rfl rfl rfl (fun e => keq e)) <| mB rfl ?_
       refine og rfl rfl rfl (fun hc => (p_move (v := aL) rfl)) <| og rfl rfl rfl (fun hc => (p_fa tf49x2 rfl)) <| og rfl rfl rfl (fun hc => (p_load (v := aI) tv3 (gx rfl hc) rfl rfl)) ?_
       obtain ⟨x22, hx22, h23⟩ := bind_s hs21
       refine og rfl rfl rfl (fun hc => (p_ia (cs := [PV.int _ _, PV.int _ _, PV.int _ _, PV.int _ _, PV.int _ _, PV.int _ _, PV.int _ _, PV.str _, PV.str _, PV.int _ _, PV.int _ _, PV.str _, PV.ls _ _ _, PV.ls _ _ _, PV.str _, PV.int _ _, PV.int _ _, PV.int _ _, PV.int _ _, PV.int _ _, PV.int _ _, PV.int _ _, PV.int _ _, PV.ls _ _ _]) ts40 (isl_c (gx rfl hc)) (gx rfl hc) (gd_some hx22 hc) rfl)) <| og rfl rfl rfl (fun hc => (p_fae tf29x1 (gx rfl hc))) <| og rfl rfl rfl (fun hc => (p_loade (p := PV.int _ _) tv3 (gx rfl hc) rfl)) ?_
       obtain ⟨x24, hx24, h25⟩ := bind_s h23
       refine o_g rfl rfl (fun hc => ov_call (v := aB) rfl (w_event_IsCommand (gd_some hx24 hc)) ⟨(le_gv (gx rfl hc) lr), trivial⟩ (ok_eq (by repeat (first | exact ok_nil | refine ok_cons rfl ?_ | refine ok_cons (dgv rfl) ?_ | refine ok_cons dar ?_))) rfl rfl) ?_
       refine o_p rfl (p_picky rfl rfl rfl (fun e => keq e)) <| o_ek (fr' := [(0, aL), (3, aO), (6, .box 1 0), (10, aL), (11, aI), (12, aI), (62, aB)]) rfl rfl <| w_ch h25 rfl (fun hb26 h26 => ?_) (fun hb26 h26 => ?_)
       ·
        exact w_skip <| e_kw <| w_block <| w_region <| o_p rfl (p_fa tf49x2 rfl) <| o_p rfl (p_load (v := aI) tv3 rfl rfl rfl) <| o_p rfl (p_add rfl rfl) <| o_p rfl (p_fa tf49x2 rfl) <| o_store (v := aI) (us := [aI]) (cs := aIIIB) (σ' := [aIIIIIIISSIISLLSIIIIIIIIL, aIIIB]) rfl tv3 rfl rfl rfl rfl rfl rfl rfl rfl <| o_end (fr' := [(0, aL), (3, aO), (6, .box 1 0), (10, aL), (11, aI), (12, aI), (62, aB)]) rfl <| e_blk_n <| e_l _ (sy h26) (w_weak [0] 2 rfl rfl rfl rfl ⟨lr, lr, lr, lr, lr, lr, trivial⟩ (st_r rfl (st_r rfl st_nil)))
       ·
        refine w_exit <| e_seq_x <| e_seq_x <| e_blk_h ?_
        have h27 := un_out h26 ho21
        exact e_j _ (sy h27) (w_weak [0] 2 rfl rfl rfl rfl ⟨lr, lr, lr, lr, lr, lr, trivial⟩ (st_r rfl (st_r rfl st_nil)))
      ·
       intro j20 hj28
       subst hj28
       refine w_region <| mV (v := aO) rfl <| o_p rfl (p_loads (us := aIIIB) tv49 rfl rfl rfl rfl) <| o_rows (row := rowHistoryTurn) (xs := ([(HistoryTurn.mk s8.2 (IntKind.wrap .i64 (s8.2 + (1 : Int))) x18 (decide (x16.Kind = (4 : Int))))] : List HistoryTurn)) (rows := [[_, _, _, _]]) (σ' := [aIIIIIIISSIISLLSIIIIIIIIL, aIIIB]) [0, 0, 0, 0] ts44 rfl rfl rfl (arow_cons rfl arow_nil) rfl rfl ?_
       obtain ⟨x29, hx29, h30⟩ := bind_s h19
       exact o_app (row := rowHistoryTurn) ts44 rfl ti44 rfl (isl_o rfl) (fun _ => rfl) hx29 <| sV (v := aO) rfl <| o_end (fr' := [(0, aL), (3, aO), (6, .box 1 0), (10, aL), (11, aI), (12, aI)]) rfl <| e_blk_n <| e_kw <| w_region <| o_p rfl (p_add rfl rfl) <| mI rfl <| o_end (fr' := [(0, aL), (3, aO), (6, .box 1 0), (10, aL), (11, aI), (12, aI)]) rfl <| e_l _ (sy h30) (w_weak [1120] 0 rfl rfl rfl rfl ⟨lr, lr, lr, lr, lr, trivial⟩ st_nil)
   ·
    refine w_exit <| e_seq_x <| e_seq_x <| e_blk_h ?_
    have h31 := un_out h9 ho8
    exact e_j _ (sy h31) (w_weak [0] 0 rfl rfl rfl rfl ⟨lr, trivial⟩ st_nil)
  ·
   intro j7 hj32
   subst hj32
   refine e_kw <| w_sr <| mV (v := aO) rfl <| sV (v := aO) rfl <| o_ek (fr' := [(2, aO)]) rfl rfl <| w_ret ?_
   obtain rfl := sy h6
   exact e_ret (rs' := [.tmp 2]) rfl <| r_tmp (v := aO) rfl <| r_nil <| fin_gen [0] rfl rfl rfl lr st_nil
noncomputable def law24xexample  : Option (List ApiEvent) :=
 some ([(ApiEvent.mk (1 : Int) (1 : Int) (0 : Int) (0 : Int) (0 : Int) (0 : Int) (0 : Int) ([116] : List UInt8) ([107] : List UInt8) (ApiValue.mk (4 : Int) (0 : Int) ([] : List UInt8) ([(ApiValue.mk (0 : Int) (0 : Int) ([] : List UInt8) ([] : (List ApiValue)) ([] : (List (List UInt8)))), (ApiValue.mk (4 : Int) (0 : Int) ([] : List UInt8) ([] : (List ApiValue)) ([] : (List (List UInt8))))] : List ApiValue) ([] : (List (List UInt8)))) (ApiPolicy.mk ([] : List UInt8) (0 : Int) (0 : Int) (0 : Int) (0 : Int) (0 : Int) (0 : Int) (0 : Int) (0 : Int) ([] : (List (List UInt8))))), (ApiEvent.mk (2 : Int) (2 : Int) (0 : Int) (0 : Int) (0 : Int) (1 : Int) (0 : Int) ([] : List UInt8) ([] : List UInt8) (ApiValue.mk (0 : Int) (0 : Int) ([] : List UInt8) ([] : (List ApiValue)) ([] : (List (List UInt8)))) (ApiPolicy.mk ([] : List UInt8) (0 : Int) (0 : Int) (0 : Int) (0 : Int) (0 : Int) (0 : Int) (0 : Int) (0 : Int) ([] : (List (List UInt8))))), (ApiEvent.mk (3 : Int) (3 : Int) (0 : Int) (0 : Int) (2 : Int) (0 : Int) (0 : Int) ([] : List UInt8) ([] : List UInt8) (ApiValue.mk (0 : Int) (0 : Int) ([] : List UInt8) ([] : (List ApiValue)) ([] : (List (List UInt8)))) (ApiPolicy.mk ([] : List UInt8) (0 : Int) (0 : Int) (0 : Int) (0 : Int) (0 : Int) (0 : Int) (0 : Int) (0 : Int) ([] : (List (List UInt8))))), (ApiEvent.mk (4 : Int) (4 : Int) (0 : Int) (0 : Int) (3 : Int) (0 : Int) (0 : Int) ([] : List UInt8) ([] : List UInt8) (ApiValue.mk (0 : Int) (0 : Int) ([] : List UInt8) ([] : (List ApiValue)) ([] : (List (List UInt8)))) (ApiPolicy.mk ([] : List UInt8) (0 : Int) (0 : Int) (0 : Int) (0 : Int) (0 : Int) (0 : Int) (0 : Int) (0 : Int) ([] : (List (List UInt8))))), (ApiEvent.mk (5 : Int) (14 : Int) (0 : Int) (1 : Int) (0 : Int) (5 : Int) (0 : Int) ([] : List UInt8) ([] : List UInt8) (ApiValue.mk (0 : Int) (0 : Int) ([] : List UInt8) ([] : (List ApiValue)) ([] : (List (List UInt8)))) (ApiPolicy.mk ([] : List UInt8) (0 : Int) (0 : Int) (0 : Int) (0 : Int) (0 : Int) (0 : Int) (0 : Int) (0 : Int) ([] : (List (List UInt8)))))] : List ApiEvent)
theorem w_law24xexample  {res : (List ApiEvent)} (h : law24xexample = some res) : ACalls Tryz.prog 53 [] [] (AV.os 0 24 rowApiEvent res) [] := by
 unfold law24xexample at h
 refine acalls (fn := Tryz.f53) [0, 1] (by kernel_rfl) Tryz.func53 rfl (by kernel_rfl) (by kernel_rfl) <| w_sr <| sV (v := AV.nil) rfl <| o_ek (fr' := []) rfl rfl <| w_sr <| o_p rfl (p_build (cs := [aI, aI, aS, AV.nil, AV.nil]) tb25 rfl) <| o_p rfl (p_build (cs := [aI, aI, aS, AV.nil, AV.nil]) tb25 rfl) <| o_rows (row := rowApiValue) (xs := ([(ApiValue.mk (0 : Int) (0 : Int) ([] : List UInt8) ([] : (List ApiValue)) ([] : (List (List UInt8)))), (ApiValue.mk (4 : Int) (0 : Int) ([] : List UInt8) ([] : (List ApiValue)) ([] : (List (List UInt8))))] : List ApiValue)) (rows := [[_, _, _, _, _], [_, _, _, _, _]]) (σ' := []) [0, 0, 0, 5, 1] ts22 rfl rfl rfl (arow_cons (rowApiValue_eq _) (arow_cons (rowApiValue_eq _) arow_nil)) rfl rfl <| o_p rfl (p_build (cs := [aI, aI, aS, aO, AV.nil]) tb25 rfl) <| o_alloc (n := 0) (cs := [aI, aI, aS, AV.nil, AV.nil]) (σ' := [[aI, aI, aS, AV.nil, AV.nil]]) tz25 rfl rfl rfl <| o_store (v := .agg [aI, aI, aS, aO, AV.nil]) (us := [aI, aI, aS, aO, AV.nil]) (cs := [aI, aI, aS, AV.nil, AV.nil]) (σ' := [[aI, aI, aS, aO, AV.nil]]) rfl tv25 rfl rfl rfl rfl rfl rfl rfl rfl ?_
 refine o_ek (fr' := [(1, .box 0 0)]) rfl rfl <| w_sr <| o_p rfl (p_loads (us := [aI, aI, aS, aO, AV.nil]) tv25 rfl rfl rfl rfl) <| o_p rfl (p_buildc (c0 := [aI, aI, aI, aI, aI, aI, aI, aS, aS, aI, aI, aS, AV.nil, AV.nil, aS, aI, aI, aI, aI, aI, aI, aI, aI, AV.nil]) (cs := [aI, aI, aI, aI, aI, aI, aI, aS, aS, aI, aI, aS, aO, AV.nil, aS, aI, aI, aI, aI, aI, aI, aI, aI, AV.nil]) tb29 rfl (fill_cons (v := aI) (us := [_]) (cs' := u24) rfl rfl rfl rfl rfl rfl (fill_cons (v := aI) (us := [_]) (cs' := u24) rfl rfl rfl rfl rfl rfl (fill_cons (v := aS) (us := [_]) (cs' := u24) rfl rfl rfl rfl rfl rfl (fill_cons (v := aS) (us := [_]) (cs' := u24) rfl rfl rfl rfl rfl rfl (fill_cons (v := .agg [aI, aI, aS, aO, AV.nil]) (us := u5) (cs' := u24) rfl rfl rfl rfl rfl rfl fill_nil)))))) <| o_p rfl (p_buildc (c0 := [aI, aI, aI, aI, aI, aI, aI, aS, aS, aI, aI, aS, AV.nil, AV.nil, aS, aI, aI, aI, aI, aI, aI, aI, aI, AV.nil]) (cs := [aI, aI, aI, aI, aI, aI, aI, aS, aS, aI, aI, aS, AV.nil, AV.nil, aS, aI, aI, aI, aI, aI, aI, aI, aI, AV.nil]) tb29 rfl (fill_cons (v := aI) (us := [_]) (cs' := u24) rfl rfl rfl rfl rfl rfl (fill_cons (v := aI) (us := [_]) (cs' := u24) rfl rfl rfl rfl rfl rfl (fill_cons (v := aI) (us := [_]) (cs' := u24) rfl rfl rfl rfl rfl rfl fill_nil)))) <| o_p rfl (p_buildc (c0 := [aI, aI, aI, aI, aI, aI, aI, aS, aS, aI, aI, aS, AV.nil, AV.nil, aS, aI, aI, aI, aI, aI, aI, aI, aI, AV.nil]) (cs := [aI, aI, aI, aI, aI, aI, aI, aS, aS, aI, aI, aS, AV.nil, AV.nil, aS, aI, aI, aI, aI, aI, aI, aI, aI, AV.nil]) tb29 rfl (fill_cons (v := aI) (us := [_]) (cs' := u24) rfl rfl rfl rfl rfl rfl (fill_cons (v := aI) (us := [_]) (cs' := u24) rfl rfl rfl rfl rfl rfl (fill_cons (v := aI) (us := [_]) (cs' := u24) rfl rfl rfl rfl rfl rfl fill_nil)))) <| o_p rfl (p_buildc (c0 := [aI, aI, aI, aI, aI, aI, aI, aS, aS, aI, aI, aS, AV.nil, AV.nil, aS, aI, aI, aI, aI, aI, aI, aI, aI, AV.nil]) (cs := [aI, aI, aI, aI, aI, aI, aI, aS, aS, aI, aI, aS, AV.nil, AV.nil, aS, aI, aI, aI, aI, aI, aI, aI, aI, AV.nil]) tb29 rfl (fill_cons (v := aI) (us := [_]) (cs' := u24) rfl rfl rfl rfl rfl rfl (fill_cons (v := aI) (us := [_]) (cs' := u24) rfl rfl rfl rfl rfl rfl (fill_cons (v := aI) (us := [_]) (cs' := u24) rfl rfl rfl rfl rfl rfl fill_nil)))) <| o_p rfl (p_buildc (c0 := [aI, aI, aI, aI, aI, aI, aI, aS, aS, aI, aI, aS, AV.nil, AV.nil, aS, aI, aI, aI, aI, aI, aI, aI, aI, AV.nil]) (cs := [aI, aI, aI, aI, aI, aI, aI, aS, aS, aI, aI, aS, AV.nil, AV.nil, aS, aI, aI, aI, aI, aI, aI, aI, aI, AV.nil]) tb29 rfl (fill_cons (v := aI) (us := [_]) (cs' := u24) rfl rfl rfl rfl rfl rfl (fill_cons (v := aI) (us := [_]) (cs' := u24) rfl rfl rfl rfl rfl rfl (fill_cons (v := aI) (us := [_]) (cs' := u24) rfl rfl rfl rfl rfl rfl (fill_cons (v := aI) (us := [_]) (cs' := u24) rfl rfl rfl rfl rfl rfl fill_nil))))) <| o_rows (row := rowApiEvent) (xs := ([(ApiEvent.mk (1 : Int) (1 : Int) (0 : Int) (0 : Int) (0 : Int) (0 : Int) (0 : Int) ([116] : List UInt8) ([107] : List UInt8) (ApiValue.mk (4 : Int) (0 : Int) ([] : List UInt8) ([(ApiValue.mk (0 : Int) (0 : Int) ([] : List UInt8) ([] : (List ApiValue)) ([] : (List (List UInt8)))), (ApiValue.mk (4 : Int) (0 : Int) ([] : List UInt8) ([] : (List ApiValue)) ([] : (List (List UInt8))))] : List ApiValue) ([] : (List (List UInt8)))) (ApiPolicy.mk ([] : List UInt8) (0 : Int) (0 : Int) (0 : Int) (0 : Int) (0 : Int) (0 : Int) (0 : Int) (0 : Int) ([] : (List (List UInt8))))), (ApiEvent.mk (2 : Int) (2 : Int) (0 : Int) (0 : Int) (0 : Int) (1 : Int) (0 : Int) ([] : List UInt8) ([] : List UInt8) (ApiValue.mk (0 : Int) (0 : Int) ([] : List UInt8) ([] : (List ApiValue)) ([] : (List (List UInt8)))) (ApiPolicy.mk ([] : List UInt8) (0 : Int) (0 : Int) (0 : Int) (0 : Int) (0 : Int) (0 : Int) (0 : Int) (0 : Int) ([] : (List (List UInt8))))), (ApiEvent.mk (3 : Int) (3 : Int) (0 : Int) (0 : Int) (2 : Int) (0 : Int) (0 : Int) ([] : List UInt8) ([] : List UInt8) (ApiValue.mk (0 : Int) (0 : Int) ([] : List UInt8) ([] : (List ApiValue)) ([] : (List (List UInt8)))) (ApiPolicy.mk ([] : List UInt8) (0 : Int) (0 : Int) (0 : Int) (0 : Int) (0 : Int) (0 : Int) (0 : Int) (0 : Int) ([] : (List (List UInt8))))), (ApiEvent.mk (4 : Int) (4 : Int) (0 : Int) (0 : Int) (3 : Int) (0 : Int) (0 : Int) ([] : List UInt8) ([] : List UInt8) (ApiValue.mk (0 : Int) (0 : Int) ([] : List UInt8) ([] : (List ApiValue)) ([] : (List (List UInt8)))) (ApiPolicy.mk ([] : List UInt8) (0 : Int) (0 : Int) (0 : Int) (0 : Int) (0 : Int) (0 : Int) (0 : Int) (0 : Int) ([] : (List (List UInt8))))), (ApiEvent.mk (5 : Int) (14 : Int) (0 : Int) (1 : Int) (0 : Int) (5 : Int) (0 : Int) ([] : List UInt8) ([] : List UInt8) (ApiValue.mk (0 : Int) (0 : Int) ([] : List UInt8) ([] : (List ApiValue)) ([] : (List (List UInt8)))) (ApiPolicy.mk ([] : List UInt8) (0 : Int) (0 : Int) (0 : Int) (0 : Int) (0 : Int) (0 : Int) (0 : Int) (0 : Int) ([] : (List (List UInt8)))))] : List ApiEvent)) (rows := [[_, _, _, _, _, _, _, _, _, _, _, _, _, _, _, _, _, _, _, _, _, _, _, _], [_, _, _, _, _, _, _, _, _, _, _, _, _, _, _, _, _, _, _, _, _, _, _, _], [_, _, _, _, _, _, _, _, _, _, _, _, _, _, _, _, _, _, _, _, _, _, _, _], [_, _, _, _, _, _, _, _, _, _, _, _, _, _, _, _, _, _, _, _, _, _, _, _], [_, _, _, _, _, _, _, _, _, _, _, _, _, _, _, _, _, _, _, _, _, _, _, _]]) (σ' := [[aI, aI, aS, aO, AV.nil]]) [0, 0, 0, 0, 0, 0, 0, 0, 0, 0, 0, 0, 5, 1, 0, 0, 0, 0, 0, 0, 0, 0, 0, 1] ts40 rfl rfl rfl (arow_cons rfl (arow_cons rfl (arow_cons rfl (arow_cons rfl (arow_cons rfl arow_nil))))) rfl rfl <| sV (v := aO) rfl <| o_ek (fr' := [(0, aO)]) rfl rfl <| w_ret ?_
 obtain rfl := sy h
 exact e_ret (rs' := [.tmp 0]) rfl <| r_tmp (v := aO) rfl <| r_nil <| fin_gen [192] rfl rfl rfl lr st_nil
noncomputable def history_Status_l1 (p0l : (List ApiEvent)) (s4 : Int) : Option (Step Int (Fl (Int × Int) Unit)) :=
 cond (decide (s4 < ((p0l).length : Int))) ((idx p0l s4).bind fun (x6 : ApiEvent) => (event_Status x6.Kind).bind fun (x8 : (Int × Bool)) => cond x8.2 (some (Step.out (Fl.done (x8.1, s4)))) (some (Step.next (IntKind.wrap .i64 (s4 + (1 : Int)))))) (some (Step.out (Fl.go ())))
noncomputable def history_Status (p0l : (List ApiEvent)) : Option (Int × Int) :=
 ((loopO (history_Status_l1 p0l) ((0 : Int))) : Option (Fl (Int × Int) Unit)).bind fun (x1 : (Fl (Int × Int) Unit)) => Fl.next x1 (fun (j3 : Unit) => (some ((0 : Int), (-1 : Int))))
theorem w_history_Status {p0l : (List ApiEvent)} {res : (Int × Int)} (h : history_Status p0l = some res) : ACalls Tryz.prog 54 [.c (PV.ls 24 rowApiEvent p0l)] [] (.tup [.c (.int .i64 res.1), .c (.int .i64 res.2)]) [] := by
 unfold history_Status at h
 refine acalls (fn := Tryz.f54) [0, 2, 3, 4, 5, 6, 7, 8, 9, 10, 11, 21] (by kernel_rfl) Tryz.func54 rfl (by kernel_rfl) (by kernel_rfl) <| w_sr <| sI rfl <| sI rfl <| o_ek (fr' := [(0, aL)]) rfl rfl <| w_seqw <| w_sr <| mL rfl <| o_p rfl (p_len ti40 (isl_c rfl)) <| mI rfl <| o_ek (fr' := [(8, aL), (9, aI), (10, aI)]) rfl rfl ?_
 obtain ⟨x1, hx1, h2⟩ := bind_s h
 refine w_jtail cl_kw (fun j3 => x1 = Fl.go j3) (fun (j3 : Unit) => ([] : Fr)) (fun (j3 : Unit) => ([] : St)) ?_ ?_
 ·
  refine w_block <| w_loopo _ (fun (s4 : Int) => ([(8, .c (PV.ls 24 rowApiEvent p0l)), (9, .c (.int .i64 ((p0l).length : Int))), (10, .c (.int .i64 s4))] : Fr)) (fun (s4 : Int) => ([] : St)) hx1 (w_weak [] 0 rfl rfl rfl rfl ⟨lr, lr, lr, trivial⟩ st_nil) ?_
  intro s4 st4 hs4 ho4
  unfold history_Status_l1 at hs4
  refine w_sr <| o_p rfl (p_lss rfl rfl) <| o_ek (fr' := [(8, aL), (9, aI), (10, aI), (11, aB)]) rfl rfl <| w_seqw <| w_ch hs4 rfl (fun hb5 h5 => ?_) (fun hb5 h5 => ?_)
  ·
   refine w_skip <| e_kw <| w_seqw <| w_block <| w_sr <| mI rfl ?_
   obtain ⟨x6, hx6, h7⟩ := bind_s h5
   refine o_p rfl (p_ia (cs := [PV.int _ _, PV.int _ _, PV.int _ _, PV.int _ _, PV.int _ _, PV.int _ _, PV.int _ _, PV.str _, PV.str _, PV.int _ _, PV.int _ _, PV.str _, PV.ls _ _ _, PV.ls _ _ _, PV.str _, PV.int _ _, PV.int _ _, PV.int _ _, PV.int _ _, PV.int _ _, PV.int _ _, PV.int _ _, PV.int _ _, PV.ls _ _ _]) ts40 (isl_c rfl) rfl hx6 rfl) <| o_p rfl (p_loades (us := [PV.int _ _, PV.int _ _, PV.int _ _, PV.int _ _, PV.int _ _, PV.int _ _, PV.int _ _, PV.str _, PV.str _, PV.int _ _, PV.int _ _, PV.str _, PV.ls _ _ _, PV.ls _ _ _, PV.str _, PV.int _ _, PV.int _ _, PV.int _ _, PV.int _ _, PV.int _ _, PV.int _ _, PV.int _ _, PV.int _ _, PV.ls _ _ _]) tv29 rfl rfl rfl) <| o_alloc (n := 0) (cs := [aI, aI, aI, aI, aI, aI, aI, aS, aS, aI, aI, aS, AV.nil, AV.nil, aS, aI, aI, aI, aI, aI, aI, aI, aI, AV.nil]) (σ' := [[aI, aI, aI, aI, aI, aI, aI, aS, aS, aI, aI, aS, AV.nil, AV.nil, aS, aI, aI, aI, aI, aI, aI, aI, aI, AV.nil]]) tz29 rfl rfl rfl <| sI rfl <| o_store (v := .agg aIIIIIIISSIISLLSIIIIIIIIL) (us := aIIIIIIISSIISLLSIIIIIIIIL) (cs := [aI, aI, aI, aI, aI, aI, aI, aS, aS, aI, aI, aS, AV.nil, AV.nil, aS, aI, aI, aI, aI, aI, aI, aI, aI, AV.nil]) (σ' := [aIIIIIIISSIISLLSIIIIIIIIL]) rfl tv29 rfl rfl rfl rfl rfl rfl rfl rfl <| o_ek (fr' := [(4, aI), (5, .box 0 0), (8, aL), (9, aI), (10, aI)]) rfl rfl <| w_sr <| o_p rfl (p_fa tf29x1 rfl) <| o_p rfl (p_load (v := aI) tv3 rfl rfl rfl) ?_
   obtain ⟨x8, hx8, h9⟩ := bind_s h7
   refine o_v (ov_call (v := .tup [aI, aB]) rfl (w_event_Status hx8) ⟨lr, trivial⟩ rfl rfl rfl) <| mV (v := .tup [aI, aB]) rfl <| o_p rfl (p_ex (v := aI) rfl rfl) <| o_p rfl (p_ex (v := aB) rfl rfl) <| sI rfl <| sB rfl <| o_ek (fr' := [(4, aI), (6, aI), (7, aB), (8, aL), (9, aI), (10, aI)]) rfl rfl <| w_sr <| mB rfl <| o_ek (fr' := [(4, aI), (6, aI), (8, aL), (9, aI), (10, aI), (21, aB)]) rfl rfl <| w_ch h9 rfl (fun hb10 h10 => ?_) (fun hb10 h10 => ?_)
   ·
    refine w_sr <| mI rfl <| mI rfl <| sI rfl <| sI rfl <| o_ek (fr' := [(2, aI), (3, aI)]) rfl rfl <| w_ret <| e_blk_r <| e_seq_r <| e_seq_r <| e_blk_r <| e_seq_r ?_
    refine e_seq_r ?_
    have h11 := un_out h10 ho4
    have h12 := un_done h11 h2
    obtain rfl := sy h12
    exact e_ret (rs' := [.tmp 2, .tmp 3]) rfl <| r_tmp (v := aI) rfl <| r_tmp (v := aI) rfl <| r_nil <| fin_gen [] rfl rfl rfl (le_tupp rfl ⟨lr, lr, trivial⟩) st_nil
   ·
    exact w_skip <| e_blk_n <| e_kw <| w_region <| o_p rfl (p_add rfl rfl) <| mI rfl <| o_end (fr' := [(4, aI), (6, aI), (8, aL), (9, aI), (10, aI), (21, aB)]) rfl <| e_l _ (sy h10) (w_weak [] 0 rfl rfl rfl rfl ⟨lr, lr, lr, trivial⟩ st_nil)
  ·
   refine w_exit <| e_seq_x <| e_seq_x <| e_blk_h ?_
   have h14 := un_out h5 ho4
   exact e_j _ (sy h14) (w_weak [] 0 rfl rfl rfl rfl trivial st_nil)
 ·
  intro j3 hj15
  have h15 := un_go hj15 h2
  refine e_kw <| w_sr <| sI rfl <| sI rfl <| o_ek (fr' := [(2, aI), (3, aI)]) rfl rfl <| w_ret ?_
  obtain rfl := sy h15
  exact e_ret (rs' := [.tmp 2, .tmp 3]) rfl <| r_tmp (v := aI) rfl <| r_tmp (v := aI) rfl <| r_nil <| fin_gen [] rfl rfl rfl (le_tupp rfl ⟨lr, lr, trivial⟩) st_nil
noncomputable def law24xworks  : Option Bool :=
 (law24xexample).bind fun (x1 : (List ApiEvent)) => (history_Turns x1).bind fun (x3 : (List HistoryTurn)) => (law24xexample).bind fun (x5 : (List ApiEvent)) => (history_Status x5).bind fun (x7 : (Int × Int)) => (law24xexample).bind fun (x9 : (List ApiEvent)) => (history_Check x9).bind fun (x11 : Int) => (gd ((cond (decide (x11 = (0 : Int))) (decide (((x3).length : Int) = (1 : Int))) false) == true) (idx x3 (0 : Int))).bind fun (x13 : HistoryTurn) => some (cond (cond (cond (cond (decide (x11 = (0 : Int))) (decide (((x3).length : Int) = (1 : Int))) false) (decide (x13.Start = (2 : Int)) && (decide (x13.End = (3 : Int)) && (decide (x13.Next = (5 : Int)) && ((x13.Done == true) && true)))) false) (decide (x7.1 = (0 : Int))) false) (decide (x7.2 = (-1 : Int))) false)
theorem w_law24xworks  {res : Bool} (h : law24xworks = some res) : ACalls Tryz.prog 18 [] [] (.c (.bool res)) [] := by
 unfold law24xworks at h
 refine acalls (fn := Tryz.f18) [0, 1, 2, 3] (by kernel_rfl) Tryz.func18 rfl (by kernel_rfl) (by kernel_rfl) <| w_sr <| sB rfl <| o_ek (fr' := []) rfl rfl <| w_seqw <| w_region ?_
 obtain ⟨x1, hx1, h2⟩ := bind_s h
 refine o_v (ov_call (v := aO) rfl (w_law24xexample hx1) trivial rfl rfl rfl) ?_
 obtain ⟨x3, hx3, h4⟩ := bind_s h2
 refine o_v (ov_call (v := aO) rfl (w_history_Turns hx3) ⟨lr, trivial⟩ rfl rfl rfl) <| sV (v := aO) rfl <| o_ek (fr' := [(1, aO)]) rfl rfl <| w_seqw <| w_region ?_
 obtain ⟨x5, hx5, h6⟩ := bind_s h4
 refine o_v (ov_call (v := aO) rfl (w_law24xexample hx5) trivial rfl rfl rfl) ?_
 obtain ⟨x7, hx7, h8⟩ := bind_s h6
 refine o_v (ov_call (v := .tup [aI, aI]) rfl (w_history_Status hx7) ⟨lr, trivial⟩ rfl rfl rfl) <| mV (v := .tup [aI, aI]) rfl <| o_p rfl (p_ex (v := aI) rfl rfl) <| o_p rfl (p_ex (v := aI) rfl rfl) <| sI rfl <| sI rfl <| o_ek (fr' := [(1, aO), (2, aI), (3, aI)]) rfl rfl <| w_seqw <| w_region ?_
 obtain ⟨x9, hx9, h10⟩ := bind_s h8
 refine o_v (ov_call (v := aO) rfl (w_law24xexample hx9) trivial rfl rfl rfl) ?_
 obtain ⟨x11, hx11, h12⟩ := bind_s h10
 refine o_v (ov_call (v := aI) rfl (w_history_Check hx11) ⟨lr, trivial⟩ rfl rfl rfl) <| o_p rfl (p_eql rfl rfl) <| mB rfl <| og rfl rfl rfl (fun hc => (p_move (v := aO) rfl)) <| og rfl rfl rfl (fun hc => (p_len ti44 (isl_o (gx rfl hc)))) <| og rfl rfl rfl (fun hc => (p_eql (gx rfl hc) rfl)) <| o_p rfl (p_picky rfl rfl rfl (fun e => keq e)) <| mB rfl <| og rfl rfl rfl (fun hc => (p_move (v := aO) rfl)) ?_
 obtain ⟨x13, hx13, h14⟩ := bind_s h12
 refine og rfl rfl rfl (fun hc => (p_ia (cs := [PV.int _ _, PV.int _ _, PV.int _ _, PV.bool _]) ts44 (isl_o (gx rfl hc)) rfl (gd_some hx13 hc) rfl)) <| og rfl rfl rfl (fun hc => (p_loades (us := [PV.int _ _, PV.int _ _, PV.int _ _, PV.bool _]) tv49 (gx rfl hc) rfl rfl)) <| og rfl rfl rfl (fun hc => (p_build (cs := aIIIB) tb49 rfl)) <| og rfl rfl rfl (fun hc => (p_aeql eqk49 tv49 eg49 (gx rfl hc) (gx rfl hc) rfl rfl)) <| o_p rfl (p_picky rfl rfl rfl (fun e => keq e)) <| mB rfl <| og rfl rfl rfl (fun hc => (p_move (v := aI) rfl)) <| og rfl rfl rfl (fun hc => (p_eql (gx rfl hc) rfl)) <| o_p rfl (p_picky rfl rfl rfl (fun e => keq e)) <| mB rfl <| og rfl rfl rfl (fun hc => (p_move (v := aI) rfl)) <| og rfl rfl rfl (fun hc => (p_eql (gx rfl hc) rfl)) <| o_p rfl (p_picky rfl rfl rfl (fun e => keq e)) ?_
 refine sB rfl <| o_ek (fr' := [(0, aB)]) rfl rfl <| w_ret ?_
 obtain rfl := sy h14
 exact e_ret (rs' := [.tmp 0]) rfl <| r_tmp (v := aB) rfl <| r_nil <| fin_gen [] rfl rfl rfl lr st_nil
noncomputable def ref22xin (p0n : Int) (p1low : Int) (p2high : Int) : Option Bool :=
 some (cond (decide (p1low ≤ p0n)) (decide (p0n ≤ p2high)) false)
theorem w_ref22xin {p0n : Int} {p1low : Int} {p2high : Int} {res : Bool} (h : ref22xin p0n p1low p2high = some res) : ACalls Tryz.prog 34 [.c (.int .i64 p0n), .c (.int .i64 p1low), .c (.int .i64 p2high)] [] (.c (.bool res)) [] := by
 unfold ref22xin at h
 refine acalls (fn := Tryz.f34) [0, 1, 2, 6] (by kernel_rfl) Tryz.func34 rfl (by kernel_rfl) (by kernel_rfl) <| w_sr <| sB rfl <| o_ek (fr' := [(0, aI), (1, aI), (2, aI)]) rfl rfl <| w_sr <| mI rfl <| mI rfl <| o_p rfl (p_geq rfl rfl) <| mB rfl <| og rfl rfl rfl (fun hc => (p_move (v := aI) rfl)) <| og rfl rfl rfl (fun hc => (p_move (v := aI) rfl)) ?_
 refine og rfl rfl rfl (fun hc => (p_leq (gx rfl hc) (gx rfl hc))) <| o_p rfl (p_picky rfl rfl rfl (fun e => keq e)) <| sB rfl <| o_ek (fr' := [(6, aB)]) rfl rfl <| w_ret ?_
 obtain rfl := sy h
 exact e_ret (rs' := [.tmp 6]) rfl <| r_tmp (v := aB) rfl <| r_nil <| fin_gen [] rfl rfl rfl lr st_nil
noncomputable def ref20xSamePolicy_l1 (p0a : ApiPolicy) (p1b : ApiPolicy) (s8 : Int) : Option (Step Int (Fl Bool Unit)) :=
 cond (decide (s8 < ((p0a.Fatal).length : Int))) ((idx p0a.Fatal s8).bind fun (x10 : (List UInt8)) => (idx p1b.Fatal s8).bind fun (x12 : (List UInt8)) => cond (!decide (x10 = x12)) (some (Step.out (Fl.done false))) (some (Step.next (IntKind.wrap .i64 (s8 + (1 : Int)))))) (some (Step.out (Fl.go ())))
noncomputable def ref20xSamePolicy (p0a : ApiPolicy) (p1b : ApiPolicy) : Option Bool :=
 cond (cond (cond (cond (cond (!decide (p0a.Queue = p1b.Queue)) true (!decide (p0a.ToStart = p1b.ToStart))) true (!decide (p0a.ToClose = p1b.ToClose))) true (!decide (p0a.Total = p1b.Total))) true (!decide (p0a.Beat = p1b.Beat))) (some false) (cond (cond (cond (cond (cond (!decide (p0a.First = p1b.First)) true (!decide (p0a.Coef = p1b.Coef))) true (!decide (p0a.Most = p1b.Most))) true (!decide (p0a.Attempts = p1b.Attempts))) true (!decide (((p0a.Fatal).length : Int) = ((p1b.Fatal).length : Int)))) (some false) (((loopO (ref20xSamePolicy_l1 p0a p1b) ((0 : Int))) : Option (Fl Bool Unit)).bind fun (x5 : (Fl Bool Unit)) => Fl.next x5 (fun (j7 : Unit) => (some true))))
theorem w_ref20xSamePolicy {p0a : ApiPolicy} {p1b : ApiPolicy} {res : Bool} (h : ref20xSamePolicy p0a p1b = some res) : ACalls Tryz.prog 51 [.agg (AV.cs (rowApiPolicy p0a)), .agg (AV.cs (rowApiPolicy p1b))] [] (.c (.bool res)) [] := by
 unfold ref20xSamePolicy at h
 refine acalls (fn := Tryz.f51) [0, 1, 2, 3, 4, 5, 38, 73, 78, 91] (by kernel_rfl) Tryz.func51 rfl (by kernel_rfl) (by kernel_rfl) <| w_sr <| o_box (v := .agg aSIIIIIIIIL) (n := 0) (cs := aSIIIIIIIIL) (σ' := [aSIIIIIIIIL]) rfl rfl rfl rfl rfl <| o_box (v := .agg aSIIIIIIIIL) (n := 1) (cs := aSIIIIIIIIL) (σ' := [aSIIIIIIIIL, aSIIIIIIIIL]) rfl rfl rfl rfl rfl <| sB rfl <| o_ek (fr' := [(2, .box 0 0), (3, .box 1 0)]) rfl rfl <| w_seqw <| w_sr <| o_p rfl (p_fa tf27x0 rfl) <| o_p rfl (p_load (v := aS) tv9 rfl rfl rfl) <| o_p rfl (p_fa tf27x0 rfl) ?_
 refine o_p rfl (p_load (v := aS) tv9 rfl rfl rfl) <| o_p rfl (p_sneq rfl rfl) <| mB rfl <| og rfl rfl rfl (fun hc => (p_fa tf27x1 rfl)) <| og rfl rfl rfl (fun hc => (p_load (v := aI) tv3 (gx rfl hc) rfl rfl)) <| og rfl rfl rfl (fun hc => (p_fa tf27x1 rfl)) <| og rfl rfl rfl (fun hc => (p_load (v := aI) tv3 (gx rfl hc) rfl rfl)) <| og rfl rfl rfl (fun hc => (p_neq (gx rfl hc) (gx rfl hc))) <| o_p rfl (p_pickz rfl rfl rfl (fun e => keq e)) <| mB rfl <| og rfl rfl rfl (fun hc => (p_fa tf27x2 rfl)) <| og rfl rfl rfl (fun hc => (p_load (v := aI) tv3 (gx rfl hc) rfl rfl)) <| og rfl rfl rfl (fun hc => (p_fa tf27x2 rfl)) ?_
 refine og rfl rfl rfl (fun hc => (p_load (v := aI) tv3 (gx rfl hc) rfl rfl)) <| og rfl rfl rfl (fun hc => (p_neq (gx rfl hc) (gx rfl hc))) <| o_p rfl (p_pickz rfl rfl rfl (fun e => keq e)) <| mB rfl <| og rfl rfl rfl (fun hc => (p_fa tf27x3 rfl)) <| og rfl rfl rfl (fun hc => (p_load (v := aI) tv3 (gx rfl hc) rfl rfl)) <| og rfl rfl rfl (fun hc => (p_fa tf27x3 rfl)) <| og rfl rfl rfl (fun hc => (p_load (v := aI) tv3 (gx rfl hc) rfl rfl)) <| og rfl rfl rfl (fun hc => (p_neq (gx rfl hc) (gx rfl hc))) <| o_p rfl (p_pickz rfl rfl rfl (fun e => keq e)) <| mB rfl <| og rfl rfl rfl (fun hc => (p_fa tf27x4 rfl)) <| og rfl rfl rfl (fun hc => (p_load (v := aI) tv3 (gx rfl hc) rfl rfl)) ?_
 refine og rfl rfl rfl (fun hc => (p_fa tf27x4 rfl)) <| og rfl rfl rfl (fun hc => (p_load (v := aI) tv3 (gx rfl hc) rfl rfl)) <| og rfl rfl rfl (fun hc => (p_neq (gx rfl hc) (gx rfl hc))) <| o_p rfl (p_pickz rfl rfl rfl (fun e => keq e)) <| o_ek (fr' := [(2, .box 0 0), (3, .box 1 0), (38, aB)]) rfl rfl <| w_ch h rfl (fun hb1 h1 => ?_) (fun hb1 h1 => ?_)
 ·
  refine w_sr <| sB rfl <| o_ek (fr' := [(4, aB)]) rfl rfl <| w_ret <| e_seq_r ?_
  obtain rfl := sy h1
  exact e_ret (rs' := [.tmp 4]) rfl <| r_tmp (v := aB) rfl <| r_nil <| fin_gen [] rfl rfl rfl lr st_nil
 ·
  refine w_skip <| e_kw <| w_seqw <| w_sr <| o_p rfl (p_fa tf27x5 rfl) <| o_p rfl (p_load (v := aI) tv3 rfl rfl rfl) <| o_p rfl (p_fa tf27x5 rfl) <| o_p rfl (p_load (v := aI) tv3 rfl rfl rfl) <| o_p rfl (p_neq rfl rfl) <| mB rfl <| og rfl rfl rfl (fun hc => (p_fa tf27x6 rfl)) <| og rfl rfl rfl (fun hc => (p_load (v := aI) tv3 (gx rfl hc) rfl rfl)) ?_
  refine og rfl rfl rfl (fun hc => (p_fa tf27x6 rfl)) <| og rfl rfl rfl (fun hc => (p_load (v := aI) tv3 (gx rfl hc) rfl rfl)) <| og rfl rfl rfl (fun hc => (p_neq (gx rfl hc) (gx rfl hc))) <| o_p rfl (p_pickz rfl rfl rfl (fun e => keq e)) <| mB rfl <| og rfl rfl rfl (fun hc => (p_fa tf27x7 rfl)) <| og rfl rfl rfl (fun hc => (p_load (v := aI) tv3 (gx rfl hc) rfl rfl)) <| og rfl rfl rfl (fun hc => (p_fa tf27x7 rfl)) <| og rfl rfl rfl (fun hc => (p_load (v := aI) tv3 (gx rfl hc) rfl rfl)) <| og rfl rfl rfl (fun hc => (p_neq (gx rfl hc) (gx rfl hc))) <| o_p rfl (p_pickz rfl rfl rfl (fun e => keq e)) <| mB rfl <| og rfl rfl rfl (fun hc => (p_fa tf27x8 rfl)) ?_
  refine og rfl rfl rfl (fun hc => (p_load (v := aI) tv3 (gx rfl hc) rfl rfl)) <| og rfl rfl rfl (fun hc => (p_fa tf27x8 rfl)) <| og rfl rfl rfl (fun hc => (p_load (v := aI) tv3 (gx rfl hc) rfl rfl)) <| og rfl rfl rfl (fun hc => (p_neq (gx rfl hc) (gx rfl hc))) <| o_p rfl (p_pickz rfl rfl rfl (fun e => keq e)) <| mB rfl <| og rfl rfl rfl (fun hc => (p_fa tf27x9 rfl)) <| og rfl rfl rfl (fun hc => (p_load (v := aL) tv23 (gx rfl hc) rfl rfl)) <| og rfl rfl rfl (fun hc => (p_len ti23 (isl_c (gx rfl hc)))) <| og rfl rfl rfl (fun hc => (p_fa tf27x9 rfl)) <| og rfl rfl rfl (fun hc => (p_load (v := aL) tv23 (gx rfl hc) rfl rfl)) <| og rfl rfl rfl (fun hc => (p_len ti23 (isl_c (gx rfl hc)))) <| og rfl rfl rfl (fun hc => (p_neq (gx rfl hc) (gx rfl hc))) ?_
  refine o_p rfl (p_pickz rfl rfl rfl (fun e => keq e)) <| o_ek (fr' := [(2, .box 0 0), (3, .box 1 0), (73, aB)]) rfl rfl <| w_ch h1 rfl (fun hb3 h3 => ?_) (fun hb3 h3 => ?_)
  ·
   refine w_sr <| sB rfl <| o_ek (fr' := [(4, aB)]) rfl rfl <| w_ret <| e_seq_r ?_
   obtain rfl := sy h3
   exact e_ret (rs' := [.tmp 4]) rfl <| r_tmp (v := aB) rfl <| r_nil <| fin_gen [] rfl rfl rfl lr st_nil
  ·
   refine w_skip <| e_kw <| w_seqw <| w_sr <| sI rfl <| o_ek (fr' := [(2, .box 0 0), (3, .box 1 0), (5, aI)]) rfl rfl ?_
   obtain ⟨x5, hx5, h6⟩ := bind_s h3
   refine w_jtail cl_kw (fun j7 => x5 = Fl.go j7) (fun (j7 : Unit) => ([] : Fr)) (fun (j7 : Unit) => ([[.c (.str p0a.Queue), .c (.int .i64 p0a.ToStart), .c (.int .i64 p0a.ToClose), .c (.int .i64 p0a.Total), .c (.int .i64 p0a.Beat), .c (.int .i64 p0a.First), .c (.int .i64 p0a.Coef), .c (.int .i64 p0a.Most), .c (.int .i64 p0a.Attempts), .c (PV.ls 1 rowS p0a.Fatal)], [.c (.str p1b.Queue), .c (.int .i64 p1b.ToStart), .c (.int .i64 p1b.ToClose), .c (.int .i64 p1b.Total), .c (.int .i64 p1b.Beat), .c (.int .i64 p1b.First), .c (.int .i64 p1b.Coef), .c (.int .i64 p1b.Most), .c (.int .i64 p1b.Attempts), .c (PV.ls 1 rowS p1b.Fatal)]] : St)) ?_ ?_
   ·
    refine w_block <| w_loopo _ (fun (s8 : Int) => ([(2, .box 0 0), (3, .box 1 0), (5, .c (.int .i64 s8))] : Fr)) (fun (s8 : Int) => ([[.c (.str p0a.Queue), .c (.int .i64 p0a.ToStart), .c (.int .i64 p0a.ToClose), .c (.int .i64 p0a.Total), .c (.int .i64 p0a.Beat), .c (.int .i64 p0a.First), .c (.int .i64 p0a.Coef), .c (.int .i64 p0a.Most), .c (.int .i64 p0a.Attempts), .c (PV.ls 1 rowS p0a.Fatal)], [.c (.str p1b.Queue), .c (.int .i64 p1b.ToStart), .c (.int .i64 p1b.ToClose), .c (.int .i64 p1b.Total), .c (.int .i64 p1b.Beat), .c (.int .i64 p1b.First), .c (.int .i64 p1b.Coef), .c (.int .i64 p1b.Most), .c (.int .i64 p1b.Attempts), .c (PV.ls 1 rowS p1b.Fatal)]] : St)) hx5 (w_weak [] 2 rfl rfl rfl rfl ⟨lr, lr, lr, trivial⟩ (st_r rfl (st_r rfl st_nil))) ?_
    intro s8 st8 hs8 ho8
    unfold ref20xSamePolicy_l1 at hs8
    refine w_seqw <| w_sr <| mI rfl <| o_p rfl (p_fa tf27x9 rfl) <| o_p rfl (p_load (v := aL) tv23 rfl rfl rfl) <| o_p rfl (p_len ti23 (isl_c rfl)) <| o_p rfl (p_lss rfl rfl) <| o_ek (fr' := [(2, .box 0 0), (3, .box 1 0), (5, aI), (78, aB)]) rfl rfl <| w_ch hs8 rfl (fun hb9 h9 => ?_) (fun hb9 h9 => ?_)
    ·
     refine w_skip <| e_kw <| w_seqw <| w_block <| w_seqw <| w_planT [.q 0, .q 1, .q 2, .q 3, .q 4, .q 5, .q 6, .q 7, .q 8, .q 9, .q 10] [(some 81, [2]), (some 82, [81]), (some 83, [5]), (some 84, [82, 83]), (some 85, [84]), (some 86, [3]), (some 87, [86]), (some 88, [5]), (some 89, [87, 88]), (some 90, [89]), (some 91, [85, 90])] [0, 1, 0, 7, 15, 0, 32, 0, 224, 480, 1023] (by kernel_rfl) <| dq rfl rfl (p_fa tf27x9 rfl) <| dq rfl rfl (p_load (v := aL) tv23 rfl rfl rfl) <| dq rfl rfl (p_move (v := aI) rfl) ?_
     obtain ⟨x10, hx10, h11⟩ := bind_s h9
     refine dq rfl rfl (p_ia (cs := [PV.str _]) ts23 (isl_c rfl) rfl hx10 rfl) <| dq rfl rfl (p_loade (p := PV.str _) tv9 rfl rfl) <| dq rfl rfl (p_fa tf27x9 rfl) <| dq rfl rfl (p_load (v := aL) tv23 rfl rfl rfl) <| dq rfl rfl (p_move (v := aI) rfl) ?_
     obtain ⟨x12, hx12, h13⟩ := bind_s h11
     refine dq rfl rfl (p_ia (cs := [PV.str _]) ts23 (isl_c rfl) rfl hx12 rfl) <| dq rfl rfl (p_loade (p := PV.str _) tv9 rfl rfl) <| dq rfl rfl (p_sneq rfl rfl) <| d_ek (fr' := [(2, .box 0 0), (3, .box 1 0), (5, aI), (91, aB)]) rfl rfl <| w_ch h13 rfl (fun hb14 h14 => ?_) (fun hb14 h14 => ?_)
     ·
      refine w_sr <| sB rfl <| o_ek (fr' := [(4, aB)]) rfl rfl <| w_ret <| e_blk_r <| e_seq_r <| e_seq_r <| e_blk_r <| e_seq_r <| e_seq_r ?_
      have h15 := un_out h14 ho8
      have h16 := un_done h15 h6
      obtain rfl := sy h16
      exact e_ret (rs' := [.tmp 4]) rfl <| r_tmp (v := aB) rfl <| r_nil <| fin_gen [] rfl rfl rfl lr st_nil
     ·
      exact w_skip <| e_blk_n <| e_kw <| w_region <| mI rfl <| o_p rfl (p_add rfl rfl) <| sI rfl <| o_end (fr' := [(2, .box 0 0), (3, .box 1 0), (5, aI), (91, aB)]) rfl <| e_l _ (sy h14) (w_weak [] 2 rfl rfl rfl rfl ⟨lr, lr, lr, trivial⟩ (st_r rfl (st_r rfl st_nil)))
    ·
     refine w_exit <| e_seq_x <| e_seq_x <| e_blk_h ?_
     have h18 := un_out h9 ho8
     exact e_j _ (sy h18) (w_weak [] 2 rfl rfl rfl rfl trivial (st_r rfl (st_r rfl st_nil)))
   ·
    intro j7 hj19
    have h19 := un_go hj19 h6
    refine e_kw <| w_sr <| sB rfl <| o_ek (fr' := [(4, aB)]) rfl rfl <| w_ret ?_
    obtain rfl := sy h19
    exact e_ret (rs' := [.tmp 4]) rfl <| r_tmp (v := aB) rfl <| r_nil <| fin_gen [] rfl rfl rfl lr st_nil
end Go.Proofs.YtngcjjhbimanlaaGreatDoor

import Derived.Test.YtmbdbdhdcbdcpaaDoorGHTy
import Derived.Test.YtmbdbdhdcbdcpaaDoorGHF3
namespace Go.Proofs.YtmbdbdhdcbdcpaaDoor
open Go Abs
set_option maxRecDepth 100000
set_option linter.unusedVariables false
set_option linter.unusedSimpArgs false
noncomputable def history_checker_allows (p1at : Int) (p2e : ApiEvent) (p100vx0 : Int) (p100vx1 : Int) (p100vx2 : Int) (p100vx3 : Int) (p100vx4 : Int) (p100vx5 : Int) (p100vx6 : Int) (p100vx7 : Int) (p100vx8 : Int) (p100vx9 : (List UInt8)) (p100vx10 : (List UInt8)) (p100vx11 : Int) (p100vx12 : Int) (p100vx13 : (List UInt8)) (p100vx16 : (List UInt8)) (p100vx17 : Int) (p100vx18 : Int) (p100vx19 : Int) (p100vx20 : Int) (p100vx21 : Int) (p100vx22 : Int) (p100vx23 : Int) (p100vx24 : Int) (p100vx26 : Bool) : Option (Bool × HistoryChecker) :=
 ((cond p100vx26 (some p100vx26) (cond (!((decide (p1at = (0 : Int))) == (decide (p2e.Kind = (1 : Int))))) (some (!((decide (p1at = (0 : Int))) == (decide (p2e.Kind = (1 : Int)))))) (some (cond (decide (p1at = (1 : Int))) (!decide (p2e.Kind = (2 : Int))) false)))) : Option Bool).bind fun (x1 : Bool) => (cond x1 (some (false, (HistoryChecker.mk p100vx0 p100vx1 (ApiEvent.mk p100vx2 p100vx3 p100vx4 p100vx5 p100vx6 p100vx7 p100vx8 p100vx9 p100vx10 (ApiValue.mk p100vx11 p100vx12 p100vx13 ([] : (List ApiValue)) ([] : (List (List UInt8)))) (ApiPolicy.mk p100vx16 p100vx17 p100vx18 p100vx19 p100vx20 p100vx21 p100vx22 p100vx23 p100vx24 ([] : (List (List UInt8))))) p100vx26))) ((gd ((cond (decide ((0 : Int) < p1at)) (decide (p100vx3 = (8 : Int))) false) == true) (history_closesActivity p2e.Kind)).bind fun (x9 : Bool) => cond (cond (cond (decide ((0 : Int) < p1at)) (decide (p100vx3 = (8 : Int))) false) (cond (!x9) true (!decide (p2e.Seq = p100vx5))) false) (some (false, (HistoryChecker.mk p100vx0 p100vx1 (ApiEvent.mk p100vx2 p100vx3 p100vx4 p100vx5 p100vx6 p100vx7 p100vx8 p100vx9 p100vx10 (ApiValue.mk p100vx11 p100vx12 p100vx13 ([] : (List ApiValue)) ([] : (List (List UInt8)))) (ApiPolicy.mk p100vx16 p100vx17 p100vx18 p100vx19 p100vx20 p100vx21 p100vx22 p100vx23 p100vx24 ([] : (List (List UInt8))))) p100vx26))) ((history_checker_step p2e p100vx0 p100vx1 p100vx2 p100vx3 p100vx4 p100vx5 p100vx6 p100vx7 p100vx8 p100vx9 p100vx10 p100vx11 p100vx12 p100vx13 p100vx16 p100vx17 p100vx18 p100vx19 p100vx20 p100vx21 p100vx22 p100vx23 p100vx24 p100vx26).bind fun (x13 : (Bool × Bool × HistoryChecker)) => cond x13.2.1 (some (x13.1, x13.2.2)) (cond (cond (cond (decide (p100vx0 = (2 : Int))) (!decide (p2e.Kind = (33 : Int))) false) (!decide (p2e.Kind = (34 : Int))) false) (some (false, x13.2.2)) ((event_IsCommand p2e.Kind).bind fun (x19 : Bool) => cond x19 ((gd ((decide (p100vx3 = (4 : Int))) == false) (event_IsCommand p100vx3)).bind fun (x22 : Bool) => some ((cond (decide (p100vx3 = (4 : Int))) true x22), x13.2.2)) (some (true, x13.2.2)))))))
theorem w_history_checker_allows {p1at : Int} {p2e : ApiEvent} {p100vx0 : Int} {p100vx1 : Int} {p100vx2 : Int} {p100vx3 : Int} {p100vx4 : Int} {p100vx5 : Int} {p100vx6 : Int} {p100vx7 : Int} {p100vx8 : Int} {p100vx9 : (List UInt8)} {p100vx10 : (List UInt8)} {p100vx11 : Int} {p100vx12 : Int} {p100vx13 : (List UInt8)} {p100vx16 : (List UInt8)} {p100vx17 : Int} {p100vx18 : Int} {p100vx19 : Int} {p100vx20 : Int} {p100vx21 : Int} {p100vx22 : Int} {p100vx23 : Int} {p100vx24 : Int} {p100vx26 : Bool} {res : (Bool × HistoryChecker)} (h : history_checker_allows p1at p2e p100vx0 p100vx1 p100vx2 p100vx3 p100vx4 p100vx5 p100vx6 p100vx7 p100vx8 p100vx9 p100vx10 p100vx11 p100vx12 p100vx13 p100vx16 p100vx17 p100vx18 p100vx19 p100vx20 p100vx21 p100vx22 p100vx23 p100vx24 p100vx26 = some res) : ACalls Tryd.prog 86 [.box 0 0, .c (.int .i64 p1at), .agg (AV.cs (rowApiEvent p2e))] [[.c (.int .i64 p100vx0), .c (.int .i64 p100vx1), .c (.int .i64 p100vx2), .c (.int .i64 p100vx3), .c (.int .i64 p100vx4), .c (.int .i64 p100vx5), .c (.int .i64 p100vx6), .c (.int .i64 p100vx7), .c (.int .i64 p100vx8), .c (.str p100vx9), .c (.str p100vx10), .c (.int .i64 p100vx11), .c (.int .i64 p100vx12), .c (.str p100vx13), AV.nil, AV.nil, .c (.str p100vx16), .c (.int .i64 p100vx17), .c (.int .i64 p100vx18), .c (.int .i64 p100vx19), .c (.int .i64 p100vx20), .c (.int .i64 p100vx21), .c (.int .i64 p100vx22), .c (.int .i64 p100vx23), .c (.int .i64 p100vx24), AV.nil, .c (.bool p100vx26)]] (.c (.bool res.1)) [AV.cs (rowHistoryChecker res.2)] := by
 unfold history_checker_allows at h
 refine acalls (fn := Tryd.f86) [0, 1, 2, 5, 6, 7, 8, 9, 10, 15, 33, 65, 68, 80] (by kernel_rfl) Tryd.func86 rfl (by kernel_rfl) (by kernel_rfl) <| w_sr <| o_box (v := .agg aIIIIIIISSIISLLSIIIIIIIIL) (n := 1) (cs := aIIIIIIISSIISLLSIIIIIIIIL) (σ' := [[aI, aI, aI, aI, aI, aI, aI, aI, aI, aS, aS, aI, aI, aS, AV.nil, AV.nil, aS, aI, aI, aI, aI, aI, aI, aI, aI, AV.nil, aB], aIIIIIIISSIISLLSIIIIIIIIL]) rfl rfl rfl rfl rfl <| sB rfl <| o_ek (fr' := [(0, .box 0 0), (1, aI), (5, .box 1 0)]) rfl rfl <| w_sr <| mV (v := .box 0 0) rfl <| o_p rfl (p_nc rfl) <| o_p rfl (p_fa tf153x2 rfl) <| o_p rfl (p_loads (us := [aI, aI, aI, aI, aI, aI, aI, aS, aS, aI, aI, aS, AV.nil, AV.nil, aS, aI, aI, aI, aI, aI, aI, aI, aI, AV.nil]) tv116 rfl rfl rfl rfl) <| o_alloc (n := 2) (cs := [aI, aI, aI, aI, aI, aI, aI, aS, aS, aI, aI, aS, AV.nil, AV.nil, aS, aI, aI, aI, aI, aI, aI, aI, aI, AV.nil]) (σ' := [[aI, aI, aI, aI, aI, aI, aI, aI, aI, aS, aS, aI, aI, aS, AV.nil, AV.nil, aS, aI, aI, aI, aI, aI, aI, aI, aI, AV.nil, aB], aIIIIIIISSIISLLSIIIIIIIIL, [aI, aI, aI, aI, aI, aI, aI, aS, aS, aI, aI, aS, AV.nil, AV.nil, aS, aI, aI, aI, aI, aI, aI, aI, aI, AV.nil]]) tz116 rfl rfl rfl ?_
 refine o_store (v := .agg [aI, aI, aI, aI, aI, aI, aI, aS, aS, aI, aI, aS, AV.nil, AV.nil, aS, aI, aI, aI, aI, aI, aI, aI, aI, AV.nil]) (us := [aI, aI, aI, aI, aI, aI, aI, aS, aS, aI, aI, aS, AV.nil, AV.nil, aS, aI, aI, aI, aI, aI, aI, aI, aI, AV.nil]) (cs := [aI, aI, aI, aI, aI, aI, aI, aS, aS, aI, aI, aS, AV.nil, AV.nil, aS, aI, aI, aI, aI, aI, aI, aI, aI, AV.nil]) (σ' := [[aI, aI, aI, aI, aI, aI, aI, aI, aI, aS, aS, aI, aI, aS, AV.nil, AV.nil, aS, aI, aI, aI, aI, aI, aI, aI, aI, AV.nil, aB], aIIIIIIISSIISLLSIIIIIIIIL, [aI, aI, aI, aI, aI, aI, aI, aS, aS, aI, aI, aS, AV.nil, AV.nil, aS, aI, aI, aI, aI, aI, aI, aI, aI, AV.nil]]) rfl tv116 rfl rfl rfl rfl rfl rfl rfl rfl <| o_ek (fr' := [(0, .box 0 0), (1, aI), (5, .box 1 0), (7, .box 2 0)]) rfl rfl <| w_seqw <| w_block ?_
 obtain ⟨x1, hx1, h2⟩ := bind_s h
 refine w_join (fun j3 => x1 = j3) (fun (j3 : Bool) => ([(0, .box 0 0), (1, .c (.int .i64 p1at)), (5, .box 1 0), (7, .box 2 0), (15, .c (.bool j3))] : Fr)) (fun (j3 : Bool) => ([[.c (.int .i64 p100vx0), .c (.int .i64 p100vx1), .c (.int .i64 p100vx2), .c (.int .i64 p100vx3), .c (.int .i64 p100vx4), .c (.int .i64 p100vx5), .c (.int .i64 p100vx6), .c (.int .i64 p100vx7), .c (.int .i64 p100vx8), .c (.str p100vx9), .c (.str p100vx10), .c (.int .i64 p100vx11), .c (.int .i64 p100vx12), .c (.str p100vx13), AV.nil, AV.nil, .c (.str p100vx16), .c (.int .i64 p100vx17), .c (.int .i64 p100vx18), .c (.int .i64 p100vx19), .c (.int .i64 p100vx20), .c (.int .i64 p100vx21), .c (.int .i64 p100vx22), .c (.int .i64 p100vx23), .c (.int .i64 p100vx24), AV.nil, .c (.bool p100vx26)], [.c (.int .i64 p2e.ID), .c (.int .i64 p2e.Kind), .c (.int .i64 p2e.Time), .c (.int .i64 p2e.Seq), .c (.int .i64 p2e.Ref), .c (.int .i64 p2e.N), .c (.int .i64 p2e.Code), .c (.str p2e.Name), .c (.str p2e.Key), .c (.int .i64 p2e.Data.Kind), .c (.int .i64 p2e.Data.Int), .c (.str p2e.Data.Text), .c (PV.ls 5 rowApiValue p2e.Data.Items), .c (PV.ls 1 rowS p2e.Data.Keys), .c (.str p2e.Opts.Queue), .c (.int .i64 p2e.Opts.ToStart), .c (.int .i64 p2e.Opts.ToClose), .c (.int .i64 p2e.Opts.Total), .c (.int .i64 p2e.Opts.Beat), .c (.int .i64 p2e.Opts.First), .c (.int .i64 p2e.Opts.Coef), .c (.int .i64 p2e.Opts.Most), .c (.int .i64 p2e.Opts.Attempts), .c (PV.ls 1 rowS p2e.Opts.Fatal)], [.c (.int .i64 p100vx2), .c (.int .i64 p100vx3), .c (.int .i64 p100vx4), .c (.int .i64 p100vx5), .c (.int .i64 p100vx6), .c (.int .i64 p100vx7), .c (.int .i64 p100vx8), .c (.str p100vx9), .c (.str p100vx10), .c (.int .i64 p100vx11), .c (.int .i64 p100vx12), .c (.str p100vx13), AV.nil, AV.nil, .c (.str p100vx16), .c (.int .i64 p100vx17), .c (.int .i64 p100vx18), .c (.int .i64 p100vx19), .c (.int .i64 p100vx20), .c (.int .i64 p100vx21), .c (.int .i64 p100vx22), .c (.int .i64 p100vx23), .c (.int .i64 p100vx24), AV.nil]] : St)) ?_ ?_
 ·
  refine w_sr <| mV (v := .box 0 0) rfl <| o_p rfl (p_nc rfl) <| o_p rfl (p_fa tf153x3 rfl) <| o_p rfl (p_load (v := aB) tv4 rfl rfl rfl) <| sB rfl <| o_ek (fr' := [(0, .box 0 0), (1, aI), (5, .box 1 0), (7, .box 2 0), (15, aB)]) rfl rfl <| w_ch hx1 rfl (fun hb4 h4 => ?_) (fun hb4 h4 => ?_)
  ·
   exact w_skip <| e_j _ (sy h4) (w_weak [] 3 rfl rfl rfl rfl ⟨lr, lr, lr, lr, lr, trivial⟩ (st_r rfl (st_r rfl (st_r rfl st_nil))))
  ·
   refine w_sr <| mI rfl <| o_p rfl (p_eql rfl rfl) <| o_p rfl (p_fa tf116x1 rfl) <| o_p rfl (p_load (v := aI) tv3 rfl rfl rfl) <| o_p rfl (p_eql rfl rfl) <| o_p rfl (p_bneq ti4 rfl rfl) <| sB rfl <| o_ek (fr' := [(0, .box 0 0), (1, aI), (5, .box 1 0), (7, .box 2 0), (15, aB)]) rfl rfl <| w_ch h4 rfl (fun hb5 h5 => ?_) (fun hb5 h5 => ?_)
   ·
    exact w_skip <| e_j _ (sy h5) (w_weak [] 3 rfl rfl rfl rfl ⟨lr, lr, lr, lr, lr, trivial⟩ (st_r rfl (st_r rfl (st_r rfl st_nil))))
   ·
    exact w_region <| mI rfl <| o_p rfl (p_eql rfl rfl) <| mB rfl <| og rfl rfl rfl (fun hc => (p_fa tf116x1 rfl)) <| og rfl rfl rfl (fun hc => (p_load (v := aI) tv3 (gx rfl hc) rfl rfl)) <| og rfl rfl rfl (fun hc => (p_neq (gx rfl hc) rfl)) <| o_p rfl (p_picky rfl rfl rfl (fun e => keq e)) <| sB rfl <| o_end (fr' := [(0, .box 0 0), (1, aI), (5, .box 1 0), (7, .box 2 0), (15, aB)]) rfl <| e_j _ (sy h5) (w_weak [] 3 rfl rfl rfl rfl ⟨lr, lr, lr, lr, lr, trivial⟩ (st_r rfl (st_r rfl (st_r rfl st_nil))))
 ·
  intro j3 hj6
  subst hj6
  refine w_ch h2 rfl (fun hb7 h7 => ?_) (fun hb7 h7 => ?_)
  ·
   refine w_sr <| sB rfl <| o_ek (fr' := [(6, aB)]) rfl rfl <| w_ret <| e_blk_r <| e_seq_r ?_
   obtain rfl := sy h7
   exact e_ret (rs' := [.tmp 6]) rfl <| r_tmp (v := aB) rfl <| r_nil <| fin_gen [] rfl rfl rfl lr (st_c ⟨rfl, rfl, rfl, rfl, rfl, rfl, rfl, rfl, rfl, rfl, rfl, rfl, rfl, rfl, ⟨_, rfl⟩, ⟨_, rfl⟩, rfl, rfl, rfl, rfl, rfl, rfl, rfl, rfl, rfl, ⟨_, rfl⟩, rfl, trivial⟩ st_nil)
  ·
   refine w_sr <| mI rfl <| o_p rfl (p_gtr rfl rfl) <| mB rfl <| og rfl rfl rfl (fun hc => (p_fa tf116x1 rfl)) <| og rfl rfl rfl (fun hc => (p_load (v := aI) tv3 (gx rfl hc) rfl rfl)) <| og rfl rfl rfl (fun hc => (p_eql (gx rfl hc) rfl)) <| o_p rfl (p_picky rfl rfl rfl (fun e => keq e)) <| mB rfl <| og rfl rfl rfl (fun hc => (p_fa tf116x1 rfl)) <| og rfl rfl rfl (fun hc => (p_load (v := aI) tv3 (gx rfl hc) rfl rfl)) ?_
   obtain ⟨x9, hx9, h10⟩ := bind_s h7
   refine o_g rfl rfl (fun hc => ov_call (v := aB) rfl (w_history_closesActivity (gd_some hx9 hc)) ⟨(le_gv (gx rfl hc) lr), trivial⟩ (ok_eq (by repeat (first | exact ok_nil | refine ok_cons rfl ?_ | refine ok_cons (dgv rfl) ?_ | refine ok_cons dar ?_))) rfl rfl) ?_
   refine og rfl rfl rfl (fun hc => (p_not (gx rfl hc))) <| og rfl rfl rfl (fun hc => (p_move (v := aB) (gx rfl hc))) <| o_gg rfl rfl (fun hc => ov_p rfl (p_fa tf116x3 rfl)) <| o_gg rfl rfl (fun hc => ov_p rfl (p_load (v := aI) tv3 (gx rfl hc) rfl rfl)) <| o_gg rfl rfl (fun hc => ov_p rfl (p_fa tf116x3 rfl)) <| o_gg rfl rfl (fun hc => ov_p rfl (p_load (v := aI) tv3 (gx rfl hc) rfl rfl)) <| o_gg rfl rfl (fun hc => ov_p rfl (p_neq (gx rfl hc) (gx rfl hc))) <| og rfl rfl rfl (fun hc => (p_pickz (gx rfl hc) rfl rfl (fun e => band hc (keq e)))) <| o_p rfl (p_picky rfl rfl rfl (fun e => keq e)) <| sB rfl <| o_ek (fr' := [(0, .box 0 0), (5, .box 1 0), (7, .box 2 0), (33, aB)]) rfl rfl <| w_ch h10 rfl (fun hb11 h11 => ?_) (fun hb11 h11 => ?_)
   ·
    refine w_sr <| sB rfl <| o_ek (fr' := [(6, aB)]) rfl rfl <| w_ret <| e_blk_r <| e_seq_r ?_
    obtain rfl := sy h11
    exact e_ret (rs' := [.tmp 6]) rfl <| r_tmp (v := aB) rfl <| r_nil <| fin_gen [] rfl rfl rfl lr (st_c ⟨rfl, rfl, rfl, rfl, rfl, rfl, rfl, rfl, rfl, rfl, rfl, rfl, rfl, rfl, ⟨_, rfl⟩, ⟨_, rfl⟩, rfl, rfl, rfl, rfl, rfl, rfl, rfl, rfl, rfl, ⟨_, rfl⟩, rfl, trivial⟩ st_nil)
   ·
    refine w_skip <| e_blk_n <| e_kw <| w_sr <| mV (v := .box 0 0) rfl <| o_p rfl (p_nc rfl) <| o_p rfl (p_fa tf153x0 rfl) <| o_p rfl (p_load (v := aI) tv3 rfl rfl rfl) <| o_p rfl (p_eql rfl rfl) <| sB rfl <| o_ek (fr' := [(0, .box 0 0), (5, .box 1 0), (7, .box 2 0), (8, aB)]) rfl rfl <| w_seqw ?_
    refine w_region <| mV (v := .box 0 0) rfl <| o_p rfl (p_loads (us := aIIIIIIISSIISLLSIIIIIIIIL) tv116 rfl rfl rfl rfl) ?_
    obtain ⟨x13, hx13, h14⟩ := bind_s h11
    refine o_call (v := .tup [aB, aB]) (σ' := [aIIIIIIIIISSIISLLSIIIIIIIILB, aIIIIIIISSIISLLSIIIIIIIIL, [aI, aI, aI, aI, aI, aI, aI, aS, aS, aI, aI, aS, AV.nil, AV.nil, aS, aI, aI, aI, aI, aI, aI, aI, aI, AV.nil]]) [0] rfl (w_history_checker_step hx13) rfl rfl ⟨lr, (le_aggc rfl ⟨rfl, rfl, rfl, rfl, rfl, rfl, rfl, rfl, rfl, rfl, rfl, rfl, rfl, rfl, rfl, rfl, rfl, rfl, rfl, rfl, rfl, rfl, rfl, rfl, trivial⟩), trivial⟩ (st_p ⟨lr, lr, lr, lr, lr, lr, lr, lr, lr, lr, lr, lr, lr, lr, lr, lr, lr, lr, lr, lr, lr, lr, lr, lr, lr, lr, lr, trivial⟩ st_nil) rfl rfl rfl <| mV (v := .tup [aB, aB]) rfl <| o_p rfl (p_ex (v := aB) rfl rfl) <| o_p rfl (p_ex (v := aB) rfl rfl) <| sB rfl <| sB rfl <| o_ek (fr' := [(5, .box 1 0), (7, .box 2 0), (8, aB), (9, aB), (10, aB)]) rfl rfl <| w_seqw <| w_block <| w_sr <| mB rfl <| sB rfl ?_
    refine o_ek (fr' := [(5, .box 1 0), (7, .box 2 0), (8, aB), (9, aB), (65, aB)]) rfl rfl <| w_ch h14 rfl (fun hb15 h15 => ?_) (fun hb15 h15 => ?_)
    ·
     refine w_sr <| mB rfl <| sB rfl <| o_ek (fr' := [(6, aB)]) rfl rfl <| w_ret <| e_blk_r <| e_seq_r ?_
     obtain rfl := sy h15
     exact e_ret (rs' := [.tmp 6]) rfl <| r_tmp (v := aB) rfl <| r_nil <| fin_gen [] rfl rfl rfl lr (st_c ⟨rfl, rfl, rfl, rfl, rfl, rfl, rfl, rfl, rfl, rfl, rfl, rfl, rfl, rfl, rfl, rfl, rfl, rfl, rfl, rfl, rfl, rfl, rfl, rfl, rfl, rfl, rfl, trivial⟩ st_nil)
    ·
     refine w_sr <| mB rfl <| mB rfl <| og rfl rfl rfl (fun hc => (p_fa tf116x1 rfl)) <| og rfl rfl rfl (fun hc => (p_load (v := aI) tv3 (gx rfl hc) rfl rfl)) <| og rfl rfl rfl (fun hc => (p_neq (gx rfl hc) rfl)) <| o_p rfl (p_picky rfl rfl rfl (fun e => keq e)) <| mB rfl <| og rfl rfl rfl (fun hc => (p_fa tf116x1 rfl)) <| og rfl rfl rfl (fun hc => (p_load (v := aI) tv3 (gx rfl hc) rfl rfl)) <| og rfl rfl rfl (fun hc => (p_neq (gx rfl hc) rfl)) <| o_p rfl (p_picky rfl rfl rfl (fun e => keq e)) ?_
     refine sB rfl <| o_ek (fr' := [(5, .box 1 0), (7, .box 2 0), (68, aB)]) rfl rfl <| w_ch h15 rfl (fun hb17 h17 => ?_) (fun hb17 h17 => ?_)
     ·
      refine w_sr <| sB rfl <| o_ek (fr' := [(6, aB)]) rfl rfl <| w_ret <| e_blk_r <| e_seq_r ?_
      obtain rfl := sy h17
      exact e_ret (rs' := [.tmp 6]) rfl <| r_tmp (v := aB) rfl <| r_nil <| fin_gen [] rfl rfl rfl lr (st_c ⟨rfl, rfl, rfl, rfl, rfl, rfl, rfl, rfl, rfl, rfl, rfl, rfl, rfl, rfl, rfl, rfl, rfl, rfl, rfl, rfl, rfl, rfl, rfl, rfl, rfl, rfl, rfl, trivial⟩ st_nil)
     ·
      refine w_sr <| o_p rfl (p_fa tf116x1 rfl) <| o_p rfl (p_load (v := aI) tv3 rfl rfl rfl) ?_
      obtain ⟨x19, hx19, h20⟩ := bind_s h17
      refine o_v (ov_call (v := aB) rfl (w_event_IsCommand hx19) ⟨lr, trivial⟩ rfl rfl rfl) <| sB rfl <| o_ek (fr' := [(7, .box 2 0), (80, aB)]) rfl rfl <| w_ch h20 rfl (fun hb21 h21 => ?_) (fun hb21 h21 => ?_)
      ·
       refine w_sr <| o_p rfl (p_fa tf116x1 rfl) <| o_p rfl (p_load (v := aI) tv3 rfl rfl rfl) <| o_p rfl (p_eql rfl rfl) <| mB rfl <| og rfl rfl rfl (fun hc => (p_fa tf116x1 rfl)) <| og rfl rfl rfl (fun hc => (p_load (v := aI) tv3 (gx rfl hc) rfl rfl)) ?_
       obtain ⟨x22, hx22, h23⟩ := bind_s h21
       refine o_g rfl rfl (fun hc => ov_call (v := aB) rfl (w_event_IsCommand (gd_some hx22 hc)) ⟨(le_gv (gx rfl hc) lr), trivial⟩ (ok_eq (by repeat (first | exact ok_nil | refine ok_cons rfl ?_ | refine ok_cons (dgv rfl) ?_ | refine ok_cons dar ?_))) rfl rfl) ?_
       refine o_p rfl (p_pickz rfl rfl rfl (fun e => keq e)) <| sB rfl <| o_ek (fr' := [(6, aB)]) rfl rfl <| w_ret <| e_blk_r <| e_seq_r ?_
       obtain rfl := sy h23
       exact e_ret (rs' := [.tmp 6]) rfl <| r_tmp (v := aB) rfl <| r_nil <| fin_gen [] rfl rfl rfl lr (st_c ⟨rfl, rfl, rfl, rfl, rfl, rfl, rfl, rfl, rfl, rfl, rfl, rfl, rfl, rfl, rfl, rfl, rfl, rfl, rfl, rfl, rfl, rfl, rfl, rfl, rfl, rfl, rfl, trivial⟩ st_nil)
      ·
       refine w_skip <| e_blk_n <| e_kw <| w_sr <| sB rfl <| o_ek (fr' := [(6, aB)]) rfl rfl <| w_ret ?_
       obtain rfl := sy h21
       exact e_ret (rs' := [.tmp 6]) rfl <| r_tmp (v := aB) rfl <| r_nil <| fin_gen [] rfl rfl rfl lr (st_c ⟨rfl, rfl, rfl, rfl, rfl, rfl, rfl, rfl, rfl, rfl, rfl, rfl, rfl, rfl, rfl, rfl, rfl, rfl, rfl, rfl, rfl, rfl, rfl, rfl, rfl, rfl, rfl, trivial⟩ st_nil)
noncomputable def event_Status (p0kind : Int) : Option (Int × Bool) :=
 cond (decide (p0kind = (30 : Int))) (some ((1 : Int), true)) (cond (decide (p0kind = (31 : Int))) (some ((2 : Int), true)) (cond (decide (p0kind = (32 : Int))) (some ((3 : Int), true)) (cond (decide (p0kind = (33 : Int))) (some ((4 : Int), true)) (cond (decide (p0kind = (34 : Int))) (some ((5 : Int), true)) (cond (decide (p0kind = (35 : Int))) (some ((6 : Int), true)) (some ((0 : Int), false)))))))
theorem w_event_Status {p0kind : Int} {res : (Int × Bool)} (h : event_Status p0kind = some res) : ACalls Tryd.prog 84 [.c (.int .i64 p0kind)] [] (.tup [.c (.int .i64 res.1), .c (.bool res.2)]) [] := by
 unfold event_Status at h
 refine acalls (fn := Tryd.f84) [0, 2, 3, 4, 5, 7, 9, 11, 13, 15] (by kernel_rfl) Tryd.func84 rfl (by kernel_rfl) (by kernel_rfl) <| w_sr <| sI rfl <| sB rfl <| o_ek (fr' := [(0, aI)]) rfl rfl <| w_seqw <| w_sr <| mI rfl <| o_ek (fr' := [(4, aI)]) rfl rfl <| w_block <| w_seqw ?_
 refine w_region <| o_p rfl (p_eql rfl rfl) <| sB rfl <| o_ek (fr' := [(4, aI), (5, aB)]) rfl rfl <| w_ch h rfl (fun hb1 h1 => ?_) (fun hb1 h1 => ?_)
 ·
  refine w_sr <| sI rfl <| sB rfl <| o_ek (fr' := [(2, aI), (3, aB)]) rfl rfl <| w_ret <| e_blk_r <| e_seq_r ?_
  obtain rfl := sy h1
  exact e_ret (rs' := [.tmp 2, .tmp 3]) rfl <| r_tmp (v := aI) rfl <| r_tmp (v := aB) rfl <| r_nil <| fin_gen [] rfl rfl rfl (le_tupp rfl ⟨lr, lr, trivial⟩) st_nil
 ·
  refine w_sr <| o_p rfl (p_eql rfl rfl) <| sB rfl <| o_ek (fr' := [(4, aI), (7, aB)]) rfl rfl <| w_ch h1 rfl (fun hb3 h3 => ?_) (fun hb3 h3 => ?_)
  ·
   refine w_sr <| sI rfl <| sB rfl <| o_ek (fr' := [(2, aI), (3, aB)]) rfl rfl <| w_ret <| e_blk_r <| e_seq_r ?_
   obtain rfl := sy h3
   exact e_ret (rs' := [.tmp 2, .tmp 3]) rfl <| r_tmp (v := aI) rfl <| r_tmp (v := aB) rfl <| r_nil <| fin_gen [] rfl rfl rfl (le_tupp rfl ⟨lr, lr, trivial⟩) st_nil
  ·
   refine w_sr <| o_p rfl (p_eql rfl rfl) <| sB rfl <| o_ek (fr' := [(4, aI), (9, aB)]) rfl rfl <| w_ch h3 rfl (fun hb5 h5 => ?_) (fun hb5 h5 => ?_)
   ·
    refine w_sr <| sI rfl <| sB rfl <| o_ek (fr' := [(2, aI), (3, aB)]) rfl rfl <| w_ret <| e_blk_r <| e_seq_r ?_
    obtain rfl := sy h5
    exact e_ret (rs' := [.tmp 2, .tmp 3]) rfl <| r_tmp (v := aI) rfl <| r_tmp (v := aB) rfl <| r_nil <| fin_gen [] rfl rfl rfl (le_tupp rfl ⟨lr, lr, trivial⟩) st_nil
   ·
    refine w_sr <| o_p rfl (p_eql rfl rfl) <| sB rfl <| o_ek (fr' := [(4, aI), (11, aB)]) rfl rfl <| w_ch h5 rfl (fun hb7 h7 => ?_) (fun hb7 h7 => ?_)
    ·
     refine w_sr <| sI rfl <| sB rfl <| o_ek (fr' := [(2, aI), (3, aB)]) rfl rfl <| w_ret <| e_blk_r <| e_seq_r ?_
     obtain rfl := sy h7
     exact e_ret (rs' := [.tmp 2, .tmp 3]) rfl <| r_tmp (v := aI) rfl <| r_tmp (v := aB) rfl <| r_nil <| fin_gen [] rfl rfl rfl (le_tupp rfl ⟨lr, lr, trivial⟩) st_nil
    ·
     refine w_sr <| o_p rfl (p_eql rfl rfl) <| sB rfl <| o_ek (fr' := [(4, aI), (13, aB)]) rfl rfl <| w_ch h7 rfl (fun hb9 h9 => ?_) (fun hb9 h9 => ?_)
     ·
      refine w_sr <| sI rfl <| sB rfl <| o_ek (fr' := [(2, aI), (3, aB)]) rfl rfl <| w_ret <| e_blk_r <| e_seq_r ?_
      obtain rfl := sy h9
      exact e_ret (rs' := [.tmp 2, .tmp 3]) rfl <| r_tmp (v := aI) rfl <| r_tmp (v := aB) rfl <| r_nil <| fin_gen [] rfl rfl rfl (le_tupp rfl ⟨lr, lr, trivial⟩) st_nil
     ·
      refine w_sr <| o_p rfl (p_eql rfl rfl) <| sB rfl <| o_ek (fr' := [(15, aB)]) rfl rfl <| w_ch h9 rfl (fun hb11 h11 => ?_) (fun hb11 h11 => ?_)
      ·
       refine w_sr <| sI rfl <| sB rfl <| o_ek (fr' := [(2, aI), (3, aB)]) rfl rfl <| w_ret <| e_blk_r <| e_seq_r ?_
       obtain rfl := sy h11
       exact e_ret (rs' := [.tmp 2, .tmp 3]) rfl <| r_tmp (v := aI) rfl <| r_tmp (v := aB) rfl <| r_nil <| fin_gen [] rfl rfl rfl (le_tupp rfl ⟨lr, lr, trivial⟩) st_nil
      ·
       refine w_skip <| e_blk_n <| e_kw <| w_sr <| sI rfl <| sB rfl <| o_ek (fr' := [(2, aI), (3, aB)]) rfl rfl <| w_ret ?_
       obtain rfl := sy h11
       exact e_ret (rs' := [.tmp 2, .tmp 3]) rfl <| r_tmp (v := aI) rfl <| r_tmp (v := aB) rfl <| r_nil <| fin_gen [] rfl rfl rfl (le_tupp rfl ⟨lr, lr, trivial⟩) st_nil
noncomputable def event_Closes (p0kind : Int) : Option Bool :=
 (event_Status p0kind).bind fun (x1 : (Int × Bool)) => some x1.2
theorem w_event_Closes {p0kind : Int} {res : Bool} (h : event_Closes p0kind = some res) : ACalls Tryd.prog 87 [.c (.int .i64 p0kind)] [] (.c (.bool res)) [] := by
 unfold event_Closes at h
 refine acalls (fn := Tryd.f87) [0, 2, 4] (by kernel_rfl) Tryd.func87 rfl (by kernel_rfl) (by kernel_rfl) <| w_sr <| sB rfl <| o_ek (fr' := [(0, aI)]) rfl rfl <| w_sr <| mI rfl ?_
 obtain ⟨x1, hx1, h2⟩ := bind_s h
 refine o_v (ov_call (v := .tup [aI, aB]) rfl (w_event_Status hx1) ⟨lr, trivial⟩ rfl rfl rfl) <| mV (v := .tup [aI, aB]) rfl <| o_p rfl (p_ex (v := aI) rfl rfl) <| o_p rfl (p_ex (v := aB) rfl rfl) <| sI rfl <| sB rfl <| o_ek (fr' := [(4, aB)]) rfl rfl <| w_sr <| mB rfl <| sB rfl <| o_ek (fr' := [(2, aB)]) rfl rfl <| w_ret ?_
 obtain rfl := sy h2
 exact e_ret (rs' := [.tmp 2]) rfl <| r_tmp (v := aB) rfl <| r_nil <| fin_gen [] rfl rfl rfl lr st_nil
noncomputable def history_Check_l1 (p0l : (List ApiEvent)) (s6 : (Int × HistoryChecker)) : Option (Step (Int × HistoryChecker) (Fl Int HistoryChecker)) :=
 cond (decide (s6.1 < ((p0l).length : Int))) ((idx p0l s6.1).bind fun (x8 : ApiEvent) => (event_Right x8).bind fun (x10 : Bool) => cond (!x10) (some (Step.out (Fl.done (11 : Int)))) (cond (cond (!decide (x8.ID = (IntKind.wrap .i64 (s6.1 + (1 : Int))))) true (cond (decide ((0 : Int) < s6.1)) (decide (x8.Time < s6.2.before_.Time)) false)) (some (Step.out (Fl.done (30 : Int)))) ((history_checker_allows_v2 s6.1 x8 s6.2).bind fun (x20 : (Bool × HistoryChecker)) => cond (!x20.1) (some (Step.out (Fl.done (16 : Int)))) ((event_Closes x8.Kind).bind fun (x26 : Bool) => some (Step.next ((IntKind.wrap .i64 (s6.1 + (1 : Int))), (HistoryChecker.mk x20.2.task_ x20.2.ref_ x8 x26))))))) (some (Step.out (Fl.go s6.2)))
noncomputable def history_Check (p0l : (List ApiEvent)) : Option Int :=
 cond (decide ((2000 : Int) < ((p0l).length : Int))) (some (6 : Int)) (((loopO (history_Check_l1 p0l) (((0 : Int), (HistoryChecker.mk (0 : Int) (0 : Int) (ApiEvent.mk (0 : Int) (0 : Int) (0 : Int) (0 : Int) (0 : Int) (0 : Int) (0 : Int) ([] : List UInt8) ([] : List UInt8) (ApiValue.mk (0 : Int) (0 : Int) ([] : List UInt8) ([] : (List ApiValue)) ([] : (List (List UInt8)))) (ApiPolicy.mk ([] : List UInt8) (0 : Int) (0 : Int) (0 : Int) (0 : Int) (0 : Int) (0 : Int) (0 : Int) (0 : Int) ([] : (List (List UInt8))))) false)))) : Option (Fl Int HistoryChecker)).bind fun (x3 : (Fl Int HistoryChecker)) => Fl.next x3 (fun (j5 : HistoryChecker) => (some (0 : Int))))
theorem w_history_Check {p0l : (List ApiEvent)} {res : Int} (h : history_Check p0l = some res) : ACalls Tryd.prog 50 [.c (PV.ls 24 rowApiEvent p0l)] [] (.c (.int .i64 res)) [] := by
 unfold history_Check at h
 refine acalls (fn := Tryd.f50) [0, 2, 3, 4, 5, 8, 9, 10, 11, 12, 16, 20, 38] (by kernel_rfl) Tryd.func50 rfl (by kernel_rfl) (by kernel_rfl) <| w_sr <| sI rfl <| o_ek (fr' := [(0, aL)]) rfl rfl <| w_seqw <| w_sr <| mL rfl <| o_p rfl (p_len ti63 (isl_c rfl)) <| o_p rfl (p_gtr rfl rfl) <| o_ek (fr' := [(0, aL), (8, aB)]) rfl rfl <| w_ch h rfl (fun hb1 h1 => ?_) (fun hb1 h1 => ?_)
 ·
  refine w_sr <| sI rfl <| o_ek (fr' := [(2, aI)]) rfl rfl <| w_ret <| e_seq_r ?_
  obtain rfl := sy h1
  exact e_ret (rs' := [.tmp 2]) rfl <| r_tmp (v := aI) rfl <| r_nil <| fin_gen [] rfl rfl rfl lr st_nil
 ·
  refine w_skip <| e_kw <| w_sr <| o_alloc (n := 0) (cs := [aI, aI, aI, aI, aI, aI, aI, aI, aI, aS, aS, aI, aI, aS, AV.nil, AV.nil, aS, aI, aI, aI, aI, aI, aI, aI, aI, AV.nil, aB]) (σ' := [[aI, aI, aI, aI, aI, aI, aI, aI, aI, aS, aS, aI, aI, aS, AV.nil, AV.nil, aS, aI, aI, aI, aI, aI, aI, aI, aI, AV.nil, aB]]) tz153 rfl rfl rfl <| o_ek (fr' := [(0, aL), (3, .box 0 0)]) rfl rfl <| w_seqw <| w_sr <| mL rfl <| o_p rfl (p_len ti63 (isl_c rfl)) <| mI rfl <| o_ek (fr' := [(3, .box 0 0), (9, aL), (10, aI), (11, aI)]) rfl rfl ?_
  obtain ⟨x3, hx3, h4⟩ := bind_s h1
  refine w_jtail cl_kw (fun j5 => x3 = Fl.go j5) (fun (j5 : HistoryChecker) => ([] : Fr)) (fun (j5 : HistoryChecker) => ([[.c (.int .i64 j5.task_), .c (.int .i64 j5.ref_), .c (.int .i64 j5.before_.ID), .c (.int .i64 j5.before_.Kind), .c (.int .i64 j5.before_.Time), .c (.int .i64 j5.before_.Seq), .c (.int .i64 j5.before_.Ref), .c (.int .i64 j5.before_.N), .c (.int .i64 j5.before_.Code), .c (.str j5.before_.Name), .c (.str j5.before_.Key), .c (.int .i64 j5.before_.Data.Kind), .c (.int .i64 j5.before_.Data.Int), .c (.str j5.before_.Data.Text), .c (PV.ls 5 rowApiValue j5.before_.Data.Items), .c (PV.ls 1 rowS j5.before_.Data.Keys), .c (.str j5.before_.Opts.Queue), .c (.int .i64 j5.before_.Opts.ToStart), .c (.int .i64 j5.before_.Opts.ToClose), .c (.int .i64 j5.before_.Opts.Total), .c (.int .i64 j5.before_.Opts.Beat), .c (.int .i64 j5.before_.Opts.First), .c (.int .i64 j5.before_.Opts.Coef), .c (.int .i64 j5.before_.Opts.Most), .c (.int .i64 j5.before_.Opts.Attempts), .c (PV.ls 1 rowS j5.before_.Opts.Fatal), .c (.bool j5.closed_)]] : St)) ?_ ?_
  ·
   refine w_block <| w_loopo _ (fun (s6 : (Int × HistoryChecker)) => ([(3, .box 0 0), (9, .c (PV.ls 24 rowApiEvent p0l)), (10, .c (.int .i64 ((p0l).length : Int))), (11, .c (.int .i64 s6.1))] : Fr)) (fun (s6 : (Int × HistoryChecker)) => ([[.c (.int .i64 s6.2.task_), .c (.int .i64 s6.2.ref_), .c (.int .i64 s6.2.before_.ID), .c (.int .i64 s6.2.before_.Kind), .c (.int .i64 s6.2.before_.Time), .c (.int .i64 s6.2.before_.Seq), .c (.int .i64 s6.2.before_.Ref), .c (.int .i64 s6.2.before_.N), .c (.int .i64 s6.2.before_.Code), .c (.str s6.2.before_.Name), .c (.str s6.2.before_.Key), .c (.int .i64 s6.2.before_.Data.Kind), .c (.int .i64 s6.2.before_.Data.Int), .c (.str s6.2.before_.Data.Text), .c (PV.ls 5 rowApiValue s6.2.before_.Data.Items), .c (PV.ls 1 rowS s6.2.before_.Data.Keys), .c (.str s6.2.before_.Opts.Queue), .c (.int .i64 s6.2.before_.Opts.ToStart), .c (.int .i64 s6.2.before_.Opts.ToClose), .c (.int .i64 s6.2.before_.Opts.Total), .c (.int .i64 s6.2.before_.Opts.Beat), .c (.int .i64 s6.2.before_.Opts.First), .c (.int .i64 s6.2.before_.Opts.Coef), .c (.int .i64 s6.2.before_.Opts.Most), .c (.int .i64 s6.2.before_.Opts.Attempts), .c (PV.ls 1 rowS s6.2.before_.Opts.Fatal), .c (.bool s6.2.closed_)]] : St)) hx3 (w_weak [] 1 rfl rfl rfl rfl ⟨lr, lr, lr, lr, trivial⟩ (st_p ⟨lr, lr, lr, lr, lr, lr, lr, lr, lr, lr, lr, lr, lr, lr, le_nls, le_nls, lr, lr, lr, lr, lr, lr, lr, lr, lr, le_nls, lr, trivial⟩ st_nil)) ?_
   intro s6 st6 hs6 ho6
   unfold history_Check_l1 at hs6
   refine w_sr <| o_p rfl (p_lss rfl rfl) <| o_ek (fr' := [(3, .box 0 0), (9, aL), (10, aI), (11, aI), (12, aB)]) rfl rfl <| w_seqw <| w_ch hs6 rfl (fun hb7 h7 => ?_) (fun hb7 h7 => ?_)
   ·
    refine w_skip <| e_kw <| w_seqw <| w_block <| w_sr <| mI rfl ?_
    obtain ⟨x8, hx8, h9⟩ := bind_s h7
    refine o_p rfl (p_ia (cs := [PV.int _ _, PV.int _ _, PV.int _ _, PV.int _ _, PV.int _ _, PV.int _ _, PV.int _ _, PV.str _, PV.str _, PV.int _ _, PV.int _ _, PV.str _, PV.ls _ _ _, PV.ls _ _ _, PV.str _, PV.int _ _, PV.int _ _, PV.int _ _, PV.int _ _, PV.int _ _, PV.int _ _, PV.int _ _, PV.int _ _, PV.ls _ _ _]) ts63 (isl_c rfl) rfl hx8 rfl) <| o_p rfl (p_loades (us := [PV.int _ _, PV.int _ _, PV.int _ _, PV.int _ _, PV.int _ _, PV.int _ _, PV.int _ _, PV.str _, PV.str _, PV.int _ _, PV.int _ _, PV.str _, PV.ls _ _ _, PV.ls _ _ _, PV.str _, PV.int _ _, PV.int _ _, PV.int _ _, PV.int _ _, PV.int _ _, PV.int _ _, PV.int _ _, PV.int _ _, PV.ls _ _ _]) tv116 rfl rfl rfl) <| o_alloc (n := 1) (cs := [aI, aI, aI, aI, aI, aI, aI, aS, aS, aI, aI, aS, AV.nil, AV.nil, aS, aI, aI, aI, aI, aI, aI, aI, aI, AV.nil]) (σ' := [aIIIIIIIIISSIISLLSIIIIIIIILB, [aI, aI, aI, aI, aI, aI, aI, aS, aS, aI, aI, aS, AV.nil, AV.nil, aS, aI, aI, aI, aI, aI, aI, aI, aI, AV.nil]]) tz116 rfl rfl rfl <| sI rfl <| o_store (v := .agg aIIIIIIISSIISLLSIIIIIIIIL) (us := aIIIIIIISSIISLLSIIIIIIIIL) (cs := [aI, aI, aI, aI, aI, aI, aI, aS, aS, aI, aI, aS, AV.nil, AV.nil, aS, aI, aI, aI, aI, aI, aI, aI, aI, AV.nil]) (σ' := [aIIIIIIIIISSIISLLSIIIIIIIILB, aIIIIIIISSIISLLSIIIIIIIIL]) rfl tv116 rfl rfl rfl rfl rfl rfl rfl rfl <| o_ek (fr' := [(3, .box 0 0), (4, aI), (5, .box 1 0), (9, aL), (10, aI), (11, aI)]) rfl rfl <| w_seqw <| w_block <| w_sr <| o_p rfl (p_loads (us := aIIIIIIISSIISLLSIIIIIIIIL) tv116 rfl rfl rfl rfl) ?_
    obtain ⟨x10, hx10, h11⟩ := bind_s h9
    refine o_v (ov_call (v := aB) rfl (w_event_Right hx10) ⟨(le_aggc rfl ⟨rfl, rfl, rfl, rfl, rfl, rfl, rfl, rfl, rfl, rfl, rfl, rfl, rfl, rfl, rfl, rfl, rfl, rfl, rfl, rfl, rfl, rfl, rfl, rfl, trivial⟩), trivial⟩ rfl rfl rfl) <| o_p rfl (p_not rfl) <| sB rfl <| o_ek (fr' := [(3, .box 0 0), (4, aI), (5, .box 1 0), (9, aL), (10, aI), (11, aI), (16, aB)]) rfl rfl <| w_ch h11 rfl (fun hb12 h12 => ?_) (fun hb12 h12 => ?_)
    ·
     refine w_sr <| sI rfl <| o_ek (fr' := [(2, aI)]) rfl rfl <| w_ret <| e_blk_r <| e_seq_r <| e_blk_r <| e_seq_r <| e_seq_r <| e_blk_r <| e_seq_r <| e_seq_r ?_
     have h13 := un_out h12 ho6
     have h14 := un_done h13 h4
     obtain rfl := sy h14
     exact e_ret (rs' := [.tmp 2]) rfl <| r_tmp (v := aI) rfl <| r_nil <| fin_gen [] rfl rfl rfl lr st_nil
    ·
     refine w_sr <| o_p rfl (p_fa tf116x0 rfl) <| o_p rfl (p_load (v := aI) tv3 rfl rfl rfl) <| mI rfl <| o_p rfl (p_add rfl rfl) <| o_p rfl (p_neq rfl rfl) <| mB rfl <| og rfl rfl rfl (fun hc => (p_move (v := aI) rfl)) <| og rfl rfl rfl (fun hc => (p_gtr (gx rfl hc) rfl)) <| og rfl rfl rfl (fun hc => (p_move (v := aB) (gx rfl hc))) <| o_gg rfl rfl (fun hc => ov_p rfl (p_fa tf116x2 rfl)) <| o_gg rfl rfl (fun hc => ov_p rfl (p_load (v := aI) tv3 (gx rfl hc) rfl rfl)) ?_
     refine o_gg rfl rfl (fun hc => ov_p rfl (p_fa tf153x2 rfl)) <| o_gg rfl rfl (fun hc => ov_p rfl (p_fa tf116x2 (gx rfl hc))) <| o_gg rfl rfl (fun hc => ov_p rfl (p_load (v := aI) tv3 (gx rfl hc) rfl rfl)) <| o_gg rfl rfl (fun hc => ov_p rfl (p_lss (gx rfl hc) (gx rfl hc))) <| og rfl rfl rfl (fun hc => (p_picky (gx rfl hc) rfl rfl (fun e => band hc (keq e)))) <| o_p rfl (p_pickz rfl rfl rfl (fun e => keq e)) <| sB rfl <| o_ek (fr' := [(3, .box 0 0), (4, aI), (5, .box 1 0), (9, aL), (10, aI), (11, aI), (20, aB)]) rfl rfl <| w_ch h12 rfl (fun hb16 h16 => ?_) (fun hb16 h16 => ?_)
     ·
      refine w_sr <| sI rfl <| o_ek (fr' := [(2, aI)]) rfl rfl <| w_ret <| e_blk_r <| e_seq_r <| e_blk_r <| e_seq_r <| e_seq_r <| e_blk_r <| e_seq_r <| e_seq_r ?_
      have h17 := un_out h16 ho6
      have h18 := un_done h17 h4
      obtain rfl := sy h18
      exact e_ret (rs' := [.tmp 2]) rfl <| r_tmp (v := aI) rfl <| r_nil <| fin_gen [] rfl rfl rfl lr st_nil
     ·
      refine w_sr <| mI rfl <| o_p rfl (p_loads (us := aIIIIIIISSIISLLSIIIIIIIIL) tv116 rfl rfl rfl rfl) ?_
      obtain ⟨x20, hx20, h21⟩ := bind_s h16
      refine o_call (v := aB) (σ' := [aIIIIIIIIISSIISLLSIIIIIIIILB, aIIIIIIISSIISLLSIIIIIIIIL]) [0] rfl (w_history_checker_allows_v2 hx20) rfl rfl ⟨lr, lr, (le_aggc rfl ⟨rfl, rfl, rfl, rfl, rfl, rfl, rfl, rfl, rfl, rfl, rfl, rfl, rfl, rfl, rfl, rfl, rfl, rfl, rfl, rfl, rfl, rfl, rfl, rfl, trivial⟩), trivial⟩ (st_c ⟨rfl, rfl, rfl, rfl, rfl, rfl, rfl, rfl, rfl, rfl, rfl, rfl, rfl, rfl, rfl, rfl, rfl, rfl, rfl, rfl, rfl, rfl, rfl, rfl, rfl, rfl, rfl, trivial⟩ st_nil) rfl rfl rfl <| o_p rfl (p_not rfl) <| sB rfl <| o_ek (fr' := [(3, .box 0 0), (5, .box 1 0), (9, aL), (10, aI), (11, aI), (38, aB)]) rfl rfl <| w_ch h21 rfl (fun hb22 h22 => ?_) (fun hb22 h22 => ?_)
      ·
       refine w_sr <| sI rfl <| o_ek (fr' := [(2, aI)]) rfl rfl <| w_ret <| e_blk_r <| e_seq_r <| e_blk_r <| e_seq_r <| e_seq_r <| e_blk_r <| e_seq_r <| e_seq_r ?_
       have h23 := un_out h22 ho6
       have h24 := un_done h23 h4
       obtain rfl := sy h24
       exact e_ret (rs' := [.tmp 2]) rfl <| r_tmp (v := aI) rfl <| r_nil <| fin_gen [] rfl rfl rfl lr st_nil
      ·
       refine w_skip <| e_blk_n <| e_kw <| w_planT [.q 0, .q 1, .q 2, .q 3, .q 4, .n 5 [], .q 6, .n 7 []] [(some 43, [5]), (some 44, [5]), (some 45, [44]), (some 46, [45]), (some 47, [3]), (none, [47, 43]), (some 48, [3]), (none, [48, 46])] [0, 0, 2, 6, 15, 31, 63, 127] (by kernel_rfl) <| dq rfl rfl (p_loads (us := aIIIIIIISSIISLLSIIIIIIIIL) tv116 rfl rfl rfl rfl) <| dq rfl rfl (p_fa tf116x1 rfl) <| dq rfl rfl (p_load (v := aI) tv3 rfl rfl rfl) ?_
       obtain ⟨x26, hx26, h27⟩ := bind_s h22
       refine d_q rfl (qv_call (v := aB) rfl (w_event_Closes hx26) ⟨lr, trivial⟩ rfl) <| dq rfl rfl (p_fa tf153x2 rfl) <| d_n rfl ?_ rfl
       refine o_store (v := .agg aIIIIIIISSIISLLSIIIIIIIIL) (us := aIIIIIIISSIISLLSIIIIIIIIL) (cs := aIIIIIIIIISSIISLLSIIIIIIIILB) (σ' := [aIIIIIIIIISSIISLLSIIIIIIIILB, aIIIIIIISSIISLLSIIIIIIIIL]) rfl tv116 rfl rfl rfl rfl rfl rfl rfl rfl <| o_rc <| ⟨rc_nil, ?_⟩
       refine dq rfl rfl (p_fa tf153x3 rfl) <| d_n rfl ?_ rfl
       refine o_store (v := aB) (us := [aB]) (cs := aIIIIIIIIISSIISLLSIIIIIIIILB) (σ' := [aIIIIIIIIISSIISLLSIIIIIIIILB, aIIIIIIISSIISLLSIIIIIIIIL]) rfl tv4 rfl rfl rfl rfl rfl rfl rfl rfl <| o_rc <| ⟨rc_nil, ?_⟩
       exact d_end (fr' := [(3, .box 0 0), (5, .box 1 0), (9, aL), (10, aI), (11, aI), (38, aB)]) rfl <| e_blk_n <| e_kw <| w_region <| o_p rfl (p_add rfl rfl) <| mI rfl <| o_end (fr' := [(3, .box 0 0), (5, .box 1 0), (9, aL), (10, aI), (11, aI), (38, aB)]) rfl <| e_l _ (sy h27) (w_weak [] 1 rfl rfl rfl rfl ⟨lr, lr, lr, lr, trivial⟩ (st_r rfl st_nil))
   ·
    refine w_exit <| e_seq_x <| e_seq_x <| e_blk_h ?_
    have h28 := un_out h7 ho6
    exact e_j _ (sy h28) (w_weak [] 1 rfl rfl rfl rfl trivial (st_r rfl st_nil))
  ·
   intro j5 hj29
   have h29 := un_go hj29 h4
   refine e_kw <| w_sr <| sI rfl <| o_ek (fr' := [(2, aI)]) rfl rfl <| w_ret ?_
   obtain rfl := sy h29
   exact e_ret (rs' := [.tmp 2]) rfl <| r_tmp (v := aI) rfl <| r_nil <| fin_gen [] rfl rfl rfl lr st_nil
noncomputable def history_Turns_l2 (p0l : (List ApiEvent)) (x16 : ApiEvent) (s21 : Int) : Option (Step Int Int) :=
 (gd ((cond (decide (x16.Kind = (4 : Int))) (decide (s21 < ((p0l).length : Int))) false) == true) (idx p0l s21)).bind fun (x22 : ApiEvent) => (gd ((cond (decide (x16.Kind = (4 : Int))) (decide (s21 < ((p0l).length : Int))) false) == true) (event_IsCommand x22.Kind)).bind fun (x24 : Bool) => cond (cond (cond (decide (x16.Kind = (4 : Int))) (decide (s21 < ((p0l).length : Int))) false) x24 false) (some (Step.next (IntKind.wrap .i64 (s21 + (1 : Int))))) (some (Step.out s21))
noncomputable def history_Turns_l1 (p0l : (List ApiEvent)) (s8 : ((List HistoryTurn) × Int)) : Option (Step ((List HistoryTurn) × Int) (List HistoryTurn)) :=
 cond (decide (s8.2 < ((p0l).length : Int))) ((idx p0l s8.2).bind fun (x10 : ApiEvent) => cond (!decide (x10.Kind = (3 : Int))) (some (Step.next (s8.1, (IntKind.wrap .i64 (s8.2 + (1 : Int)))))) (cond (decide (s8.2 = (IntKind.wrap .i64 (((p0l).length : Int) - (1 : Int))))) ((app 32 s8.1 ([(HistoryTurn.mk s8.2 (-1 : Int) ((p0l).length : Int) false)] : List HistoryTurn)).bind fun (x14 : (List HistoryTurn)) => some (Step.next (x14, (IntKind.wrap .i64 (s8.2 + (1 : Int)))))) ((idx p0l (IntKind.wrap .i64 (s8.2 + (1 : Int)))).bind fun (x16 : ApiEvent) => ((loopO (history_Turns_l2 p0l x16) ((IntKind.wrap .i64 (s8.2 + (2 : Int))))) : Option Int).bind fun (x18 : Int) => ((app 32 s8.1 ([(HistoryTurn.mk s8.2 (IntKind.wrap .i64 (s8.2 + (1 : Int))) x18 (decide (x16.Kind = (4 : Int))))] : List HistoryTurn)).bind fun (x29 : (List HistoryTurn)) => some (Step.next (x29, (IntKind.wrap .i64 (s8.2 + (1 : Int))))))))) (some (Step.out s8.1))
noncomputable def history_Turns (p0l : (List ApiEvent)) : Option (List HistoryTurn) :=
 (history_Check p0l).bind fun (x1 : Int) => cond (!decide (x1 = (0 : Int))) (some ([] : (List HistoryTurn))) (((loopO (history_Turns_l1 p0l) ((([] : (List HistoryTurn)), (0 : Int)))) : Option (List HistoryTurn)).bind fun (x5 : (List HistoryTurn)) => (some x5))
theorem w_history_Turns {p0l : (List ApiEvent)} {res : (List HistoryTurn)} (h : history_Turns p0l = some res) : ACalls Tryd.prog 26 [.c (PV.ls 24 rowApiEvent p0l)] [] (AV.os 0 4 rowHistoryTurn res) [] := by
 unfold history_Turns at h
 refine acalls (fn := Tryd.f26) [0, 2, 3, 4, 5, 6, 9, 10, 11, 12, 13, 19, 24, 62] (by kernel_rfl) Tryd.func26 rfl (by kernel_rfl) (by kernel_rfl) <| w_sr <| sV (v := AV.nil) rfl <| o_ek (fr' := [(0, aL)]) rfl rfl <| w_seqw <| w_sr <| mL rfl ?_
 obtain ⟨x1, hx1, h2⟩ := bind_s h
 refine o_v (ov_call (v := aI) rfl (w_history_Check hx1) ⟨lr, trivial⟩ rfl rfl rfl) <| o_p rfl (p_neq rfl rfl) <| o_ek (fr' := [(0, aL), (9, aB)]) rfl rfl <| w_ch h2 rfl (fun hb3 h3 => ?_) (fun hb3 h3 => ?_)
 ·
  refine w_sr <| sV (v := AV.nil) rfl <| o_ek (fr' := [(2, AV.nil)]) rfl rfl <| w_ret <| e_seq_r ?_
  obtain rfl := sy h3
  exact e_ret (rs' := [.tmp 2]) rfl <| r_tmp (v := AV.nil) rfl <| r_nil <| fin_gen [1000000] rfl rfl rfl (le_nos rfl) st_nil
 ·
  refine w_skip <| e_kw <| w_sr <| sV (v := AV.nil) rfl <| o_ek (fr' := [(0, aL), (3, AV.nil)]) rfl rfl <| w_seqw <| w_sr <| mL rfl <| o_p rfl (p_len ti63 (isl_c rfl)) <| mI rfl <| o_ek (fr' := [(0, aL), (3, AV.nil), (10, aL), (11, aI), (12, aI)]) rfl rfl ?_
  obtain ⟨x5, hx5, h6⟩ := bind_s h3
  refine w_jtail cl_kw (fun j7 => x5 = j7) (fun (j7 : (List HistoryTurn)) => ([(3, AV.os 0 4 rowHistoryTurn j7)] : Fr)) (fun (j7 : (List HistoryTurn)) => ([] : St)) ?_ ?_
  ·
   refine w_block <| w_loopo _ (fun (s8 : ((List HistoryTurn) × Int)) => ([(0, .c (PV.ls 24 rowApiEvent p0l)), (3, AV.os 0 4 rowHistoryTurn s8.1), (10, .c (PV.ls 24 rowApiEvent p0l)), (11, .c (.int .i64 ((p0l).length : Int))), (12, .c (.int .i64 s8.2))] : Fr)) (fun (s8 : ((List HistoryTurn) × Int)) => ([] : St)) hx5 (w_weak [1000000] 0 rfl rfl rfl rfl ⟨lr, (le_nos rfl), lr, lr, lr, trivial⟩ st_nil) ?_
   intro s8 st8 hs8 ho8
   unfold history_Turns_l1 at hs8
   refine w_sr <| o_p rfl (p_lss rfl rfl) <| o_ek (fr' := [(0, aL), (3, aO), (10, aL), (11, aI), (12, aI), (13, aB)]) rfl rfl <| w_seqw <| w_ch hs8 rfl (fun hb9 h9 => ?_) (fun hb9 h9 => ?_)
   ·
    refine w_skip <| e_kw <| w_seqw <| w_block <| w_sr <| mI rfl ?_
    obtain ⟨x10, hx10, h11⟩ := bind_s h9
    refine o_p rfl (p_ia (cs := [PV.int _ _, PV.int _ _, PV.int _ _, PV.int _ _, PV.int _ _, PV.int _ _, PV.int _ _, PV.str _, PV.str _, PV.int _ _, PV.int _ _, PV.str _, PV.ls _ _ _, PV.ls _ _ _, PV.str _, PV.int _ _, PV.int _ _, PV.int _ _, PV.int _ _, PV.int _ _, PV.int _ _, PV.int _ _, PV.int _ _, PV.ls _ _ _]) ts63 (isl_c rfl) rfl hx10 rfl) <| o_p rfl (p_loades (us := [PV.int _ _, PV.int _ _, PV.int _ _, PV.int _ _, PV.int _ _, PV.int _ _, PV.int _ _, PV.str _, PV.str _, PV.int _ _, PV.int _ _, PV.str _, PV.ls _ _ _, PV.ls _ _ _, PV.str _, PV.int _ _, PV.int _ _, PV.int _ _, PV.int _ _, PV.int _ _, PV.int _ _, PV.int _ _, PV.int _ _, PV.ls _ _ _]) tv116 rfl rfl rfl) <| o_alloc (n := 0) (cs := [aI, aI, aI, aI, aI, aI, aI, aS, aS, aI, aI, aS, AV.nil, AV.nil, aS, aI, aI, aI, aI, aI, aI, aI, aI, AV.nil]) (σ' := [[aI, aI, aI, aI, aI, aI, aI, aS, aS, aI, aI, aS, AV.nil, AV.nil, aS, aI, aI, aI, aI, aI, aI, aI, aI, AV.nil]]) tz116 rfl rfl rfl <| sI rfl <| o_store (v := .agg aIIIIIIISSIISLLSIIIIIIIIL) (us := aIIIIIIISSIISLLSIIIIIIIIL) (cs := [aI, aI, aI, aI, aI, aI, aI, aS, aS, aI, aI, aS, AV.nil, AV.nil, aS, aI, aI, aI, aI, aI, aI, aI, aI, AV.nil]) (σ' := [aIIIIIIISSIISLLSIIIIIIIIL]) rfl tv116 rfl rfl rfl rfl rfl rfl rfl rfl <| o_ek (fr' := [(0, aL), (3, aO), (4, aI), (5, .box 0 0), (10, aL), (11, aI), (12, aI)]) rfl rfl <| w_seqw <| w_sr <| o_p rfl (p_fa tf116x1 rfl) <| o_p rfl (p_load (v := aI) tv3 rfl rfl rfl) <| o_p rfl (p_neq rfl rfl) <| o_ek (fr' := [(0, aL), (3, aO), (4, aI), (10, aL), (11, aI), (12, aI), (19, aB)]) rfl rfl ?_
    refine w_ch h11 rfl (fun hb12 h12 => ?_) (fun hb12 h12 => ?_)
    ·
     exact w_exit <| e_seq_x <| e_blk_h <| e_kw <| w_region <| o_p rfl (p_add rfl rfl) <| mI rfl <| o_end (fr' := [(0, aL), (3, aO), (4, aI), (10, aL), (11, aI), (12, aI), (19, aB)]) rfl <| e_l _ (sy h12) (w_weak [0] 0 rfl rfl rfl rfl ⟨lr, lr, lr, lr, lr, trivial⟩ st_nil)
    ·
     refine w_skip <| e_kw <| w_seqw <| w_sr <| mI rfl <| mL rfl <| o_p rfl (p_len ti63 (isl_c rfl)) <| o_p rfl (p_sub rfl rfl) <| o_p rfl (p_eql rfl rfl) <| o_ek (fr' := [(0, aL), (3, aO), (4, aI), (10, aL), (11, aI), (12, aI), (24, aB)]) rfl rfl <| w_ch h12 rfl (fun hb13 h13 => ?_) (fun hb13 h13 => ?_)
     ·
      refine w_sr <| mV (v := aO) rfl <| mI rfl <| mL rfl <| o_p rfl (p_len ti63 (isl_c rfl)) <| o_p rfl (p_build (cs := aIIIB) tb69 rfl) <| o_rows (row := rowHistoryTurn) (xs := ([(HistoryTurn.mk s8.2 (-1 : Int) ((p0l).length : Int) false)] : List HistoryTurn)) (rows := [[_, _, _, _]]) (σ' := [aIIIIIIISSIISLLSIIIIIIIIL]) [0, 0, 0, 0] ts66 rfl rfl rfl (arow_cons rfl arow_nil) rfl rfl ?_
      obtain ⟨x14, hx14, h15⟩ := bind_s h13
      exact o_app (row := rowHistoryTurn) ts66 rfl ti66 rfl (isl_o rfl) (fun _ => rfl) hx14 <| sV (v := aO) rfl <| o_ek (fr' := [(0, aL), (3, aO), (10, aL), (11, aI), (12, aI)]) rfl rfl <| w_exit <| e_seq_x <| e_blk_h <| e_kw <| w_region <| o_p rfl (p_add rfl rfl) <| mI rfl <| o_end (fr' := [(0, aL), (3, aO), (10, aL), (11, aI), (12, aI)]) rfl <| e_l _ (sy h15) (w_weak [496] 0 rfl rfl rfl rfl ⟨lr, lr, lr, lr, lr, trivial⟩ st_nil)
     ·
      refine w_skip <| e_kw <| w_sr <| mI rfl <| mI rfl <| o_p rfl (p_add rfl rfl) <| mI rfl <| o_p rfl (p_add rfl rfl) <| mL rfl <| mI rfl <| o_p rfl (p_add rfl rfl) ?_
      obtain ⟨x16, hx16, h17⟩ := bind_s h13
      refine o_p rfl (p_ia (cs := [PV.int _ _, PV.int _ _, PV.int _ _, PV.int _ _, PV.int _ _, PV.int _ _, PV.int _ _, PV.str _, PV.str _, PV.int _ _, PV.int _ _, PV.str _, PV.ls _ _ _, PV.ls _ _ _, PV.str _, PV.int _ _, PV.int _ _, PV.int _ _, PV.int _ _, PV.int _ _, PV.int _ _, PV.int _ _, PV.int _ _, PV.ls _ _ _]) ts63 (isl_c rfl) rfl hx16 rfl) <| o_p rfl (p_fae tf116x1 rfl) <| o_p rfl (p_loade (p := PV.int _ _) tv3 rfl rfl) <| o_p rfl (p_eql rfl rfl) <| o_p rfl (p_build (cs := aIIIB) tb69 rfl) <| o_alloc (n := 1) (cs := aIIIB) (σ' := [aIIIIIIISSIISLLSIIIIIIIIL, aIIIB]) tz69 rfl rfl rfl <| o_store (v := .agg aIIIB) (us := aIIIB) (cs := aIIIB) (σ' := [aIIIIIIISSIISLLSIIIIIIIIL, aIIIB]) rfl tv69 rfl rfl rfl rfl rfl rfl rfl rfl <| o_ek (fr' := [(0, aL), (3, aO), (6, .box 1 0), (10, aL), (11, aI), (12, aI)]) rfl rfl ?_
      obtain ⟨x18, hx18, h19⟩ := bind_s h17
      refine w_join (fun j20 => x18 = j20) (fun (j20 : Int) => ([(0, .c (PV.ls 24 rowApiEvent p0l)), (3, AV.os 0 4 rowHistoryTurn s8.1), (6, .box 1 0), (10, .c (PV.ls 24 rowApiEvent p0l)), (11, .c (.int .i64 ((p0l).length : Int))), (12, .c (.int .i64 s8.2))] : Fr)) (fun (j20 : Int) => ([[.c (.int .i64 x10.ID), .c (.int .i64 x10.Kind), .c (.int .i64 x10.Time), .c (.int .i64 x10.Seq), .c (.int .i64 x10.Ref), .c (.int .i64 x10.N), .c (.int .i64 x10.Code), .c (.str x10.Name), .c (.str x10.Key), .c (.int .i64 x10.Data.Kind), .c (.int .i64 x10.Data.Int), .c (.str x10.Data.Text), .c (PV.ls 5 rowApiValue x10.Data.Items), .c (PV.ls 1 rowS x10.Data.Keys), .c (.str x10.Opts.Queue), .c (.int .i64 x10.Opts.ToStart), .c (.int .i64 x10.Opts.ToClose), .c (.int .i64 x10.Opts.Total), .c (.int .i64 x10.Opts.Beat), .c (.int .i64 x10.Opts.First), .c (.int .i64 x10.Opts.Coef), .c (.int .i64 x10.Opts.Most), .c (.int .i64 x10.Opts.Attempts), .c (PV.ls 1 rowS x10.Opts.Fatal)], [.c (.int .i64 s8.2), .c (.int .i64 (IntKind.wrap .i64 (s8.2 + (1 : Int)))), .c (.int .i64 j20), .c (.bool (decide (x16.Kind = (4 : Int))))]] : St)) ?_ ?_
      ·
       refine w_block <| w_loopo _ (fun (s21 : Int) => ([(0, .c (PV.ls 24 rowApiEvent p0l)), (3, AV.os 0 4 rowHistoryTurn s8.1), (6, .box 1 0), (10, .c (PV.ls 24 rowApiEvent p0l)), (11, .c (.int .i64 ((p0l).length : Int))), (12, .c (.int .i64 s8.2))] : Fr)) (fun (s21 : Int) => ([[.c (.int .i64 x10.ID), .c (.int .i64 x10.Kind), .c (.int .i64 x10.Time), .c (.int .i64 x10.Seq), .c (.int .i64 x10.Ref), .c (.int .i64 x10.N), .c (.int .i64 x10.Code), .c (.str x10.Name), .c (.str x10.Key), .c (.int .i64 x10.Data.Kind), .c (.int .i64 x10.Data.Int), .c (.str x10.Data.Text), .c (PV.ls 5 rowApiValue x10.Data.Items), .c (PV.ls 1 rowS x10.Data.Keys), .c (.str x10.Opts.Queue), .c (.int .i64 x10.Opts.ToStart), .c (.int .i64 x10.Opts.ToClose), .c (.int .i64 x10.Opts.Total), .c (.int .i64 x10.Opts.Beat), .c (.int .i64 x10.Opts.First), .c (.int .i64 x10.Opts.Coef), .c (.int .i64 x10.Opts.Most), .c (.int .i64 x10.Opts.Attempts), .c (PV.ls 1 rowS x10.Opts.Fatal)], [.c (.int .i64 s8.2), .c (.int .i64 (IntKind.wrap .i64 (s8.2 + (1 : Int)))), .c (.int .i64 s21), .c (.bool (decide (x16.Kind = (4 : Int))))]] : St)) hx18 (w_weak [0] 2 rfl rfl rfl rfl ⟨lr, lr, lr, lr, lr, lr, trivial⟩ (st_r rfl (st_r rfl st_nil))) ?_
       intro s21 st21 hs21 ho21
       unfold history_Turns_l2 at hs21
       refine w_seqw <| w_sr <| o_p rfl (p_fa tf69x3 rfl) <| o_p rfl (p_load (v := aB) tv4 rfl rfl rfl) <| mB rfl <| og rfl rfl rfl (fun hc => (p_fa tf69x2 rfl)) <| og rfl rfl rfl (fun hc => (p_load (v := aI) tv3 (gx rfl hc) rfl rfl)) <| og rfl rfl rfl (fun hc => (p_move (v := aL) rfl)) <| og rfl rfl rfl (fun hc => (p_len ti63 (isl_c (gx rfl hc)))) <| og rfl rfl rfl (fun hc => (p_lss (gx rfl hc) (gx rfl hc))) <| o_p rfl (p_picky rfl rfl rfl (fun e => keq e)) <| mB rfl ?_
       refine og rfl rfl rfl (fun hc => (p_move (v := aL) rfl)) <| og rfl rfl rfl (fun hc => (p_fa tf69x2 rfl)) <| og rfl rfl rfl (fun hc => (p_load (v := aI) tv3 (gx rfl hc) rfl rfl)) ?_
       obtain ⟨x22, hx22, h23⟩ := bind_s hs21
       refine og rfl rfl rfl (fun hc => (p_ia (cs := [PV.int _ _, PV.int _ _, PV.int _ _, PV.int _ _, PV.int _ _, PV.int _ _, PV.int _ _, PV.str _, PV.str _, PV.int _ _, PV.int _ _, PV.str _, PV.ls _ _ _, PV.ls _ _ _, PV.str _, PV.int _ _, PV.int _ _, PV.int _ _, PV.int _ _, PV.int _ _, PV.int _ _, PV.int _ _, PV.int _ _, PV.ls _ _ _]) ts63 (isl_c (gx rfl hc)) (gx rfl hc) (gd_some hx22 hc) rfl)) <| og rfl rfl rfl (fun hc => (p_fae tf116x1 (gx rfl hc))) <| og rfl rfl rfl (fun hc => (p_loade (p := PV.int _ _) tv3 (gx rfl hc) rfl)) ?_
       obtain ⟨x24, hx24, h25⟩ := bind_s h23
       refine o_g rfl rfl (fun hc => ov_call (v := aB) rfl (w_event_IsCommand (gd_some hx24 hc)) ⟨(le_gv (gx rfl hc) lr), trivial⟩ (ok_eq (by repeat (first | exact ok_nil | refine ok_cons rfl ?_ | refine ok_cons (dgv rfl) ?_ | refine ok_cons dar ?_))) rfl rfl) ?_
       refine o_p rfl (p_picky rfl rfl rfl (fun e => keq e)) <| o_ek (fr' := [(0, aL), (3, aO), (6, .box 1 0), (10, aL), (11, aI), (12, aI), (62, aB)]) rfl rfl <| w_ch h25 rfl (fun hb26 h26 => ?_) (fun hb26 h26 => ?_)
       ·
        exact w_skip <| e_kw <| w_block <| w_region <| o_p rfl (p_fa tf69x2 rfl) <| o_p rfl (p_load (v := aI) tv3 rfl rfl rfl) <| o_p rfl (p_add rfl rfl) <| o_p rfl (p_fa tf69x2 rfl) <| o_store (v := aI) (us := [aI]) (cs := aIIIB) (σ' := [aIIIIIIISSIISLLSIIIIIIIIL, aIIIB]) rfl tv3 rfl rfl rfl rfl rfl rfl rfl rfl <| o_end (fr' := [(0, aL), (3, aO), (6, .box 1 0), (10, aL), (11, aI), (12, aI), (62, aB)]) rfl <| e_blk_n <| e_l _ (sy h26) (w_weak [0] 2 rfl rfl rfl rfl ⟨lr, lr, lr, lr, lr, lr, trivial⟩ (st_r rfl (st_r rfl st_nil)))
       ·
        refine w_exit <| e_seq_x <| e_seq_x <| e_blk_h ?_
        have h27 := un_out h26 ho21
        exact e_j _ (sy h27) (w_weak [0] 2 rfl rfl rfl rfl ⟨lr, lr, lr, lr, lr, lr, trivial⟩ (st_r rfl (st_r rfl st_nil)))
      ·
       intro j20 hj28
       subst hj28
       refine w_region <| mV (v := aO) rfl <| o_p rfl (p_loads (us := aIIIB) tv69 rfl rfl rfl rfl) <| o_rows (row := rowHistoryTurn) (xs := ([(HistoryTurn.mk s8.2 (IntKind.wrap .i64 (s8.2 + (1 : Int))) x18 (decide (x16.Kind = (4 : Int))))] : List HistoryTurn)) (rows := [[_, _, _, _]]) (σ' := [aIIIIIIISSIISLLSIIIIIIIIL, aIIIB]) [0, 0, 0, 0] ts66 rfl rfl rfl (arow_cons rfl arow_nil) rfl rfl ?_
       obtain ⟨x29, hx29, h30⟩ := bind_s h19
       exact o_app (row := rowHistoryTurn) ts66 rfl ti66 rfl (isl_o rfl) (fun _ => rfl) hx29 <| sV (v := aO) rfl <| o_end (fr' := [(0, aL), (3, aO), (6, .box 1 0), (10, aL), (11, aI), (12, aI)]) rfl <| e_blk_n <| e_kw <| w_region <| o_p rfl (p_add rfl rfl) <| mI rfl <| o_end (fr' := [(0, aL), (3, aO), (6, .box 1 0), (10, aL), (11, aI), (12, aI)]) rfl <| e_l _ (sy h30) (w_weak [1120] 0 rfl rfl rfl rfl ⟨lr, lr, lr, lr, lr, trivial⟩ st_nil)
   ·
    refine w_exit <| e_seq_x <| e_seq_x <| e_blk_h ?_
    have h31 := un_out h9 ho8
    exact e_j _ (sy h31) (w_weak [0] 0 rfl rfl rfl rfl ⟨lr, trivial⟩ st_nil)
  ·
   intro j7 hj32
   subst hj32
   refine e_kw <| w_sr <| mV (v := aO) rfl <| sV (v := aO) rfl <| o_ek (fr' := [(2, aO)]) rfl rfl <| w_ret ?_
   obtain rfl := sy h6
   exact e_ret (rs' := [.tmp 2]) rfl <| r_tmp (v := aO) rfl <| r_nil <| fin_gen [0] rfl rfl rfl lr st_nil
noncomputable def law24xexample  : Option (List ApiEvent) :=
 some ([(ApiEvent.mk (1 : Int) (1 : Int) (0 : Int) (0 : Int) (0 : Int) (0 : Int) (0 : Int) ([116] : List UInt8) ([107] : List UInt8) (ApiValue.mk (4 : Int) (0 : Int) ([] : List UInt8) ([(ApiValue.mk (0 : Int) (0 : Int) ([] : List UInt8) ([] : (List ApiValue)) ([] : (List (List UInt8)))), (ApiValue.mk (4 : Int) (0 : Int) ([] : List UInt8) ([] : (List ApiValue)) ([] : (List (List UInt8))))] : List ApiValue) ([] : (List (List UInt8)))) (ApiPolicy.mk ([] : List UInt8) (0 : Int) (0 : Int) (0 : Int) (0 : Int) (0 : Int) (0 : Int) (0 : Int) (0 : Int) ([] : (List (List UInt8))))), (ApiEvent.mk (2 : Int) (2 : Int) (0 : Int) (0 : Int) (0 : Int) (1 : Int) (0 : Int) ([] : List UInt8) ([] : List UInt8) (ApiValue.mk (0 : Int) (0 : Int) ([] : List UInt8) ([] : (List ApiValue)) ([] : (List (List UInt8)))) (ApiPolicy.mk ([] : List UInt8) (0 : Int) (0 : Int) (0 : Int) (0 : Int) (0 : Int) (0 : Int) (0 : Int) (0 : Int) ([] : (List (List UInt8))))), (ApiEvent.mk (3 : Int) (3 : Int) (0 : Int) (0 : Int) (2 : Int) (0 : Int) (0 : Int) ([] : List UInt8) ([] : List UInt8) (ApiValue.mk (0 : Int) (0 : Int) ([] : List UInt8) ([] : (List ApiValue)) ([] : (List (List UInt8)))) (ApiPolicy.mk ([] : List UInt8) (0 : Int) (0 : Int) (0 : Int) (0 : Int) (0 : Int) (0 : Int) (0 : Int) (0 : Int) ([] : (List (List UInt8))))), (ApiEvent.mk (4 : Int) (4 : Int) (0 : Int) (0 : Int) (3 : Int) (0 : Int) (0 : Int) ([] : List UInt8) ([] : List UInt8) (ApiValue.mk (0 : Int) (0 : Int) ([] : List UInt8) ([] : (List ApiValue)) ([] : (List (List UInt8)))) (ApiPolicy.mk ([] : List UInt8) (0 : Int) (0 : Int) (0 : Int) (0 : Int) (0 : Int) (0 : Int) (0 : Int) (0 : Int) ([] : (List (List UInt8))))), (ApiEvent.mk (5 : Int) (14 : Int) (0 : Int) (1 : Int) (0 : Int) (5 : Int) (0 : Int) ([] : List UInt8) ([] : List UInt8) (ApiValue.mk (0 : Int) (0 : Int) ([] : List UInt8) ([] : (List ApiValue)) ([] : (List (List UInt8)))) (ApiPolicy.mk ([] : List UInt8) (0 : Int) (0 : Int) (0 : Int) (0 : Int) (0 : Int) (0 : Int) (0 : Int) (0 : Int) ([] : (List (List UInt8)))))] : List ApiEvent)
theorem w_law24xexample  {res : (List ApiEvent)} (h : law24xexample = some res) : ACalls Tryd.prog 48 [] [] (AV.os 0 24 rowApiEvent res) [] := by
 unfold law24xexample at h
 refine acalls (fn := Tryd.f48) [0, 1] (by kernel_rfl) Tryd.func48 rfl (by kernel_rfl) (by kernel_rfl) <| w_sr <| sV (v := AV.nil) rfl <| o_ek (fr' := []) rfl rfl <| w_sr <| o_p rfl (p_build (cs := [aI, aI, aS, AV.nil, AV.nil]) tb112 rfl) <| o_p rfl (p_build (cs := [aI, aI, aS, AV.nil, AV.nil]) tb112 rfl) <| o_rows (row := rowApiValue) (xs := ([(ApiValue.mk (0 : Int) (0 : Int) ([] : List UInt8) ([] : (List ApiValue)) ([] : (List (List UInt8)))), (ApiValue.mk (4 : Int) (0 : Int) ([] : List UInt8) ([] : (List ApiValue)) ([] : (List (List UInt8))))] : List ApiValue)) (rows := [[_, _, _, _, _], [_, _, _, _, _]]) (σ' := []) [0, 0, 0, 5, 1] ts109 rfl rfl rfl (arow_cons (rowApiValue_eq _) (arow_cons (rowApiValue_eq _) arow_nil)) rfl rfl <| o_p rfl (p_build (cs := [aI, aI, aS, aO, AV.nil]) tb112 rfl) <| o_alloc (n := 0) (cs := [aI, aI, aS, AV.nil, AV.nil]) (σ' := [[aI, aI, aS, AV.nil, AV.nil]]) tz112 rfl rfl rfl <| o_store (v := .agg [aI, aI, aS, aO, AV.nil]) (us := [aI, aI, aS, aO, AV.nil]) (cs := [aI, aI, aS, AV.nil, AV.nil]) (σ' := [[aI, aI, aS, aO, AV.nil]]) rfl tv112 rfl rfl rfl rfl rfl rfl rfl rfl ?_
 refine o_ek (fr' := [(1, .box 0 0)]) rfl rfl <| w_sr <| o_p rfl (p_loads (us := [aI, aI, aS, aO, AV.nil]) tv112 rfl rfl rfl rfl) <| o_p rfl (p_buildc (c0 := [aI, aI, aI, aI, aI, aI, aI, aS, aS, aI, aI, aS, AV.nil, AV.nil, aS, aI, aI, aI, aI, aI, aI, aI, aI, AV.nil]) (cs := [aI, aI, aI, aI, aI, aI, aI, aS, aS, aI, aI, aS, aO, AV.nil, aS, aI, aI, aI, aI, aI, aI, aI, aI, AV.nil]) tb116 rfl (fill_cons (v := aI) (us := [_]) (cs' := u24) rfl rfl rfl rfl rfl rfl (fill_cons (v := aI) (us := [_]) (cs' := u24) rfl rfl rfl rfl rfl rfl (fill_cons (v := aS) (us := [_]) (cs' := u24) rfl rfl rfl rfl rfl rfl (fill_cons (v := aS) (us := [_]) (cs' := u24) rfl rfl rfl rfl rfl rfl (fill_cons (v := .agg [aI, aI, aS, aO, AV.nil]) (us := u5) (cs' := u24) rfl rfl rfl rfl rfl rfl fill_nil)))))) <| o_p rfl (p_buildc (c0 := [aI, aI, aI, aI, aI, aI, aI, aS, aS, aI, aI, aS, AV.nil, AV.nil, aS, aI, aI, aI, aI, aI, aI, aI, aI, AV.nil]) (cs := [aI, aI, aI, aI, aI, aI, aI, aS, aS, aI, aI, aS, AV.nil, AV.nil, aS, aI, aI, aI, aI, aI, aI, aI, aI, AV.nil]) tb116 rfl (fill_cons (v := aI) (us := [_]) (cs' := u24) rfl rfl rfl rfl rfl rfl (fill_cons (v := aI) (us := [_]) (cs' := u24) rfl rfl rfl rfl rfl rfl (fill_cons (v := aI) (us := [_]) (cs' := u24) rfl rfl rfl rfl rfl rfl fill_nil)))) <| o_p rfl (p_buildc (c0 := [aI, aI, aI, aI, aI, aI, aI, aS, aS, aI, aI, aS, AV.nil, AV.nil, aS, aI, aI, aI, aI, aI, aI, aI, aI, AV.nil]) (cs := [aI, aI, aI, aI, aI, aI, aI, aS, aS, aI, aI, aS, AV.nil, AV.nil, aS, aI, aI, aI, aI, aI, aI, aI, aI, AV.nil]) tb116 rfl (fill_cons (v := aI) (us := [_]) (cs' := u24) rfl rfl rfl rfl rfl rfl (fill_cons (v := aI) (us := [_]) (cs' := u24) rfl rfl rfl rfl rfl rfl (fill_cons (v := aI) (us := [_]) (cs' := u24) rfl rfl rfl rfl rfl rfl fill_nil)))) <| o_p rfl (p_buildc (c0 := [aI, aI, aI, aI, aI, aI, aI, aS, aS, aI, aI, aS, AV.nil, AV.nil, aS, aI, aI, aI, aI, aI, aI, aI, aI, AV.nil]) (cs := [aI, aI, aI, aI, aI, aI, aI, aS, aS, aI, aI, aS, AV.nil, AV.nil, aS, aI, aI, aI, aI, aI, aI, aI, aI, AV.nil]) tb116 rfl (fill_cons (v := aI) (us := [_]) (cs' := u24) rfl rfl rfl rfl rfl rfl (fill_cons (v := aI) (us := [_]) (cs' := u24) rfl rfl rfl rfl rfl rfl (fill_cons (v := aI) (us := [_]) (cs' := u24) rfl rfl rfl rfl rfl rfl fill_nil)))) <| o_p rfl (p_buildc (c0 := [aI, aI, aI, aI, aI, aI, aI, aS, aS, aI, aI, aS, AV.nil, AV.nil, aS, aI, aI, aI, aI, aI, aI, aI, aI, AV.nil]) (cs := [aI, aI, aI, aI, aI, aI, aI, aS, aS, aI, aI, aS, AV.nil, AV.nil, aS, aI, aI, aI, aI, aI, aI, aI, aI, AV.nil]) tb116 rfl (fill_cons (v := aI) (us := [_]) (cs' := u24) rfl rfl rfl rfl rfl rfl (fill_cons (v := aI) (us := [_]) (cs' := u24) rfl rfl rfl rfl rfl rfl (fill_cons (v := aI) (us := [_]) (cs' := u24) rfl rfl rfl rfl rfl rfl (fill_cons (v := aI) (us := [_]) (cs' := u24) rfl rfl rfl rfl rfl rfl fill_nil))))) <| o_rows (row := rowApiEvent) (xs := ([(ApiEvent.mk (1 : Int) (1 : Int) (0 : Int) (0 : Int) (0 : Int) (0 : Int) (0 : Int) ([116] : List UInt8) ([107] : List UInt8) (ApiValue.mk (4 : Int) (0 : Int) ([] : List UInt8) ([(ApiValue.mk (0 : Int) (0 : Int) ([] : List UInt8) ([] : (List ApiValue)) ([] : (List (List UInt8)))), (ApiValue.mk (4 : Int) (0 : Int) ([] : List UInt8) ([] : (List ApiValue)) ([] : (List (List UInt8))))] : List ApiValue) ([] : (List (List UInt8)))) (ApiPolicy.mk ([] : List UInt8) (0 : Int) (0 : Int) (0 : Int) (0 : Int) (0 : Int) (0 : Int) (0 : Int) (0 : Int) ([] : (List (List UInt8))))), (ApiEvent.mk (2 : Int) (2 : Int) (0 : Int) (0 : Int) (0 : Int) (1 : Int) (0 : Int) ([] : List UInt8) ([] : List UInt8) (ApiValue.mk (0 : Int) (0 : Int) ([] : List UInt8) ([] : (List ApiValue)) ([] : (List (List UInt8)))) (ApiPolicy.mk ([] : List UInt8) (0 : Int) (0 : Int) (0 : Int) (0 : Int) (0 : Int) (0 : Int) (0 : Int) (0 : Int) ([] : (List (List UInt8))))), (ApiEvent.mk (3 : Int) (3 : Int) (0 : Int) (0 : Int) (2 : Int) (0 : Int) (0 : Int) ([] : List UInt8) ([] : List UInt8) (ApiValue.mk (0 : Int) (0 : Int) ([] : List UInt8) ([] : (List ApiValue)) ([] : (List (List UInt8)))) (ApiPolicy.mk ([] : List UInt8) (0 : Int) (0 : Int) (0 : Int) (0 : Int) (0 : Int) (0 : Int) (0 : Int) (0 : Int) ([] : (List (List UInt8))))), (ApiEvent.mk (4 : Int) (4 : Int) (0 : Int) (0 : Int) (3 : Int) (0 : Int) (0 : Int) ([] : List UInt8) ([] : List UInt8) (ApiValue.mk (0 : Int) (0 : Int) ([] : List UInt8) ([] : (List ApiValue)) ([] : (List (List UInt8)))) (ApiPolicy.mk ([] : List UInt8) (0 : Int) (0 : Int) (0 : Int) (0 : Int) (0 : Int) (0 : Int) (0 : Int) (0 : Int) ([] : (List (List UInt8))))), (ApiEvent.mk (5 : Int) (14 : Int) (0 : Int) (1 : Int) (0 : Int) (5 : Int) (0 : Int) ([] : List UInt8) ([] : List UInt8) (ApiValue.mk (0 : Int) (0 : Int) ([] : List UInt8) ([] : (List ApiValue)) ([] : (List (List UInt8)))) (ApiPolicy.mk ([] : List UInt8) (0 : Int) (0 : Int) (0 : Int) (0 : Int) (0 : Int) (0 : Int) (0 : Int) (0 : Int) ([] : (List (List UInt8)))))] : List ApiEvent)) (rows := [[_, _, _, _, _, _, _, _, _, _, _, _, _, _, _, _, _, _, _, _, _, _, _, _], [_, _, _, _, _, _, _, _, _, _, _, _, _, _, _, _, _, _, _, _, _, _, _, _], [_, _, _, _, _, _, _, _, _, _, _, _, _, _, _, _, _, _, _, _, _, _, _, _], [_, _, _, _, _, _, _, _, _, _, _, _, _, _, _, _, _, _, _, _, _, _, _, _], [_, _, _, _, _, _, _, _, _, _, _, _, _, _, _, _, _, _, _, _, _, _, _, _]]) (σ' := [[aI, aI, aS, aO, AV.nil]]) [0, 0, 0, 0, 0, 0, 0, 0, 0, 0, 0, 0, 5, 1, 0, 0, 0, 0, 0, 0, 0, 0, 0, 1] ts63 rfl rfl rfl (arow_cons rfl (arow_cons rfl (arow_cons rfl (arow_cons rfl (arow_cons rfl arow_nil))))) rfl rfl <| sV (v := aO) rfl <| o_ek (fr' := [(0, aO)]) rfl rfl <| w_ret ?_
 obtain rfl := sy h
 exact e_ret (rs' := [.tmp 0]) rfl <| r_tmp (v := aO) rfl <| r_nil <| fin_gen [192] rfl rfl rfl lr st_nil
noncomputable def history_Status_l1 (p0l : (List ApiEvent)) (s4 : Int) : Option (Step Int (Fl (Int × Int) Unit)) :=
 cond (decide (s4 < ((p0l).length : Int))) ((idx p0l s4).bind fun (x6 : ApiEvent) => (event_Status x6.Kind).bind fun (x8 : (Int × Bool)) => cond x8.2 (some (Step.out (Fl.done (x8.1, s4)))) (some (Step.next (IntKind.wrap .i64 (s4 + (1 : Int)))))) (some (Step.out (Fl.go ())))
noncomputable def history_Status (p0l : (List ApiEvent)) : Option (Int × Int) :=
 ((loopO (history_Status_l1 p0l) ((0 : Int))) : Option (Fl (Int × Int) Unit)).bind fun (x1 : (Fl (Int × Int) Unit)) => Fl.next x1 (fun (j3 : Unit) => (some ((0 : Int), (-1 : Int))))
theorem w_history_Status {p0l : (List ApiEvent)} {res : (Int × Int)} (h : history_Status p0l = some res) : ACalls Tryd.prog 49 [.c (PV.ls 24 rowApiEvent p0l)] [] (.tup [.c (.int .i64 res.1), .c (.int .i64 res.2)]) [] := by
 unfold history_Status at h
 refine acalls (fn := Tryd.f49) [0, 2, 3, 4, 5, 6, 7, 8, 9, 10, 11, 21] (by kernel_rfl) Tryd.func49 rfl (by kernel_rfl) (by kernel_rfl) <| w_sr <| sI rfl <| sI rfl <| o_ek (fr' := [(0, aL)]) rfl rfl <| w_seqw <| w_sr <| mL rfl <| o_p rfl (p_len ti63 (isl_c rfl)) <| mI rfl <| o_ek (fr' := [(8, aL), (9, aI), (10, aI)]) rfl rfl ?_
 obtain ⟨x1, hx1, h2⟩ := bind_s h
 refine w_jtail cl_kw (fun j3 => x1 = Fl.go j3) (fun (j3 : Unit) => ([] : Fr)) (fun (j3 : Unit) => ([] : St)) ?_ ?_
 ·
  refine w_block <| w_loopo _ (fun (s4 : Int) => ([(8, .c (PV.ls 24 rowApiEvent p0l)), (9, .c (.int .i64 ((p0l).length : Int))), (10, .c (.int .i64 s4))] : Fr)) (fun (s4 : Int) => ([] : St)) hx1 (w_weak [] 0 rfl rfl rfl rfl ⟨lr, lr, lr, trivial⟩ st_nil) ?_
  intro s4 st4 hs4 ho4
  unfold history_Status_l1 at hs4
  refine w_sr <| o_p rfl (p_lss rfl rfl) <| o_ek (fr' := [(8, aL), (9, aI), (10, aI), (11, aB)]) rfl rfl <| w_seqw <| w_ch hs4 rfl (fun hb5 h5 => ?_) (fun hb5 h5 => ?_)
  ·
   refine w_skip <| e_kw <| w_seqw <| w_block <| w_sr <| mI rfl ?_
   obtain ⟨x6, hx6, h7⟩ := bind_s h5
   refine o_p rfl (p_ia (cs := [PV.int _ _, PV.int _ _, PV.int _ _, PV.int _ _, PV.int _ _, PV.int _ _, PV.int _ _, PV.str _, PV.str _, PV.int _ _, PV.int _ _, PV.str _, PV.ls _ _ _, PV.ls _ _ _, PV.str _, PV.int _ _, PV.int _ _, PV.int _ _, PV.int _ _, PV.int _ _, PV.int _ _, PV.int _ _, PV.int _ _, PV.ls _ _ _]) ts63 (isl_c rfl) rfl hx6 rfl) <| o_p rfl (p_loades (us := [PV.int _ _, PV.int _ _, PV.int _ _, PV.int _ _, PV.int _ _, PV.int _ _, PV.int _ _, PV.str _, PV.str _, PV.int _ _, PV.int _ _, PV.str _, PV.ls _ _ _, PV.ls _ _ _, PV.str _, PV.int _ _, PV.int _ _, PV.int _ _, PV.int _ _, PV.int _ _, PV.int _ _, PV.int _ _, PV.int _ _, PV.ls _ _ _]) tv116 rfl rfl rfl) <| o_alloc (n := 0) (cs := [aI, aI, aI, aI, aI, aI, aI, aS, aS, aI, aI, aS, AV.nil, AV.nil, aS, aI, aI, aI, aI, aI, aI, aI, aI, AV.nil]) (σ' := [[aI, aI, aI, aI, aI, aI, aI, aS, aS, aI, aI, aS, AV.nil, AV.nil, aS, aI, aI, aI, aI, aI, aI, aI, aI, AV.nil]]) tz116 rfl rfl rfl <| sI rfl <| o_store (v := .agg aIIIIIIISSIISLLSIIIIIIIIL) (us := aIIIIIIISSIISLLSIIIIIIIIL) (cs := [aI, aI, aI, aI, aI, aI, aI, aS, aS, aI, aI, aS, AV.nil, AV.nil, aS, aI, aI, aI, aI, aI, aI, aI, aI, AV.nil]) (σ' := [aIIIIIIISSIISLLSIIIIIIIIL]) rfl tv116 rfl rfl rfl rfl rfl rfl rfl rfl <| o_ek (fr' := [(4, aI), (5, .box 0 0), (8, aL), (9, aI), (10, aI)]) rfl rfl <| w_sr <| o_p rfl (p_fa tf116x1 rfl) <| o_p rfl (p_load (v := aI) tv3 rfl rfl rfl) ?_
   obtain ⟨x8, hx8, h9⟩ := bind_s h7
   refine o_v (ov_call (v := .tup [aI, aB]) rfl (w_event_Status hx8) ⟨lr, trivial⟩ rfl rfl rfl) <| mV (v := .tup [aI, aB]) rfl <| o_p rfl (p_ex (v := aI) rfl rfl) <| o_p rfl (p_ex (v := aB) rfl rfl) <| sI rfl <| sB rfl <| o_ek (fr' := [(4, aI), (6, aI), (7, aB), (8, aL), (9, aI), (10, aI)]) rfl rfl <| w_sr <| mB rfl <| o_ek (fr' := [(4, aI), (6, aI), (8, aL), (9, aI), (10, aI), (21, aB)]) rfl rfl <| w_ch h9 rfl (fun hb10 h10 => ?_) (fun hb10 h10 => ?_)
   ·
    refine w_sr <| mI rfl <| mI rfl <| sI rfl <| sI rfl <| o_ek (fr' := [(2, aI), (3, aI)]) rfl rfl <| w_ret <| e_blk_r <| e_seq_r <| e_seq_r <| e_blk_r <| e_seq_r ?_
    refine e_seq_r ?_
    have h11 := un_out h10 ho4
    have h12 := un_done h11 h2
    obtain rfl := sy h12
    exact e_ret (rs' := [.tmp 2, .tmp 3]) rfl <| r_tmp (v := aI) rfl <| r_tmp (v := aI) rfl <| r_nil <| fin_gen [] rfl rfl rfl (le_tupp rfl ⟨lr, lr, trivial⟩) st_nil
   ·
    exact w_skip <| e_blk_n <| e_kw <| w_region <| o_p rfl (p_add rfl rfl) <| mI rfl <| o_end (fr' := [(4, aI), (6, aI), (8, aL), (9, aI), (10, aI), (21, aB)]) rfl <| e_l _ (sy h10) (w_weak [] 0 rfl rfl rfl rfl ⟨lr, lr, lr, trivial⟩ st_nil)
  ·
   refine w_exit <| e_seq_x <| e_seq_x <| e_blk_h ?_
   have h14 := un_out h5 ho4
   exact e_j _ (sy h14) (w_weak [] 0 rfl rfl rfl rfl trivial st_nil)
 ·
  intro j3 hj15
  have h15 := un_go hj15 h2
  refine e_kw <| w_sr <| sI rfl <| sI rfl <| o_ek (fr' := [(2, aI), (3, aI)]) rfl rfl <| w_ret ?_
  obtain rfl := sy h15
  exact e_ret (rs' := [.tmp 2, .tmp 3]) rfl <| r_tmp (v := aI) rfl <| r_tmp (v := aI) rfl <| r_nil <| fin_gen [] rfl rfl rfl (le_tupp rfl ⟨lr, lr, trivial⟩) st_nil
noncomputable def law24xworks  : Option Bool :=
 (law24xexample).bind fun (x1 : (List ApiEvent)) => (history_Turns x1).bind fun (x3 : (List HistoryTurn)) => (law24xexample).bind fun (x5 : (List ApiEvent)) => (history_Status x5).bind fun (x7 : (Int × Int)) => (law24xexample).bind fun (x9 : (List ApiEvent)) => (history_Check x9).bind fun (x11 : Int) => (gd ((cond (decide (x11 = (0 : Int))) (decide (((x3).length : Int) = (1 : Int))) false) == true) (idx x3 (0 : Int))).bind fun (x13 : HistoryTurn) => some (cond (cond (cond (cond (decide (x11 = (0 : Int))) (decide (((x3).length : Int) = (1 : Int))) false) (decide (x13.Start = (2 : Int)) && (decide (x13.End = (3 : Int)) && (decide (x13.Next = (5 : Int)) && ((x13.Done == true) && true)))) false) (decide (x7.1 = (0 : Int))) false) (decide (x7.2 = (-1 : Int))) false)
theorem w_law24xworks  {res : Bool} (h : law24xworks = some res) : ACalls Tryd.prog 24 [] [] (.c (.bool res)) [] := by
 unfold law24xworks at h
 refine acalls (fn := Tryd.f24) [0, 1, 2, 3] (by kernel_rfl) Tryd.func24 rfl (by kernel_rfl) (by kernel_rfl) <| w_sr <| sB rfl <| o_ek (fr' := []) rfl rfl <| w_seqw <| w_region ?_
 obtain ⟨x1, hx1, h2⟩ := bind_s h
 refine o_v (ov_call (v := aO) rfl (w_law24xexample hx1) trivial rfl rfl rfl) ?_
 obtain ⟨x3, hx3, h4⟩ := bind_s h2
 refine o_v (ov_call (v := aO) rfl (w_history_Turns hx3) ⟨lr, trivial⟩ rfl rfl rfl) <| sV (v := aO) rfl <| o_ek (fr' := [(1, aO)]) rfl rfl <| w_seqw <| w_region ?_
 obtain ⟨x5, hx5, h6⟩ := bind_s h4
 refine o_v (ov_call (v := aO) rfl (w_law24xexample hx5) trivial rfl rfl rfl) ?_
 obtain ⟨x7, hx7, h8⟩ := bind_s h6
 refine o_v (ov_call (v := .tup [aI, aI]) rfl (w_history_Status hx7) ⟨lr, trivial⟩ rfl rfl rfl) <| mV (v := .tup [aI, aI]) rfl <| o_p rfl (p_ex (v := aI) rfl rfl) <| o_p rfl (p_ex (v := aI) rfl rfl) <| sI rfl <| sI rfl <| o_ek (fr' := [(1, aO), (2, aI), (3, aI)]) rfl rfl <| w_seqw <| w_region ?_
 obtain ⟨x9, hx9, h10⟩ := bind_s h8
 refine o_v (ov_call (v := aO) rfl (w_law24xexample hx9) trivial rfl rfl rfl) ?_
 obtain ⟨x11, hx11, h12⟩ := bind_s h10
 refine o_v (ov_call (v := aI) rfl (w_history_Check hx11) ⟨lr, trivial⟩ rfl rfl rfl) <| o_p rfl (p_eql rfl rfl) <| mB rfl <| og rfl rfl rfl (fun hc => (p_move (v := aO) rfl)) <| og rfl rfl rfl (fun hc => (p_len ti66 (isl_o (gx rfl hc)))) <| og rfl rfl rfl (fun hc => (p_eql (gx rfl hc) rfl)) <| o_p rfl (p_picky rfl rfl rfl (fun e => keq e)) <| mB rfl <| og rfl rfl rfl (fun hc => (p_move (v := aO) rfl)) ?_
 obtain ⟨x13, hx13, h14⟩ := bind_s h12
 refine og rfl rfl rfl (fun hc => (p_ia (cs := [PV.int _ _, PV.int _ _, PV.int _ _, PV.bool _]) ts66 (isl_o (gx rfl hc)) rfl (gd_some hx13 hc) rfl)) <| og rfl rfl rfl (fun hc => (p_loades (us := [PV.int _ _, PV.int _ _, PV.int _ _, PV.bool _]) tv69 (gx rfl hc) rfl rfl)) <| og rfl rfl rfl (fun hc => (p_build (cs := aIIIB) tb69 rfl)) <| og rfl rfl rfl (fun hc => (p_aeql eqk69 tv69 eg69 (gx rfl hc) (gx rfl hc) rfl rfl)) <| o_p rfl (p_picky rfl rfl rfl (fun e => keq e)) <| mB rfl <| og rfl rfl rfl (fun hc => (p_move (v := aI) rfl)) <| og rfl rfl rfl (fun hc => (p_eql (gx rfl hc) rfl)) <| o_p rfl (p_picky rfl rfl rfl (fun e => keq e)) <| mB rfl <| og rfl rfl rfl (fun hc => (p_move (v := aI) rfl)) <| og rfl rfl rfl (fun hc => (p_eql (gx rfl hc) rfl)) <| o_p rfl (p_picky rfl rfl rfl (fun e => keq e)) ?_
 refine sB rfl <| o_ek (fr' := [(0, aB)]) rfl rfl <| w_ret ?_
 obtain rfl := sy h14
 exact e_ret (rs' := [.tmp 0]) rfl <| r_tmp (v := aB) rfl <| r_nil <| fin_gen [] rfl rfl rfl lr st_nil
noncomputable def slices_Clone_api_Event_api_Event_mut (p0s : (List ApiEvent)) : Option (List ApiEvent) :=
 app 272 ([] : List ApiEvent) p0s
theorem w_slices_Clone_api_Event_api_Event_mut {p0s : (List ApiEvent)} {res : (List ApiEvent)} (h : slices_Clone_api_Event_api_Event_mut p0s = some res) : ACalls Tryd.prog 88 [.c (PV.ls 24 rowApiEvent p0s)] [] (AV.ms 0 24 rowApiEvent res) [] := by
 unfold slices_Clone_api_Event_api_Event_mut at h
 refine acalls (fn := Tryd.f88) [0, 2, 4] (by kernel_rfl) Tryd.func88 rfl (by kernel_rfl) (by kernel_rfl) ?_
 obtain ⟨hm, he⟩ := app_some h
 rw [List.nil_append] at he
 subst he
 refine w_sr <| o_p rfl (p_assign (v := .nil) rfl) <| o_end (fr' := [(0, .c (PV.ls _ _ _)), (2, .nil)]) rfl <| e_kw <| w_seqw <| w_sr <| o_p rfl (p_move (v := .c (PV.ls _ _ _)) rfl) <| o_nilc (row := rowApiEvent) ti63 (isl_c rfl) (fun b hb => ?_)
 refine o_end (fr' := [(0, .c (PV.ls _ _ _)), (2, .nil), (4, .c (.bool _))]) rfl <| e_kw <| w_cond b rfl (fun e => ?_) (fun e => ?_)
 ·
  rw [hb e]
  exact w_sr <| o_p rfl (p_assign (v := .nil) rfl) <| o_end (fr' := [(0, .c (PV.ls _ _ _)), (2, .nil), (4, .c (.bool _))]) rfl <| e_kw <| w_ret <| e_seq_r <| e_ret (rs' := [.tmp 2]) rfl <| r_tmp (v := .nil) rfl <| r_nil <| fin_gen [] rfl rfl rfl (le_nms rfl) st_nil
 ·
  refine w_skip <| e_kw <| w_sr <| o_rows (row := rowApiEvent) (xs := ([] : List ApiEvent)) (rows := []) (σ' := []) [] ts63 rfl rfl rfl arow_nil rfl rfl <| o_p rfl (p_move (v := .c (PV.ls _ _ _)) rfl) <| o_appm (row := rowApiEvent) ts63 rfl ti63 rfl (isl_c rfl) (fun _ => rfl) h <| o_p rfl (p_assign (v := AV.ms _ _ _ _) rfl) <| o_end (fr' := [(0, .c (PV.ls _ _ _)), (2, AV.ms _ _ _ _), (4, .c (.bool _))]) rfl <| e_kw <| w_ret <| e_ret (rs' := [.tmp 2]) rfl <| r_tmp (v := AV.ms _ _ _ _) rfl ?_
  exact r_nil <| fin_gen [112] rfl rfl rfl lr st_nil
noncomputable def slices_Clone_api_Value_api_Value_mut (p0s : (List ApiValue)) : Option (List ApiValue) :=
 app 80 ([] : List ApiValue) p0s
theorem w_slices_Clone_api_Value_api_Value_mut {p0s : (List ApiValue)} {res : (List ApiValue)} (h : slices_Clone_api_Value_api_Value_mut p0s = some res) : ACalls Tryd.prog 119 [.c (PV.ls 5 rowApiValue p0s)] [] (AV.ms 0 5 rowApiValue res) [] := by
 unfold slices_Clone_api_Value_api_Value_mut at h
 refine acalls (fn := Tryd.f119) [0, 2, 4] (by kernel_rfl) Tryd.func119 rfl (by kernel_rfl) (by kernel_rfl) ?_
 obtain ⟨hm, he⟩ := app_some h
 rw [List.nil_append] at he
 subst he
 refine w_sr <| o_p rfl (p_assign (v := .nil) rfl) <| o_end (fr' := [(0, .c (PV.ls _ _ _)), (2, .nil)]) rfl <| e_kw <| w_seqw <| w_sr <| o_p rfl (p_move (v := .c (PV.ls _ _ _)) rfl) <| o_nilc (row := rowApiValue) ti109 (isl_c rfl) (fun b hb => ?_)
 refine o_end (fr' := [(0, .c (PV.ls _ _ _)), (2, .nil), (4, .c (.bool _))]) rfl <| e_kw <| w_cond b rfl (fun e => ?_) (fun e => ?_)
 ·
  rw [hb e]
  exact w_sr <| o_p rfl (p_assign (v := .nil) rfl) <| o_end (fr' := [(0, .c (PV.ls _ _ _)), (2, .nil), (4, .c (.bool _))]) rfl <| e_kw <| w_ret <| e_seq_r <| e_ret (rs' := [.tmp 2]) rfl <| r_tmp (v := .nil) rfl <| r_nil <| fin_gen [] rfl rfl rfl (le_nms rfl) st_nil
 ·
  refine w_skip <| e_kw <| w_sr <| o_rows (row := rowApiValue) (xs := ([] : List ApiValue)) (rows := []) (σ' := []) [] ts109 rfl rfl rfl arow_nil rfl rfl <| o_p rfl (p_move (v := .c (PV.ls _ _ _)) rfl) <| o_appm (row := rowApiValue) ts109 rfl ti109 rfl (isl_c rfl) rowApiValue_len h <| o_p rfl (p_assign (v := AV.ms _ _ _ _) rfl) <| o_end (fr' := [(0, .c (PV.ls _ _ _)), (2, AV.ms _ _ _ _), (4, .c (.bool _))]) rfl <| e_kw <| w_ret <| e_ret (rs' := [.tmp 2]) rfl <| r_tmp (v := AV.ms _ _ _ _) rfl ?_
  exact r_nil <| fin_gen [112] rfl rfl rfl lr st_nil
noncomputable def slices_Clone_string_string (p0s : (List (List UInt8))) : Option (List (List UInt8)) :=
 app 16 ([] : List (List UInt8)) p0s
theorem w_slices_Clone_string_string {p0s : (List (List UInt8))} {res : (List (List UInt8))} (h : slices_Clone_string_string p0s = some res) : ACalls Tryd.prog 90 [.c (PV.ls 1 rowS p0s)] [] (AV.os 0 1 rowS res) [] := by
 unfold slices_Clone_string_string at h
 refine acalls (fn := Tryd.f90) [0, 2, 4] (by kernel_rfl) Tryd.func90 rfl (by kernel_rfl) (by kernel_rfl) ?_
 obtain ⟨hm, he⟩ := app_some h
 rw [List.nil_append] at he
 subst he
 refine w_sr <| o_p rfl (p_assign (v := .nil) rfl) <| o_end (fr' := [(0, .c (PV.ls _ _ _)), (2, .nil)]) rfl <| e_kw <| w_seqw <| w_sr <| o_p rfl (p_move (v := .c (PV.ls _ _ _)) rfl) <| o_nilc (row := rowS) ti110 (isl_c rfl) (fun b hb => ?_)
 refine o_end (fr' := [(0, .c (PV.ls _ _ _)), (2, .nil), (4, .c (.bool _))]) rfl <| e_kw <| w_cond b rfl (fun e => ?_) (fun e => ?_)
 ·
  rw [hb e]
  exact w_sr <| o_p rfl (p_assign (v := .nil) rfl) <| o_end (fr' := [(0, .c (PV.ls _ _ _)), (2, .nil), (4, .c (.bool _))]) rfl <| e_kw <| w_ret <| e_seq_r <| e_ret (rs' := [.tmp 2]) rfl <| r_tmp (v := .nil) rfl <| r_nil <| fin_gen [] rfl rfl rfl (le_nos rfl) st_nil
 ·
  refine w_skip <| e_kw <| w_sr <| o_rows (row := rowS) (xs := ([] : List (List UInt8))) (rows := []) (σ' := []) [] ts110 rfl rfl rfl arow_nil rfl rfl <| o_p rfl (p_move (v := .c (PV.ls _ _ _)) rfl) <| o_app (row := rowS) ts110 rfl ti110 rfl (isl_c rfl) (fun _ => rfl) h <| o_p rfl (p_assign (v := AV.os _ _ _ _) rfl) <| o_end (fr' := [(0, .c (PV.ls _ _ _)), (2, AV.os _ _ _ _), (4, .c (.bool _))]) rfl <| e_kw <| w_ret <| e_ret (rs' := [.tmp 2]) rfl <| r_tmp (v := AV.os _ _ _ _) rfl ?_
  exact r_nil <| fin_gen [112] rfl rfl rfl lr st_nil
noncomputable def history_values_l1 (rec_history_values : (List ApiValue) → Option (List ApiValue)) (x1 : (List ApiValue)) (s6 : ((List ApiValue) × Int)) : Option (Step ((List ApiValue) × Int) (List ApiValue)) :=
 cond (decide (s6.2 < ((x1).length : Int))) ((idx s6.1 s6.2).bind fun (x8 : ApiValue) => (rec_history_values x8.Items).bind fun (x10 : (List ApiValue)) => (slices_Clone_string_string x8.Keys).bind fun (x12 : (List (List UInt8))) => (idx s6.1 s6.2).bind fun (x14 : ApiValue) => some (Step.next ((List.set s6.1 (Int.toNat s6.2) (ApiValue.mk x8.Kind x8.Int x8.Text x10 x12)), (IntKind.wrap .i64 (s6.2 + (1 : Int)))))) (some (Step.out s6.1))
noncomputable def history_valuesF : Nat → (List ApiValue) → Option (List ApiValue)
 | 0, _ => none
 | n + 1, p0l =>
  (slices_Clone_api_Value_api_Value_mut p0l).bind fun (x1 : (List ApiValue)) => ((loopO (history_values_l1 (history_valuesF n) x1) ((x1, (0 : Int)))) : Option (List ApiValue)).bind fun (x3 : (List ApiValue)) => (some x3)
theorem wF_history_values : ∀ n : Nat, (∀ {p0l : (List ApiValue)} {res : (List ApiValue)}, history_valuesF n p0l = some res → ACalls Tryd.prog 89 [.c (PV.ls 5 rowApiValue p0l)] [] (AV.os 0 5 rowApiValue res) []) := by
 intro n
 induction n with
 | zero => exact fun {p0l res} h => absurd h (by simp [history_valuesF])
 | succ n ih =>
  have ih_history_values := @ih
  intro p0l res h
  rw [history_valuesF] at h
  refine acalls (fn := Tryd.f89) [0, 2, 3, 4, 5, 8, 9, 10, 11] (by kernel_rfl) Tryd.func89 rfl (by kernel_rfl) (by kernel_rfl) <| w_sr <| sV (v := AV.nil) rfl <| o_ek (fr' := [(0, aL)]) rfl rfl <| w_sr <| mL rfl ?_
  obtain ⟨x1, hx1, h2⟩ := bind_s h
  refine o_v (ov_call (v := aM) rfl (w_slices_Clone_api_Value_api_Value_mut hx1) ⟨lr, trivial⟩ rfl rfl rfl) <| sV (v := aM) rfl <| o_ek (fr' := [(3, aM)]) rfl rfl <| w_seqw <| w_sr <| mV (v := aM) rfl <| o_p rfl (p_lenm ti109 rfl) <| mI rfl <| o_ek (fr' := [(3, aM), (8, aM), (9, aI), (10, aI)]) rfl rfl ?_
  obtain ⟨x3, hx3, h4⟩ := bind_s h2
  refine w_jtail cl_kw (fun j5 => x3 = j5) (fun (j5 : (List ApiValue)) => ([(3, AV.os 0 5 rowApiValue j5)] : Fr)) (fun (j5 : (List ApiValue)) => ([] : St)) ?_ ?_
  ·
   refine w_block <| w_loopo _ (fun (s6 : ((List ApiValue) × Int)) => ([(3, AV.ms 0 5 rowApiValue s6.1), (8, AV.ms 0 5 rowApiValue s6.1), (9, .c (.int .i64 ((x1).length : Int))), (10, .c (.int .i64 s6.2))] : Fr)) (fun (s6 : ((List ApiValue) × Int)) => ([] : St)) hx3 (w_weak [112] 0 rfl rfl rfl rfl ⟨lr, lr, lr, lr, trivial⟩ st_nil) ?_
   intro s6 st6 hs6 ho6
   unfold history_values_l1 at hs6
   refine w_sr <| o_p rfl (p_lss rfl rfl) <| o_ek (fr' := [(3, aM), (8, aM), (9, aI), (10, aI), (11, aB)]) rfl rfl <| w_seqw <| w_ch hs6 rfl (fun hb7 h7 => ?_) (fun hb7 h7 => ?_)
   ·
    refine w_skip <| e_kw <| w_seqw <| w_block <| w_sr <| mI rfl ?_
    obtain ⟨x8, hx8, h9⟩ := bind_s h7
    refine o_p rfl (p_iam (cs := [PV.int _ _, PV.int _ _, PV.str _, PV.ls _ _ _, PV.ls _ _ _]) ts109 rfl rfl hx8 (rowApiValue_eq _)) <| o_p rfl (p_loadms (us := [PV.int _ _, PV.int _ _, PV.str _, PV.ls _ _ _, PV.ls _ _ _]) tv112 rfl rfl rfl) <| o_alloc (n := 0) (cs := [aI, aI, aS, AV.nil, AV.nil]) (σ' := [[aI, aI, aS, AV.nil, AV.nil]]) tz112 rfl rfl rfl <| sI rfl <| o_store (v := .agg aIISLL) (us := aIISLL) (cs := [aI, aI, aS, AV.nil, AV.nil]) (σ' := [aIISLL]) rfl tv112 rfl rfl rfl rfl rfl rfl rfl rfl <| o_ek (fr' := [(3, aM), (4, aI), (5, .box 0 0), (8, aM), (9, aI), (10, aI)]) rfl rfl <| w_seqw <| w_planT [.q 0, .q 1, .q 2, .q 3, .q 4, .q 5, .q 6, .n 7 [], .q 8, .n 9 []] [(some 15, [5]), (some 16, [15]), (some 17, [16]), (some 18, [5]), (some 19, [18]), (some 20, [19]), (some 21, [5]), (none, [21, 17]), (some 22, [5]), (none, [22, 20])] [0, 1, 3, 0, 8, 31, 31, 127, 255, 511] (by kernel_rfl) <| dq rfl rfl (p_fa tf112x3 rfl) <| dq rfl rfl (p_load (v := aL) tv109 rfl rfl rfl) ?_
    obtain ⟨x10, hx10, h11⟩ := bind_s h9
    refine d_q rfl (qv_call (v := aL) rfl (ih_history_values hx10) ⟨lr, trivial⟩ rfl) <| dq rfl rfl (p_fa tf112x4 rfl) <| dq rfl rfl (p_load (v := aL) tv110 rfl rfl rfl) ?_
    obtain ⟨x12, hx12, h13⟩ := bind_s h11
    refine d_q rfl (qv_call (v := aL) rfl (w_slices_Clone_string_string hx12) ⟨lr, trivial⟩ rfl) <| dq rfl rfl (p_fa tf112x3 rfl) <| d_n rfl ?_ rfl
    refine o_store (v := aL) (us := [aL]) (cs := aIISLL) (σ' := [aIISLL]) rfl tv109 rfl rfl rfl rfl rfl rfl rfl rfl <| o_rc <| ⟨rc_nil, ?_⟩
    refine dq rfl rfl (p_fa tf112x4 rfl) <| d_n rfl ?_ rfl
    refine o_store (v := aL) (us := [aL]) (cs := aIISLL) (σ' := [aIISLL]) rfl tv110 rfl rfl rfl rfl rfl rfl rfl rfl <| o_rc <| ⟨rc_nil, ?_⟩
    refine d_ek (fr' := [(3, aM), (4, aI), (5, .box 0 0), (8, aM), (9, aI), (10, aI)]) rfl rfl <| w_region <| mV (v := aM) rfl <| mI rfl <| o_p rfl (p_loads (us := aIISLL) tv112 rfl rfl rfl rfl) ?_
    obtain ⟨x14, hx14, h15⟩ := bind_s h13
    exact o_p rfl (p_iam (cs := [PV.int _ _, PV.int _ _, PV.str _, PV.ls _ _ _, PV.ls _ _ _]) ts109 rfl rfl hx14 (rowApiValue_eq _)) <| o_mst (v := .agg aIISLL) (cs := [PV.int _ _, PV.int _ _, PV.str _, PV.ls _ _ _, PV.ls _ _ _]) (row := rowApiValue) (xs := s6.1) (u := (ApiValue.mk x8.Kind x8.Int x8.Text x10 x12)) [] [(26, 0)] tv112 rfl rfl rfl rfl rfl rfl (rowApiValue_eq _) ⟨rfl, trivial⟩ rfl rfl <| o_end (fr' := [(3, aM), (4, aI), (5, .box 0 0), (8, aM), (9, aI), (10, aI)]) rfl <| e_blk_n <| e_kw <| w_region <| o_p rfl (p_add rfl rfl) <| mI rfl <| o_end (fr' := [(3, aM), (4, aI), (5, .box 0 0), (8, aM), (9, aI), (10, aI)]) rfl <| e_l _ (sy h15) (w_weak [0] 0 rfl rfl rfl rfl ⟨lr, lr, lr, lr, trivial⟩ st_nil)
   ·
    refine w_exit <| e_seq_x <| e_seq_x <| e_blk_h ?_
    have h16 := un_out h7 ho6
    exact e_j _ (sy h16) (w_frz 0 5 rowApiValue s6.1 rfl rfl (w_weak [0] 0 rfl rfl rfl rfl ⟨lr, trivial⟩ st_nil))
  ·
   intro j5 hj17
   subst hj17
   refine e_kw <| w_sr <| mV (v := aO) rfl <| sV (v := aO) rfl <| o_ek (fr' := [(2, aO)]) rfl rfl <| w_ret ?_
   obtain rfl := sy h4
   exact e_ret (rs' := [.tmp 2]) rfl <| r_tmp (v := aO) rfl <| r_nil <| fin_gen [0] rfl rfl rfl lr st_nil
noncomputable def history_values (p0l : (List ApiValue)) : Option (List ApiValue) := lim fun n => history_valuesF n p0l
theorem w_history_values {p0l : (List ApiValue)} {res : (List ApiValue)} (h : history_values p0l = some res) : ACalls Tryd.prog 89 [.c (PV.ls 5 rowApiValue p0l)] [] (AV.os 0 5 rowApiValue res) [] := by
 obtain ⟨n, hn⟩ := lim_some h
 exact (wF_history_values n) hn
end Go.Proofs.YtmbdbdhdcbdcpaaDoor

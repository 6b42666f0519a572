import Derived.Test.YtmbdbdhdcbdcpaaDoorGHTy
import Derived.Test.YtmbdbdhdcbdcpaaDoorGHF4
namespace Go.Proofs.YtmbdbdhdcbdcpaaDoor
open Go Abs
set_option maxRecDepth 100000
set_option linter.unusedVariables false
set_option linter.unusedSimpArgs false
noncomputable def history_copied_l1 (x1 : (List ApiEvent)) (s6 : ((List ApiEvent) × Int)) : Option (Step ((List ApiEvent) × Int) (List ApiEvent)) :=
 cond (decide (s6.2 < ((x1).length : Int))) ((idx s6.1 s6.2).bind fun (x8 : ApiEvent) => (history_values ([x8.Data] : List ApiValue)).bind fun (x10 : (List ApiValue)) => (idx x10 (0 : Int)).bind fun (x12 : ApiValue) => (slices_Clone_string_string x8.Opts.Fatal).bind fun (x14 : (List (List UInt8))) => (idx s6.1 s6.2).bind fun (x16 : ApiEvent) => some (Step.next ((List.set s6.1 (Int.toNat s6.2) (ApiEvent.mk x8.ID x8.Kind x8.Time x8.Seq x8.Ref x8.N x8.Code x8.Name x8.Key x12 (ApiPolicy.mk x8.Opts.Queue x8.Opts.ToStart x8.Opts.ToClose x8.Opts.Total x8.Opts.Beat x8.Opts.First x8.Opts.Coef x8.Opts.Most x8.Opts.Attempts x14))), (IntKind.wrap .i64 (s6.2 + (1 : Int)))))) (some (Step.out s6.1))
noncomputable def history_copied (p0l : (List ApiEvent)) : Option (List ApiEvent) :=
 (slices_Clone_api_Event_api_Event_mut p0l).bind fun (x1 : (List ApiEvent)) => ((loopO (history_copied_l1 x1) ((x1, (0 : Int)))) : Option (List ApiEvent)).bind fun (x3 : (List ApiEvent)) => (some x3)
theorem w_history_copied {p0l : (List ApiEvent)} {res : (List ApiEvent)} (h : history_copied p0l = some res) : ACalls Tryd.prog 51 [.c (PV.ls 24 rowApiEvent p0l)] [] (AV.os 0 24 rowApiEvent res) [] := by
 unfold history_copied at h
 refine acalls (fn := Tryd.f51) [0, 2, 3, 4, 5, 8, 9, 10, 11] (by kernel_rfl) Tryd.func51 rfl (by kernel_rfl) (by kernel_rfl) <| w_sr <| sV (v := AV.nil) rfl <| o_ek (fr' := [(0, aL)]) rfl rfl <| w_sr <| mL rfl ?_
 obtain ⟨x1, hx1, h2⟩ := bind_s h
 refine o_v (ov_call (v := aM) rfl (w_slices_Clone_api_Event_api_Event_mut hx1) ⟨lr, trivial⟩ rfl rfl rfl) <| sV (v := aM) rfl <| o_ek (fr' := [(3, aM)]) rfl rfl <| w_seqw <| w_sr <| mV (v := aM) rfl <| o_p rfl (p_lenm ti63 rfl) <| mI rfl <| o_ek (fr' := [(3, aM), (8, aM), (9, aI), (10, aI)]) rfl rfl ?_
 obtain ⟨x3, hx3, h4⟩ := bind_s h2
 refine w_jtail cl_kw (fun j5 => x3 = j5) (fun (j5 : (List ApiEvent)) => ([(3, AV.os 0 24 rowApiEvent j5)] : Fr)) (fun (j5 : (List ApiEvent)) => ([] : St)) ?_ ?_
 ·
  refine w_block <| w_loopo _ (fun (s6 : ((List ApiEvent) × Int)) => ([(3, AV.ms 0 24 rowApiEvent s6.1), (8, AV.ms 0 24 rowApiEvent s6.1), (9, .c (.int .i64 ((x1).length : Int))), (10, .c (.int .i64 s6.2))] : Fr)) (fun (s6 : ((List ApiEvent) × Int)) => ([] : St)) hx3 (w_weak [112] 0 rfl rfl rfl rfl ⟨lr, lr, lr, lr, trivial⟩ st_nil) ?_
  intro s6 st6 hs6 ho6
  unfold history_copied_l1 at hs6
  refine w_sr <| o_p rfl (p_lss rfl rfl) <| o_ek (fr' := [(3, aM), (8, aM), (9, aI), (10, aI), (11, aB)]) rfl rfl <| w_seqw <| w_ch hs6 rfl (fun hb7 h7 => ?_) (fun hb7 h7 => ?_)
  ·
   refine w_skip <| e_kw <| w_seqw <| w_block <| w_sr <| mI rfl ?_
   obtain ⟨x8, hx8, h9⟩ := bind_s h7
   refine o_p rfl (p_iam (cs := [PV.int _ _, PV.int _ _, PV.int _ _, PV.int _ _, PV.int _ _, PV.int _ _, PV.int _ _, PV.str _, PV.str _, PV.int _ _, PV.int _ _, PV.str _, PV.ls _ _ _, PV.ls _ _ _, PV.str _, PV.int _ _, PV.int _ _, PV.int _ _, PV.int _ _, PV.int _ _, PV.int _ _, PV.int _ _, PV.int _ _, PV.ls _ _ _]) ts63 rfl rfl hx8 rfl) <| o_p rfl (p_loadms (us := [PV.int _ _, PV.int _ _, PV.int _ _, PV.int _ _, PV.int _ _, PV.int _ _, PV.int _ _, PV.str _, PV.str _, PV.int _ _, PV.int _ _, PV.str _, PV.ls _ _ _, PV.ls _ _ _, PV.str _, PV.int _ _, PV.int _ _, PV.int _ _, PV.int _ _, PV.int _ _, PV.int _ _, PV.int _ _, PV.int _ _, PV.ls _ _ _]) tv116 rfl rfl rfl) <| o_alloc (n := 0) (cs := [aI, aI, aI, aI, aI, aI, aI, aS, aS, aI, aI, aS, AV.nil, AV.nil, aS, aI, aI, aI, aI, aI, aI, aI, aI, AV.nil]) (σ' := [[aI, aI, aI, aI, aI, aI, aI, aS, aS, aI, aI, aS, AV.nil, AV.nil, aS, aI, aI, aI, aI, aI, aI, aI, aI, AV.nil]]) tz116 rfl rfl rfl <| sI rfl <| o_store (v := .agg aIIIIIIISSIISLLSIIIIIIIIL) (us := aIIIIIIISSIISLLSIIIIIIIIL) (cs := [aI, aI, aI, aI, aI, aI, aI, aS, aS, aI, aI, aS, AV.nil, AV.nil, aS, aI, aI, aI, aI, aI, aI, aI, aI, AV.nil]) (σ' := [aIIIIIIISSIISLLSIIIIIIIIL]) rfl tv116 rfl rfl rfl rfl rfl rfl rfl rfl <| o_ek (fr' := [(3, aM), (4, aI), (5, .box 0 0), (8, aM), (9, aI), (10, aI)]) rfl rfl <| w_sr <| o_p rfl (p_fa tf116x9 rfl) <| o_p rfl (p_loads (us := aIISLL) tv112 rfl rfl rfl rfl) <| o_rows (row := rowApiValue) (xs := ([x8.Data] : List ApiValue)) (rows := [[_, _, _, _, _]]) (σ' := [aIIIIIIISSIISLLSIIIIIIIIL]) [0, 0, 0, 5, 1] ts109 rfl rfl rfl (arow_cons (rowApiValue_eq _) arow_nil) rfl rfl ?_
   obtain ⟨x10, hx10, h11⟩ := bind_s h9
   refine o_v (ov_call (v := aO) rfl (w_history_values hx10) ⟨lr, trivial⟩ rfl rfl rfl) ?_
   obtain ⟨x12, hx12, h13⟩ := bind_s h11
   refine o_p rfl (p_ia (cs := [PV.int _ _, PV.int _ _, PV.str _, PV.ls _ _ _, PV.ls _ _ _]) ts109 (isl_o rfl) rfl hx12 (rowApiValue_eq _)) <| o_p rfl (p_loades (us := [PV.int _ _, PV.int _ _, PV.str _, PV.ls _ _ _, PV.ls _ _ _]) tv112 rfl rfl rfl) <| o_p rfl (p_fa tf116x9 rfl) <| o_store (v := .agg aIISLL) (us := aIISLL) (cs := aIIIIIIISSIISLLSIIIIIIIIL) (σ' := [aIIIIIIISSIISLLSIIIIIIIIL]) rfl tv112 rfl rfl rfl rfl rfl rfl rfl rfl <| o_ek (fr' := [(3, aM), (4, aI), (5, .box 0 0), (8, aM), (9, aI), (10, aI)]) rfl rfl <| w_sr <| o_p rfl (p_fa tf116x10 rfl) <| o_p rfl (p_fa tf114x9 rfl) <| o_p rfl (p_load (v := aL) tv110 rfl rfl rfl) ?_
   obtain ⟨x14, hx14, h15⟩ := bind_s h13
   refine o_v (ov_call (v := aO) rfl (w_slices_Clone_string_string hx14) ⟨lr, trivial⟩ rfl rfl rfl) <| o_p rfl (p_fa tf116x10 rfl) <| o_p rfl (p_fa tf114x9 rfl) <| o_store (v := aO) (us := [aO]) (cs := aIIIIIIISSIISLLSIIIIIIIIL) (σ' := [[aI, aI, aI, aI, aI, aI, aI, aS, aS, aI, aI, aS, aL, aL, aS, aI, aI, aI, aI, aI, aI, aI, aI, aO]]) rfl tv110 rfl rfl rfl rfl rfl rfl rfl rfl <| o_ek (fr' := [(3, aM), (4, aI), (5, .box 0 0), (8, aM), (9, aI), (10, aI)]) rfl rfl <| w_region <| mV (v := aM) rfl <| mI rfl <| o_p rfl (p_loads (us := [aI, aI, aI, aI, aI, aI, aI, aS, aS, aI, aI, aS, aL, aL, aS, aI, aI, aI, aI, aI, aI, aI, aI, aO]) tv116 rfl rfl rfl rfl) ?_
   obtain ⟨x16, hx16, h17⟩ := bind_s h15
   exact o_p rfl (p_iam (cs := [PV.int _ _, PV.int _ _, PV.int _ _, PV.int _ _, PV.int _ _, PV.int _ _, PV.int _ _, PV.str _, PV.str _, PV.int _ _, PV.int _ _, PV.str _, PV.ls _ _ _, PV.ls _ _ _, PV.str _, PV.int _ _, PV.int _ _, PV.int _ _, PV.int _ _, PV.int _ _, PV.int _ _, PV.int _ _, PV.int _ _, PV.ls _ _ _]) ts63 rfl rfl hx16 rfl) <| o_mst (v := .agg [aI, aI, aI, aI, aI, aI, aI, aS, aS, aI, aI, aS, aL, aL, aS, aI, aI, aI, aI, aI, aI, aI, aI, aO]) (cs := [PV.int _ _, PV.int _ _, PV.int _ _, PV.int _ _, PV.int _ _, PV.int _ _, PV.int _ _, PV.str _, PV.str _, PV.int _ _, PV.int _ _, PV.str _, PV.ls _ _ _, PV.ls _ _ _, PV.str _, PV.int _ _, PV.int _ _, PV.int _ _, PV.int _ _, PV.int _ _, PV.int _ _, PV.int _ _, PV.int _ _, PV.ls _ _ _]) (row := rowApiEvent) (xs := s6.1) (u := (ApiEvent.mk x8.ID x8.Kind x8.Time x8.Seq x8.Ref x8.N x8.Code x8.Name x8.Key x12 (ApiPolicy.mk x8.Opts.Queue x8.Opts.ToStart x8.Opts.ToClose x8.Opts.Total x8.Opts.Beat x8.Opts.First x8.Opts.Coef x8.Opts.Most x8.Opts.Attempts x14))) [] [(31, 0)] tv116 rfl rfl rfl rfl rfl rfl rfl ⟨rfl, trivial⟩ rfl rfl <| o_end (fr' := [(3, aM), (4, aI), (5, .box 0 0), (8, aM), (9, aI), (10, aI)]) rfl <| e_blk_n <| e_kw <| w_region <| o_p rfl (p_add rfl rfl) <| mI rfl <| o_end (fr' := [(3, aM), (4, aI), (5, .box 0 0), (8, aM), (9, aI), (10, aI)]) rfl <| e_l _ (sy h17) (w_weak [0] 0 rfl rfl rfl rfl ⟨lr, lr, lr, lr, trivial⟩ st_nil)
  ·
   refine w_exit <| e_seq_x <| e_seq_x <| e_blk_h ?_
   have h18 := un_out h7 ho6
   exact e_j _ (sy h18) (w_frz 0 24 rowApiEvent s6.1 rfl rfl (w_weak [0] 0 rfl rfl rfl rfl ⟨lr, trivial⟩ st_nil))
 ·
  intro j5 hj19
  subst hj19
  refine e_kw <| w_sr <| mV (v := aO) rfl <| sV (v := aO) rfl <| o_ek (fr' := [(2, aO)]) rfl rfl <| w_ret ?_
  obtain rfl := sy h4
  exact e_ret (rs' := [.tmp 2]) rfl <| r_tmp (v := aO) rfl <| r_nil <| fin_gen [0] rfl rfl rfl lr st_nil
noncomputable def history_Append (p0l : (List ApiEvent)) (p1more : (List ApiEvent)) : Option ((List ApiEvent) × Int) :=
 (history_copied p0l).bind fun (x1 : (List ApiEvent)) => (history_copied p1more).bind fun (x3 : (List ApiEvent)) => (app 272 x1 x3).bind fun (x5 : (List ApiEvent)) => (history_Check x5).bind fun (x7 : Int) => cond (!decide (x7 = (0 : Int))) (some (([] : (List ApiEvent)), x7)) (some (x5, (0 : Int)))
theorem w_history_Append {p0l : (List ApiEvent)} {p1more : (List ApiEvent)} {res : ((List ApiEvent) × Int)} (h : history_Append p0l p1more = some res) : ACalls Tryd.prog 25 [.c (PV.ls 24 rowApiEvent p0l), .c (PV.ls 24 rowApiEvent p1more)] [] (.tup [AV.os 0 24 rowApiEvent res.1, .c (.int .i64 res.2)]) [] := by
 unfold history_Append at h
 refine acalls (fn := Tryd.f25) [0, 1, 4, 5, 6, 7, 16] (by kernel_rfl) Tryd.func25 rfl (by kernel_rfl) (by kernel_rfl) <| w_sr <| sV (v := AV.nil) rfl <| sI rfl <| o_ek (fr' := [(0, aL), (1, aL)]) rfl rfl <| w_sr <| mL rfl ?_
 obtain ⟨x1, hx1, h2⟩ := bind_s h
 refine o_v (ov_call (v := aO) rfl (w_history_copied hx1) ⟨lr, trivial⟩ rfl rfl rfl) <| mL rfl ?_
 obtain ⟨x3, hx3, h4⟩ := bind_s h2
 refine o_v (ov_call (v := aO) rfl (w_history_copied hx3) ⟨lr, trivial⟩ rfl rfl rfl) ?_
 obtain ⟨x5, hx5, h6⟩ := bind_s h4
 refine o_app (row := rowApiEvent) ts63 rfl ti63 rfl (isl_o rfl) (fun _ => rfl) hx5 <| sV (v := aO) rfl <| o_ek (fr' := [(6, aO)]) rfl rfl <| w_seqw <| w_sr <| mV (v := aO) rfl ?_
 obtain ⟨x7, hx7, h8⟩ := bind_s h6
 refine o_v (ov_call (v := aI) rfl (w_history_Check hx7) ⟨lr, trivial⟩ rfl rfl rfl) <| sI rfl <| o_ek (fr' := [(6, aO), (7, aI)]) rfl rfl <| w_sr <| mI rfl <| o_p rfl (p_neq rfl rfl) <| o_ek (fr' := [(6, aO), (7, aI), (16, aB)]) rfl rfl <| w_ch h8 rfl (fun hb9 h9 => ?_) (fun hb9 h9 => ?_)
 ·
  refine w_sr <| mI rfl <| sV (v := AV.nil) rfl <| sI rfl <| o_ek (fr' := [(4, AV.nil), (5, aI)]) rfl rfl <| w_ret <| e_seq_r ?_
  obtain rfl := sy h9
  exact e_ret (rs' := [.tmp 4, .tmp 5]) rfl <| r_tmp (v := AV.nil) rfl <| r_tmp (v := aI) rfl <| r_nil <| fin_gen [1000000] rfl rfl rfl (le_tupp rfl ⟨(le_nos rfl), lr, trivial⟩) st_nil
 ·
  refine w_skip <| e_kw <| w_sr <| mV (v := aO) rfl <| sV (v := aO) rfl <| sI rfl <| o_ek (fr' := [(4, aO), (5, aI)]) rfl rfl <| w_ret ?_
  obtain rfl := sy h9
  exact e_ret (rs' := [.tmp 4, .tmp 5]) rfl <| r_tmp (v := aO) rfl <| r_tmp (v := aI) rfl <| r_nil <| fin_gen [192] rfl rfl rfl (le_tupp rfl ⟨lr, lr, trivial⟩) st_nil
noncomputable def law24xHistoryGrows_l1 (x11 : (List HistoryTurn)) (x13 : (List HistoryTurn)) (s20 : Int) : Option (Step Int (Fl Bool Unit)) :=
 cond (decide (s20 < (IntKind.wrap .i64 (((x11).length : Int) - (1 : Int))))) ((idx x11 s20).bind fun (x22 : HistoryTurn) => (idx x13 s20).bind fun (x24 : HistoryTurn) => cond (!(decide (x22.Start = x24.Start) && (decide (x22.End = x24.End) && (decide (x22.Next = x24.Next) && ((x22.Done == x24.Done) && true))))) (some (Step.out (Fl.done false))) (some (Step.next (IntKind.wrap .i64 (s20 + (1 : Int)))))) (some (Step.out (Fl.go ())))
noncomputable def law24xHistoryGrows (p0l : (List ApiEvent)) (p1more : (List ApiEvent)) : Option Bool :=
 cond (cond (decide ((200 : Int) < ((p0l).length : Int))) true (decide ((200 : Int) < ((p1more).length : Int)))) ((law24xworks).bind fun (x2 : Bool) => some x2) ((history_Append p0l p1more).bind fun (x5 : ((List ApiEvent) × Int)) => cond (!decide (x5.2 = (0 : Int))) ((law24xworks).bind fun (x8 : Bool) => some x8) ((history_Turns p0l).bind fun (x11 : (List HistoryTurn)) => (history_Turns x5.1).bind fun (x13 : (List HistoryTurn)) => cond (decide (((x13).length : Int) < ((x11).length : Int))) (some false) (((loopO (law24xHistoryGrows_l1 x11 x13) ((0 : Int))) : Option (Fl Bool Unit)).bind fun (x17 : (Fl Bool Unit)) => Fl.next x17 (fun (j19 : Unit) => ((gd ((decide ((0 : Int) < ((x11).length : Int))) == true) (idx x11 (IntKind.wrap .i64 (((x11).length : Int) - (1 : Int))))).bind fun (x32 : HistoryTurn) => (gd ((decide ((0 : Int) < ((x11).length : Int))) == true) (idx x13 (IntKind.wrap .i64 (((x11).length : Int) - (1 : Int))))).bind fun (x34 : HistoryTurn) => cond (cond (decide ((0 : Int) < ((x11).length : Int))) (!decide (x32.Start = x34.Start)) false) (some false) ((law24xworks).bind fun (x38 : Bool) => some x38))))))
theorem w_law24xHistoryGrows {p0l : (List ApiEvent)} {p1more : (List ApiEvent)} {res : Bool} (h : law24xHistoryGrows p0l p1more = some res) : ACalls Tryd.prog 7 [.c (PV.ls 24 rowApiEvent p0l), .c (PV.ls 24 rowApiEvent p1more)] [] (.c (.bool res)) [] := by
 unfold law24xHistoryGrows at h
 refine acalls (fn := Tryd.f7) [0, 1, 4, 5, 6, 7, 8, 9, 10, 18, 27, 37, 42, 53, 72] (by kernel_rfl) Tryd.func7 rfl (by kernel_rfl) (by kernel_rfl) <| w_sr <| sB rfl <| o_ek (fr' := [(0, aL), (1, aL)]) rfl rfl <| w_seqw <| w_sr <| mL rfl <| o_p rfl (p_len ti63 (isl_c rfl)) <| o_p rfl (p_gtr rfl rfl) <| mB rfl <| og rfl rfl rfl (fun hc => (p_move (v := aL) rfl)) ?_
 refine og rfl rfl rfl (fun hc => (p_len ti63 (isl_c (gx rfl hc)))) <| og rfl rfl rfl (fun hc => (p_gtr (gx rfl hc) rfl)) <| o_p rfl (p_pickz rfl rfl rfl (fun e => keq e)) <| o_ek (fr' := [(0, aL), (1, aL), (18, aB)]) rfl rfl <| w_ch h rfl (fun hb1 h1 => ?_) (fun hb1 h1 => ?_)
 ·
  refine w_seqw <| w_region ?_
  obtain ⟨x2, hx2, h3⟩ := bind_s h1
  refine o_v (ov_call (v := aB) rfl (w_law24xworks hx2) trivial rfl rfl rfl) <| sB rfl <| o_ek (fr' := [(4, aB)]) rfl rfl <| w_ret <| e_seq_r ?_
  obtain rfl := sy h3
  exact e_ret (rs' := [.tmp 4]) rfl <| r_tmp (v := aB) rfl <| r_nil <| fin_gen [] rfl rfl rfl lr st_nil
 ·
  refine w_skip <| e_kw <| w_sr <| mL rfl <| mL rfl ?_
  obtain ⟨x5, hx5, h6⟩ := bind_s h1
  refine o_v (ov_call (v := .tup [aO, aI]) rfl (w_history_Append hx5) ⟨lr, lr, trivial⟩ rfl rfl rfl) <| mV (v := .tup [aO, aI]) rfl <| o_p rfl (p_ex (v := aO) rfl rfl) <| o_p rfl (p_ex (v := aI) rfl rfl) <| sV (v := aO) rfl <| sI rfl <| o_ek (fr' := [(0, aL), (5, aO), (6, aI)]) rfl rfl <| w_seqw <| w_sr <| mI rfl <| o_p rfl (p_neq rfl rfl) <| o_ek (fr' := [(0, aL), (5, aO), (27, aB)]) rfl rfl ?_
  refine w_ch h6 rfl (fun hb7 h7 => ?_) (fun hb7 h7 => ?_)
  ·
   refine w_seqw <| w_region ?_
   obtain ⟨x8, hx8, h9⟩ := bind_s h7
   refine o_v (ov_call (v := aB) rfl (w_law24xworks hx8) trivial rfl rfl rfl) <| sB rfl <| o_ek (fr' := [(4, aB)]) rfl rfl <| w_ret <| e_seq_r ?_
   obtain rfl := sy h9
   exact e_ret (rs' := [.tmp 4]) rfl <| r_tmp (v := aB) rfl <| r_nil <| fin_gen [] rfl rfl rfl lr st_nil
  ·
   refine w_skip <| e_kw <| w_sr <| mL rfl ?_
   obtain ⟨x11, hx11, h12⟩ := bind_s h7
   refine o_v (ov_call (v := aO) rfl (w_history_Turns hx11) ⟨lr, trivial⟩ rfl rfl rfl) <| mV (v := aO) rfl ?_
   obtain ⟨x13, hx13, h14⟩ := bind_s h12
   refine o_v (ov_call (v := aO) rfl (w_history_Turns hx13) ⟨lr, trivial⟩ rfl rfl rfl) <| sV (v := aO) rfl <| sV (v := aO) rfl <| o_ek (fr' := [(7, aO), (8, aO)]) rfl rfl <| w_seqw <| w_sr <| mV (v := aO) rfl <| o_p rfl (p_len ti66 (isl_o rfl)) <| mV (v := aO) rfl <| o_p rfl (p_len ti66 (isl_o rfl)) <| o_p rfl (p_gtr rfl rfl) <| o_ek (fr' := [(7, aO), (8, aO), (37, aB)]) rfl rfl ?_
   refine w_ch h14 rfl (fun hb15 h15 => ?_) (fun hb15 h15 => ?_)
   ·
    refine w_sr <| sB rfl <| o_ek (fr' := [(4, aB)]) rfl rfl <| w_ret <| e_seq_r ?_
    obtain rfl := sy h15
    exact e_ret (rs' := [.tmp 4]) rfl <| r_tmp (v := aB) rfl <| r_nil <| fin_gen [] rfl rfl rfl lr st_nil
   ·
    refine w_skip <| e_kw <| w_seqw <| w_sr <| sI rfl <| o_ek (fr' := [(7, aO), (8, aO), (9, aI)]) rfl rfl ?_
    obtain ⟨x17, hx17, h18⟩ := bind_s h15
    refine w_jtail cl_kw (fun j19 => x17 = Fl.go j19) (fun (j19 : Unit) => ([(7, AV.os 0 4 rowHistoryTurn x11), (8, AV.os 1 4 rowHistoryTurn x13)] : Fr)) (fun (j19 : Unit) => ([] : St)) ?_ ?_
    ·
     refine w_block <| w_loopo _ (fun (s20 : Int) => ([(7, AV.os 0 4 rowHistoryTurn x11), (8, AV.os 1 4 rowHistoryTurn x13), (9, .c (.int .i64 s20))] : Fr)) (fun (s20 : Int) => ([] : St)) hx17 (w_weak [480, 512] 0 rfl rfl rfl rfl ⟨lr, lr, lr, trivial⟩ st_nil) ?_
     intro s20 st20 hs20 ho20
     unfold law24xHistoryGrows_l1 at hs20
     refine w_seqw <| w_sr <| mI rfl <| mV (v := aO) rfl <| o_p rfl (p_len ti66 (isl_o rfl)) <| o_p rfl (p_sub rfl rfl) <| o_p rfl (p_lss rfl rfl) <| o_ek (fr' := [(7, aO), (8, aO), (9, aI), (42, aB)]) rfl rfl <| w_ch hs20 rfl (fun hb21 h21 => ?_) (fun hb21 h21 => ?_)
     ·
      refine w_skip <| e_kw <| w_seqw <| w_block <| w_seqw <| w_planT [.q 0, .q 1, .q 2, .q 3, .q 4, .q 5, .q 6, .q 7, .q 8] [(some 45, [7]), (some 46, [9]), (some 47, [45, 46]), (some 48, [47]), (some 49, [8]), (some 50, [9]), (some 51, [49, 50]), (some 52, [51]), (some 53, [48, 52])] [0, 0, 3, 7, 0, 0, 48, 112, 255] (by kernel_rfl) <| dq rfl rfl (p_move (v := aO) rfl) <| dq rfl rfl (p_move (v := aI) rfl) ?_
      obtain ⟨x22, hx22, h23⟩ := bind_s h21
      refine dq rfl rfl (p_ia (cs := [PV.int _ _, PV.int _ _, PV.int _ _, PV.bool _]) ts66 (isl_o rfl) rfl hx22 rfl) <| dq rfl rfl (p_loades (us := [PV.int _ _, PV.int _ _, PV.int _ _, PV.bool _]) tv69 rfl rfl rfl) <| dq rfl rfl (p_move (v := aO) rfl) <| dq rfl rfl (p_move (v := aI) rfl) ?_
      obtain ⟨x24, hx24, h25⟩ := bind_s h23
      refine dq rfl rfl (p_ia (cs := [PV.int _ _, PV.int _ _, PV.int _ _, PV.bool _]) ts66 (isl_o rfl) rfl hx24 rfl) <| dq rfl rfl (p_loades (us := [PV.int _ _, PV.int _ _, PV.int _ _, PV.bool _]) tv69 rfl rfl rfl) <| dq rfl rfl (p_aneq eqk69 tv69 eg69 rfl rfl rfl rfl) <| d_ek (fr' := [(7, aO), (8, aO), (9, aI), (53, aB)]) rfl rfl <| w_ch h25 rfl (fun hb26 h26 => ?_) (fun hb26 h26 => ?_)
      ·
       refine w_sr <| sB rfl <| o_ek (fr' := [(4, aB)]) rfl rfl <| w_ret <| e_blk_r <| e_seq_r <| e_seq_r <| e_blk_r <| e_seq_r <| e_seq_r ?_
       have h27 := un_out h26 ho20
       have h28 := un_done h27 h18
       obtain rfl := sy h28
       exact e_ret (rs' := [.tmp 4]) rfl <| r_tmp (v := aB) rfl <| r_nil <| fin_gen [] rfl rfl rfl lr st_nil
      ·
       exact w_skip <| e_blk_n <| e_kw <| w_region <| mI rfl <| o_p rfl (p_add rfl rfl) <| sI rfl <| o_end (fr' := [(7, aO), (8, aO), (9, aI), (53, aB)]) rfl <| e_l _ (sy h26) (w_weak [0, 1] 0 rfl rfl rfl rfl ⟨lr, lr, lr, trivial⟩ st_nil)
     ·
      refine w_exit <| e_seq_x <| e_seq_x <| e_blk_h ?_
      have h30 := un_out h21 ho20
      exact e_j _ (sy h30) (w_weak [0, 1] 0 rfl rfl rfl rfl ⟨lr, lr, trivial⟩ st_nil)
    ·
     intro j19 hj31
     have h31 := un_go hj31 h18
     refine e_kw <| w_seqw <| w_sr <| mV (v := aO) rfl <| o_p rfl (p_len ti66 (isl_o rfl)) <| sI rfl <| o_ek (fr' := [(7, aO), (8, aO), (10, aI)]) rfl rfl <| w_seqw <| w_planT [.q 0, .q 1, .q 2, .q 3, .q 4, .q 5, .q 6, .q 7, .q 8, .q 9, .q 10, .q 11, .q 12, .q 13, .q 14, .q 15, .q 16] [(some 56, [10]), (some 57, [56]), (some 58, [57]), (some 59, [7, 58]), (some 60, [10, 58]), (some 61, [60, 58]), (some 62, [59, 61, 58]), (some 63, [62, 58]), (some 64, [63, 58]), (some 65, [8, 58]), (some 66, [10, 58]), (some 67, [66, 58]), (some 68, [65, 67, 58]), (some 69, [68, 58]), (some 70, [69, 58]), (some 71, [64, 70, 58]), (some 72, [58, 71])] [0, 1, 3, 7, 7, 23, 63, 127, 255, 7, 7, 1031, 3591, 7687, 15879, 32767, 65535] (by kernel_rfl) <| dq rfl rfl (p_move (v := aI) rfl) <| dq rfl rfl (p_gtr rfl rfl) <| dq rfl rfl (p_move (v := aB) rfl) ?_
     refine d_g rfl rfl rfl (fun hc => qv_p rfl (p_move (v := aO) rfl)) <| d_g rfl rfl rfl (fun hc => qv_p rfl (p_move (v := aI) rfl)) <| d_g rfl rfl rfl (fun hc => qv_p rfl (p_sub (gx rfl hc) rfl)) ?_
     obtain ⟨x32, hx32, h33⟩ := bind_s h31
     refine d_g rfl rfl rfl (fun hc => qv_p rfl (p_ia (cs := [PV.int _ _, PV.int _ _, PV.int _ _, PV.bool _]) ts66 (isl_o (gx rfl hc)) (gx rfl hc) (gd_some hx32 hc) rfl)) <| d_g rfl rfl rfl (fun hc => qv_p rfl (p_fae tf69x0 (gx rfl hc))) <| d_g rfl rfl rfl (fun hc => qv_p rfl (p_loade (p := PV.int _ _) tv3 (gx rfl hc) rfl)) <| d_g rfl rfl rfl (fun hc => qv_p rfl (p_move (v := aO) rfl)) <| d_g rfl rfl rfl (fun hc => qv_p rfl (p_move (v := aI) rfl)) <| d_g rfl rfl rfl (fun hc => qv_p rfl (p_sub (gx rfl hc) rfl)) ?_
     obtain ⟨x34, hx34, h35⟩ := bind_s h33
     refine d_g rfl rfl rfl (fun hc => qv_p rfl (p_ia (cs := [PV.int _ _, PV.int _ _, PV.int _ _, PV.bool _]) ts66 (isl_o (gx rfl hc)) (gx rfl hc) (gd_some hx34 hc) rfl)) <| d_g rfl rfl rfl (fun hc => qv_p rfl (p_fae tf69x0 (gx rfl hc))) <| d_g rfl rfl rfl (fun hc => qv_p rfl (p_loade (p := PV.int _ _) tv3 (gx rfl hc) rfl)) <| d_g rfl rfl rfl (fun hc => qv_p rfl (p_neq (gx rfl hc) (gx rfl hc))) <| dq rfl rfl (p_picky rfl rfl rfl (fun e => keq e)) <| d_ek (fr' := [(72, aB)]) rfl rfl <| w_ch h35 rfl (fun hb36 h36 => ?_) (fun hb36 h36 => ?_)
     ·
      refine w_sr <| sB rfl <| o_ek (fr' := [(4, aB)]) rfl rfl <| w_ret <| e_seq_r ?_
      obtain rfl := sy h36
      exact e_ret (rs' := [.tmp 4]) rfl <| r_tmp (v := aB) rfl <| r_nil <| fin_gen [] rfl rfl rfl lr st_nil
     ·
      refine w_skip <| e_kw <| w_seqw <| w_region ?_
      obtain ⟨x38, hx38, h39⟩ := bind_s h36
      refine o_v (ov_call (v := aB) rfl (w_law24xworks hx38) trivial rfl rfl rfl) <| sB rfl <| o_ek (fr' := [(4, aB)]) rfl rfl <| w_ret ?_
      obtain rfl := sy h39
      exact e_ret (rs' := [.tmp 4]) rfl <| r_tmp (v := aB) rfl <| r_nil <| fin_gen [] rfl rfl rfl lr st_nil
end Go.Proofs.YtmbdbdhdcbdcpaaDoor

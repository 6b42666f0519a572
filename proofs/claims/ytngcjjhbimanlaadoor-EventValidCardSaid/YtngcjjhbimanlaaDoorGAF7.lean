import Derived.Test.YtngcjjhbimanlaaDoorGATy
import Derived.Test.YtngcjjhbimanlaaDoorGAF5
import Derived.Test.YtngcjjhbimanlaaDoorGAF6
namespace Go.Proofs.YtngcjjhbimanlaaDoor
open Go Abs
set_option maxRecDepth 100000
set_option linter.unusedVariables false
set_option linter.unusedSimpArgs false
noncomputable def history_Turns_l2 (p0l : (List ApiEvent)) (x16 : ApiEvent) (s21 : Int) : Option (Step Int Int) :=
 (gd ((cond (decide (x16.Kind = (4 : Int))) (decide (s21 < ((p0l).length : Int))) false) == true) (idx p0l s21)).bind fun (x22 : ApiEvent) => (gd ((cond (decide (x16.Kind = (4 : Int))) (decide (s21 < ((p0l).length : Int))) false) == true) (event_IsCommand x22.Kind)).bind fun (x24 : Bool) => cond (cond (cond (decide (x16.Kind = (4 : Int))) (decide (s21 < ((p0l).length : Int))) false) x24 false) (some (Step.next (IntKind.wrap .i64 (s21 + (1 : Int))))) (some (Step.out s21))
noncomputable def history_Turns_l1 (p0l : (List ApiEvent)) (s8 : ((List HistoryTurn) × Int)) : Option (Step ((List HistoryTurn) × Int) (List HistoryTurn)) :=
 cond (decide (s8.2 < ((p0l).length : Int))) ((idx p0l s8.2).bind fun (x10 : ApiEvent) => cond (!decide (x10.Kind = (3 : Int))) (some (Step.next (s8.1, (IntKind.wrap .i64 (s8.2 + (1 : Int)))))) (cond (decide (s8.2 = (IntKind.wrap .i64 (((p0l).length : Int) - (1 : Int))))) ((app 32 s8.1 ([(HistoryTurn.mk s8.2 (-1 : Int) ((p0l).length : Int) false)] : List HistoryTurn)).bind fun (x14 : (List HistoryTurn)) => some (Step.next (x14, (IntKind.wrap .i64 (s8.2 + (1 : Int)))))) ((idx p0l (IntKind.wrap .i64 (s8.2 + (1 : Int)))).bind fun (x16 : ApiEvent) => ((loopO (history_Turns_l2 p0l x16) ((IntKind.wrap .i64 (s8.2 + (2 : Int))))) : Option Int).bind fun (x18 : Int) => ((app 32 s8.1 ([(HistoryTurn.mk s8.2 (IntKind.wrap .i64 (s8.2 + (1 : Int))) x18 (decide (x16.Kind = (4 : Int))))] : List HistoryTurn)).bind fun (x29 : (List HistoryTurn)) => some (Step.next (x29, (IntKind.wrap .i64 (s8.2 + (1 : Int))))))))) (some (Step.out s8.1))
noncomputable def history_Turns (p0l : (List ApiEvent)) : Option (List HistoryTurn) :=
 (history_Check p0l).bind fun (x1 : Int) => cond (!decide (x1 = (0 : Int))) (some ([] : (List HistoryTurn))) (((loopO (history_Turns_l1 p0l) ((([] : (List HistoryTurn)), (0 : Int)))) : Option (List HistoryTurn)).bind fun (x5 : (List HistoryTurn)) => (some x5))
theorem w_history_Turns {p0l : (List ApiEvent)} {res : (List HistoryTurn)} (h : history_Turns p0l = some res) : ACalls Tryd.prog 36 [.c (PV.ls 24 rowApiEvent p0l)] [] (AV.os 0 4 rowHistoryTurn res) [] := by
 unfold history_Turns at h
 refine acalls (fn := Tryd.f36) [0, 2, 3, 4, 5, 6, 9, 10, 11, 12, 13, 19, 24, 62] (by kernel_rfl) Tryd.func36 rfl (by kernel_rfl) (by kernel_rfl) <| w_sr <| sV (v := AV.nil) rfl <| o_ek (fr' := [(0, aL)]) rfl rfl <| w_seqw <| w_sr <| mL rfl ?_
 obtain ⟨x1, hx1, h2⟩ := bind_s h
 refine o_v (ov_call (v := aI) rfl (w_history_Check hx1) ⟨lr, trivial⟩ rfl rfl rfl) <| o_p rfl (p_neq rfl rfl) <| o_ek (fr' := [(0, aL), (9, aB)]) rfl rfl <| w_ch h2 rfl (fun hb3 h3 => ?_) (fun hb3 h3 => ?_)
 ·
  refine w_sr <| sV (v := AV.nil) rfl <| o_ek (fr' := [(2, AV.nil)]) rfl rfl <| w_ret <| e_seq_r ?_
  obtain rfl := sy h3
  exact e_ret (rs' := [.tmp 2]) rfl <| r_tmp (v := AV.nil) rfl <| r_nil <| fin_gen [1000000] rfl rfl rfl (le_nos rfl) st_nil
 ·
  refine w_skip <| e_kw <| w_sr <| sV (v := AV.nil) rfl <| o_ek (fr' := [(0, aL), (3, AV.nil)]) rfl rfl <| w_seqw <| w_sr <| mL rfl <| o_p rfl (p_len ti44 (isl_c rfl)) <| mI rfl <| o_ek (fr' := [(0, aL), (3, AV.nil), (10, aL), (11, aI), (12, aI)]) rfl rfl ?_
  obtain ⟨x5, hx5, h6⟩ := bind_s h3
  refine w_jtail cl_kw (fun j7 => x5 = j7) (fun (j7 : (List HistoryTurn)) => ([(3, AV.os 0 4 rowHistoryTurn j7)] : Fr)) (fun (j7 : (List HistoryTurn)) => ([] : St)) ?_ ?_
  ·
   refine w_block <| w_loopo _ (fun (s8 : ((List HistoryTurn) × Int)) => ([(0, .c (PV.ls 24 rowApiEvent p0l)), (3, AV.os 0 4 rowHistoryTurn s8.1), (10, .c (PV.ls 24 rowApiEvent p0l)), (11, .c (.int .i64 ((p0l).length : Int))), (12, .c (.int .i64 s8.2))] : Fr)) (fun (s8 : ((List HistoryTurn) × Int)) => ([] : St)) hx5 (w_weak [1000000] 0 rfl rfl rfl rfl ⟨lr, (le_nos rfl), lr, lr, lr, trivial⟩ st_nil) ?_
   intro s8 st8 hs8 ho8
   unfold history_Turns_l1 at hs8
   refine w_sr <| o_p rfl (p_lss rfl rfl) <| o_ek (fr' := [(0, aL), (3, aO), (10, aL), (11, aI), (12, aI), (13, aB)]) rfl rfl <| w_seqw <| w_ch hs8 rfl (fun hb9 h9 => ?_) (fun hb9 h9 => ?_)
   ·
    refine w_skip <| e_kw <| w_seqw <| w_block <| w_sr <| mI rfl ?_
    obtain ⟨x10, hx10, h11⟩ := bind_s h9
    refine o_p rfl (p_ia (cs := [PV.int _ _, PV.int _ _, PV.int _ _, PV.int _ _, PV.int _ _, PV.int _ _, PV.int _ _, PV.str _, PV.str _, PV.int _ _, PV.int _ _, PV.str _, PV.ls _ _ _, PV.ls _ _ _, PV.str _, PV.int _ _, PV.int _ _, PV.int _ _, PV.int _ _, PV.int _ _, PV.int _ _, PV.int _ _, PV.int _ _, PV.ls _ _ _]) ts44 (isl_c rfl) rfl hx10 rfl) <| o_p rfl (p_loades (us := [PV.int _ _, PV.int _ _, PV.int _ _, PV.int _ _, PV.int _ _, PV.int _ _, PV.int _ _, PV.str _, PV.str _, PV.int _ _, PV.int _ _, PV.str _, PV.ls _ _ _, PV.ls _ _ _, PV.str _, PV.int _ _, PV.int _ _, PV.int _ _, PV.int _ _, PV.int _ _, PV.int _ _, PV.int _ _, PV.int _ _, PV.ls _ _ _]) tv31 rfl rfl rfl) <| o_alloc (n := 0) (cs := [aI, aI, aI, aI, aI, aI, aI, aS, aS, aI, aI, aS, AV.nil, AV.nil, aS, aI, aI, aI, aI, aI, aI, aI, aI, AV.nil]) (σ' := [[aI, aI, aI, aI, aI, aI, aI, aS, aS, aI, aI, aS, AV.nil, AV.nil, aS, aI, aI, aI, aI, aI, aI, aI, aI, AV.nil]]) tz31 rfl rfl rfl <| sI rfl <| o_store (v := .agg aIIIIIIISSIISLLSIIIIIIIIL) (us := aIIIIIIISSIISLLSIIIIIIIIL) (cs := [aI, aI, aI, aI, aI, aI, aI, aS, aS, aI, aI, aS, AV.nil, AV.nil, aS, aI, aI, aI, aI, aI, aI, aI, aI, AV.nil]) (σ' := [aIIIIIIISSIISLLSIIIIIIIIL]) rfl tv31 rfl rfl rfl rfl rfl rfl rfl rfl <| o_ek (fr' := [(0, aL), (3, aO), (4, aI), (5, .box 0 0), (10, aL), (11, aI), (12, aI)]) rfl rfl <| w_seqw <| w_sr <| o_p rfl (p_fa tf31x1 rfl) <| o_p rfl (p_load (v := aI) tv3 rfl rfl rfl) <| o_p rfl (p_neq rfl rfl) <| o_ek (fr' := [(0, aL), (3, aO), (4, aI), (10, aL), (11, aI), (12, aI), (19, aB)]) rfl rfl ?_
    refine w_ch h11 rfl (fun hb12 h12 => ?_) (fun hb12 h12 => ?_)
    ·
     exact w_exit <| e_seq_x <| e_blk_h <| e_kw <| w_region <| o_p rfl (p_add rfl rfl) <| mI rfl <| o_end (fr' := [(0, aL), (3, aO), (4, aI), (10, aL), (11, aI), (12, aI), (19, aB)]) rfl <| e_l _ (sy h12) (w_weak [0] 0 rfl rfl rfl rfl ⟨lr, lr, lr, lr, lr, trivial⟩ st_nil)
    ·
     refine w_skip <| e_kw <| w_seqw <| w_sr <| mI rfl <| mL rfl <| o_p rfl (p_len ti44 (isl_c rfl)) <| o_p rfl (p_sub rfl rfl) <| o_p rfl (p_eql rfl rfl) <| o_ek (fr' := [(0, aL), (3, aO), (4, aI), (10, aL), (11, aI), (12, aI), (24, aB)]) rfl rfl <| w_ch h12 rfl (fun hb13 h13 => ?_) (fun hb13 h13 => ?_)
     ·
      refine w_sr <| mV (v := aO) rfl <| mI rfl <| mL rfl <| o_p rfl (p_len ti44 (isl_c rfl)) <| o_p rfl (p_build (cs := aIIIB) tb58 rfl) <| o_rows (row := rowHistoryTurn) (xs := ([(HistoryTurn.mk s8.2 (-1 : Int) ((p0l).length : Int) false)] : List HistoryTurn)) (rows := [[_, _, _, _]]) (σ' := [aIIIIIIISSIISLLSIIIIIIIIL]) [0, 0, 0, 0] ts55 rfl rfl rfl (arow_cons rfl arow_nil) rfl rfl ?_
      obtain ⟨x14, hx14, h15⟩ := bind_s h13
      exact o_app (row := rowHistoryTurn) ts55 rfl ti55 rfl (isl_o rfl) (fun _ => rfl) hx14 <| sV (v := aO) rfl <| o_ek (fr' := [(0, aL), (3, aO), (10, aL), (11, aI), (12, aI)]) rfl rfl <| w_exit <| e_seq_x <| e_blk_h <| e_kw <| w_region <| o_p rfl (p_add rfl rfl) <| mI rfl <| o_end (fr' := [(0, aL), (3, aO), (10, aL), (11, aI), (12, aI)]) rfl <| e_l _ (sy h15) (w_weak [496] 0 rfl rfl rfl rfl ⟨lr, lr, lr, lr, lr, trivial⟩ st_nil)
     ·
      refine w_skip <| e_kw <| w_sr <| mI rfl <| mI rfl <| o_p rfl (p_add rfl rfl) <| mI rfl <| o_p rfl (p_add rfl rfl) <| mL rfl <| mI rfl <| o_p rfl (p_add rfl rfl) ?_
      obtain ⟨x16, hx16, h17⟩ := bind_s h13
      refine o_p rfl (p_ia (cs := [PV.int _ _, PV.int _ _, PV.int _ _, PV.int _ _, PV.int _ _, PV.int _ _, PV.int _ _, PV.str _, PV.str _, PV.int _ _, PV.int _ _, PV.str _, PV.ls _ _ _, PV.ls _ _ _, PV.str _, PV.int _ _, PV.int _ _, PV.int _ _, PV.int _ _, PV.int _ _, PV.int _ _, PV.int _ _, PV.int _ _, PV.ls _ _ _]) ts44 (isl_c rfl) rfl hx16 rfl) <| o_p rfl (p_fae tf31x1 rfl) <| o_p rfl (p_loade (p := PV.int _ _) tv3 rfl rfl) <| o_p rfl (p_eql rfl rfl) <| o_p rfl (p_build (cs := aIIIB) tb58 rfl) <| o_alloc (n := 1) (cs := aIIIB) (σ' := [aIIIIIIISSIISLLSIIIIIIIIL, aIIIB]) tz58 rfl rfl rfl <| o_store (v := .agg aIIIB) (us := aIIIB) (cs := aIIIB) (σ' := [aIIIIIIISSIISLLSIIIIIIIIL, aIIIB]) rfl tv58 rfl rfl rfl rfl rfl rfl rfl rfl <| o_ek (fr' := [(0, aL), (3, aO), (6, .box 1 0), (10, aL), (11, aI), (12, aI)]) rfl rfl ?_
      obtain ⟨x18, hx18, h19⟩ := bind_s h17
      refine w_join (fun j20 => x18 = j20) (fun (j20 : Int) => ([(0, .c (PV.ls 24 rowApiEvent p0l)), (3, AV.os 0 4 rowHistoryTurn s8.1), (6, .box 1 0), (10, .c (PV.ls 24 rowApiEvent p0l)), (11, .c (.int .i64 ((p0l).length : Int))), (12, .c (.int .i64 s8.2))] : Fr)) (fun (j20 : Int) => ([[.c (.int .i64 x10.ID), .c (.int .i64 x10.Kind), .c (.int .i64 x10.Time), .c (.int .i64 x10.Seq), .c (.int .i64 x10.Ref), .c (.int .i64 x10.N), .c (.int .i64 x10.Code), .c (.str x10.Name), .c (.str x10.Key), .c (.int .i64 x10.Data.Kind), .c (.int .i64 x10.Data.Int), .c (.str x10.Data.Text), .c (PV.ls 5 rowApiValue x10.Data.Items), .c (PV.ls 1 rowS x10.Data.Keys), .c (.str x10.Opts.Queue), .c (.int .i64 x10.Opts.ToStart), .c (.int .i64 x10.Opts.ToClose), .c (.int .i64 x10.Opts.Total), .c (.int .i64 x10.Opts.Beat), .c (.int .i64 x10.Opts.First), .c (.int .i64 x10.Opts.Coef), .c (.int .i64 x10.Opts.Most), .c (.int .i64 x10.Opts.Attempts), .c (PV.ls 1 rowS x10.Opts.Fatal)], [.c (.int .i64 s8.2), .c (.int .i64 (IntKind.wrap .i64 (s8.2 + (1 : Int)))), .c (.int .i64 j20), .c (.bool (decide (x16.Kind = (4 : Int))))]] : St)) ?_ ?_
      ·
       refine w_block <| w_loopo _ (fun (s21 : Int) => ([(0, .c (PV.ls 24 rowApiEvent p0l)), (3, AV.os 0 4 rowHistoryTurn s8.1), (6, .box 1 0), (10, .c (PV.ls 24 rowApiEvent p0l)), (11, .c (.int .i64 ((p0l).length : Int))), (12, .c (.int .i64 s8.2))] : Fr)) (fun (s21 : Int) => ([[.c (.int .i64 x10.ID), .c (.int .i64 x10.Kind), .c (.int .i64 x10.Time), .c (.int .i64 x10.Seq), .c (.int .i64 x10.Ref), .c (.int .i64 x10.N), .c (.int .i64 x10.Code), .c (.str x10.Name), .c (.str x10.Key), .c (.int .i64 x10.Data.Kind), .c (.int .i64 x10.Data.Int), .c (.str x10.Data.Text), .c (PV.ls 5 rowApiValue x10.Data.Items), .c (PV.ls 1 rowS x10.Data.Keys), .c (.str x10.Opts.Queue), .c (.int .i64 x10.Opts.ToStart), .c (.int .i64 x10.Opts.ToClose), .c (.int .i64 x10.Opts.Total), .c (.int .i64 x10.Opts.Beat), .c (.int .i64 x10.Opts.First), .c (.int .i64 x10.Opts.Coef), .c (.int .i64 x10.Opts.Most), .c (.int .i64 x10.Opts.Attempts), .c (PV.ls 1 rowS x10.Opts.Fatal)], [.c (.int .i64 s8.2), .c (.int .i64 (IntKind.wrap .i64 (s8.2 + (1 : Int)))), .c (.int .i64 s21), .c (.bool (decide (x16.Kind = (4 : Int))))]] : St)) hx18 (w_weak [0] 2 rfl rfl rfl rfl ⟨lr, lr, lr, lr, lr, lr, trivial⟩ (st_r rfl (st_r rfl st_nil))) ?_
       intro s21 st21 hs21 ho21
       unfold history_Turns_l2 at hs21
       refine w_seqw <| w_sr <| o_p rfl (p_fa tf58x3 rfl) <| o_p rfl (p_load (v := aB) tv4 rfl rfl rfl) <| mB rfl <| og rfl rfl rfl (fun hc => (p_fa tf58x2 rfl)) <| og rfl rfl rfl (fun hc => (p_load (v := aI) tv3 (gx rfl hc) rfl rfl)) <| og rfl rfl rfl (fun hc => (p_move (v := aL) rfl)) <| og rfl rfl rfl (fun hc => (p_len ti44 (isl_c (gx rfl hc)))) <| og rfl rfl rfl (fun hc => (p_lss (gx rfl hc) (gx rfl hc))) <| o_p rfl (p_picky rfl rfl rfl (fun e => keq e)) <| mB rfl ?_
       refine og rfl rfl rfl (fun hc => (p_move (v := aL) rfl)) <| og rfl rfl rfl (fun hc => (p_fa tf58x2 rfl)) <| og rfl rfl rfl (fun hc => (p_load (v := aI) tv3 (gx rfl hc) rfl rfl)) ?_
       obtain ⟨x22, hx22, h23⟩ := bind_s hs21
       refine og rfl rfl rfl (fun hc => (p_ia (cs := [PV.int _ _, PV.int _ _, PV.int _ _, PV.int _ _, PV.int _ _, PV.int _ _, PV.int _ _, PV.str _, PV.str _, PV.int _ _, PV.int _ _, PV.str _, PV.ls _ _ _, PV.ls _ _ _, PV.str _, PV.int _ _, PV.int _ _, PV.int _ _, PV.int _ _, PV.int _ _, PV.int _ _, PV.int _ _, PV.int _ _, PV.ls _ _ _]) ts44 (isl_c (gx rfl hc)) (gx rfl hc) (gd_some hx22 hc) rfl)) <| og rfl rfl rfl (fun hc => (p_fae tf31x1 (gx rfl hc))) <| og rfl rfl rfl (fun hc => (p_loade (p := PV.int _ _) tv3 (gx rfl hc) rfl)) ?_
       obtain ⟨x24, hx24, h25⟩ := bind_s h23
       refine o_g rfl rfl (fun hc => ov_call (v := aB) rfl (w_event_IsCommand (gd_some hx24 hc)) ⟨(le_gv (gx rfl hc) lr), trivial⟩ (ok_eq (by repeat (first | exact ok_nil | refine ok_cons rfl ?_ | refine ok_cons (dgv rfl) ?_ | refine ok_cons dar ?_))) rfl rfl) ?_
       refine o_p rfl (p_picky rfl rfl rfl (fun e => keq e)) <| o_ek (fr' := [(0, aL), (3, aO), (6, .box 1 0), (10, aL), (11, aI), (12, aI), (62, aB)]) rfl rfl <| w_ch h25 rfl (fun hb26 h26 => ?_) (fun hb26 h26 => ?_)
       ·
        exact w_skip <| e_kw <| w_block <| w_region <| o_p rfl (p_fa tf58x2 rfl) <| o_p rfl (p_load (v := aI) tv3 rfl rfl rfl) <| o_p rfl (p_add rfl rfl) <| o_p rfl (p_fa tf58x2 rfl) <| o_store (v := aI) (us := [aI]) (cs := aIIIB) (σ' := [aIIIIIIISSIISLLSIIIIIIIIL, aIIIB]) rfl tv3 rfl rfl rfl rfl rfl rfl rfl rfl <| o_end (fr' := [(0, aL), (3, aO), (6, .box 1 0), (10, aL), (11, aI), (12, aI), (62, aB)]) rfl <| e_blk_n <| e_l _ (sy h26) (w_weak [0] 2 rfl rfl rfl rfl ⟨lr, lr, lr, lr, lr, lr, trivial⟩ (st_r rfl (st_r rfl st_nil)))
       ·
        refine w_exit <| e_seq_x <| e_seq_x <| e_blk_h ?_
        have h27 := un_out h26 ho21
        exact e_j _ (sy h27) (w_weak [0] 2 rfl rfl rfl rfl ⟨lr, lr, lr, lr, lr, lr, trivial⟩ (st_r rfl (st_r rfl st_nil)))
      ·
       intro j20 hj28
       subst hj28
       refine w_region <| mV (v := aO) rfl <| o_p rfl (p_loads (us := aIIIB) tv58 rfl rfl rfl rfl) <| o_rows (row := rowHistoryTurn) (xs := ([(HistoryTurn.mk s8.2 (IntKind.wrap .i64 (s8.2 + (1 : Int))) x18 (decide (x16.Kind = (4 : Int))))] : List HistoryTurn)) (rows := [[_, _, _, _]]) (σ' := [aIIIIIIISSIISLLSIIIIIIIIL, aIIIB]) [0, 0, 0, 0] ts55 rfl rfl rfl (arow_cons rfl arow_nil) rfl rfl ?_
       obtain ⟨x29, hx29, h30⟩ := bind_s h19
       exact o_app (row := rowHistoryTurn) ts55 rfl ti55 rfl (isl_o rfl) (fun _ => rfl) hx29 <| sV (v := aO) rfl <| o_end (fr' := [(0, aL), (3, aO), (6, .box 1 0), (10, aL), (11, aI), (12, aI)]) rfl <| e_blk_n <| e_kw <| w_region <| o_p rfl (p_add rfl rfl) <| mI rfl <| o_end (fr' := [(0, aL), (3, aO), (6, .box 1 0), (10, aL), (11, aI), (12, aI)]) rfl <| e_l _ (sy h30) (w_weak [1120] 0 rfl rfl rfl rfl ⟨lr, lr, lr, lr, lr, trivial⟩ st_nil)
   ·
    refine w_exit <| e_seq_x <| e_seq_x <| e_blk_h ?_
    have h31 := un_out h9 ho8
    exact e_j _ (sy h31) (w_weak [0] 0 rfl rfl rfl rfl ⟨lr, trivial⟩ st_nil)
  ·
   intro j7 hj32
   subst hj32
   refine e_kw <| w_sr <| mV (v := aO) rfl <| sV (v := aO) rfl <| o_ek (fr' := [(2, aO)]) rfl rfl <| w_ret ?_
   obtain rfl := sy h6
   exact e_ret (rs' := [.tmp 2]) rfl <| r_tmp (v := aO) rfl <| r_nil <| fin_gen [0] rfl rfl rfl lr st_nil
noncomputable def law24xexample  : Option (List ApiEvent) :=
 some ([(ApiEvent.mk (1 : Int) (1 : Int) (0 : Int) (0 : Int) (0 : Int) (0 : Int) (0 : Int) ([116] : List UInt8) ([107] : List UInt8) (ApiValue.mk (4 : Int) (0 : Int) ([] : List UInt8) ([(ApiValue.mk (0 : Int) (0 : Int) ([] : List UInt8) ([] : (List ApiValue)) ([] : (List (List UInt8)))), (ApiValue.mk (4 : Int) (0 : Int) ([] : List UInt8) ([] : (List ApiValue)) ([] : (List (List UInt8))))] : List ApiValue) ([] : (List (List UInt8)))) (ApiPolicy.mk ([] : List UInt8) (0 : Int) (0 : Int) (0 : Int) (0 : Int) (0 : Int) (0 : Int) (0 : Int) (0 : Int) ([] : (List (List UInt8))))), (ApiEvent.mk (2 : Int) (2 : Int) (0 : Int) (0 : Int) (0 : Int) (1 : Int) (0 : Int) ([] : List UInt8) ([] : List UInt8) (ApiValue.mk (0 : Int) (0 : Int) ([] : List UInt8) ([] : (List ApiValue)) ([] : (List (List UInt8)))) (ApiPolicy.mk ([] : List UInt8) (0 : Int) (0 : Int) (0 : Int) (0 : Int) (0 : Int) (0 : Int) (0 : Int) (0 : Int) ([] : (List (List UInt8))))), (ApiEvent.mk (3 : Int) (3 : Int) (0 : Int) (0 : Int) (2 : Int) (0 : Int) (0 : Int) ([] : List UInt8) ([] : List UInt8) (ApiValue.mk (0 : Int) (0 : Int) ([] : List UInt8) ([] : (List ApiValue)) ([] : (List (List UInt8)))) (ApiPolicy.mk ([] : List UInt8) (0 : Int) (0 : Int) (0 : Int) (0 : Int) (0 : Int) (0 : Int) (0 : Int) (0 : Int) ([] : (List (List UInt8))))), (ApiEvent.mk (4 : Int) (4 : Int) (0 : Int) (0 : Int) (3 : Int) (0 : Int) (0 : Int) ([] : List UInt8) ([] : List UInt8) (ApiValue.mk (0 : Int) (0 : Int) ([] : List UInt8) ([] : (List ApiValue)) ([] : (List (List UInt8)))) (ApiPolicy.mk ([] : List UInt8) (0 : Int) (0 : Int) (0 : Int) (0 : Int) (0 : Int) (0 : Int) (0 : Int) (0 : Int) ([] : (List (List UInt8))))), (ApiEvent.mk (5 : Int) (14 : Int) (0 : Int) (1 : Int) (0 : Int) (5 : Int) (0 : Int) ([] : List UInt8) ([] : List UInt8) (ApiValue.mk (0 : Int) (0 : Int) ([] : List UInt8) ([] : (List ApiValue)) ([] : (List (List UInt8)))) (ApiPolicy.mk ([] : List UInt8) (0 : Int) (0 : Int) (0 : Int) (0 : Int) (0 : Int) (0 : Int) (0 : Int) (0 : Int) ([] : (List (List UInt8)))))] : List ApiEvent)
theorem w_law24xexample  {res : (List ApiEvent)} (h : law24xexample = some res) : ACalls Tryd.prog 56 [] [] (AV.os 0 24 rowApiEvent res) [] := by
 unfold law24xexample at h
 refine acalls (fn := Tryd.f56) [0, 1] (by kernel_rfl) Tryd.func56 rfl (by kernel_rfl) (by kernel_rfl) <| w_sr <| sV (v := AV.nil) rfl <| o_ek (fr' := []) rfl rfl <| w_sr <| o_p rfl (p_build (cs := [aI, aI, aS, AV.nil, AV.nil]) tb25 rfl) <| o_p rfl (p_build (cs := [aI, aI, aS, AV.nil, AV.nil]) tb25 rfl) <| o_rows (row := rowApiValue) (xs := ([(ApiValue.mk (0 : Int) (0 : Int) ([] : List UInt8) ([] : (List ApiValue)) ([] : (List (List UInt8)))), (ApiValue.mk (4 : Int) (0 : Int) ([] : List UInt8) ([] : (List ApiValue)) ([] : (List (List UInt8))))] : List ApiValue)) (rows := [[_, _, _, _, _], [_, _, _, _, _]]) (σ' := []) [0, 0, 0, 5, 1] ts22 rfl rfl rfl (arow_cons (rowApiValue_eq _) (arow_cons (rowApiValue_eq _) arow_nil)) rfl rfl <| o_p rfl (p_build (cs := [aI, aI, aS, aO, AV.nil]) tb25 rfl) <| o_alloc (n := 0) (cs := [aI, aI, aS, AV.nil, AV.nil]) (σ' := [[aI, aI, aS, AV.nil, AV.nil]]) tz25 rfl rfl rfl <| o_store (v := .agg [aI, aI, aS, aO, AV.nil]) (us := [aI, aI, aS, aO, AV.nil]) (cs := [aI, aI, aS, AV.nil, AV.nil]) (σ' := [[aI, aI, aS, aO, AV.nil]]) rfl tv25 rfl rfl rfl rfl rfl rfl rfl rfl ?_
 refine o_ek (fr' := [(1, .box 0 0)]) rfl rfl <| w_sr <| o_p rfl (p_loads (us := [aI, aI, aS, aO, AV.nil]) tv25 rfl rfl rfl rfl) <| o_p rfl (p_buildc (c0 := [aI, aI, aI, aI, aI, aI, aI, aS, aS, aI, aI, aS, AV.nil, AV.nil, aS, aI, aI, aI, aI, aI, aI, aI, aI, AV.nil]) (cs := [aI, aI, aI, aI, aI, aI, aI, aS, aS, aI, aI, aS, aO, AV.nil, aS, aI, aI, aI, aI, aI, aI, aI, aI, AV.nil]) tb31 rfl (fill_cons (v := aI) (us := [_]) (cs' := u24) rfl rfl rfl rfl rfl rfl (fill_cons (v := aI) (us := [_]) (cs' := u24) rfl rfl rfl rfl rfl rfl (fill_cons (v := aS) (us := [_]) (cs' := u24) rfl rfl rfl rfl rfl rfl (fill_cons (v := aS) (us := [_]) (cs' := u24) rfl rfl rfl rfl rfl rfl (fill_cons (v := .agg [aI, aI, aS, aO, AV.nil]) (us := u5) (cs' := u24) rfl rfl rfl rfl rfl rfl fill_nil)))))) <| o_p rfl (p_buildc (c0 := [aI, aI, aI, aI, aI, aI, aI, aS, aS, aI, aI, aS, AV.nil, AV.nil, aS, aI, aI, aI, aI, aI, aI, aI, aI, AV.nil]) (cs := [aI, aI, aI, aI, aI, aI, aI, aS, aS, aI, aI, aS, AV.nil, AV.nil, aS, aI, aI, aI, aI, aI, aI, aI, aI, AV.nil]) tb31 rfl (fill_cons (v := aI) (us := [_]) (cs' := u24) rfl rfl rfl rfl rfl rfl (fill_cons (v := aI) (us := [_]) (cs' := u24) rfl rfl rfl rfl rfl rfl (fill_cons (v := aI) (us := [_]) (cs' := u24) rfl rfl rfl rfl rfl rfl fill_nil)))) <| o_p rfl (p_buildc (c0 := [aI, aI, aI, aI, aI, aI, aI, aS, aS, aI, aI, aS, AV.nil, AV.nil, aS, aI, aI, aI, aI, aI, aI, aI, aI, AV.nil]) (cs := [aI, aI, aI, aI, aI, aI, aI, aS, aS, aI, aI, aS, AV.nil, AV.nil, aS, aI, aI, aI, aI, aI, aI, aI, aI, AV.nil]) tb31 rfl (fill_cons (v := aI) (us := [_]) (cs' := u24) rfl rfl rfl rfl rfl rfl (fill_cons (v := aI) (us := [_]) (cs' := u24) rfl rfl rfl rfl rfl rfl (fill_cons (v := aI) (us := [_]) (cs' := u24) rfl rfl rfl rfl rfl rfl fill_nil)))) <| o_p rfl (p_buildc (c0 := [aI, aI, aI, aI, aI, aI, aI, aS, aS, aI, aI, aS, AV.nil, AV.nil, aS, aI, aI, aI, aI, aI, aI, aI, aI, AV.nil]) (cs := [aI, aI, aI, aI, aI, aI, aI, aS, aS, aI, aI, aS, AV.nil, AV.nil, aS, aI, aI, aI, aI, aI, aI, aI, aI, AV.nil]) tb31 rfl (fill_cons (v := aI) (us := [_]) (cs' := u24) rfl rfl rfl rfl rfl rfl (fill_cons (v := aI) (us := [_]) (cs' := u24) rfl rfl rfl rfl rfl rfl (fill_cons (v := aI) (us := [_]) (cs' := u24) rfl rfl rfl rfl rfl rfl fill_nil)))) <| o_p rfl (p_buildc (c0 := [aI, aI, aI, aI, aI, aI, aI, aS, aS, aI, aI, aS, AV.nil, AV.nil, aS, aI, aI, aI, aI, aI, aI, aI, aI, AV.nil]) (cs := [aI, aI, aI, aI, aI, aI, aI, aS, aS, aI, aI, aS, AV.nil, AV.nil, aS, aI, aI, aI, aI, aI, aI, aI, aI, AV.nil]) tb31 rfl (fill_cons (v := aI) (us := [_]) (cs' := u24) rfl rfl rfl rfl rfl rfl (fill_cons (v := aI) (us := [_]) (cs' := u24) rfl rfl rfl rfl rfl rfl (fill_cons (v := aI) (us := [_]) (cs' := u24) rfl rfl rfl rfl rfl rfl (fill_cons (v := aI) (us := [_]) (cs' := u24) rfl rfl rfl rfl rfl rfl fill_nil))))) <| o_rows (row := rowApiEvent) (xs := ([(ApiEvent.mk (1 : Int) (1 : Int) (0 : Int) (0 : Int) (0 : Int) (0 : Int) (0 : Int) ([116] : List UInt8) ([107] : List UInt8) (ApiValue.mk (4 : Int) (0 : Int) ([] : List UInt8) ([(ApiValue.mk (0 : Int) (0 : Int) ([] : List UInt8) ([] : (List ApiValue)) ([] : (List (List UInt8)))), (ApiValue.mk (4 : Int) (0 : Int) ([] : List UInt8) ([] : (List ApiValue)) ([] : (List (List UInt8))))] : List ApiValue) ([] : (List (List UInt8)))) (ApiPolicy.mk ([] : List UInt8) (0 : Int) (0 : Int) (0 : Int) (0 : Int) (0 : Int) (0 : Int) (0 : Int) (0 : Int) ([] : (List (List UInt8))))), (ApiEvent.mk (2 : Int) (2 : Int) (0 : Int) (0 : Int) (0 : Int) (1 : Int) (0 : Int) ([] : List UInt8) ([] : List UInt8) (ApiValue.mk (0 : Int) (0 : Int) ([] : List UInt8) ([] : (List ApiValue)) ([] : (List (List UInt8)))) (ApiPolicy.mk ([] : List UInt8) (0 : Int) (0 : Int) (0 : Int) (0 : Int) (0 : Int) (0 : Int) (0 : Int) (0 : Int) ([] : (List (List UInt8))))), (ApiEvent.mk (3 : Int) (3 : Int) (0 : Int) (0 : Int) (2 : Int) (0 : Int) (0 : Int) ([] : List UInt8) ([] : List UInt8) (ApiValue.mk (0 : Int) (0 : Int) ([] : List UInt8) ([] : (List ApiValue)) ([] : (List (List UInt8)))) (ApiPolicy.mk ([] : List UInt8) (0 : Int) (0 : Int) (0 : Int) (0 : Int) (0 : Int) (0 : Int) (0 : Int) (0 : Int) ([] : (List (List UInt8))))), (ApiEvent.mk (4 : Int) (4 : Int) (0 : Int) (0 : Int) (3 : Int) (0 : Int) (0 : Int) ([] : List UInt8) ([] : List UInt8) (ApiValue.mk (0 : Int) (0 : Int) ([] : List UInt8) ([] : (List ApiValue)) ([] : (List (List UInt8)))) (ApiPolicy.mk ([] : List UInt8) (0 : Int) (0 : Int) (0 : Int) (0 : Int) (0 : Int) (0 : Int) (0 : Int) (0 : Int) ([] : (List (List UInt8))))), (ApiEvent.mk (5 : Int) (14 : Int) (0 : Int) (1 : Int) (0 : Int) (5 : Int) (0 : Int) ([] : List UInt8) ([] : List UInt8) (ApiValue.mk (0 : Int) (0 : Int) ([] : List UInt8) ([] : (List ApiValue)) ([] : (List (List UInt8)))) (ApiPolicy.mk ([] : List UInt8) (0 : Int) (0 : Int) (0 : Int) (0 : Int) (0 : Int) (0 : Int) (0 : Int) (0 : Int) ([] : (List (List UInt8)))))] : List ApiEvent)) (rows := [[_, _, _, _, _, _, _, _, _, _, _, _, _, _, _, _, _, _, _, _, _, _, _, _], [_, _, _, _, _, _, _, _, _, _, _, _, _, _, _, _, _, _, _, _, _, _, _, _], [_, _, _, _, _, _, _, _, _, _, _, _, _, _, _, _, _, _, _, _, _, _, _, _], [_, _, _, _, _, _, _, _, _, _, _, _, _, _, _, _, _, _, _, _, _, _, _, _], [_, _, _, _, _, _, _, _, _, _, _, _, _, _, _, _, _, _, _, _, _, _, _, _]]) (σ' := [[aI, aI, aS, aO, AV.nil]]) [0, 0, 0, 0, 0, 0, 0, 0, 0, 0, 0, 0, 5, 1, 0, 0, 0, 0, 0, 0, 0, 0, 0, 1] ts44 rfl rfl rfl (arow_cons rfl (arow_cons rfl (arow_cons rfl (arow_cons rfl (arow_cons rfl arow_nil))))) rfl rfl <| sV (v := aO) rfl <| o_ek (fr' := [(0, aO)]) rfl rfl <| w_ret ?_
 obtain rfl := sy h
 exact e_ret (rs' := [.tmp 0]) rfl <| r_tmp (v := aO) rfl <| r_nil <| fin_gen [192] rfl rfl rfl lr st_nil
noncomputable def law24xworks  : Option Bool :=
 (law24xexample).bind fun (x1 : (List ApiEvent)) => (history_Turns x1).bind fun (x3 : (List HistoryTurn)) => (law24xexample).bind fun (x5 : (List ApiEvent)) => (history_Status x5).bind fun (x7 : (Int × Int)) => (law24xexample).bind fun (x9 : (List ApiEvent)) => (history_Check x9).bind fun (x11 : Int) => (gd ((cond (decide (x11 = (0 : Int))) (decide (((x3).length : Int) = (1 : Int))) false) == true) (idx x3 (0 : Int))).bind fun (x13 : HistoryTurn) => some (cond (cond (cond (cond (decide (x11 = (0 : Int))) (decide (((x3).length : Int) = (1 : Int))) false) (decide (x13.Start = (2 : Int)) && (decide (x13.End = (3 : Int)) && (decide (x13.Next = (5 : Int)) && ((x13.Done == true) && true)))) false) (decide (x7.1 = (0 : Int))) false) (decide (x7.2 = (-1 : Int))) false)
theorem w_law24xworks  {res : Bool} (h : law24xworks = some res) : ACalls Tryd.prog 27 [] [] (.c (.bool res)) [] := by
 unfold law24xworks at h
 refine acalls (fn := Tryd.f27) [0, 1, 2, 3] (by kernel_rfl) Tryd.func27 rfl (by kernel_rfl) (by kernel_rfl) <| w_sr <| sB rfl <| o_ek (fr' := []) rfl rfl <| w_seqw <| w_region ?_
 obtain ⟨x1, hx1, h2⟩ := bind_s h
 refine o_v (ov_call (v := aO) rfl (w_law24xexample hx1) trivial rfl rfl rfl) ?_
 obtain ⟨x3, hx3, h4⟩ := bind_s h2
 refine o_v (ov_call (v := aO) rfl (w_history_Turns hx3) ⟨lr, trivial⟩ rfl rfl rfl) <| sV (v := aO) rfl <| o_ek (fr' := [(1, aO)]) rfl rfl <| w_seqw <| w_region ?_
 obtain ⟨x5, hx5, h6⟩ := bind_s h4
 refine o_v (ov_call (v := aO) rfl (w_law24xexample hx5) trivial rfl rfl rfl) ?_
 obtain ⟨x7, hx7, h8⟩ := bind_s h6
 refine o_v (ov_call (v := .tup [aI, aI]) rfl (w_history_Status hx7) ⟨lr, trivial⟩ rfl rfl rfl) <| mV (v := .tup [aI, aI]) rfl <| o_p rfl (p_ex (v := aI) rfl rfl) <| o_p rfl (p_ex (v := aI) rfl rfl) <| sI rfl <| sI rfl <| o_ek (fr' := [(1, aO), (2, aI), (3, aI)]) rfl rfl <| w_seqw <| w_region ?_
 obtain ⟨x9, hx9, h10⟩ := bind_s h8
 refine o_v (ov_call (v := aO) rfl (w_law24xexample hx9) trivial rfl rfl rfl) ?_
 obtain ⟨x11, hx11, h12⟩ := bind_s h10
 refine o_v (ov_call (v := aI) rfl (w_history_Check hx11) ⟨lr, trivial⟩ rfl rfl rfl) <| o_p rfl (p_eql rfl rfl) <| mB rfl <| og rfl rfl rfl (fun hc => (p_move (v := aO) rfl)) <| og rfl rfl rfl (fun hc => (p_len ti55 (isl_o (gx rfl hc)))) <| og rfl rfl rfl (fun hc => (p_eql (gx rfl hc) rfl)) <| o_p rfl (p_picky rfl rfl rfl (fun e => keq e)) <| mB rfl <| og rfl rfl rfl (fun hc => (p_move (v := aO) rfl)) ?_
 obtain ⟨x13, hx13, h14⟩ := bind_s h12
 refine og rfl rfl rfl (fun hc => (p_ia (cs := [PV.int _ _, PV.int _ _, PV.int _ _, PV.bool _]) ts55 (isl_o (gx rfl hc)) rfl (gd_some hx13 hc) rfl)) <| og rfl rfl rfl (fun hc => (p_loades (us := [PV.int _ _, PV.int _ _, PV.int _ _, PV.bool _]) tv58 (gx rfl hc) rfl rfl)) <| og rfl rfl rfl (fun hc => (p_build (cs := aIIIB) tb58 rfl)) <| og rfl rfl rfl (fun hc => (p_aeql eqk58 tv58 eg58 (gx rfl hc) (gx rfl hc) rfl rfl)) <| o_p rfl (p_picky rfl rfl rfl (fun e => keq e)) <| mB rfl <| og rfl rfl rfl (fun hc => (p_move (v := aI) rfl)) <| og rfl rfl rfl (fun hc => (p_eql (gx rfl hc) rfl)) <| o_p rfl (p_picky rfl rfl rfl (fun e => keq e)) <| mB rfl <| og rfl rfl rfl (fun hc => (p_move (v := aI) rfl)) <| og rfl rfl rfl (fun hc => (p_eql (gx rfl hc) rfl)) <| o_p rfl (p_picky rfl rfl rfl (fun e => keq e)) ?_
 refine sB rfl <| o_ek (fr' := [(0, aB)]) rfl rfl <| w_ret ?_
 obtain rfl := sy h14
 exact e_ret (rs' := [.tmp 0]) rfl <| r_tmp (v := aB) rfl <| r_nil <| fin_gen [] rfl rfl rfl lr st_nil
noncomputable def ref22xCloses (p0kind : Int) : Option Bool :=
 (ref22xStatus p0kind).bind fun (x1 : (Int × Bool)) => some x1.2
theorem w_ref22xCloses {p0kind : Int} {res : Bool} (h : ref22xCloses p0kind = some res) : ACalls Tryd.prog 28 [.c (.int .i64 p0kind)] [] (.c (.bool res)) [] := by
 unfold ref22xCloses at h
 refine acalls (fn := Tryd.f28) [0, 2, 4] (by kernel_rfl) Tryd.func28 rfl (by kernel_rfl) (by kernel_rfl) <| w_sr <| sB rfl <| o_ek (fr' := [(0, aI)]) rfl rfl <| w_sr <| mI rfl ?_
 obtain ⟨x1, hx1, h2⟩ := bind_s h
 refine o_v (ov_call (v := .tup [aI, aB]) rfl (w_ref22xStatus hx1) ⟨lr, trivial⟩ rfl rfl rfl) <| mV (v := .tup [aI, aB]) rfl <| o_p rfl (p_ex (v := aI) rfl rfl) <| o_p rfl (p_ex (v := aB) rfl rfl) <| sI rfl <| sB rfl <| o_ek (fr' := [(4, aB)]) rfl rfl <| w_sr <| mB rfl <| sB rfl <| o_ek (fr' := [(2, aB)]) rfl rfl <| w_ret ?_
 obtain rfl := sy h2
 exact e_ret (rs' := [.tmp 2]) rfl <| r_tmp (v := aB) rfl <| r_nil <| fin_gen [] rfl rfl rfl lr st_nil
noncomputable def law24xHistoryPrefixes_l1 (p0l : (List ApiEvent)) (s10 : Int) : Option (Step Int (Fl Bool Unit)) :=
 cond (decide (s10 < ((p0l).length : Int))) ((slcH p0l s10).bind fun (x12 : (List ApiEvent)) => (history_Check (List.take (Int.toNat s10) p0l)).bind fun (x14 : Int) => cond (!decide (x14 = (0 : Int))) (some (Step.out (Fl.done false))) ((idx p0l s10).bind fun (x20 : ApiEvent) => (ref22xCloses x20.Kind).bind fun (x22 : Bool) => cond (cond x22 (decide (s10 < (IntKind.wrap .i64 (((p0l).length : Int) - (1 : Int))))) false) (some (Step.out (Fl.done false))) (some (Step.next (IntKind.wrap .i64 (s10 + (1 : Int))))))) (some (Step.out (Fl.go ())))
noncomputable def law24xHistoryPrefixes (p0l : (List ApiEvent)) : Option Bool :=
 (gd ((decide ((60 : Int) < ((p0l).length : Int))) == false) (history_Check p0l)).bind fun (x1 : Int) => cond (cond (decide ((60 : Int) < ((p0l).length : Int))) true (!decide (x1 = (0 : Int)))) ((law24xworks).bind fun (x4 : Bool) => some x4) (((loopO (law24xHistoryPrefixes_l1 p0l) ((0 : Int))) : Option (Fl Bool Unit)).bind fun (x7 : (Fl Bool Unit)) => Fl.next x7 (fun (j9 : Unit) => ((law24xworks).bind fun (x30 : Bool) => some x30)))
theorem w_law24xHistoryPrefixes {p0l : (List ApiEvent)} {res : Bool} (h : law24xHistoryPrefixes p0l = some res) : ACalls Tryd.prog 6 [.c (PV.ls 24 rowApiEvent p0l)] [] (.c (.bool res)) [] := by
 unfold law24xHistoryPrefixes at h
 refine acalls (fn := Tryd.f6) [0, 2, 3, 11, 14, 15, 16, 22, 35] (by kernel_rfl) Tryd.func6 rfl (by kernel_rfl) (by kernel_rfl) <| w_sr <| sB rfl <| o_ek (fr' := [(0, aL)]) rfl rfl <| w_seqw <| w_sr <| mL rfl <| o_p rfl (p_len ti44 (isl_c rfl)) <| o_p rfl (p_gtr rfl rfl) <| mB rfl <| og rfl rfl rfl (fun hc => (p_move (v := aL) rfl)) ?_
 obtain ⟨x1, hx1, h2⟩ := bind_s h
 refine o_g rfl rfl (fun hc => ov_call (v := aI) rfl (w_history_Check (gd_some hx1 hc)) ⟨(le_gv (gx rfl hc) lr), trivial⟩ (ok_eq (by repeat (first | exact ok_nil | refine ok_cons rfl ?_ | refine ok_cons (dgv rfl) ?_ | refine ok_cons dar ?_))) rfl rfl) ?_
 refine og rfl rfl rfl (fun hc => (p_neq (gx rfl hc) rfl)) <| o_p rfl (p_pickz rfl rfl rfl (fun e => keq e)) <| o_ek (fr' := [(0, aL), (11, aB)]) rfl rfl <| w_ch h2 rfl (fun hb3 h3 => ?_) (fun hb3 h3 => ?_)
 ·
  refine w_seqw <| w_region ?_
  obtain ⟨x4, hx4, h5⟩ := bind_s h3
  refine o_v (ov_call (v := aB) rfl (w_law24xworks hx4) trivial rfl rfl rfl) <| sB rfl <| o_ek (fr' := [(2, aB)]) rfl rfl <| w_ret <| e_seq_r ?_
  obtain rfl := sy h5
  exact e_ret (rs' := [.tmp 2]) rfl <| r_tmp (v := aB) rfl <| r_nil <| fin_gen [] rfl rfl rfl lr st_nil
 ·
  refine w_skip <| e_kw <| w_seqw <| w_sr <| mL rfl <| o_p rfl (p_len ti44 (isl_c rfl)) <| mI rfl <| o_ek (fr' := [(0, aL), (14, aI), (15, aI)]) rfl rfl ?_
  obtain ⟨x7, hx7, h8⟩ := bind_s h3
  refine w_jtail cl_kw (fun j9 => x7 = Fl.go j9) (fun (j9 : Unit) => ([] : Fr)) (fun (j9 : Unit) => ([] : St)) ?_ ?_
  ·
   refine w_block <| w_loopo _ (fun (s10 : Int) => ([(0, .c (PV.ls 24 rowApiEvent p0l)), (14, .c (.int .i64 ((p0l).length : Int))), (15, .c (.int .i64 s10))] : Fr)) (fun (s10 : Int) => ([] : St)) hx7 (w_weak [] 0 rfl rfl rfl rfl ⟨lr, lr, lr, trivial⟩ st_nil) ?_
   intro s10 st10 hs10 ho10
   unfold law24xHistoryPrefixes_l1 at hs10
   refine w_sr <| o_p rfl (p_lss rfl rfl) <| o_ek (fr' := [(0, aL), (14, aI), (15, aI), (16, aB)]) rfl rfl <| w_seqw <| w_ch hs10 rfl (fun hb11 h11 => ?_) (fun hb11 h11 => ?_)
   ·
    refine w_skip <| e_kw <| w_seqw <| w_block <| w_sr <| mI rfl <| sI rfl <| o_ek (fr' := [(0, aL), (3, aI), (14, aI), (15, aI)]) rfl rfl <| w_seqw <| w_sr <| mL rfl ?_
    refine mI rfl ?_
    obtain ⟨x12, hx12, h13⟩ := bind_s h11
    refine o_p rfl (p_sl_h tn44 ts44 (isl_c rfl) rfl (slcH_some hx12).1) ?_
    obtain ⟨x14, hx14, h15⟩ := bind_s h13
    refine o_v (ov_call (v := aI) rfl (w_history_Check hx14) ⟨lr, trivial⟩ rfl rfl rfl) <| o_p rfl (p_neq rfl rfl) <| o_ek (fr' := [(0, aL), (3, aI), (14, aI), (15, aI), (22, aB)]) rfl rfl <| w_ch h15 rfl (fun hb16 h16 => ?_) (fun hb16 h16 => ?_)
    ·
     refine w_sr <| sB rfl <| o_ek (fr' := [(2, aB)]) rfl rfl <| w_ret <| e_seq_r <| e_blk_r <| e_seq_r <| e_seq_r <| e_blk_r <| e_seq_r <| e_seq_r ?_
     have h17 := un_out h16 ho10
     have h18 := un_done h17 h8
     obtain rfl := sy h18
     exact e_ret (rs' := [.tmp 2]) rfl <| r_tmp (v := aB) rfl <| r_nil <| fin_gen [] rfl rfl rfl lr st_nil
    ·
     refine w_skip <| e_kw <| w_sr <| mL rfl <| mI rfl ?_
     obtain ⟨x20, hx20, h21⟩ := bind_s h16
     refine o_p rfl (p_ia (cs := [PV.int _ _, PV.int _ _, PV.int _ _, PV.int _ _, PV.int _ _, PV.int _ _, PV.int _ _, PV.str _, PV.str _, PV.int _ _, PV.int _ _, PV.str _, PV.ls _ _ _, PV.ls _ _ _, PV.str _, PV.int _ _, PV.int _ _, PV.int _ _, PV.int _ _, PV.int _ _, PV.int _ _, PV.int _ _, PV.int _ _, PV.ls _ _ _]) ts44 (isl_c rfl) rfl hx20 rfl) <| o_p rfl (p_fae tf31x1 rfl) <| o_p rfl (p_loade (p := PV.int _ _) tv3 rfl rfl) ?_
     obtain ⟨x22, hx22, h23⟩ := bind_s h21
     refine o_v (ov_call (v := aB) rfl (w_ref22xCloses hx22) ⟨lr, trivial⟩ rfl rfl rfl) <| mB rfl <| og rfl rfl rfl (fun hc => (p_move (v := aI) rfl)) <| og rfl rfl rfl (fun hc => (p_move (v := aL) rfl)) <| og rfl rfl rfl (fun hc => (p_len ti44 (isl_c (gx rfl hc)))) <| og rfl rfl rfl (fun hc => (p_sub (gx rfl hc) rfl)) <| og rfl rfl rfl (fun hc => (p_lss (gx rfl hc) (gx rfl hc))) <| o_p rfl (p_picky rfl rfl rfl (fun e => keq e)) <| o_ek (fr' := [(0, aL), (14, aI), (15, aI), (35, aB)]) rfl rfl <| w_ch h23 rfl (fun hb24 h24 => ?_) (fun hb24 h24 => ?_)
     ·
      refine w_sr <| sB rfl <| o_ek (fr' := [(2, aB)]) rfl rfl <| w_ret <| e_blk_r <| e_seq_r <| e_seq_r <| e_blk_r <| e_seq_r <| e_seq_r ?_
      have h25 := un_out h24 ho10
      have h26 := un_done h25 h8
      obtain rfl := sy h26
      exact e_ret (rs' := [.tmp 2]) rfl <| r_tmp (v := aB) rfl <| r_nil <| fin_gen [] rfl rfl rfl lr st_nil
     ·
      exact w_skip <| e_blk_n <| e_kw <| w_region <| o_p rfl (p_add rfl rfl) <| mI rfl <| o_end (fr' := [(0, aL), (14, aI), (15, aI), (35, aB)]) rfl <| e_l _ (sy h24) (w_weak [] 0 rfl rfl rfl rfl ⟨lr, lr, lr, trivial⟩ st_nil)
   ·
    refine w_exit <| e_seq_x <| e_seq_x <| e_blk_h ?_
    have h28 := un_out h11 ho10
    exact e_j _ (sy h28) (w_weak [] 0 rfl rfl rfl rfl trivial st_nil)
  ·
   intro j9 hj29
   have h29 := un_go hj29 h8
   refine e_kw <| w_seqw <| w_region ?_
   obtain ⟨x30, hx30, h31⟩ := bind_s h29
   refine o_v (ov_call (v := aB) rfl (w_law24xworks hx30) trivial rfl rfl rfl) <| sB rfl <| o_ek (fr' := [(2, aB)]) rfl rfl <| w_ret ?_
   obtain rfl := sy h31
   exact e_ret (rs' := [.tmp 2]) rfl <| r_tmp (v := aB) rfl <| r_nil <| fin_gen [] rfl rfl rfl lr st_nil
noncomputable def history_Find_1 (p0e : ApiEvent) (p100vx0 : Int) (p101vx0 : Int) : Option Bool :=
 some (cond (decide (p0e.Kind = p100vx0)) (decide (p0e.Seq = p101vx0)) false)
theorem w_history_Find_1 {p0e : ApiEvent} {p100vx0 : Int} {p101vx0 : Int} {res : Bool} (h : history_Find_1 p0e p100vx0 p101vx0 = some res) : ACalls Tryd.prog 58 [.agg (AV.cs (rowApiEvent p0e)), .box 0 0, .box 1 0] [[.c (.int .i64 p100vx0)], [.c (.int .i64 p101vx0)]] (.c (.bool res)) [[.c (.int .i64 p100vx0)], [.c (.int .i64 p101vx0)]] := by
 unfold history_Find_1 at h
 refine acalls (fn := Tryd.f58) [0, 1, 2, 3, 4] (by kernel_rfl) Tryd.func58 rfl (by kernel_rfl) (by kernel_rfl) <| w_sr <| o_box (v := .agg aIIIIIIISSIISLLSIIIIIIIIL) (n := 2) (cs := aIIIIIIISSIISLLSIIIIIIIIL) (σ' := [[aI], [aI], aIIIIIIISSIISLLSIIIIIIIIL]) rfl rfl rfl rfl rfl <| sB rfl <| o_ek (fr' := [(1, .box 0 0), (2, .box 1 0), (3, .box 2 0)]) rfl rfl <| w_sr <| o_p rfl (p_fa tf31x1 rfl) <| o_p rfl (p_load (v := aI) tv3 rfl rfl rfl) <| o_p rfl (p_load (v := aI) tv3 rfl rfl rfl) <| o_p rfl (p_eql rfl rfl) <| mB rfl ?_
 refine og rfl rfl rfl (fun hc => (p_fa tf31x3 rfl)) <| og rfl rfl rfl (fun hc => (p_load (v := aI) tv3 (gx rfl hc) rfl rfl)) <| og rfl rfl rfl (fun hc => (p_load (v := aI) tv3 rfl rfl rfl)) <| og rfl rfl rfl (fun hc => (p_eql (gx rfl hc) (gx rfl hc))) <| o_p rfl (p_picky rfl rfl rfl (fun e => keq e)) <| sB rfl <| o_ek (fr' := [(4, aB)]) rfl rfl <| w_ret ?_
 obtain rfl := sy h
 exact e_ret (rs' := [.tmp 4]) rfl <| r_tmp (v := aB) rfl <| r_nil <| fin_gen [] rfl rfl rfl lr (st_r rfl (st_r rfl st_nil))
noncomputable def slices_IndexFunc_api_Event_api_Event_history_Find_1_l1 (p0s : (List ApiEvent)) (p100vx0 : Int) (p101vx0 : Int) (s4 : Int) : Option (Step Int (Fl Int Unit)) :=
 cond (decide (s4 < ((p0s).length : Int))) ((idx p0s s4).bind fun (x6 : ApiEvent) => (history_Find_1 x6 p100vx0 p101vx0).bind fun (x8 : Bool) => cond x8 (some (Step.out (Fl.done s4))) (some (Step.next (IntKind.wrap .i64 (s4 + (1 : Int)))))) (some (Step.out (Fl.go ())))
noncomputable def slices_IndexFunc_api_Event_api_Event_history_Find_1 (p0s : (List ApiEvent)) (p100vx0 : Int) (p101vx0 : Int) : Option Int :=
 ((loopO (slices_IndexFunc_api_Event_api_Event_history_Find_1_l1 p0s p100vx0 p101vx0) ((0 : Int))) : Option (Fl Int Unit)).bind fun (x1 : (Fl Int Unit)) => Fl.next x1 (fun (j3 : Unit) => (some (-1 : Int)))
theorem w_slices_IndexFunc_api_Event_api_Event_history_Find_1 {p0s : (List ApiEvent)} {p100vx0 : Int} {p101vx0 : Int} {res : Int} (h : slices_IndexFunc_api_Event_api_Event_history_Find_1 p0s p100vx0 p101vx0 = some res) : ACalls Tryd.prog 57 [.c (PV.ls 24 rowApiEvent p0s), .fn 58 [.box 0 0, .box 1 0]] [[.c (.int .i64 p100vx0)], [.c (.int .i64 p101vx0)]] (.c (.int .i64 res)) [[.c (.int .i64 p100vx0)], [.c (.int .i64 p101vx0)]] := by
 unfold slices_IndexFunc_api_Event_api_Event_history_Find_1 at h
 refine acalls (fn := Tryd.f57) [0, 1, 4, 5, 7, 8, 9, 16] (by kernel_rfl) Tryd.func57 rfl (by kernel_rfl) (by kernel_rfl) <| w_sr <| sI rfl <| o_ek (fr' := [(0, aL), (1, .fn _ [.box 0 0, .box 1 0])]) rfl rfl <| w_seqw <| w_sr <| mL rfl <| o_p rfl (p_len ti44 (isl_c rfl)) <| mI rfl <| o_ek (fr' := [(0, aL), (1, .fn _ [.box 0 0, .box 1 0]), (7, aI), (8, aI)]) rfl rfl ?_
 obtain ⟨x1, hx1, h2⟩ := bind_s h
 refine w_jtail cl_kw (fun j3 => x1 = Fl.go j3) (fun (j3 : Unit) => ([] : Fr)) (fun (j3 : Unit) => ([[.c (.int .i64 p100vx0)], [.c (.int .i64 p101vx0)]] : St)) ?_ ?_
 ·
  refine w_block <| w_loopo _ (fun (s4 : Int) => ([(0, .c (PV.ls 24 rowApiEvent p0s)), (1, .fn 58 [.box 0 0, .box 1 0]), (7, .c (.int .i64 ((p0s).length : Int))), (8, .c (.int .i64 s4))] : Fr)) (fun (s4 : Int) => ([[.c (.int .i64 p100vx0)], [.c (.int .i64 p101vx0)]] : St)) hx1 (w_weak [] 2 rfl rfl rfl rfl ⟨lr, lr, lr, lr, trivial⟩ (st_r rfl (st_r rfl st_nil))) ?_
  intro s4 st4 hs4 ho4
  unfold slices_IndexFunc_api_Event_api_Event_history_Find_1_l1 at hs4
  refine w_sr <| o_p rfl (p_lss rfl rfl) <| o_ek (fr' := [(0, aL), (1, .fn _ [.box 0 0, .box 1 0]), (7, aI), (8, aI), (9, aB)]) rfl rfl <| w_seqw <| w_ch hs4 rfl (fun hb5 h5 => ?_) (fun hb5 h5 => ?_)
  ·
   refine w_skip <| e_kw <| w_seqw <| w_block <| w_sr <| mI rfl <| sI rfl <| o_ek (fr' := [(0, aL), (1, .fn _ [.box 0 0, .box 1 0]), (5, aI), (7, aI), (8, aI)]) rfl rfl <| w_sr <| mV (v := .fn _ [.box 0 0, .box 1 0]) rfl <| mL rfl ?_
   refine mI rfl ?_
   obtain ⟨x6, hx6, h7⟩ := bind_s h5
   refine o_p rfl (p_ia (cs := [PV.int _ _, PV.int _ _, PV.int _ _, PV.int _ _, PV.int _ _, PV.int _ _, PV.int _ _, PV.str _, PV.str _, PV.int _ _, PV.int _ _, PV.str _, PV.ls _ _ _, PV.ls _ _ _, PV.str _, PV.int _ _, PV.int _ _, PV.int _ _, PV.int _ _, PV.int _ _, PV.int _ _, PV.int _ _, PV.int _ _, PV.ls _ _ _]) ts44 (isl_c rfl) rfl hx6 rfl) <| o_p rfl (p_loades (us := [PV.int _ _, PV.int _ _, PV.int _ _, PV.int _ _, PV.int _ _, PV.int _ _, PV.int _ _, PV.str _, PV.str _, PV.int _ _, PV.int _ _, PV.str _, PV.ls _ _ _, PV.ls _ _ _, PV.str _, PV.int _ _, PV.int _ _, PV.int _ _, PV.int _ _, PV.int _ _, PV.int _ _, PV.int _ _, PV.int _ _, PV.ls _ _ _]) tv31 rfl rfl rfl) ?_
   obtain ⟨x8, hx8, h9⟩ := bind_s h7
   refine o_call (v := aB) (σ' := [[aI], [aI]]) [0, 1] rfl (w_history_Find_1 hx8) rfl rfl ⟨(le_aggc rfl ⟨rfl, rfl, rfl, rfl, rfl, rfl, rfl, rfl, rfl, rfl, rfl, rfl, rfl, rfl, rfl, rfl, rfl, rfl, rfl, rfl, rfl, rfl, rfl, rfl, trivial⟩), lr, lr, trivial⟩ (st_p ⟨lr, trivial⟩ (st_p ⟨lr, trivial⟩ st_nil)) rfl rfl rfl <| o_ek (fr' := [(0, aL), (1, .fn _ [.box 0 0, .box 1 0]), (5, aI), (7, aI), (8, aI), (16, aB)]) rfl rfl <| w_ch h9 rfl (fun hb10 h10 => ?_) (fun hb10 h10 => ?_)
   ·
    refine w_sr <| mI rfl <| sI rfl <| o_ek (fr' := [(4, aI)]) rfl rfl <| w_ret <| e_blk_r <| e_seq_r <| e_seq_r <| e_blk_r <| e_seq_r <| e_seq_r ?_
    have h11 := un_out h10 ho4
    have h12 := un_done h11 h2
    obtain rfl := sy h12
    exact e_ret (rs' := [.tmp 4]) rfl <| r_tmp (v := aI) rfl <| r_nil <| fin_gen [] rfl rfl rfl lr (st_r rfl (st_r rfl st_nil))
   ·
    exact w_skip <| e_blk_n <| e_kw <| w_region <| o_p rfl (p_add rfl rfl) <| mI rfl <| o_end (fr' := [(0, aL), (1, .fn _ [.box 0 0, .box 1 0]), (5, aI), (7, aI), (8, aI), (16, aB)]) rfl <| e_l _ (sy h10) (w_weak [] 2 rfl rfl rfl rfl ⟨lr, lr, lr, lr, trivial⟩ (st_r rfl (st_r rfl st_nil)))
  ·
   refine w_exit <| e_seq_x <| e_seq_x <| e_blk_h ?_
   have h14 := un_out h5 ho4
   exact e_j _ (sy h14) (w_weak [] 2 rfl rfl rfl rfl trivial (st_r rfl (st_r rfl st_nil)))
 ·
  intro j3 hj15
  have h15 := un_go hj15 h2
  refine e_kw <| w_sr <| sI rfl <| o_ek (fr' := [(4, aI)]) rfl rfl <| w_ret ?_
  obtain rfl := sy h15
  exact e_ret (rs' := [.tmp 4]) rfl <| r_tmp (v := aI) rfl <| r_nil <| fin_gen [] rfl rfl rfl lr (st_r rfl (st_r rfl st_nil))
noncomputable def history_Find (p0l : (List ApiEvent)) (p1kind : Int) (p2seq : Int) : Option (Int × Bool) :=
 (slices_IndexFunc_api_Event_api_Event_history_Find_1 p0l p1kind p2seq).bind fun (x1 : Int) => some ((if (0 : Int) > x1 then (0 : Int) else x1), (decide ((0 : Int) ≤ x1)))
theorem w_history_Find {p0l : (List ApiEvent)} {p1kind : Int} {p2seq : Int} {res : (Int × Bool)} (h : history_Find p0l p1kind p2seq = some res) : ACalls Tryd.prog 29 [.c (PV.ls 24 rowApiEvent p0l), .c (.int .i64 p1kind), .c (.int .i64 p2seq)] [] (.tup [.c (.int .i64 res.1), .c (.bool res.2)]) [] := by
 unfold history_Find at h
 refine acalls (fn := Tryd.f29) [0, 1, 2, 4, 5, 6, 7, 8] (by kernel_rfl) Tryd.func29 rfl (by kernel_rfl) (by kernel_rfl) <| w_sr <| o_box (v := aI) (n := 0) (cs := [aI]) (σ' := [[aI]]) rfl rfl rfl rfl rfl <| o_box (v := aI) (n := 1) (cs := [aI]) (σ' := [[aI], [aI]]) rfl rfl rfl rfl rfl <| sI rfl <| sB rfl <| o_ek (fr' := [(0, aL), (4, .box 0 0), (5, .box 1 0)]) rfl rfl <| w_sr <| mL rfl <| o_p rfl (p_func (cs := [.box 0 0, .box 1 0]) rfl rfl) ?_
 obtain ⟨x1, hx1, h2⟩ := bind_s h
 refine o_call (v := aI) (σ' := [[aI], [aI]]) [0, 1] rfl (w_slices_IndexFunc_api_Event_api_Event_history_Find_1 hx1) rfl rfl ⟨lr, (le_fnp rfl ⟨lr, lr, trivial⟩), trivial⟩ (st_p ⟨lr, trivial⟩ (st_p ⟨lr, trivial⟩ st_nil)) rfl rfl rfl <| sI rfl <| o_ek (fr' := [(8, aI)]) rfl rfl <| w_sr <| mI rfl <| o_p rfl (p_max rfl rfl) <| mI rfl <| o_p rfl (p_geq rfl rfl) <| sI rfl <| sB rfl <| o_ek (fr' := [(6, aI), (7, aB)]) rfl rfl <| w_ret ?_
 obtain rfl := sy h2
 exact e_ret (rs' := [.tmp 6, .tmp 7]) rfl <| r_tmp (v := aI) rfl <| r_tmp (v := aB) rfl <| r_nil <| fin_gen [] rfl rfl rfl (le_tupp rfl ⟨lr, lr, trivial⟩) st_nil
noncomputable def ref24xFind_l1 (p0l : (List ApiEvent)) (p2seq : Int) (p1kind : Int) (s4 : Int) : Option (Step Int (Fl (Int × Bool) Unit)) :=
 cond (decide (s4 < ((p0l).length : Int))) ((idx p0l s4).bind fun (x6 : ApiEvent) => (gd ((decide (x6.Kind = p1kind)) == true) (idx p0l s4)).bind fun (x8 : ApiEvent) => cond (cond (decide (x6.Kind = p1kind)) (decide (x8.Seq = p2seq)) false) (some (Step.out (Fl.done (s4, true)))) (some (Step.next (IntKind.wrap .i64 (s4 + (1 : Int)))))) (some (Step.out (Fl.go ())))
noncomputable def ref24xFind (p0l : (List ApiEvent)) (p1kind : Int) (p2seq : Int) : Option (Int × Bool) :=
 ((loopO (ref24xFind_l1 p0l p2seq p1kind) ((0 : Int))) : Option (Fl (Int × Bool) Unit)).bind fun (x1 : (Fl (Int × Bool) Unit)) => Fl.next x1 (fun (j3 : Unit) => (some ((0 : Int), false)))
theorem w_ref24xFind {p0l : (List ApiEvent)} {p1kind : Int} {p2seq : Int} {res : (Int × Bool)} (h : ref24xFind p0l p1kind p2seq = some res) : ACalls Tryd.prog 30 [.c (PV.ls 24 rowApiEvent p0l), .c (.int .i64 p1kind), .c (.int .i64 p2seq)] [] (.tup [.c (.int .i64 res.1), .c (.bool res.2)]) [] := by
 unfold ref24xFind at h
 refine acalls (fn := Tryd.f30) [0, 1, 2, 6, 7, 8, 12, 30] (by kernel_rfl) Tryd.func30 rfl (by kernel_rfl) (by kernel_rfl) <| w_sr <| sI rfl <| sB rfl <| o_ek (fr' := [(0, aL), (1, aI), (2, aI)]) rfl rfl <| w_seqw <| w_sr <| sI rfl <| o_ek (fr' := [(0, aL), (1, aI), (2, aI), (8, aI)]) rfl rfl ?_
 obtain ⟨x1, hx1, h2⟩ := bind_s h
 refine w_jtail cl_kw (fun j3 => x1 = Fl.go j3) (fun (j3 : Unit) => ([] : Fr)) (fun (j3 : Unit) => ([] : St)) ?_ ?_
 ·
  refine w_block <| w_loopo _ (fun (s4 : Int) => ([(0, .c (PV.ls 24 rowApiEvent p0l)), (1, .c (.int .i64 p1kind)), (2, .c (.int .i64 p2seq)), (8, .c (.int .i64 s4))] : Fr)) (fun (s4 : Int) => ([] : St)) hx1 (w_weak [] 0 rfl rfl rfl rfl ⟨lr, lr, lr, lr, trivial⟩ st_nil) ?_
  intro s4 st4 hs4 ho4
  unfold ref24xFind_l1 at hs4
  refine w_seqw <| w_sr <| mI rfl <| mL rfl <| o_p rfl (p_len ti44 (isl_c rfl)) <| o_p rfl (p_lss rfl rfl) <| o_ek (fr' := [(0, aL), (1, aI), (2, aI), (8, aI), (12, aB)]) rfl rfl <| w_ch hs4 rfl (fun hb5 h5 => ?_) (fun hb5 h5 => ?_)
  ·
   refine w_skip <| e_kw <| w_seqw <| w_block <| w_sr <| mL rfl <| mI rfl ?_
   obtain ⟨x6, hx6, h7⟩ := bind_s h5
   refine o_p rfl (p_ia (cs := [PV.int _ _, PV.int _ _, PV.int _ _, PV.int _ _, PV.int _ _, PV.int _ _, PV.int _ _, PV.str _, PV.str _, PV.int _ _, PV.int _ _, PV.str _, PV.ls _ _ _, PV.ls _ _ _, PV.str _, PV.int _ _, PV.int _ _, PV.int _ _, PV.int _ _, PV.int _ _, PV.int _ _, PV.int _ _, PV.int _ _, PV.ls _ _ _]) ts44 (isl_c rfl) rfl hx6 rfl) <| o_p rfl (p_fae tf31x1 rfl) <| o_p rfl (p_loade (p := PV.int _ _) tv3 rfl rfl) <| mI rfl <| o_p rfl (p_eql rfl rfl) <| mB rfl <| og rfl rfl rfl (fun hc => (p_move (v := aL) rfl)) <| og rfl rfl rfl (fun hc => (p_move (v := aI) rfl)) ?_
   obtain ⟨x8, hx8, h9⟩ := bind_s h7
   refine og rfl rfl rfl (fun hc => (p_ia (cs := [PV.int _ _, PV.int _ _, PV.int _ _, PV.int _ _, PV.int _ _, PV.int _ _, PV.int _ _, PV.str _, PV.str _, PV.int _ _, PV.int _ _, PV.str _, PV.ls _ _ _, PV.ls _ _ _, PV.str _, PV.int _ _, PV.int _ _, PV.int _ _, PV.int _ _, PV.int _ _, PV.int _ _, PV.int _ _, PV.int _ _, PV.ls _ _ _]) ts44 (isl_c (gx rfl hc)) (gx rfl hc) (gd_some hx8 hc) rfl)) <| og rfl rfl rfl (fun hc => (p_fae tf31x3 (gx rfl hc))) <| og rfl rfl rfl (fun hc => (p_loade (p := PV.int _ _) tv3 (gx rfl hc) rfl)) <| og rfl rfl rfl (fun hc => (p_move (v := aI) rfl)) <| og rfl rfl rfl (fun hc => (p_eql (gx rfl hc) (gx rfl hc))) <| o_p rfl (p_picky rfl rfl rfl (fun e => keq e)) <| o_ek (fr' := [(0, aL), (1, aI), (2, aI), (8, aI), (30, aB)]) rfl rfl <| w_ch h9 rfl (fun hb10 h10 => ?_) (fun hb10 h10 => ?_)
   ·
    refine w_sr <| mI rfl <| sI rfl <| sB rfl <| o_ek (fr' := [(6, aI), (7, aB)]) rfl rfl <| w_ret <| e_blk_r <| e_seq_r <| e_seq_r <| e_blk_r <| e_seq_r <| e_seq_r ?_
    have h11 := un_out h10 ho4
    have h12 := un_done h11 h2
    obtain rfl := sy h12
    exact e_ret (rs' := [.tmp 6, .tmp 7]) rfl <| r_tmp (v := aI) rfl <| r_tmp (v := aB) rfl <| r_nil <| fin_gen [] rfl rfl rfl (le_tupp rfl ⟨lr, lr, trivial⟩) st_nil
   ·
    exact w_skip <| e_blk_n <| e_kw <| w_region <| mI rfl <| o_p rfl (p_add rfl rfl) <| sI rfl <| o_end (fr' := [(0, aL), (1, aI), (2, aI), (8, aI), (30, aB)]) rfl <| e_l _ (sy h10) (w_weak [] 0 rfl rfl rfl rfl ⟨lr, lr, lr, lr, trivial⟩ st_nil)
  ·
   refine w_exit <| e_seq_x <| e_seq_x <| e_blk_h ?_
   have h14 := un_out h5 ho4
   exact e_j _ (sy h14) (w_weak [] 0 rfl rfl rfl rfl trivial st_nil)
 ·
  intro j3 hj15
  have h15 := un_go hj15 h2
  refine e_kw <| w_sr <| sI rfl <| sB rfl <| o_ek (fr' := [(6, aI), (7, aB)]) rfl rfl <| w_ret ?_
  obtain rfl := sy h15
  exact e_ret (rs' := [.tmp 6, .tmp 7]) rfl <| r_tmp (v := aI) rfl <| r_tmp (v := aB) rfl <| r_nil <| fin_gen [] rfl rfl rfl (le_tupp rfl ⟨lr, lr, trivial⟩) st_nil
noncomputable def ref24xStatus_l1 (p0l : (List ApiEvent)) (s4 : Int) : Option (Step Int (Fl (Int × Int) Unit)) :=
 cond (decide (s4 < ((p0l).length : Int))) ((idx p0l s4).bind fun (x6 : ApiEvent) => (ref22xStatus x6.Kind).bind fun (x8 : (Int × Bool)) => cond x8.2 (some (Step.out (Fl.done (x8.1, s4)))) (some (Step.next (IntKind.wrap .i64 (s4 + (1 : Int)))))) (some (Step.out (Fl.go ())))
noncomputable def ref24xStatus (p0l : (List ApiEvent)) : Option (Int × Int) :=
 ((loopO (ref24xStatus_l1 p0l) ((0 : Int))) : Option (Fl (Int × Int) Unit)).bind fun (x1 : (Fl (Int × Int) Unit)) => Fl.next x1 (fun (j3 : Unit) => (some ((0 : Int), (-1 : Int))))
theorem w_ref24xStatus {p0l : (List ApiEvent)} {res : (Int × Int)} (h : ref24xStatus p0l = some res) : ACalls Tryd.prog 32 [.c (PV.ls 24 rowApiEvent p0l)] [] (.tup [.c (.int .i64 res.1), .c (.int .i64 res.2)]) [] := by
 unfold ref24xStatus at h
 refine acalls (fn := Tryd.f32) [0, 2, 3, 4, 5, 6, 10, 22] (by kernel_rfl) Tryd.func32 rfl (by kernel_rfl) (by kernel_rfl) <| w_sr <| sI rfl <| sI rfl <| o_ek (fr' := [(0, aL)]) rfl rfl <| w_seqw <| w_sr <| sI rfl <| o_ek (fr' := [(0, aL), (4, aI)]) rfl rfl ?_
 obtain ⟨x1, hx1, h2⟩ := bind_s h
 refine w_jtail cl_kw (fun j3 => x1 = Fl.go j3) (fun (j3 : Unit) => ([] : Fr)) (fun (j3 : Unit) => ([] : St)) ?_ ?_
 ·
  refine w_block <| w_loopo _ (fun (s4 : Int) => ([(0, .c (PV.ls 24 rowApiEvent p0l)), (4, .c (.int .i64 s4))] : Fr)) (fun (s4 : Int) => ([] : St)) hx1 (w_weak [] 0 rfl rfl rfl rfl ⟨lr, lr, trivial⟩ st_nil) ?_
  intro s4 st4 hs4 ho4
  unfold ref24xStatus_l1 at hs4
  refine w_seqw <| w_sr <| mI rfl <| mL rfl <| o_p rfl (p_len ti44 (isl_c rfl)) <| o_p rfl (p_lss rfl rfl) <| o_ek (fr' := [(0, aL), (4, aI), (10, aB)]) rfl rfl <| w_ch hs4 rfl (fun hb5 h5 => ?_) (fun hb5 h5 => ?_)
  ·
   refine w_skip <| e_kw <| w_seqw <| w_block <| w_sr <| mL rfl <| mI rfl ?_
   obtain ⟨x6, hx6, h7⟩ := bind_s h5
   refine o_p rfl (p_ia (cs := [PV.int _ _, PV.int _ _, PV.int _ _, PV.int _ _, PV.int _ _, PV.int _ _, PV.int _ _, PV.str _, PV.str _, PV.int _ _, PV.int _ _, PV.str _, PV.ls _ _ _, PV.ls _ _ _, PV.str _, PV.int _ _, PV.int _ _, PV.int _ _, PV.int _ _, PV.int _ _, PV.int _ _, PV.int _ _, PV.int _ _, PV.ls _ _ _]) ts44 (isl_c rfl) rfl hx6 rfl) <| o_p rfl (p_fae tf31x1 rfl) <| o_p rfl (p_loade (p := PV.int _ _) tv3 rfl rfl) ?_
   obtain ⟨x8, hx8, h9⟩ := bind_s h7
   refine o_v (ov_call (v := .tup [aI, aB]) rfl (w_ref22xStatus hx8) ⟨lr, trivial⟩ rfl rfl rfl) <| mV (v := .tup [aI, aB]) rfl <| o_p rfl (p_ex (v := aI) rfl rfl) <| o_p rfl (p_ex (v := aB) rfl rfl) <| sI rfl <| sB rfl <| o_ek (fr' := [(0, aL), (4, aI), (5, aI), (6, aB)]) rfl rfl <| w_sr <| mB rfl <| o_ek (fr' := [(0, aL), (4, aI), (5, aI), (22, aB)]) rfl rfl <| w_ch h9 rfl (fun hb10 h10 => ?_) (fun hb10 h10 => ?_)
   ·
    refine w_sr <| mI rfl <| mI rfl <| sI rfl <| sI rfl <| o_ek (fr' := [(2, aI), (3, aI)]) rfl rfl <| w_ret <| e_blk_r <| e_seq_r <| e_seq_r <| e_blk_r <| e_seq_r ?_
    refine e_seq_r ?_
    have h11 := un_out h10 ho4
    have h12 := un_done h11 h2
    obtain rfl := sy h12
    exact e_ret (rs' := [.tmp 2, .tmp 3]) rfl <| r_tmp (v := aI) rfl <| r_tmp (v := aI) rfl <| r_nil <| fin_gen [] rfl rfl rfl (le_tupp rfl ⟨lr, lr, trivial⟩) st_nil
   ·
    exact w_skip <| e_blk_n <| e_kw <| w_region <| mI rfl <| o_p rfl (p_add rfl rfl) <| sI rfl <| o_end (fr' := [(0, aL), (4, aI), (5, aI), (22, aB)]) rfl <| e_l _ (sy h10) (w_weak [] 0 rfl rfl rfl rfl ⟨lr, lr, trivial⟩ st_nil)
  ·
   refine w_exit <| e_seq_x <| e_seq_x <| e_blk_h ?_
   have h14 := un_out h5 ho4
   exact e_j _ (sy h14) (w_weak [] 0 rfl rfl rfl rfl trivial st_nil)
 ·
  intro j3 hj15
  have h15 := un_go hj15 h2
  refine e_kw <| w_sr <| sI rfl <| sI rfl <| o_ek (fr' := [(2, aI), (3, aI)]) rfl rfl <| w_ret ?_
  obtain rfl := sy h15
  exact e_ret (rs' := [.tmp 2, .tmp 3]) rfl <| r_tmp (v := aI) rfl <| r_tmp (v := aI) rfl <| r_nil <| fin_gen [] rfl rfl rfl (le_tupp rfl ⟨lr, lr, trivial⟩) st_nil
noncomputable def history_Signals_l1 (p0l : (List ApiEvent)) (s4 : ((List (List UInt8)) × Int)) : Option (Step ((List (List UInt8)) × Int) (List (List UInt8))) :=
 cond (decide (s4.2 < ((p0l).length : Int))) ((idx p0l s4.2).bind fun (x6 : ApiEvent) => cond (decide (x6.Kind = (17 : Int))) ((app 16 s4.1 ([x6.Key] : List (List UInt8))).bind fun (x9 : (List (List UInt8))) => some (Step.next (x9, (IntKind.wrap .i64 (s4.2 + (1 : Int)))))) (some (Step.next (s4.1, (IntKind.wrap .i64 (s4.2 + (1 : Int))))))) (some (Step.out s4.1))
noncomputable def history_Signals (p0l : (List ApiEvent)) : Option (List (List UInt8)) :=
 ((loopO (history_Signals_l1 p0l) ((([] : (List (List UInt8))), (0 : Int)))) : Option (List (List UInt8))).bind fun (x1 : (List (List UInt8))) => (some x1)
theorem w_history_Signals {p0l : (List ApiEvent)} {res : (List (List UInt8))} (h : history_Signals p0l = some res) : ACalls Tryd.prog 33 [.c (PV.ls 24 rowApiEvent p0l)] [] (AV.os 0 1 rowS res) [] := by
 unfold history_Signals at h
 refine acalls (fn := Tryd.f33) [0, 2, 3, 5, 6, 7, 8, 9, 14] (by kernel_rfl) Tryd.func33 rfl (by kernel_rfl) (by kernel_rfl) <| w_sr <| sV (v := AV.nil) rfl <| o_ek (fr' := [(0, aL)]) rfl rfl <| w_sr <| sV (v := AV.nil) rfl <| o_ek (fr' := [(0, aL), (3, AV.nil)]) rfl rfl <| w_seqw <| w_sr <| mL rfl ?_
 refine o_p rfl (p_len ti44 (isl_c rfl)) <| mI rfl <| o_ek (fr' := [(3, AV.nil), (6, aL), (7, aI), (8, aI)]) rfl rfl ?_
 obtain ⟨x1, hx1, h2⟩ := bind_s h
 refine w_jtail cl_kw (fun j3 => x1 = j3) (fun (j3 : (List (List UInt8))) => ([(3, AV.os 0 1 rowS j3)] : Fr)) (fun (j3 : (List (List UInt8))) => ([] : St)) ?_ ?_
 ·
  refine w_block <| w_loopo _ (fun (s4 : ((List (List UInt8)) × Int)) => ([(3, AV.os 0 1 rowS s4.1), (6, .c (PV.ls 24 rowApiEvent p0l)), (7, .c (.int .i64 ((p0l).length : Int))), (8, .c (.int .i64 s4.2))] : Fr)) (fun (s4 : ((List (List UInt8)) × Int)) => ([] : St)) hx1 (w_weak [1000000] 0 rfl rfl rfl rfl ⟨(le_nos rfl), lr, lr, lr, trivial⟩ st_nil) ?_
  intro s4 st4 hs4 ho4
  unfold history_Signals_l1 at hs4
  refine w_sr <| o_p rfl (p_lss rfl rfl) <| o_ek (fr' := [(3, aO), (6, aL), (7, aI), (8, aI), (9, aB)]) rfl rfl <| w_seqw <| w_ch hs4 rfl (fun hb5 h5 => ?_) (fun hb5 h5 => ?_)
  ·
   refine w_skip <| e_kw <| w_seqw <| w_block <| w_seqw <| w_region ?_
   obtain ⟨x6, hx6, h7⟩ := bind_s h5
   refine o_p rfl (p_ia (cs := [PV.int _ _, PV.int _ _, PV.int _ _, PV.int _ _, PV.int _ _, PV.int _ _, PV.int _ _, PV.str _, PV.str _, PV.int _ _, PV.int _ _, PV.str _, PV.ls _ _ _, PV.ls _ _ _, PV.str _, PV.int _ _, PV.int _ _, PV.int _ _, PV.int _ _, PV.int _ _, PV.int _ _, PV.int _ _, PV.int _ _, PV.ls _ _ _]) ts44 (isl_c rfl) rfl hx6 rfl) <| o_p rfl (p_loades (us := [PV.int _ _, PV.int _ _, PV.int _ _, PV.int _ _, PV.int _ _, PV.int _ _, PV.int _ _, PV.str _, PV.str _, PV.int _ _, PV.int _ _, PV.str _, PV.ls _ _ _, PV.ls _ _ _, PV.str _, PV.int _ _, PV.int _ _, PV.int _ _, PV.int _ _, PV.int _ _, PV.int _ _, PV.int _ _, PV.int _ _, PV.ls _ _ _]) tv31 rfl rfl rfl) <| o_alloc (n := 0) (cs := [aI, aI, aI, aI, aI, aI, aI, aS, aS, aI, aI, aS, AV.nil, AV.nil, aS, aI, aI, aI, aI, aI, aI, aI, aI, AV.nil]) (σ' := [[aI, aI, aI, aI, aI, aI, aI, aS, aS, aI, aI, aS, AV.nil, AV.nil, aS, aI, aI, aI, aI, aI, aI, aI, aI, AV.nil]]) tz31 rfl rfl rfl <| o_store (v := .agg aIIIIIIISSIISLLSIIIIIIIIL) (us := aIIIIIIISSIISLLSIIIIIIIIL) (cs := [aI, aI, aI, aI, aI, aI, aI, aS, aS, aI, aI, aS, AV.nil, AV.nil, aS, aI, aI, aI, aI, aI, aI, aI, aI, AV.nil]) (σ' := [aIIIIIIISSIISLLSIIIIIIIIL]) rfl tv31 rfl rfl rfl rfl rfl rfl rfl rfl <| o_ek (fr' := [(3, aO), (5, .box 0 0), (6, aL), (7, aI), (8, aI)]) rfl rfl <| w_sr <| o_p rfl (p_fa tf31x1 rfl) <| o_p rfl (p_load (v := aI) tv3 rfl rfl rfl) <| o_p rfl (p_eql rfl rfl) <| o_ek (fr' := [(3, aO), (5, .box 0 0), (6, aL), (7, aI), (8, aI), (14, aB)]) rfl rfl <| w_ch h7 rfl (fun hb8 h8 => ?_) (fun hb8 h8 => ?_)
   ·
    refine w_region <| mV (v := aO) rfl <| o_p rfl (p_fa tf31x8 rfl) <| o_p rfl (p_load (v := aS) tv9 rfl rfl rfl) <| o_rows (row := rowS) (xs := ([x6.Key] : List (List UInt8))) (rows := [[_]]) (σ' := [aIIIIIIISSIISLLSIIIIIIIIL]) [0] ts23 rfl rfl rfl (arow_cons rfl arow_nil) rfl rfl ?_
    obtain ⟨x9, hx9, h10⟩ := bind_s h8
    exact o_app (row := rowS) ts23 rfl ti23 rfl (isl_o rfl) (fun _ => rfl) hx9 <| sV (v := aO) rfl <| o_end (fr' := [(3, aO), (5, .box 0 0), (6, aL), (7, aI), (8, aI), (14, aB)]) rfl <| e_blk_n <| e_kw <| w_region <| o_p rfl (p_add rfl rfl) <| mI rfl <| o_end (fr' := [(3, aO), (5, .box 0 0), (6, aL), (7, aI), (8, aI), (14, aB)]) rfl <| e_l _ (sy h10) (w_weak [304] 0 rfl rfl rfl rfl ⟨lr, lr, lr, lr, trivial⟩ st_nil)
   ·
    exact w_skip <| e_blk_n <| e_kw <| w_region <| o_p rfl (p_add rfl rfl) <| mI rfl <| o_end (fr' := [(3, aO), (5, .box 0 0), (6, aL), (7, aI), (8, aI), (14, aB)]) rfl <| e_l _ (sy h8) (w_weak [0] 0 rfl rfl rfl rfl ⟨lr, lr, lr, lr, trivial⟩ st_nil)
  ·
   refine w_exit <| e_seq_x <| e_seq_x <| e_blk_h ?_
   have h11 := un_out h5 ho4
   exact e_j _ (sy h11) (w_weak [0] 0 rfl rfl rfl rfl ⟨lr, trivial⟩ st_nil)
 ·
  intro j3 hj12
  subst hj12
  refine e_kw <| w_sr <| mV (v := aO) rfl <| sV (v := aO) rfl <| o_ek (fr' := [(2, aO)]) rfl rfl <| w_ret ?_
  obtain rfl := sy h2
  exact e_ret (rs' := [.tmp 2]) rfl <| r_tmp (v := aO) rfl <| r_nil <| fin_gen [0] rfl rfl rfl lr st_nil
noncomputable def ref24xSignals_l1 (p0l : (List ApiEvent)) (s4 : ((List (List UInt8)) × Int)) : Option (Step ((List (List UInt8)) × Int) (List (List UInt8))) :=
 cond (decide (s4.2 < ((p0l).length : Int))) ((idx p0l s4.2).bind fun (x6 : ApiEvent) => cond (decide (x6.Kind = (17 : Int))) ((idx p0l s4.2).bind fun (x9 : ApiEvent) => (app 16 s4.1 ([x9.Key] : List (List UInt8))).bind fun (x11 : (List (List UInt8))) => some (Step.next (x11, (IntKind.wrap .i64 (s4.2 + (1 : Int)))))) (some (Step.next (s4.1, (IntKind.wrap .i64 (s4.2 + (1 : Int))))))) (some (Step.out s4.1))
noncomputable def ref24xSignals (p0l : (List ApiEvent)) : Option (List (List UInt8)) :=
 ((loopO (ref24xSignals_l1 p0l) ((([] : (List (List UInt8))), (0 : Int)))) : Option (List (List UInt8))).bind fun (x1 : (List (List UInt8))) => (some x1)
theorem w_ref24xSignals {p0l : (List ApiEvent)} {res : (List (List UInt8))} (h : ref24xSignals p0l = some res) : ACalls Tryd.prog 34 [.c (PV.ls 24 rowApiEvent p0l)] [] (AV.os 0 1 rowS res) [] := by
 unfold ref24xSignals at h
 refine acalls (fn := Tryd.f34) [0, 2, 3, 4, 8, 16] (by kernel_rfl) Tryd.func34 rfl (by kernel_rfl) (by kernel_rfl) <| w_sr <| sV (v := AV.nil) rfl <| o_ek (fr' := [(0, aL)]) rfl rfl <| w_sr <| sV (v := AV.nil) rfl <| o_ek (fr' := [(0, aL), (3, AV.nil)]) rfl rfl <| w_seqw <| w_sr <| sI rfl ?_
 refine o_ek (fr' := [(0, aL), (3, AV.nil), (4, aI)]) rfl rfl ?_
 obtain ⟨x1, hx1, h2⟩ := bind_s h
 refine w_jtail cl_kw (fun j3 => x1 = j3) (fun (j3 : (List (List UInt8))) => ([(3, AV.os 0 1 rowS j3)] : Fr)) (fun (j3 : (List (List UInt8))) => ([] : St)) ?_ ?_
 ·
  refine w_block <| w_loopo _ (fun (s4 : ((List (List UInt8)) × Int)) => ([(0, .c (PV.ls 24 rowApiEvent p0l)), (3, AV.os 0 1 rowS s4.1), (4, .c (.int .i64 s4.2))] : Fr)) (fun (s4 : ((List (List UInt8)) × Int)) => ([] : St)) hx1 (w_weak [1000000] 0 rfl rfl rfl rfl ⟨lr, (le_nos rfl), lr, trivial⟩ st_nil) ?_
  intro s4 st4 hs4 ho4
  unfold ref24xSignals_l1 at hs4
  refine w_seqw <| w_sr <| mI rfl <| mL rfl <| o_p rfl (p_len ti44 (isl_c rfl)) <| o_p rfl (p_lss rfl rfl) <| o_ek (fr' := [(0, aL), (3, aO), (4, aI), (8, aB)]) rfl rfl <| w_ch hs4 rfl (fun hb5 h5 => ?_) (fun hb5 h5 => ?_)
  ·
   refine w_skip <| e_kw <| w_seqw <| w_block <| w_sr <| mL rfl <| mI rfl ?_
   obtain ⟨x6, hx6, h7⟩ := bind_s h5
   refine o_p rfl (p_ia (cs := [PV.int _ _, PV.int _ _, PV.int _ _, PV.int _ _, PV.int _ _, PV.int _ _, PV.int _ _, PV.str _, PV.str _, PV.int _ _, PV.int _ _, PV.str _, PV.ls _ _ _, PV.ls _ _ _, PV.str _, PV.int _ _, PV.int _ _, PV.int _ _, PV.int _ _, PV.int _ _, PV.int _ _, PV.int _ _, PV.int _ _, PV.ls _ _ _]) ts44 (isl_c rfl) rfl hx6 rfl) <| o_p rfl (p_fae tf31x1 rfl) <| o_p rfl (p_loade (p := PV.int _ _) tv3 rfl rfl) <| o_p rfl (p_eql rfl rfl) <| o_ek (fr' := [(0, aL), (3, aO), (4, aI), (16, aB)]) rfl rfl <| w_ch h7 rfl (fun hb8 h8 => ?_) (fun hb8 h8 => ?_)
   ·
    refine w_region <| mV (v := aO) rfl <| mL rfl <| mI rfl ?_
    obtain ⟨x9, hx9, h10⟩ := bind_s h8
    refine o_p rfl (p_ia (cs := [PV.int _ _, PV.int _ _, PV.int _ _, PV.int _ _, PV.int _ _, PV.int _ _, PV.int _ _, PV.str _, PV.str _, PV.int _ _, PV.int _ _, PV.str _, PV.ls _ _ _, PV.ls _ _ _, PV.str _, PV.int _ _, PV.int _ _, PV.int _ _, PV.int _ _, PV.int _ _, PV.int _ _, PV.int _ _, PV.int _ _, PV.ls _ _ _]) ts44 (isl_c rfl) rfl hx9 rfl) <| o_p rfl (p_fae tf31x8 rfl) <| o_p rfl (p_loade (p := PV.str _) tv9 rfl rfl) <| o_rows (row := rowS) (xs := ([x9.Key] : List (List UInt8))) (rows := [[_]]) (σ' := []) [0] ts23 rfl rfl rfl (arow_cons rfl arow_nil) rfl rfl ?_
    obtain ⟨x11, hx11, h12⟩ := bind_s h10
    exact o_app (row := rowS) ts23 rfl ti23 rfl (isl_o rfl) (fun _ => rfl) hx11 <| sV (v := aO) rfl <| o_end (fr' := [(0, aL), (3, aO), (4, aI), (16, aB)]) rfl <| e_blk_n <| e_kw <| w_region <| mI rfl <| o_p rfl (p_add rfl rfl) <| sI rfl <| o_end (fr' := [(0, aL), (3, aO), (4, aI), (16, aB)]) rfl <| e_l _ (sy h12) (w_weak [384] 0 rfl rfl rfl rfl ⟨lr, lr, lr, trivial⟩ st_nil)
   ·
    exact w_skip <| e_blk_n <| e_kw <| w_region <| mI rfl <| o_p rfl (p_add rfl rfl) <| sI rfl <| o_end (fr' := [(0, aL), (3, aO), (4, aI), (16, aB)]) rfl <| e_l _ (sy h8) (w_weak [0] 0 rfl rfl rfl rfl ⟨lr, lr, lr, trivial⟩ st_nil)
  ·
   refine w_exit <| e_seq_x <| e_seq_x <| e_blk_h ?_
   have h13 := un_out h5 ho4
   exact e_j _ (sy h13) (w_weak [0] 0 rfl rfl rfl rfl ⟨lr, trivial⟩ st_nil)
 ·
  intro j3 hj14
  subst hj14
  refine e_kw <| w_sr <| mV (v := aO) rfl <| sV (v := aO) rfl <| o_ek (fr' := [(2, aO)]) rfl rfl <| w_ret ?_
  obtain rfl := sy h2
  exact e_ret (rs' := [.tmp 2]) rfl <| r_tmp (v := aO) rfl <| r_nil <| fin_gen [0] rfl rfl rfl lr st_nil
noncomputable def law24xHistoryFinds_l1 (x13 : (List (List UInt8))) (x15 : (List (List UInt8))) (s22 : Int) : Option (Step Int (Fl Bool Unit)) :=
 cond (decide (s22 < ((x13).length : Int))) ((idx x13 s22).bind fun (x24 : (List UInt8)) => (idx x15 s22).bind fun (x26 : (List UInt8)) => cond (!decide (x24 = x26)) (some (Step.out (Fl.done false))) (some (Step.next (IntKind.wrap .i64 (s22 + (1 : Int)))))) (some (Step.out (Fl.go ())))
noncomputable def law24xHistoryFinds (p0l : (List ApiEvent)) (p1kind : Int) (p2seq : Int) : Option Bool :=
 cond (decide ((200 : Int) < ((p0l).length : Int))) ((law24xworks).bind fun (x2 : Bool) => some x2) ((history_Find p0l p1kind p2seq).bind fun (x5 : (Int × Bool)) => (ref24xFind p0l p1kind p2seq).bind fun (x7 : (Int × Bool)) => (history_Status p0l).bind fun (x9 : (Int × Int)) => (ref24xStatus p0l).bind fun (x11 : (Int × Int)) => (history_Signals p0l).bind fun (x13 : (List (List UInt8))) => (ref24xSignals p0l).bind fun (x15 : (List (List UInt8))) => cond (cond (cond (cond (cond (!decide (x5.1 = x7.1)) true (!(x5.2 == x7.2))) true (!decide (x9.1 = x11.1))) true (!decide (x9.2 = x11.2))) true (!decide (((x13).length : Int) = ((x15).length : Int)))) (some false) (((loopO (law24xHistoryFinds_l1 x13 x15) ((0 : Int))) : Option (Fl Bool Unit)).bind fun (x19 : (Fl Bool Unit)) => Fl.next x19 (fun (j21 : Unit) => ((law24xworks).bind fun (x34 : Bool) => some x34))))
theorem w_law24xHistoryFinds {p0l : (List ApiEvent)} {p1kind : Int} {p2seq : Int} {res : Bool} (h : law24xHistoryFinds p0l p1kind p2seq = some res) : ACalls Tryd.prog 7 [.c (PV.ls 24 rowApiEvent p0l), .c (.int .i64 p1kind), .c (.int .i64 p2seq)] [] (.c (.bool res)) [] := by
 unfold law24xHistoryFinds at h
 refine acalls (fn := Tryd.f7) [0, 1, 2, 6, 7, 8, 9, 10, 11, 12, 13, 14, 15, 16, 17, 20, 74, 76, 77, 78, 88] (by kernel_rfl) Tryd.func7 rfl (by kernel_rfl) (by kernel_rfl) <| w_sr <| sB rfl <| o_ek (fr' := [(0, aL), (1, aI), (2, aI)]) rfl rfl <| w_seqw <| w_sr <| mL rfl <| o_p rfl (p_len ti44 (isl_c rfl)) <| o_p rfl (p_gtr rfl rfl) <| o_ek (fr' := [(0, aL), (1, aI), (2, aI), (20, aB)]) rfl rfl <| w_ch h rfl (fun hb1 h1 => ?_) (fun hb1 h1 => ?_)
 ·
  refine w_seqw <| w_region ?_
  obtain ⟨x2, hx2, h3⟩ := bind_s h1
  refine o_v (ov_call (v := aB) rfl (w_law24xworks hx2) trivial rfl rfl rfl) <| sB rfl <| o_ek (fr' := [(6, aB)]) rfl rfl <| w_ret <| e_seq_r ?_
  obtain rfl := sy h3
  exact e_ret (rs' := [.tmp 6]) rfl <| r_tmp (v := aB) rfl <| r_nil <| fin_gen [] rfl rfl rfl lr st_nil
 ·
  refine w_skip <| e_kw <| w_sr <| mL rfl <| mI rfl <| mI rfl ?_
  obtain ⟨x5, hx5, h6⟩ := bind_s h1
  refine o_v (ov_call (v := .tup [aI, aB]) rfl (w_history_Find hx5) ⟨lr, lr, lr, trivial⟩ rfl rfl rfl) <| mV (v := .tup [aI, aB]) rfl <| o_p rfl (p_ex (v := aI) rfl rfl) <| o_p rfl (p_ex (v := aB) rfl rfl) <| sI rfl <| sB rfl <| o_ek (fr' := [(0, aL), (1, aI), (2, aI), (7, aI), (8, aB)]) rfl rfl <| w_sr <| mL rfl <| mI rfl <| mI rfl ?_
  obtain ⟨x7, hx7, h8⟩ := bind_s h6
  refine o_v (ov_call (v := .tup [aI, aB]) rfl (w_ref24xFind hx7) ⟨lr, lr, lr, trivial⟩ rfl rfl rfl) <| mV (v := .tup [aI, aB]) rfl <| o_p rfl (p_ex (v := aI) rfl rfl) <| o_p rfl (p_ex (v := aB) rfl rfl) <| sI rfl <| sB rfl <| o_ek (fr' := [(0, aL), (7, aI), (8, aB), (9, aI), (10, aB)]) rfl rfl <| w_sr <| mL rfl ?_
  obtain ⟨x9, hx9, h10⟩ := bind_s h8
  refine o_v (ov_call (v := .tup [aI, aI]) rfl (w_history_Status hx9) ⟨lr, trivial⟩ rfl rfl rfl) <| mV (v := .tup [aI, aI]) rfl <| o_p rfl (p_ex (v := aI) rfl rfl) <| o_p rfl (p_ex (v := aI) rfl rfl) <| sI rfl <| sI rfl <| o_ek (fr' := [(0, aL), (7, aI), (8, aB), (9, aI), (10, aB), (11, aI), (12, aI)]) rfl rfl <| w_sr <| mL rfl ?_
  obtain ⟨x11, hx11, h12⟩ := bind_s h10
  refine o_v (ov_call (v := .tup [aI, aI]) rfl (w_ref24xStatus hx11) ⟨lr, trivial⟩ rfl rfl rfl) <| mV (v := .tup [aI, aI]) rfl <| o_p rfl (p_ex (v := aI) rfl rfl) <| o_p rfl (p_ex (v := aI) rfl rfl) <| sI rfl <| sI rfl <| o_ek (fr' := [(0, aL), (7, aI), (8, aB), (9, aI), (10, aB), (11, aI), (12, aI), (13, aI), (14, aI)]) rfl rfl <| w_sr <| mL rfl ?_
  obtain ⟨x13, hx13, h14⟩ := bind_s h12
  refine o_v (ov_call (v := aO) rfl (w_history_Signals hx13) ⟨lr, trivial⟩ rfl rfl rfl) <| mL rfl ?_
  obtain ⟨x15, hx15, h16⟩ := bind_s h14
  refine o_v (ov_call (v := aO) rfl (w_ref24xSignals hx15) ⟨lr, trivial⟩ rfl rfl rfl) <| sV (v := aO) rfl <| sV (v := aO) rfl <| o_ek (fr' := [(7, aI), (8, aB), (9, aI), (10, aB), (11, aI), (12, aI), (13, aI), (14, aI), (15, aO), (16, aO)]) rfl rfl <| w_seqw <| w_sr <| mI rfl <| mI rfl <| o_p rfl (p_neq rfl rfl) <| mB rfl <| og rfl rfl rfl (fun hc => (p_move (v := aB) rfl)) <| og rfl rfl rfl (fun hc => (p_move (v := aB) rfl)) ?_
  refine og rfl rfl rfl (fun hc => (p_bneq ti4 (gx rfl hc) (gx rfl hc))) <| o_p rfl (p_pickz rfl rfl rfl (fun e => keq e)) <| mB rfl <| og rfl rfl rfl (fun hc => (p_move (v := aI) rfl)) <| og rfl rfl rfl (fun hc => (p_move (v := aI) rfl)) <| og rfl rfl rfl (fun hc => (p_neq (gx rfl hc) (gx rfl hc))) <| o_p rfl (p_pickz rfl rfl rfl (fun e => keq e)) <| mB rfl <| og rfl rfl rfl (fun hc => (p_move (v := aI) rfl)) <| og rfl rfl rfl (fun hc => (p_move (v := aI) rfl)) <| og rfl rfl rfl (fun hc => (p_neq (gx rfl hc) (gx rfl hc))) <| o_p rfl (p_pickz rfl rfl rfl (fun e => keq e)) <| mB rfl ?_
  refine og rfl rfl rfl (fun hc => (p_move (v := aO) rfl)) <| og rfl rfl rfl (fun hc => (p_len ti23 (isl_o (gx rfl hc)))) <| og rfl rfl rfl (fun hc => (p_move (v := aO) rfl)) <| og rfl rfl rfl (fun hc => (p_len ti23 (isl_o (gx rfl hc)))) <| og rfl rfl rfl (fun hc => (p_neq (gx rfl hc) (gx rfl hc))) <| o_p rfl (p_pickz rfl rfl rfl (fun e => keq e)) <| o_ek (fr' := [(15, aO), (16, aO), (74, aB)]) rfl rfl <| w_ch h16 rfl (fun hb17 h17 => ?_) (fun hb17 h17 => ?_)
  ·
   refine w_sr <| sB rfl <| o_ek (fr' := [(6, aB)]) rfl rfl <| w_ret <| e_seq_r ?_
   obtain rfl := sy h17
   exact e_ret (rs' := [.tmp 6]) rfl <| r_tmp (v := aB) rfl <| r_nil <| fin_gen [] rfl rfl rfl lr st_nil
  ·
   refine w_skip <| e_kw <| w_seqw <| w_sr <| mV (v := aO) rfl <| o_p rfl (p_len ti23 (isl_o rfl)) <| mI rfl <| o_ek (fr' := [(15, aO), (16, aO), (76, aI), (77, aI)]) rfl rfl ?_
   obtain ⟨x19, hx19, h20⟩ := bind_s h17
   refine w_jtail cl_kw (fun j21 => x19 = Fl.go j21) (fun (j21 : Unit) => ([] : Fr)) (fun (j21 : Unit) => ([] : St)) ?_ ?_
   ·
    refine w_block <| w_loopo _ (fun (s22 : Int) => ([(15, AV.os 0 1 rowS x13), (16, AV.os 1 1 rowS x15), (76, .c (.int .i64 ((x13).length : Int))), (77, .c (.int .i64 s22))] : Fr)) (fun (s22 : Int) => ([] : St)) hx19 (w_weak [752, 784] 0 rfl rfl rfl rfl ⟨lr, lr, lr, lr, trivial⟩ st_nil) ?_
    intro s22 st22 hs22 ho22
    unfold law24xHistoryFinds_l1 at hs22
    refine w_sr <| o_p rfl (p_lss rfl rfl) <| o_ek (fr' := [(15, aO), (16, aO), (76, aI), (77, aI), (78, aB)]) rfl rfl <| w_seqw <| w_ch hs22 rfl (fun hb23 h23 => ?_) (fun hb23 h23 => ?_)
    ·
     refine w_skip <| e_kw <| w_seqw <| w_block <| w_sr <| mI rfl <| sI rfl <| o_ek (fr' := [(15, aO), (16, aO), (17, aI), (76, aI), (77, aI)]) rfl rfl <| w_seqw <| w_planT [.q 0, .q 1, .q 2, .q 3, .q 4, .q 5, .q 6, .q 7, .q 8] [(some 80, [15]), (some 81, [17]), (some 82, [80, 81]), (some 83, [82]), (some 84, [16]), (some 85, [17]), (some 86, [84, 85]), (some 87, [86]), (some 88, [83, 87])] [0, 0, 3, 7, 0, 0, 48, 112, 255] (by kernel_rfl) <| dq rfl rfl (p_move (v := aO) rfl) <| dq rfl rfl (p_move (v := aI) rfl) ?_
     obtain ⟨x24, hx24, h25⟩ := bind_s h23
     refine dq rfl rfl (p_ia (cs := [PV.str _]) ts23 (isl_o rfl) rfl hx24 rfl) <| dq rfl rfl (p_loade (p := PV.str _) tv9 rfl rfl) <| dq rfl rfl (p_move (v := aO) rfl) <| dq rfl rfl (p_move (v := aI) rfl) ?_
     obtain ⟨x26, hx26, h27⟩ := bind_s h25
     refine dq rfl rfl (p_ia (cs := [PV.str _]) ts23 (isl_o rfl) rfl hx26 rfl) <| dq rfl rfl (p_loade (p := PV.str _) tv9 rfl rfl) <| dq rfl rfl (p_sneq rfl rfl) <| d_ek (fr' := [(15, aO), (16, aO), (76, aI), (77, aI), (88, aB)]) rfl rfl <| w_ch h27 rfl (fun hb28 h28 => ?_) (fun hb28 h28 => ?_)
     ·
      refine w_sr <| sB rfl <| o_ek (fr' := [(6, aB)]) rfl rfl <| w_ret <| e_blk_r <| e_seq_r <| e_seq_r <| e_blk_r <| e_seq_r <| e_seq_r ?_
      have h29 := un_out h28 ho22
      have h30 := un_done h29 h20
      obtain rfl := sy h30
      exact e_ret (rs' := [.tmp 6]) rfl <| r_tmp (v := aB) rfl <| r_nil <| fin_gen [] rfl rfl rfl lr st_nil
     ·
      exact w_skip <| e_blk_n <| e_kw <| w_region <| o_p rfl (p_add rfl rfl) <| mI rfl <| o_end (fr' := [(15, aO), (16, aO), (76, aI), (77, aI), (88, aB)]) rfl <| e_l _ (sy h28) (w_weak [0, 1] 0 rfl rfl rfl rfl ⟨lr, lr, lr, lr, trivial⟩ st_nil)
    ·
     refine w_exit <| e_seq_x <| e_seq_x <| e_blk_h ?_
     have h32 := un_out h23 ho22
     exact e_j _ (sy h32) (w_weak [] 0 rfl rfl rfl rfl trivial st_nil)
   ·
    intro j21 hj33
    have h33 := un_go hj33 h20
    refine e_kw <| w_seqw <| w_region ?_
    obtain ⟨x34, hx34, h35⟩ := bind_s h33
    refine o_v (ov_call (v := aB) rfl (w_law24xworks hx34) trivial rfl rfl rfl) <| sB rfl <| o_ek (fr' := [(6, aB)]) rfl rfl <| w_ret ?_
    obtain rfl := sy h35
    exact e_ret (rs' := [.tmp 6]) rfl <| r_tmp (v := aB) rfl <| r_nil <| fin_gen [] rfl rfl rfl lr st_nil
end Go.Proofs.YtngcjjhbimanlaaDoor

import Derived.Test.YtngcjjhbimanlaaDoorGPTy
import Derived.Test.YtngcjjhbimanlaaDoorGPF4
namespace Go.Proofs.YtngcjjhbimanlaaDoor
open Go Abs
set_option maxRecDepth 100000
set_option linter.unusedVariables false
set_option linter.unusedSimpArgs false
noncomputable def ref22xCloses (p0kind : Int) : Option Bool :=
 (ref22xStatus p0kind).bind fun (x1 : (Int × Bool)) => some x1.2
theorem w_ref22xCloses {p0kind : Int} {res : Bool} (h : ref22xCloses p0kind = some res) : ACalls Tryd.prog 28 [.c (.int .i64 p0kind)] [] (.c (.bool res)) [] := by
 unfold ref22xCloses at h
 refine acalls (fn := Tryd.f28) [0, 2, 4] (by kernel_rfl) Tryd.func28 rfl (by kernel_rfl) (by kernel_rfl) <| w_sr <| sB rfl <| o_ek (fr' := [(0, aI)]) rfl rfl <| w_sr <| mI rfl ?_
 obtain ⟨x1, hx1, h2⟩ := bind_s h
 refine o_v (ov_call (v := .tup [aI, aB]) rfl (w_ref22xStatus hx1) ⟨lr, trivial⟩ rfl rfl rfl) <| mV (v := .tup [aI, aB]) rfl <| o_p rfl (p_ex (v := aI) rfl rfl) <| o_p rfl (p_ex (v := aB) rfl rfl) <| sI rfl <| sB rfl <| o_ek (fr' := [(4, aB)]) rfl rfl <| w_sr <| mB rfl <| sB rfl <| o_ek (fr' := [(2, aB)]) rfl rfl <| w_ret ?_
 obtain rfl := sy h2
 exact e_ret (rs' := [.tmp 2]) rfl <| r_tmp (v := aB) rfl <| r_nil <| fin_gen [] rfl rfl rfl lr st_nil
noncomputable def law24xHistoryPrefixes_l1 (p0l : (List ApiEvent)) (s10 : Int) : Option (Step Int (Fl Bool Unit)) :=
 cond (decide (s10 < ((p0l).length : Int))) ((slcH p0l s10).bind fun (x12 : (List ApiEvent)) => (history_Check (List.take (Int.toNat s10) p0l)).bind fun (x14 : Int) => cond (!decide (x14 = (0 : Int))) (some (Step.out (Fl.done false))) ((idx p0l s10).bind fun (x20 : ApiEvent) => (ref22xCloses x20.Kind).bind fun (x22 : Bool) => cond (cond x22 (decide (s10 < (IntKind.wrap .i64 (((p0l).length : Int) - (1 : Int))))) false) (some (Step.out (Fl.done false))) (some (Step.next (IntKind.wrap .i64 (s10 + (1 : Int))))))) (some (Step.out (Fl.go ())))
noncomputable def law24xHistoryPrefixes (p0l : (List ApiEvent)) : Option Bool :=
 (gd ((decide ((60 : Int) < ((p0l).length : Int))) == false) (history_Check p0l)).bind fun (x1 : Int) => cond (cond (decide ((60 : Int) < ((p0l).length : Int))) true (!decide (x1 = (0 : Int)))) ((law24xworks).bind fun (x4 : Bool) => some x4) (((loopO (law24xHistoryPrefixes_l1 p0l) ((0 : Int))) : Option (Fl Bool Unit)).bind fun (x7 : (Fl Bool Unit)) => Fl.next x7 (fun (j9 : Unit) => ((law24xworks).bind fun (x30 : Bool) => some x30)))
theorem w_law24xHistoryPrefixes {p0l : (List ApiEvent)} {res : Bool} (h : law24xHistoryPrefixes p0l = some res) : ACalls Tryd.prog 6 [.c (PV.ls 24 rowApiEvent p0l)] [] (.c (.bool res)) [] := by
 unfold law24xHistoryPrefixes at h
 refine acalls (fn := Tryd.f6) [0, 2, 3, 11, 14, 15, 16, 22, 35] (by kernel_rfl) Tryd.func6 rfl (by kernel_rfl) (by kernel_rfl) <| w_sr <| sB rfl <| o_ek (fr' := [(0, aL)]) rfl rfl <| w_seqw <| w_sr <| mL rfl <| o_p rfl (p_len ti44 (isl_c rfl)) <| o_p rfl (p_gtr rfl rfl) <| mB rfl <| og rfl rfl rfl (fun hc => (p_move (v := aL) rfl)) ?_
 obtain ⟨x1, hx1, h2⟩ := bind_s h
 refine o_g rfl rfl (fun hc => ov_call (v := aI) rfl (w_history_Check (gd_some hx1 hc)) ⟨(le_gv (gx rfl hc) lr), trivial⟩ (ok_eq (by repeat (first | exact ok_nil | refine ok_cons rfl ?_ | refine ok_cons (dgv rfl) ?_ | refine ok_cons dar ?_))) rfl rfl) ?_
 refine og rfl rfl rfl (fun hc => (p_neq (gx rfl hc) rfl)) <| o_p rfl (p_pickz rfl rfl rfl (fun e => keq e)) <| o_ek (fr' := [(0, aL), (11, aB)]) rfl rfl <| w_ch h2 rfl (fun hb3 h3 => ?_) (fun hb3 h3 => ?_)
 ·
  refine w_seqw <| w_region ?_
  obtain ⟨x4, hx4, h5⟩ := bind_s h3
  refine o_v (ov_call (v := aB) rfl (w_law24xworks hx4) trivial rfl rfl rfl) <| sB rfl <| o_ek (fr' := [(2, aB)]) rfl rfl <| w_ret <| e_seq_r ?_
  obtain rfl := sy h5
  exact e_ret (rs' := [.tmp 2]) rfl <| r_tmp (v := aB) rfl <| r_nil <| fin_gen [] rfl rfl rfl lr st_nil
 ·
  refine w_skip <| e_kw <| w_seqw <| w_sr <| mL rfl <| o_p rfl (p_len ti44 (isl_c rfl)) <| mI rfl <| o_ek (fr' := [(0, aL), (14, aI), (15, aI)]) rfl rfl ?_
  obtain ⟨x7, hx7, h8⟩ := bind_s h3
  refine w_jtail cl_kw (fun j9 => x7 = Fl.go j9) (fun (j9 : Unit) => ([] : Fr)) (fun (j9 : Unit) => ([] : St)) ?_ ?_
  ·
   refine w_block <| w_loopo _ (fun (s10 : Int) => ([(0, .c (PV.ls 24 rowApiEvent p0l)), (14, .c (.int .i64 ((p0l).length : Int))), (15, .c (.int .i64 s10))] : Fr)) (fun (s10 : Int) => ([] : St)) hx7 (w_weak [] 0 rfl rfl rfl rfl ⟨lr, lr, lr, trivial⟩ st_nil) ?_
   intro s10 st10 hs10 ho10
   unfold law24xHistoryPrefixes_l1 at hs10
   refine w_sr <| o_p rfl (p_lss rfl rfl) <| o_ek (fr' := [(0, aL), (14, aI), (15, aI), (16, aB)]) rfl rfl <| w_seqw <| w_ch hs10 rfl (fun hb11 h11 => ?_) (fun hb11 h11 => ?_)
   ·
    refine w_skip <| e_kw <| w_seqw <| w_block <| w_sr <| mI rfl <| sI rfl <| o_ek (fr' := [(0, aL), (3, aI), (14, aI), (15, aI)]) rfl rfl <| w_seqw <| w_sr <| mL rfl ?_
    refine mI rfl ?_
    obtain ⟨x12, hx12, h13⟩ := bind_s h11
    refine o_p rfl (p_sl_h tn44 ts44 (isl_c rfl) rfl (slcH_some hx12).1) ?_
    obtain ⟨x14, hx14, h15⟩ := bind_s h13
    refine o_v (ov_call (v := aI) rfl (w_history_Check hx14) ⟨lr, trivial⟩ rfl rfl rfl) <| o_p rfl (p_neq rfl rfl) <| o_ek (fr' := [(0, aL), (3, aI), (14, aI), (15, aI), (22, aB)]) rfl rfl <| w_ch h15 rfl (fun hb16 h16 => ?_) (fun hb16 h16 => ?_)
    ·
     refine w_sr <| sB rfl <| o_ek (fr' := [(2, aB)]) rfl rfl <| w_ret <| e_seq_r <| e_blk_r <| e_seq_r <| e_seq_r <| e_blk_r <| e_seq_r <| e_seq_r ?_
     have h17 := un_out h16 ho10
     have h18 := un_done h17 h8
     obtain rfl := sy h18
     exact e_ret (rs' := [.tmp 2]) rfl <| r_tmp (v := aB) rfl <| r_nil <| fin_gen [] rfl rfl rfl lr st_nil
    ·
     refine w_skip <| e_kw <| w_sr <| mL rfl <| mI rfl ?_
     obtain ⟨x20, hx20, h21⟩ := bind_s h16
     refine o_p rfl (p_ia (cs := [PV.int _ _, PV.int _ _, PV.int _ _, PV.int _ _, PV.int _ _, PV.int _ _, PV.int _ _, PV.str _, PV.str _, PV.int _ _, PV.int _ _, PV.str _, PV.ls _ _ _, PV.ls _ _ _, PV.str _, PV.int _ _, PV.int _ _, PV.int _ _, PV.int _ _, PV.int _ _, PV.int _ _, PV.int _ _, PV.int _ _, PV.ls _ _ _]) ts44 (isl_c rfl) rfl hx20 rfl) <| o_p rfl (p_fae tf31x1 rfl) <| o_p rfl (p_loade (p := PV.int _ _) tv3 rfl rfl) ?_
     obtain ⟨x22, hx22, h23⟩ := bind_s h21
     refine o_v (ov_call (v := aB) rfl (w_ref22xCloses hx22) ⟨lr, trivial⟩ rfl rfl rfl) <| mB rfl <| og rfl rfl rfl (fun hc => (p_move (v := aI) rfl)) <| og rfl rfl rfl (fun hc => (p_move (v := aL) rfl)) <| og rfl rfl rfl (fun hc => (p_len ti44 (isl_c (gx rfl hc)))) <| og rfl rfl rfl (fun hc => (p_sub (gx rfl hc) rfl)) <| og rfl rfl rfl (fun hc => (p_lss (gx rfl hc) (gx rfl hc))) <| o_p rfl (p_picky rfl rfl rfl (fun e => keq e)) <| o_ek (fr' := [(0, aL), (14, aI), (15, aI), (35, aB)]) rfl rfl <| w_ch h23 rfl (fun hb24 h24 => ?_) (fun hb24 h24 => ?_)
     ·
      refine w_sr <| sB rfl <| o_ek (fr' := [(2, aB)]) rfl rfl <| w_ret <| e_blk_r <| e_seq_r <| e_seq_r <| e_blk_r <| e_seq_r <| e_seq_r ?_
      have h25 := un_out h24 ho10
      have h26 := un_done h25 h8
      obtain rfl := sy h26
      exact e_ret (rs' := [.tmp 2]) rfl <| r_tmp (v := aB) rfl <| r_nil <| fin_gen [] rfl rfl rfl lr st_nil
     ·
      exact w_skip <| e_blk_n <| e_kw <| w_region <| o_p rfl (p_add rfl rfl) <| mI rfl <| o_end (fr' := [(0, aL), (14, aI), (15, aI), (35, aB)]) rfl <| e_l _ (sy h24) (w_weak [] 0 rfl rfl rfl rfl ⟨lr, lr, lr, trivial⟩ st_nil)
   ·
    refine w_exit <| e_seq_x <| e_seq_x <| e_blk_h ?_
    have h28 := un_out h11 ho10
    exact e_j _ (sy h28) (w_weak [] 0 rfl rfl rfl rfl trivial st_nil)
  ·
   intro j9 hj29
   have h29 := un_go hj29 h8
   refine e_kw <| w_seqw <| w_region ?_
   obtain ⟨x30, hx30, h31⟩ := bind_s h29
   refine o_v (ov_call (v := aB) rfl (w_law24xworks hx30) trivial rfl rfl rfl) <| sB rfl <| o_ek (fr' := [(2, aB)]) rfl rfl <| w_ret ?_
   obtain rfl := sy h31
   exact e_ret (rs' := [.tmp 2]) rfl <| r_tmp (v := aB) rfl <| r_nil <| fin_gen [] rfl rfl rfl lr st_nil
end Go.Proofs.YtngcjjhbimanlaaDoor

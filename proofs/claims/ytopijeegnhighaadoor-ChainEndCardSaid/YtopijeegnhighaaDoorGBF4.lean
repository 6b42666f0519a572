import Derived.Test.YtopijeegnhighaaDoorGBTy
import Derived.Test.YtopijeegnhighaaDoorGBF0
import Derived.Test.YtopijeegnhighaaDoorGBF1
import Derived.Test.YtopijeegnhighaaDoorGBF2
namespace Go.Proofs.YtopijeegnhighaaDoor
open Go Abs
set_option maxRecDepth 100000
set_option linter.unusedVariables false
set_option linter.unusedSimpArgs false
noncomputable def law44xChainEnd_l2 (p0l : (List ApiRun)) (s10 : ((List ApiRun) × Int)) (x12 : ApiRun) (s19 : Int) : Option (Step Int (Fl (Step ((List ApiRun) × Int) (Fl Bool (List ApiRun))) Unit)) :=
 cond (decide (s19 < (((List.take (Int.toNat s10.2) p0l)).length : Int))) ((idx (List.take (Int.toNat s10.2) p0l) s19).bind fun (x21 : ApiRun) => cond (cond (decide (x21.Workflow = x12.Workflow)) (decide (x21.ID = x12.ID)) false) ((law44xworks).bind fun (x24 : Bool) => some (Step.out (Fl.done (Step.out (Fl.done x24))))) (some (Step.next (IntKind.wrap .i64 (s19 + (1 : Int)))))) (some (Step.out (Fl.go ())))
noncomputable def law44xChainEnd_l1 (p0l : (List ApiRun)) (s10 : ((List ApiRun) × Int)) : Option (Step ((List ApiRun) × Int) (Fl Bool (List ApiRun))) :=
 cond (decide (s10.2 < ((p0l).length : Int))) ((idx p0l s10.2).bind fun (x12 : ApiRun) => (slcH p0l s10.2).bind fun (x14 : (List ApiRun)) => ((loopO (law44xChainEnd_l2 p0l s10 x12) ((0 : Int))) : Option (Fl (Step ((List ApiRun) × Int) (Fl Bool (List ApiRun))) Unit)).bind fun (x16 : (Fl (Step ((List ApiRun) × Int) (Fl Bool (List ApiRun))) Unit)) => Fl.next x16 (fun (j18 : Unit) => (cond (decide (x12.Workflow = ([119] : List UInt8))) ((app 544 s10.1 ([x12] : List ApiRun)).bind fun (x34 : (List ApiRun)) => some (Step.next (x34, (IntKind.wrap .i64 (s10.2 + (1 : Int)))))) (some (Step.next (s10.1, (IntKind.wrap .i64 (s10.2 + (1 : Int))))))))) (some (Step.out (Fl.go s10.1)))
noncomputable def law44xChainEnd (p0l : (List ApiRun)) (p1id : (List UInt8)) : Option Bool :=
 (law44xlarge p0l).bind fun (x1 : Bool) => cond x1 ((law44xworks).bind fun (x4 : Bool) => some x4) (((loopO (law44xChainEnd_l1 p0l) ((([] : (List ApiRun)), (0 : Int)))) : Option (Fl Bool (List ApiRun))).bind fun (x7 : (Fl Bool (List ApiRun))) => Fl.next x7 (fun (j9 : (List ApiRun)) => ((chain_Follow p0l ([119] : List UInt8) p1id).bind fun (x38 : ((List UInt8) × Int × Bool)) => (chain_Follow j9 ([119] : List UInt8) p1id).bind fun (x40 : ((List UInt8) × Int × Bool)) => cond (cond (cond (!decide (x38.1 = x40.1)) true (!decide (x38.2.1 = x40.2.1))) true (!(x38.2.2 == x40.2.2))) (some false) (cond (!x38.2.2) ((law44xworks).bind fun (x45 : Bool) => some x45) ((ref06xNumber x38.1).bind fun (x48 : (Int × Bool)) => cond (!x48.2) ((law44xworks).bind fun (x51 : Bool) => some x51) ((chain_Follow p0l ([119] : List UInt8) x38.1).bind fun (x54 : ((List UInt8) × Int × Bool)) => (gd ((cond (cond x54.2.2 (decide (x54.1 = x38.1)) false) (decide (x54.2.1 = x38.2.1)) false) == true) (law44xworks)).bind fun (x56 : Bool) => some (cond (cond (cond x54.2.2 (decide (x54.1 = x38.1)) false) (decide (x54.2.1 = x38.2.1)) false) x56 false)))))))
theorem w_law44xChainEnd {p0l : (List ApiRun)} {p1id : (List UInt8)} {res : Bool} (h : law44xChainEnd p0l p1id = some res) : ACalls Tryd.prog 12 [.c (PV.ls 34 rowApiRun p0l), .c (.str p1id)] [] (.c (.bool res)) [] := by
 unfold law44xChainEnd at h
 refine acalls (fn := Tryd.f12) [0, 1, 4, 5, 6, 7, 9, 10, 11, 12, 13, 14, 15, 17, 18, 19, 20, 22, 24, 25, 26, 27, 33, 34, 35, 36, 50, 55, 87, 89, 97] (by kernel_rfl) Tryd.func12 rfl (by kernel_rfl) (by kernel_rfl) <| w_sr <| sB rfl <| o_ek (fr' := [(0, aL), (1, aS)]) rfl rfl <| w_seqw <| w_sr <| mL rfl ?_
 obtain ⟨x1, hx1, h2⟩ := bind_s h
 refine o_v (ov_call (v := aB) rfl (w_law44xlarge hx1) ⟨lr, trivial⟩ rfl rfl rfl) <| o_ek (fr' := [(0, aL), (1, aS), (22, aB)]) rfl rfl <| w_ch h2 rfl (fun hb3 h3 => ?_) (fun hb3 h3 => ?_)
 ·
  refine w_seqw <| w_region ?_
  obtain ⟨x4, hx4, h5⟩ := bind_s h3
  refine o_v (ov_call (v := aB) rfl (w_law44xworks hx4) trivial rfl rfl rfl) <| sB rfl <| o_ek (fr' := [(4, aB)]) rfl rfl <| w_ret <| e_seq_r ?_
  obtain rfl := sy h5
  exact e_ret (rs' := [.tmp 4]) rfl <| r_tmp (v := aB) rfl <| r_nil <| fin_gen [] rfl rfl rfl lr st_nil
 ·
  refine w_skip <| e_kw <| w_sr <| sV (v := AV.nil) rfl <| o_ek (fr' := [(0, aL), (1, aS), (5, AV.nil)]) rfl rfl <| w_seqw <| w_sr <| mL rfl <| o_p rfl (p_len ti62 (isl_c rfl)) <| mI rfl <| o_ek (fr' := [(0, aL), (1, aS), (5, AV.nil), (24, aL), (25, aI), (26, aI)]) rfl rfl ?_
  obtain ⟨x7, hx7, h8⟩ := bind_s h3
  refine w_jtail cl_kw (fun j9 => x7 = Fl.go j9) (fun (j9 : (List ApiRun)) => ([(0, .c (PV.ls 34 rowApiRun p0l)), (1, .c (.str p1id)), (5, AV.os 0 34 rowApiRun j9)] : Fr)) (fun (j9 : (List ApiRun)) => ([] : St)) ?_ ?_
  ·
   refine w_block <| w_loopo _ (fun (s10 : ((List ApiRun) × Int)) => ([(0, .c (PV.ls 34 rowApiRun p0l)), (1, .c (.str p1id)), (5, AV.os 0 34 rowApiRun s10.1), (24, .c (PV.ls 34 rowApiRun p0l)), (25, .c (.int .i64 ((p0l).length : Int))), (26, .c (.int .i64 s10.2))] : Fr)) (fun (s10 : ((List ApiRun) × Int)) => ([] : St)) hx7 (w_weak [1000000] 0 rfl rfl rfl rfl ⟨lr, lr, (le_nos rfl), lr, lr, lr, trivial⟩ st_nil) ?_
   intro s10 st10 hs10 ho10
   unfold law44xChainEnd_l1 at hs10
   refine w_sr <| o_p rfl (p_lss rfl rfl) <| o_ek (fr' := [(0, aL), (1, aS), (5, aO), (24, aL), (25, aI), (26, aI), (27, aB)]) rfl rfl <| w_seqw <| w_ch hs10 rfl (fun hb11 h11 => ?_) (fun hb11 h11 => ?_)
   ·
    refine w_skip <| e_kw <| w_seqw <| w_block <| w_sr <| mI rfl ?_
    obtain ⟨x12, hx12, h13⟩ := bind_s h11
    refine o_p rfl (p_ia (cs := [PV.str _, PV.str _, PV.str _, PV.int _ _, PV.ls _ _ _, PV.int _ _, PV.int _ _, PV.int _ _, PV.int _ _, PV.int _ _, PV.int _ _, PV.str _, PV.int _ _, PV.int _ _, PV.str _, PV.ls _ _ _, PV.ls _ _ _, PV.int _ _, PV.int _ _, PV.str _, PV.ls _ _ _, PV.ls _ _ _, PV.bool _, PV.ls _ _ _, PV.ls _ _ _, PV.ls _ _ _, PV.ls _ _ _, PV.ls _ _ _, PV.ls _ _ _, PV.ls _ _ _, PV.ls _ _ _, PV.ls _ _ _, PV.int _ _, PV.int _ _]) ts62 (isl_c rfl) rfl hx12 rfl) <| o_p rfl (p_loades (us := [PV.str _, PV.str _, PV.str _, PV.int _ _, PV.ls _ _ _, PV.int _ _, PV.int _ _, PV.int _ _, PV.int _ _, PV.int _ _, PV.int _ _, PV.str _, PV.int _ _, PV.int _ _, PV.str _, PV.ls _ _ _, PV.ls _ _ _, PV.int _ _, PV.int _ _, PV.str _, PV.ls _ _ _, PV.ls _ _ _, PV.bool _, PV.ls _ _ _, PV.ls _ _ _, PV.ls _ _ _, PV.ls _ _ _, PV.ls _ _ _, PV.ls _ _ _, PV.ls _ _ _, PV.ls _ _ _, PV.ls _ _ _, PV.int _ _, PV.int _ _]) tv37 rfl rfl rfl) <| o_alloc (n := 0) (cs := [aS, aS, aS, aI, AV.nil, aI, aI, aI, aI, aI, aI, aS, aI, aI, aS, AV.nil, AV.nil, aI, aI, aS, AV.nil, AV.nil, aB, AV.nil, AV.nil, AV.nil, AV.nil, AV.nil, AV.nil, AV.nil, AV.nil, AV.nil, aI, aI]) (σ' := [[aS, aS, aS, aI, AV.nil, aI, aI, aI, aI, aI, aI, aS, aI, aI, aS, AV.nil, AV.nil, aI, aI, aS, AV.nil, AV.nil, aB, AV.nil, AV.nil, AV.nil, AV.nil, AV.nil, AV.nil, AV.nil, AV.nil, AV.nil, aI, aI]]) tz37 rfl rfl rfl <| sI rfl <| o_store (v := .agg aSSSILIIIIIISIISLLIISLLBLLLLLLLLLII) (us := aSSSILIIIIIISIISLLIISLLBLLLLLLLLLII) (cs := [aS, aS, aS, aI, AV.nil, aI, aI, aI, aI, aI, aI, aS, aI, aI, aS, AV.nil, AV.nil, aI, aI, aS, AV.nil, AV.nil, aB, AV.nil, AV.nil, AV.nil, AV.nil, AV.nil, AV.nil, AV.nil, AV.nil, AV.nil, aI, aI]) (σ' := [aSSSILIIIIIISIISLLIISLLBLLLLLLLLLII]) rfl tv37 rfl rfl rfl rfl rfl rfl rfl rfl <| o_ek (fr' := [(0, aL), (1, aS), (5, aO), (6, aI), (7, .box 0 0), (24, aL), (25, aI), (26, aI)]) rfl rfl <| w_seqw <| w_sr <| mL rfl <| mI rfl ?_
    obtain ⟨x14, hx14, h15⟩ := bind_s h13
    refine o_p rfl (p_sl_h tn62 ts62 (isl_c rfl) rfl (slcH_some hx14).1) <| o_p rfl (p_len ti62 (isl_c rfl)) <| mI rfl <| o_ek (fr' := [(0, aL), (1, aS), (5, aO), (7, .box 0 0), (24, aL), (25, aI), (26, aI), (33, aL), (34, aI), (35, aI)]) rfl rfl ?_
    obtain ⟨x16, hx16, h17⟩ := bind_s h15
    refine w_jtail cl_kw (fun j18 => x16 = Fl.go j18) (fun (j18 : Unit) => ([(0, .c (PV.ls 34 rowApiRun p0l)), (1, .c (.str p1id)), (5, AV.os 0 34 rowApiRun s10.1), (7, .box 0 0), (24, .c (PV.ls 34 rowApiRun p0l)), (25, .c (.int .i64 ((p0l).length : Int))), (26, .c (.int .i64 s10.2))] : Fr)) (fun (j18 : Unit) => ([[.c (.str x12.Workflow), .c (.str x12.ID), .c (.str x12.Parent), .c (.int .i64 x12.ParentSeq), .c (PV.ls 24 rowApiEvent x12.History), .c (.int .i64 x12.Pending.Next), .c (.int .i64 x12.Pending.Status), .c (.int .i64 x12.Pending.Task), .c (.int .i64 x12.Pending.TaskID), .c (.int .i64 x12.Pending.Attempt), .c (.int .i64 x12.Pending.Seq), .c (.str x12.Pending.Name), .c (.int .i64 x12.Pending.Input.Kind), .c (.int .i64 x12.Pending.Input.Int), .c (.str x12.Pending.Input.Text), .c (PV.ls 5 rowApiValue x12.Pending.Input.Items), .c (PV.ls 1 rowS x12.Pending.Input.Keys), .c (.int .i64 x12.Pending.Attrs.Kind), .c (.int .i64 x12.Pending.Attrs.Int), .c (.str x12.Pending.Attrs.Text), .c (PV.ls 5 rowApiValue x12.Pending.Attrs.Items), .c (PV.ls 1 rowS x12.Pending.Attrs.Keys), .c (.bool x12.Pending.Cancel), .c (PV.ls 32 rowApiAct x12.Pending.Acts), .c (PV.ls 3 rowApiTimer x12.Pending.Timers), .c (PV.ls 6 rowApiKid x12.Pending.Kids), .c (PV.ls 4 rowApiSend x12.Pending.Sends), .c (PV.ls 2 rowApiUpd x12.Pending.Updates), .c (PV.ls 1 rowS x12.Pending.Requests), .c (PV.ls 24 rowApiEvent x12.Buffer), .c (PV.ls 7 rowApiAdmit x12.Admits), .c (PV.ls 9 rowApiTask x12.Tasks), .c (.int .i64 x12.NextTask), .c (.int .i64 x12.Version)]] : St)) ?_ ?_
    ·
     refine w_block <| w_loopo _ (fun (s19 : Int) => ([(0, .c (PV.ls 34 rowApiRun p0l)), (1, .c (.str p1id)), (5, AV.os 0 34 rowApiRun s10.1), (7, .box 0 0), (24, .c (PV.ls 34 rowApiRun p0l)), (25, .c (.int .i64 ((p0l).length : Int))), (26, .c (.int .i64 s10.2)), (33, .c (PV.ls 34 rowApiRun (List.take (Int.toNat s10.2) p0l))), (34, .c (.int .i64 (((List.take (Int.toNat s10.2) p0l)).length : Int))), (35, .c (.int .i64 s19))] : Fr)) (fun (s19 : Int) => ([[.c (.str x12.Workflow), .c (.str x12.ID), .c (.str x12.Parent), .c (.int .i64 x12.ParentSeq), .c (PV.ls 24 rowApiEvent x12.History), .c (.int .i64 x12.Pending.Next), .c (.int .i64 x12.Pending.Status), .c (.int .i64 x12.Pending.Task), .c (.int .i64 x12.Pending.TaskID), .c (.int .i64 x12.Pending.Attempt), .c (.int .i64 x12.Pending.Seq), .c (.str x12.Pending.Name), .c (.int .i64 x12.Pending.Input.Kind), .c (.int .i64 x12.Pending.Input.Int), .c (.str x12.Pending.Input.Text), .c (PV.ls 5 rowApiValue x12.Pending.Input.Items), .c (PV.ls 1 rowS x12.Pending.Input.Keys), .c (.int .i64 x12.Pending.Attrs.Kind), .c (.int .i64 x12.Pending.Attrs.Int), .c (.str x12.Pending.Attrs.Text), .c (PV.ls 5 rowApiValue x12.Pending.Attrs.Items), .c (PV.ls 1 rowS x12.Pending.Attrs.Keys), .c (.bool x12.Pending.Cancel), .c (PV.ls 32 rowApiAct x12.Pending.Acts), .c (PV.ls 3 rowApiTimer x12.Pending.Timers), .c (PV.ls 6 rowApiKid x12.Pending.Kids), .c (PV.ls 4 rowApiSend x12.Pending.Sends), .c (PV.ls 2 rowApiUpd x12.Pending.Updates), .c (PV.ls 1 rowS x12.Pending.Requests), .c (PV.ls 24 rowApiEvent x12.Buffer), .c (PV.ls 7 rowApiAdmit x12.Admits), .c (PV.ls 9 rowApiTask x12.Tasks), .c (.int .i64 x12.NextTask), .c (.int .i64 x12.Version)]] : St)) hx16 (w_weak [0] 1 rfl rfl rfl rfl ⟨lr, lr, lr, lr, lr, lr, lr, lr, lr, lr, trivial⟩ (st_r rfl st_nil)) ?_
     intro s19 st19 hs19 ho19
     unfold law44xChainEnd_l2 at hs19
     refine w_sr <| o_p rfl (p_lss rfl rfl) <| o_ek (fr' := [(0, aL), (1, aS), (5, aO), (7, .box 0 0), (24, aL), (25, aI), (26, aI), (33, aL), (34, aI), (35, aI), (36, aB)]) rfl rfl <| w_seqw <| w_ch hs19 rfl (fun hb20 h20 => ?_) (fun hb20 h20 => ?_)
     ·
      refine w_skip <| e_kw <| w_seqw <| w_block <| w_seqw <| w_region ?_
      obtain ⟨x21, hx21, h22⟩ := bind_s h20
      refine o_p rfl (p_ia (cs := [PV.str _, PV.str _, PV.str _, PV.int _ _, PV.ls _ _ _, PV.int _ _, PV.int _ _, PV.int _ _, PV.int _ _, PV.int _ _, PV.int _ _, PV.str _, PV.int _ _, PV.int _ _, PV.str _, PV.ls _ _ _, PV.ls _ _ _, PV.int _ _, PV.int _ _, PV.str _, PV.ls _ _ _, PV.ls _ _ _, PV.bool _, PV.ls _ _ _, PV.ls _ _ _, PV.ls _ _ _, PV.ls _ _ _, PV.ls _ _ _, PV.ls _ _ _, PV.ls _ _ _, PV.ls _ _ _, PV.ls _ _ _, PV.int _ _, PV.int _ _]) ts62 (isl_c rfl) rfl hx21 rfl) <| o_p rfl (p_loades (us := [PV.str _, PV.str _, PV.str _, PV.int _ _, PV.ls _ _ _, PV.int _ _, PV.int _ _, PV.int _ _, PV.int _ _, PV.int _ _, PV.int _ _, PV.str _, PV.int _ _, PV.int _ _, PV.str _, PV.ls _ _ _, PV.ls _ _ _, PV.int _ _, PV.int _ _, PV.str _, PV.ls _ _ _, PV.ls _ _ _, PV.bool _, PV.ls _ _ _, PV.ls _ _ _, PV.ls _ _ _, PV.ls _ _ _, PV.ls _ _ _, PV.ls _ _ _, PV.ls _ _ _, PV.ls _ _ _, PV.ls _ _ _, PV.int _ _, PV.int _ _]) tv37 rfl rfl rfl) <| o_alloc (n := 1) (cs := [aS, aS, aS, aI, AV.nil, aI, aI, aI, aI, aI, aI, aS, aI, aI, aS, AV.nil, AV.nil, aI, aI, aS, AV.nil, AV.nil, aB, AV.nil, AV.nil, AV.nil, AV.nil, AV.nil, AV.nil, AV.nil, AV.nil, AV.nil, aI, aI]) (σ' := [aSSSILIIIIIISIISLLIISLLBLLLLLLLLLII, [aS, aS, aS, aI, AV.nil, aI, aI, aI, aI, aI, aI, aS, aI, aI, aS, AV.nil, AV.nil, aI, aI, aS, AV.nil, AV.nil, aB, AV.nil, AV.nil, AV.nil, AV.nil, AV.nil, AV.nil, AV.nil, AV.nil, AV.nil, aI, aI]]) tz37 rfl rfl rfl <| o_store (v := .agg aSSSILIIIIIISIISLLIISLLBLLLLLLLLLII) (us := aSSSILIIIIIISIISLLIISLLBLLLLLLLLLII) (cs := [aS, aS, aS, aI, AV.nil, aI, aI, aI, aI, aI, aI, aS, aI, aI, aS, AV.nil, AV.nil, aI, aI, aS, AV.nil, AV.nil, aB, AV.nil, AV.nil, AV.nil, AV.nil, AV.nil, AV.nil, AV.nil, AV.nil, AV.nil, aI, aI]) (σ' := [aSSSILIIIIIISIISLLIISLLBLLLLLLLLLII, aSSSILIIIIIISIISLLIISLLBLLLLLLLLLII]) rfl tv37 rfl rfl rfl rfl rfl rfl rfl rfl <| o_ek (fr' := [(0, aL), (1, aS), (5, aO), (7, .box 0 0), (9, .box 1 0), (24, aL), (25, aI), (26, aI), (33, aL), (34, aI), (35, aI)]) rfl rfl <| w_sr <| o_p rfl (p_fa tf37x0 rfl) <| o_p rfl (p_load (v := aS) tv9 rfl rfl rfl) <| o_p rfl (p_fa tf37x0 rfl) <| o_p rfl (p_load (v := aS) tv9 rfl rfl rfl) <| o_p rfl (p_seql rfl rfl) <| mB rfl ?_
      refine og rfl rfl rfl (fun hc => (p_fa tf37x1 rfl)) <| og rfl rfl rfl (fun hc => (p_load (v := aS) tv9 (gx rfl hc) rfl rfl)) <| og rfl rfl rfl (fun hc => (p_fa tf37x1 rfl)) <| og rfl rfl rfl (fun hc => (p_load (v := aS) tv9 (gx rfl hc) rfl rfl)) <| og rfl rfl rfl (fun hc => (p_seql (gx rfl hc) (gx rfl hc))) <| o_p rfl (p_picky rfl rfl rfl (fun e => keq e)) <| o_ek (fr' := [(0, aL), (1, aS), (5, aO), (7, .box 0 0), (24, aL), (25, aI), (26, aI), (33, aL), (34, aI), (35, aI), (50, aB)]) rfl rfl <| w_ch h22 rfl (fun hb23 h23 => ?_) (fun hb23 h23 => ?_)
      ·
       refine w_seqw <| w_region ?_
       obtain ⟨x24, hx24, h25⟩ := bind_s h23
       refine o_v (ov_call (v := aB) rfl (w_law44xworks hx24) trivial rfl rfl rfl) <| sB rfl <| o_ek (fr' := [(4, aB)]) rfl rfl <| w_ret <| e_blk_r <| e_seq_r <| e_seq_r <| e_blk_r <| e_seq_r <| e_seq_r <| e_blk_r <| e_seq_r <| e_seq_r ?_
       refine e_blk_r <| e_seq_r <| e_seq_r ?_
       have h26 := un_out h25 ho19
       have h27 := un_done h26 h17
       have h28 := un_out h27 ho10
       have h29 := un_done h28 h8
       obtain rfl := sy h29
       exact e_ret (rs' := [.tmp 4]) rfl <| r_tmp (v := aB) rfl <| r_nil <| fin_gen [] rfl rfl rfl lr st_nil
      ·
       exact w_skip <| e_blk_n <| e_kw <| w_region <| o_p rfl (p_add rfl rfl) <| mI rfl <| o_end (fr' := [(0, aL), (1, aS), (5, aO), (7, .box 0 0), (24, aL), (25, aI), (26, aI), (33, aL), (34, aI), (35, aI), (50, aB)]) rfl <| e_l _ (sy h23) (w_weak [0] 1 rfl rfl rfl rfl ⟨lr, lr, lr, lr, lr, lr, lr, lr, lr, lr, trivial⟩ (st_r rfl st_nil))
     ·
      refine w_exit <| e_seq_x <| e_seq_x <| e_blk_h ?_
      have h31 := un_out h20 ho19
      exact e_j _ (sy h31) (w_weak [0] 1 rfl rfl rfl rfl ⟨lr, lr, lr, lr, lr, lr, lr, trivial⟩ (st_r rfl st_nil))
    ·
     intro j18 hj32
     have h32 := un_go hj32 h17
     refine e_kw <| w_sr <| o_p rfl (p_fa tf37x0 rfl) <| o_p rfl (p_load (v := aS) tv9 rfl rfl rfl) <| o_p rfl (p_seql rfl rfl) <| o_ek (fr' := [(0, aL), (1, aS), (5, aO), (7, .box 0 0), (24, aL), (25, aI), (26, aI), (55, aB)]) rfl rfl <| w_ch h32 rfl (fun hb33 h33 => ?_) (fun hb33 h33 => ?_)
     ·
      refine w_region <| mV (v := aO) rfl <| o_p rfl (p_loads (us := aSSSILIIIIIISIISLLIISLLBLLLLLLLLLII) tv37 rfl rfl rfl rfl) <| o_rows (row := rowApiRun) (xs := ([x12] : List ApiRun)) (rows := [[_, _, _, _, _, _, _, _, _, _, _, _, _, _, _, _, _, _, _, _, _, _, _, _, _, _, _, _, _, _, _, _, _, _]]) (σ' := [aSSSILIIIIIISIISLLIISLLBLLLLLLLLLII]) [0, 0, 0, 0, 24, 0, 0, 0, 0, 0, 0, 0, 0, 0, 0, 5, 1, 0, 0, 0, 5, 1, 0, 32, 3, 6, 4, 2, 1, 24, 7, 9, 0, 0] ts62 rfl rfl rfl (arow_cons rfl arow_nil) rfl rfl ?_
      obtain ⟨x34, hx34, h35⟩ := bind_s h33
      exact o_app (row := rowApiRun) ts62 rfl ti62 rfl (isl_o rfl) (fun _ => rfl) hx34 <| sV (v := aO) rfl <| o_end (fr' := [(0, aL), (1, aS), (5, aO), (7, .box 0 0), (24, aL), (25, aI), (26, aI), (55, aB)]) rfl <| e_blk_n <| e_kw <| w_region <| o_p rfl (p_add rfl rfl) <| mI rfl <| o_end (fr' := [(0, aL), (1, aS), (5, aO), (7, .box 0 0), (24, aL), (25, aI), (26, aI), (55, aB)]) rfl <| e_l _ (sy h35) (w_weak [944] 0 rfl rfl rfl rfl ⟨lr, lr, lr, lr, lr, lr, trivial⟩ st_nil)
     ·
      exact w_skip <| e_blk_n <| e_kw <| w_region <| o_p rfl (p_add rfl rfl) <| mI rfl <| o_end (fr' := [(0, aL), (1, aS), (5, aO), (7, .box 0 0), (24, aL), (25, aI), (26, aI), (55, aB)]) rfl <| e_l _ (sy h33) (w_weak [0] 0 rfl rfl rfl rfl ⟨lr, lr, lr, lr, lr, lr, trivial⟩ st_nil)
   ·
    refine w_exit <| e_seq_x <| e_seq_x <| e_blk_h ?_
    have h36 := un_out h11 ho10
    exact e_j _ (sy h36) (w_weak [0] 0 rfl rfl rfl rfl ⟨lr, lr, lr, trivial⟩ st_nil)
  ·
   intro j9 hj37
   have h37 := un_go hj37 h8
   refine e_kw <| w_sr <| mL rfl <| mS rfl ?_
   obtain ⟨x38, hx38, h39⟩ := bind_s h37
   refine o_v (ov_call (v := .tup [aS, aI, aB]) rfl (w_chain_Follow hx38) ⟨lr, lr, lr, trivial⟩ rfl rfl rfl) <| mV (v := .tup [aS, aI, aB]) rfl <| o_p rfl (p_ex (v := aS) rfl rfl) <| o_p rfl (p_ex (v := aI) rfl rfl) <| o_p rfl (p_ex (v := aB) rfl rfl) <| sS rfl <| sI rfl <| sB rfl <| o_ek (fr' := [(0, aL), (1, aS), (5, aO), (10, aS), (11, aI), (12, aB)]) rfl rfl <| w_sr <| mV (v := aO) rfl <| mS rfl ?_
   obtain ⟨x40, hx40, h41⟩ := bind_s h39
   refine o_v (ov_call (v := .tup [aS, aI, aB]) rfl (w_chain_Follow hx40) ⟨lr, lr, lr, trivial⟩ rfl rfl rfl) <| mV (v := .tup [aS, aI, aB]) rfl <| o_p rfl (p_ex (v := aS) rfl rfl) <| o_p rfl (p_ex (v := aI) rfl rfl) <| o_p rfl (p_ex (v := aB) rfl rfl) <| sS rfl <| sI rfl <| sB rfl <| o_ek (fr' := [(0, aL), (10, aS), (11, aI), (12, aB), (13, aS), (14, aI), (15, aB)]) rfl rfl <| w_seqw <| w_sr <| mS rfl ?_
   refine mS rfl <| o_p rfl (p_sneq rfl rfl) <| mB rfl <| og rfl rfl rfl (fun hc => (p_move (v := aI) rfl)) <| og rfl rfl rfl (fun hc => (p_move (v := aI) rfl)) <| og rfl rfl rfl (fun hc => (p_neq (gx rfl hc) (gx rfl hc))) <| o_p rfl (p_pickz rfl rfl rfl (fun e => keq e)) <| mB rfl <| og rfl rfl rfl (fun hc => (p_move (v := aB) rfl)) <| og rfl rfl rfl (fun hc => (p_move (v := aB) rfl)) <| og rfl rfl rfl (fun hc => (p_bneq ti4 (gx rfl hc) (gx rfl hc))) <| o_p rfl (p_pickz rfl rfl rfl (fun e => keq e)) <| o_ek (fr' := [(0, aL), (10, aS), (11, aI), (12, aB), (87, aB)]) rfl rfl ?_
   refine w_ch h41 rfl (fun hb42 h42 => ?_) (fun hb42 h42 => ?_)
   ·
    refine w_sr <| sB rfl <| o_ek (fr' := [(4, aB)]) rfl rfl <| w_ret <| e_seq_r ?_
    obtain rfl := sy h42
    exact e_ret (rs' := [.tmp 4]) rfl <| r_tmp (v := aB) rfl <| r_nil <| fin_gen [] rfl rfl rfl lr st_nil
   ·
    refine w_skip <| e_kw <| w_seqw <| w_sr <| mB rfl <| o_p rfl (p_not rfl) <| o_ek (fr' := [(0, aL), (10, aS), (11, aI), (89, aB)]) rfl rfl <| w_ch h42 rfl (fun hb44 h44 => ?_) (fun hb44 h44 => ?_)
    ·
     refine w_seqw <| w_region ?_
     obtain ⟨x45, hx45, h46⟩ := bind_s h44
     refine o_v (ov_call (v := aB) rfl (w_law44xworks hx45) trivial rfl rfl rfl) <| sB rfl <| o_ek (fr' := [(4, aB)]) rfl rfl <| w_ret <| e_seq_r ?_
     obtain rfl := sy h46
     exact e_ret (rs' := [.tmp 4]) rfl <| r_tmp (v := aB) rfl <| r_nil <| fin_gen [] rfl rfl rfl lr st_nil
    ·
     refine w_skip <| e_kw <| w_seqw <| w_sr <| mS rfl ?_
     obtain ⟨x48, hx48, h49⟩ := bind_s h44
     refine o_v (ov_call (v := .tup [aI, aB]) rfl (w_ref06xNumber hx48) ⟨lr, trivial⟩ rfl rfl rfl) <| mV (v := .tup [aI, aB]) rfl <| o_p rfl (p_ex (v := aI) rfl rfl) <| o_p rfl (p_ex (v := aB) rfl rfl) <| sI rfl <| sB rfl <| o_ek (fr' := [(0, aL), (10, aS), (11, aI), (17, aB)]) rfl rfl <| w_sr <| mB rfl <| o_p rfl (p_not rfl) <| o_ek (fr' := [(0, aL), (10, aS), (11, aI), (97, aB)]) rfl rfl <| w_ch h49 rfl (fun hb50 h50 => ?_) (fun hb50 h50 => ?_)
     ·
      refine w_seqw <| w_region ?_
      obtain ⟨x51, hx51, h52⟩ := bind_s h50
      refine o_v (ov_call (v := aB) rfl (w_law44xworks hx51) trivial rfl rfl rfl) <| sB rfl <| o_ek (fr' := [(4, aB)]) rfl rfl <| w_ret <| e_seq_r ?_
      obtain rfl := sy h52
      exact e_ret (rs' := [.tmp 4]) rfl <| r_tmp (v := aB) rfl <| r_nil <| fin_gen [] rfl rfl rfl lr st_nil
     ·
      refine w_skip <| e_kw <| w_sr <| mL rfl <| mS rfl ?_
      obtain ⟨x54, hx54, h55⟩ := bind_s h50
      refine o_v (ov_call (v := .tup [aS, aI, aB]) rfl (w_chain_Follow hx54) ⟨lr, lr, lr, trivial⟩ rfl rfl rfl) <| mV (v := .tup [aS, aI, aB]) rfl <| o_p rfl (p_ex (v := aS) rfl rfl) <| o_p rfl (p_ex (v := aI) rfl rfl) <| o_p rfl (p_ex (v := aB) rfl rfl) <| sS rfl <| sI rfl <| sB rfl <| o_ek (fr' := [(10, aS), (11, aI), (18, aS), (19, aI), (20, aB)]) rfl rfl <| w_sr <| mB rfl <| mB rfl ?_
      refine og rfl rfl rfl (fun hc => (p_move (v := aS) rfl)) <| og rfl rfl rfl (fun hc => (p_move (v := aS) rfl)) <| og rfl rfl rfl (fun hc => (p_seql (gx rfl hc) (gx rfl hc))) <| o_p rfl (p_picky rfl rfl rfl (fun e => keq e)) <| mB rfl <| og rfl rfl rfl (fun hc => (p_move (v := aI) rfl)) <| og rfl rfl rfl (fun hc => (p_move (v := aI) rfl)) <| og rfl rfl rfl (fun hc => (p_eql (gx rfl hc) (gx rfl hc))) <| o_p rfl (p_picky rfl rfl rfl (fun e => keq e)) <| mB rfl ?_
      obtain ⟨x56, hx56, h57⟩ := bind_s h55
      refine o_g rfl rfl (fun hc => ov_call (v := aB) rfl (w_law44xworks (gd_some hx56 hc)) trivial (ok_eq (by repeat (first | exact ok_nil | refine ok_cons rfl ?_ | refine ok_cons (dgv rfl) ?_))) rfl rfl) ?_
      refine o_p rfl (p_picky rfl rfl rfl (fun e => keq e)) <| sB rfl <| o_ek (fr' := [(4, aB)]) rfl rfl <| w_ret ?_
      obtain rfl := sy h57
      exact e_ret (rs' := [.tmp 4]) rfl <| r_tmp (v := aB) rfl <| r_nil <| fin_gen [] rfl rfl rfl lr st_nil
end Go.Proofs.YtopijeegnhighaaDoor

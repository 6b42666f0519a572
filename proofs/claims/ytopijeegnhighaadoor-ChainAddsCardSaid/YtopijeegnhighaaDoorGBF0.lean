import Derived.Test.YtopijeegnhighaaDoorGBTy
namespace Go.Proofs.YtopijeegnhighaaDoor
open Go Abs
set_option maxRecDepth 100000
set_option linter.unusedVariables false
set_option linter.unusedSimpArgs false
noncomputable def ref02xSize_l1 (rec_ref02xSize : ApiValue → Option Int) (p0v : ApiValue) (s4 : (Int × Int)) : Option (Step (Int × Int) Int) :=
 cond (decide (s4.2 < ((p0v.Items).length : Int))) ((idx p0v.Items s4.2).bind fun (x6 : ApiValue) => (rec_ref02xSize x6).bind fun (x8 : Int) => some (Step.next ((IntKind.wrap .i64 (s4.1 + x8)), (IntKind.wrap .i64 (s4.2 + (1 : Int)))))) (some (Step.out s4.1))
noncomputable def ref02xSizeF : Nat → ApiValue → Option Int
 | 0, _ => none
 | n + 1, p0v =>
  ((loopO (ref02xSize_l1 (ref02xSizeF n) p0v) (((1 : Int), (0 : Int)))) : Option Int).bind fun (x1 : Int) => (some x1)
theorem wF_ref02xSize : ∀ n : Nat, (∀ {p0v : ApiValue} {res : Int}, ref02xSizeF n p0v = some res → ACalls Tryd.prog 66 [.agg (AV.cs (exApiValue p0v))] [] (.c (.int .i64 res)) []) := by
 intro n
 induction n with
 | zero => exact fun {p0v res} h => absurd h (by simp [ref02xSizeF])
 | succ n ih =>
  have ih_ref02xSize := @ih
  intro p0v res h
  rw [ref02xSizeF] at h
  refine acalls (fn := Tryd.f66) [0, 1, 2, 3, 4, 9] (by kernel_rfl) Tryd.func66 rfl (by kernel_rfl) (by kernel_rfl) <| w_sr <| o_box (v := .agg aIISLL) (n := 0) (cs := aIISLL) (σ' := [aIISLL]) rfl rfl rfl rfl rfl <| sI rfl <| o_ek (fr' := [(1, .box 0 0)]) rfl rfl <| w_sr <| sI rfl <| o_ek (fr' := [(1, .box 0 0), (3, aI)]) rfl rfl <| w_seqw <| w_seqw <| w_region ?_
  refine sI rfl <| o_ek (fr' := [(1, .box 0 0), (3, aI), (4, aI)]) rfl rfl ?_
  obtain ⟨x1, hx1, h2⟩ := bind_s h
  refine w_jtail cl_kw (fun j3 => x1 = j3) (fun (j3 : Int) => ([(3, .c (.int .i64 j3))] : Fr)) (fun (j3 : Int) => ([[.c (.int .i64 p0v.Kind), .c (.int .i64 p0v.Int), .c (.str p0v.Text), .c (PV.ls 5 rowApiValue p0v.Items), .c (PV.ls 1 rowS p0v.Keys)]] : St)) ?_ ?_
  ·
   refine w_block <| w_loopo _ (fun (s4 : (Int × Int)) => ([(1, .box 0 0), (3, .c (.int .i64 s4.1)), (4, .c (.int .i64 s4.2))] : Fr)) (fun (s4 : (Int × Int)) => ([[.c (.int .i64 p0v.Kind), .c (.int .i64 p0v.Int), .c (.str p0v.Text), .c (PV.ls 5 rowApiValue p0v.Items), .c (PV.ls 1 rowS p0v.Keys)]] : St)) hx1 (w_weak [] 1 rfl rfl rfl rfl ⟨lr, lr, lr, trivial⟩ (st_r rfl st_nil)) ?_
   intro s4 st4 hs4 ho4
   unfold ref02xSize_l1 at hs4
   refine w_seqw <| w_sr <| mI rfl <| o_p rfl (p_fa tf26x3 rfl) <| o_p rfl (p_load (v := aL) tv23 rfl rfl rfl) <| o_p rfl (p_len ti23 (isl_c rfl)) <| o_p rfl (p_lss rfl rfl) <| o_ek (fr' := [(1, .box 0 0), (3, aI), (4, aI), (9, aB)]) rfl rfl <| w_ch hs4 rfl (fun hb5 h5 => ?_) (fun hb5 h5 => ?_)
   ·
    refine w_skip <| e_kw <| w_seqw <| w_block <| w_region <| mI rfl <| o_p rfl (p_fa tf26x3 rfl) <| o_p rfl (p_load (v := aL) tv23 rfl rfl rfl) <| mI rfl ?_
    obtain ⟨x6, hx6, h7⟩ := bind_s h5
    refine o_p rfl (p_ia (cs := [PV.int _ _, PV.int _ _, PV.str _, PV.ls _ _ _, PV.ls _ _ _]) ts23 (isl_c rfl) rfl hx6 (rowApiValue_eq _)) <| o_p rfl (p_loades (us := [PV.int _ _, PV.int _ _, PV.str _, PV.ls _ _ _, PV.ls _ _ _]) tv26 rfl rfl rfl) ?_
    obtain ⟨x8, hx8, h9⟩ := bind_s h7
    exact o_v (ov_call (v := aI) rfl (ih_ref02xSize hx8) ⟨(le_aggc rfl ⟨rfl, rfl, rfl, rfl, rfl, trivial⟩), trivial⟩ rfl rfl rfl) <| o_p rfl (p_add rfl rfl) <| sI rfl <| o_end (fr' := [(1, .box 0 0), (3, aI), (4, aI), (9, aB)]) rfl <| e_blk_n <| e_kw <| w_region <| mI rfl <| o_p rfl (p_add rfl rfl) <| sI rfl <| o_end (fr' := [(1, .box 0 0), (3, aI), (4, aI), (9, aB)]) rfl <| e_l _ (sy h9) (w_weak [] 1 rfl rfl rfl rfl ⟨lr, lr, lr, trivial⟩ (st_r rfl st_nil))
   ·
    refine w_exit <| e_seq_x <| e_seq_x <| e_blk_h ?_
    have h10 := un_out h5 ho4
    exact e_j _ (sy h10) (w_weak [] 1 rfl rfl rfl rfl ⟨lr, trivial⟩ (st_r rfl st_nil))
  ·
   intro j3 hj11
   subst hj11
   refine e_kw <| w_sr <| mI rfl <| sI rfl <| o_ek (fr' := [(2, aI)]) rfl rfl <| w_ret ?_
   obtain rfl := sy h2
   exact e_ret (rs' := [.tmp 2]) rfl <| r_tmp (v := aI) rfl <| r_nil <| fin_gen [] rfl rfl rfl lr st_nil
noncomputable def ref02xSize (p0v : ApiValue) : Option Int := lim fun n => ref02xSizeF n p0v
theorem w_ref02xSize {p0v : ApiValue} {res : Int} (h : ref02xSize p0v = some res) : ACalls Tryd.prog 66 [.agg (AV.cs (exApiValue p0v))] [] (.c (.int .i64 res)) [] := by
 obtain ⟨n, hn⟩ := lim_some h
 exact (wF_ref02xSize n) hn
noncomputable def law44xlarge_l2 (x8 : ApiRun) (s17 : Int) : Option (Step Int (Fl (Step Int (Fl Bool Unit)) Unit)) :=
 cond (decide (s17 < ((x8.History).length : Int))) ((idx x8.History s17).bind fun (x19 : ApiEvent) => (ref02xSize x19.Data).bind fun (x21 : Int) => cond (decide ((100 : Int) < x21)) (some (Step.out (Fl.done (Step.out (Fl.done true))))) (some (Step.next (IntKind.wrap .i64 (s17 + (1 : Int)))))) (some (Step.out (Fl.go ())))
noncomputable def law44xlarge_l1 (p0l : (List ApiRun)) (s6 : Int) : Option (Step Int (Fl Bool Unit)) :=
 cond (decide (s6 < ((p0l).length : Int))) ((idx p0l s6).bind fun (x8 : ApiRun) => cond (decide ((30 : Int) < ((x8.History).length : Int))) (some (Step.out (Fl.done true))) (((loopO (law44xlarge_l2 x8) ((0 : Int))) : Option (Fl (Step Int (Fl Bool Unit)) Unit)).bind fun (x14 : (Fl (Step Int (Fl Bool Unit)) Unit)) => Fl.next x14 (fun (j16 : Unit) => (some (Step.next (IntKind.wrap .i64 (s6 + (1 : Int)))))))) (some (Step.out (Fl.go ())))
noncomputable def law44xlarge (p0l : (List ApiRun)) : Option Bool :=
 cond (decide ((30 : Int) < ((p0l).length : Int))) (some true) (((loopO (law44xlarge_l1 p0l) ((0 : Int))) : Option (Fl Bool Unit)).bind fun (x3 : (Fl Bool Unit)) => Fl.next x3 (fun (j5 : Unit) => (some false)))
theorem w_law44xlarge {p0l : (List ApiRun)} {res : Bool} (h : law44xlarge p0l = some res) : ACalls Tryd.prog 30 [.c (PV.ls 34 rowApiRun p0l)] [] (.c (.bool res)) [] := by
 unfold law44xlarge at h
 refine acalls (fn := Tryd.f30) [0, 2, 4, 6, 9, 10, 11, 12, 13, 19, 21, 22, 23, 24, 30] (by kernel_rfl) Tryd.func30 rfl (by kernel_rfl) (by kernel_rfl) <| w_sr <| sB rfl <| o_ek (fr' := [(0, aL)]) rfl rfl <| w_seqw <| w_sr <| mL rfl <| o_p rfl (p_len ti62 (isl_c rfl)) <| o_p rfl (p_gtr rfl rfl) <| o_ek (fr' := [(0, aL), (9, aB)]) rfl rfl <| w_ch h rfl (fun hb1 h1 => ?_) (fun hb1 h1 => ?_)
 ·
  refine w_sr <| sB rfl <| o_ek (fr' := [(2, aB)]) rfl rfl <| w_ret <| e_seq_r ?_
  obtain rfl := sy h1
  exact e_ret (rs' := [.tmp 2]) rfl <| r_tmp (v := aB) rfl <| r_nil <| fin_gen [] rfl rfl rfl lr st_nil
 ·
  refine w_skip <| e_kw <| w_seqw <| w_sr <| mL rfl <| o_p rfl (p_len ti62 (isl_c rfl)) <| mI rfl <| o_ek (fr' := [(10, aL), (11, aI), (12, aI)]) rfl rfl ?_
  obtain ⟨x3, hx3, h4⟩ := bind_s h1
  refine w_jtail cl_kw (fun j5 => x3 = Fl.go j5) (fun (j5 : Unit) => ([] : Fr)) (fun (j5 : Unit) => ([] : St)) ?_ ?_
  ·
   refine w_block <| w_loopo _ (fun (s6 : Int) => ([(10, .c (PV.ls 34 rowApiRun p0l)), (11, .c (.int .i64 ((p0l).length : Int))), (12, .c (.int .i64 s6))] : Fr)) (fun (s6 : Int) => ([] : St)) hx3 (w_weak [] 0 rfl rfl rfl rfl ⟨lr, lr, lr, trivial⟩ st_nil) ?_
   intro s6 st6 hs6 ho6
   unfold law44xlarge_l1 at hs6
   refine w_sr <| o_p rfl (p_lss rfl rfl) <| o_ek (fr' := [(10, aL), (11, aI), (12, aI), (13, aB)]) rfl rfl <| w_seqw <| w_ch hs6 rfl (fun hb7 h7 => ?_) (fun hb7 h7 => ?_)
   ·
    refine w_skip <| e_kw <| w_seqw <| w_block <| w_seqw <| w_region ?_
    obtain ⟨x8, hx8, h9⟩ := bind_s h7
    refine o_p rfl (p_ia (cs := [PV.str _, PV.str _, PV.str _, PV.int _ _, PV.ls _ _ _, PV.int _ _, PV.int _ _, PV.int _ _, PV.int _ _, PV.int _ _, PV.int _ _, PV.str _, PV.int _ _, PV.int _ _, PV.str _, PV.ls _ _ _, PV.ls _ _ _, PV.int _ _, PV.int _ _, PV.str _, PV.ls _ _ _, PV.ls _ _ _, PV.bool _, PV.ls _ _ _, PV.ls _ _ _, PV.ls _ _ _, PV.ls _ _ _, PV.ls _ _ _, PV.ls _ _ _, PV.ls _ _ _, PV.ls _ _ _, PV.ls _ _ _, PV.int _ _, PV.int _ _]) ts62 (isl_c rfl) rfl hx8 rfl) <| o_p rfl (p_loades (us := [PV.str _, PV.str _, PV.str _, PV.int _ _, PV.ls _ _ _, PV.int _ _, PV.int _ _, PV.int _ _, PV.int _ _, PV.int _ _, PV.int _ _, PV.str _, PV.int _ _, PV.int _ _, PV.str _, PV.ls _ _ _, PV.ls _ _ _, PV.int _ _, PV.int _ _, PV.str _, PV.ls _ _ _, PV.ls _ _ _, PV.bool _, PV.ls _ _ _, PV.ls _ _ _, PV.ls _ _ _, PV.ls _ _ _, PV.ls _ _ _, PV.ls _ _ _, PV.ls _ _ _, PV.ls _ _ _, PV.ls _ _ _, PV.int _ _, PV.int _ _]) tv37 rfl rfl rfl) <| o_alloc (n := 0) (cs := [aS, aS, aS, aI, AV.nil, aI, aI, aI, aI, aI, aI, aS, aI, aI, aS, AV.nil, AV.nil, aI, aI, aS, AV.nil, AV.nil, aB, AV.nil, AV.nil, AV.nil, AV.nil, AV.nil, AV.nil, AV.nil, AV.nil, AV.nil, aI, aI]) (σ' := [[aS, aS, aS, aI, AV.nil, aI, aI, aI, aI, aI, aI, aS, aI, aI, aS, AV.nil, AV.nil, aI, aI, aS, AV.nil, AV.nil, aB, AV.nil, AV.nil, AV.nil, AV.nil, AV.nil, AV.nil, AV.nil, AV.nil, AV.nil, aI, aI]]) tz37 rfl rfl rfl <| o_store (v := .agg aSSSILIIIIIISIISLLIISLLBLLLLLLLLLII) (us := aSSSILIIIIIISIISLLIISLLBLLLLLLLLLII) (cs := [aS, aS, aS, aI, AV.nil, aI, aI, aI, aI, aI, aI, aS, aI, aI, aS, AV.nil, AV.nil, aI, aI, aS, AV.nil, AV.nil, aB, AV.nil, AV.nil, AV.nil, AV.nil, AV.nil, AV.nil, AV.nil, AV.nil, AV.nil, aI, aI]) (σ' := [aSSSILIIIIIISIISLLIISLLBLLLLLLLLLII]) rfl tv37 rfl rfl rfl rfl rfl rfl rfl rfl <| o_ek (fr' := [(4, .box 0 0), (10, aL), (11, aI), (12, aI)]) rfl rfl <| w_seqw <| w_sr <| o_p rfl (p_fa tf37x4 rfl) <| o_p rfl (p_load (v := aL) tv22 rfl rfl rfl) <| o_p rfl (p_len ti22 (isl_c rfl)) <| o_p rfl (p_gtr rfl rfl) <| o_ek (fr' := [(4, .box 0 0), (10, aL), (11, aI), (12, aI), (19, aB)]) rfl rfl ?_
    refine w_ch h9 rfl (fun hb10 h10 => ?_) (fun hb10 h10 => ?_)
    ·
     refine w_sr <| sB rfl <| o_ek (fr' := [(2, aB)]) rfl rfl <| w_ret <| e_seq_r <| e_blk_r <| e_seq_r <| e_seq_r <| e_blk_r <| e_seq_r <| e_seq_r ?_
     have h11 := un_out h10 ho6
     have h12 := un_done h11 h4
     obtain rfl := sy h12
     exact e_ret (rs' := [.tmp 2]) rfl <| r_tmp (v := aB) rfl <| r_nil <| fin_gen [] rfl rfl rfl lr st_nil
    ·
     refine w_skip <| e_kw <| w_sr <| o_p rfl (p_fa tf37x4 rfl) <| o_p rfl (p_load (v := aL) tv22 rfl rfl rfl) <| o_p rfl (p_len ti22 (isl_c rfl)) <| mI rfl <| o_ek (fr' := [(10, aL), (11, aI), (12, aI), (21, aL), (22, aI), (23, aI)]) rfl rfl ?_
     obtain ⟨x14, hx14, h15⟩ := bind_s h10
     refine w_jtail (cl_b cl_kw) (fun j16 => x14 = Fl.go j16) (fun (j16 : Unit) => ([(10, .c (PV.ls 34 rowApiRun p0l)), (11, .c (.int .i64 ((p0l).length : Int))), (12, .c (.int .i64 s6))] : Fr)) (fun (j16 : Unit) => ([[.c (.str x8.Workflow), .c (.str x8.ID), .c (.str x8.Parent), .c (.int .i64 x8.ParentSeq), .c (PV.ls 24 rowApiEvent x8.History), .c (.int .i64 x8.Pending.Next), .c (.int .i64 x8.Pending.Status), .c (.int .i64 x8.Pending.Task), .c (.int .i64 x8.Pending.TaskID), .c (.int .i64 x8.Pending.Attempt), .c (.int .i64 x8.Pending.Seq), .c (.str x8.Pending.Name), .c (.int .i64 x8.Pending.Input.Kind), .c (.int .i64 x8.Pending.Input.Int), .c (.str x8.Pending.Input.Text), .c (PV.ls 5 rowApiValue x8.Pending.Input.Items), .c (PV.ls 1 rowS x8.Pending.Input.Keys), .c (.int .i64 x8.Pending.Attrs.Kind), .c (.int .i64 x8.Pending.Attrs.Int), .c (.str x8.Pending.Attrs.Text), .c (PV.ls 5 rowApiValue x8.Pending.Attrs.Items), .c (PV.ls 1 rowS x8.Pending.Attrs.Keys), .c (.bool x8.Pending.Cancel), .c (PV.ls 32 rowApiAct x8.Pending.Acts), .c (PV.ls 3 rowApiTimer x8.Pending.Timers), .c (PV.ls 6 rowApiKid x8.Pending.Kids), .c (PV.ls 4 rowApiSend x8.Pending.Sends), .c (PV.ls 2 rowApiUpd x8.Pending.Updates), .c (PV.ls 1 rowS x8.Pending.Requests), .c (PV.ls 24 rowApiEvent x8.Buffer), .c (PV.ls 7 rowApiAdmit x8.Admits), .c (PV.ls 9 rowApiTask x8.Tasks), .c (.int .i64 x8.NextTask), .c (.int .i64 x8.Version)]] : St)) ?_ ?_
     ·
      refine w_block <| w_loopo _ (fun (s17 : Int) => ([(10, .c (PV.ls 34 rowApiRun p0l)), (11, .c (.int .i64 ((p0l).length : Int))), (12, .c (.int .i64 s6)), (21, .c (PV.ls 24 rowApiEvent x8.History)), (22, .c (.int .i64 ((x8.History).length : Int))), (23, .c (.int .i64 s17))] : Fr)) (fun (s17 : Int) => ([[.c (.str x8.Workflow), .c (.str x8.ID), .c (.str x8.Parent), .c (.int .i64 x8.ParentSeq), .c (PV.ls 24 rowApiEvent x8.History), .c (.int .i64 x8.Pending.Next), .c (.int .i64 x8.Pending.Status), .c (.int .i64 x8.Pending.Task), .c (.int .i64 x8.Pending.TaskID), .c (.int .i64 x8.Pending.Attempt), .c (.int .i64 x8.Pending.Seq), .c (.str x8.Pending.Name), .c (.int .i64 x8.Pending.Input.Kind), .c (.int .i64 x8.Pending.Input.Int), .c (.str x8.Pending.Input.Text), .c (PV.ls 5 rowApiValue x8.Pending.Input.Items), .c (PV.ls 1 rowS x8.Pending.Input.Keys), .c (.int .i64 x8.Pending.Attrs.Kind), .c (.int .i64 x8.Pending.Attrs.Int), .c (.str x8.Pending.Attrs.Text), .c (PV.ls 5 rowApiValue x8.Pending.Attrs.Items), .c (PV.ls 1 rowS x8.Pending.Attrs.Keys), .c (.bool x8.Pending.Cancel), .c (PV.ls 32 rowApiAct x8.Pending.Acts), .c (PV.ls 3 rowApiTimer x8.Pending.Timers), .c (PV.ls 6 rowApiKid x8.Pending.Kids), .c (PV.ls 4 rowApiSend x8.Pending.Sends), .c (PV.ls 2 rowApiUpd x8.Pending.Updates), .c (PV.ls 1 rowS x8.Pending.Requests), .c (PV.ls 24 rowApiEvent x8.Buffer), .c (PV.ls 7 rowApiAdmit x8.Admits), .c (PV.ls 9 rowApiTask x8.Tasks), .c (.int .i64 x8.NextTask), .c (.int .i64 x8.Version)]] : St)) hx14 (w_weak [] 1 rfl rfl rfl rfl ⟨lr, lr, lr, lr, lr, lr, trivial⟩ (st_r rfl st_nil)) ?_
      intro s17 st17 hs17 ho17
      unfold law44xlarge_l2 at hs17
      refine w_sr <| o_p rfl (p_lss rfl rfl) <| o_ek (fr' := [(10, aL), (11, aI), (12, aI), (21, aL), (22, aI), (23, aI), (24, aB)]) rfl rfl <| w_seqw <| w_ch hs17 rfl (fun hb18 h18 => ?_) (fun hb18 h18 => ?_)
      ·
       refine w_skip <| e_kw <| w_seqw <| w_block <| w_seqw <| w_region ?_
       obtain ⟨x19, hx19, h20⟩ := bind_s h18
       refine o_p rfl (p_ia (cs := [PV.int _ _, PV.int _ _, PV.int _ _, PV.int _ _, PV.int _ _, PV.int _ _, PV.int _ _, PV.str _, PV.str _, PV.int _ _, PV.int _ _, PV.str _, PV.ls _ _ _, PV.ls _ _ _, PV.str _, PV.int _ _, PV.int _ _, PV.int _ _, PV.int _ _, PV.int _ _, PV.int _ _, PV.int _ _, PV.int _ _, PV.ls _ _ _]) ts22 (isl_c rfl) rfl hx19 rfl) <| o_p rfl (p_loades (us := [PV.int _ _, PV.int _ _, PV.int _ _, PV.int _ _, PV.int _ _, PV.int _ _, PV.int _ _, PV.str _, PV.str _, PV.int _ _, PV.int _ _, PV.str _, PV.ls _ _ _, PV.ls _ _ _, PV.str _, PV.int _ _, PV.int _ _, PV.int _ _, PV.int _ _, PV.int _ _, PV.int _ _, PV.int _ _, PV.int _ _, PV.ls _ _ _]) tv80 rfl rfl rfl) <| o_alloc (n := 1) (cs := [aI, aI, aI, aI, aI, aI, aI, aS, aS, aI, aI, aS, AV.nil, AV.nil, aS, aI, aI, aI, aI, aI, aI, aI, aI, AV.nil]) (σ' := [aSSSILIIIIIISIISLLIISLLBLLLLLLLLLII, [aI, aI, aI, aI, aI, aI, aI, aS, aS, aI, aI, aS, AV.nil, AV.nil, aS, aI, aI, aI, aI, aI, aI, aI, aI, AV.nil]]) tz80 rfl rfl rfl <| o_store (v := .agg aIIIIIIISSIISLLSIIIIIIIIL) (us := aIIIIIIISSIISLLSIIIIIIIIL) (cs := [aI, aI, aI, aI, aI, aI, aI, aS, aS, aI, aI, aS, AV.nil, AV.nil, aS, aI, aI, aI, aI, aI, aI, aI, aI, AV.nil]) (σ' := [aSSSILIIIIIISIISLLIISLLBLLLLLLLLLII, aIIIIIIISSIISLLSIIIIIIIIL]) rfl tv80 rfl rfl rfl rfl rfl rfl rfl rfl <| o_ek (fr' := [(6, .box 1 0), (10, aL), (11, aI), (12, aI), (21, aL), (22, aI), (23, aI)]) rfl rfl <| w_sr <| o_p rfl (p_fa tf80x9 rfl) <| o_p rfl (p_loads (us := aIISLL) tv26 rfl rfl rfl rfl) ?_
       obtain ⟨x21, hx21, h22⟩ := bind_s h20
       refine o_v (ov_call (v := aI) rfl (w_ref02xSize hx21) ⟨(le_aggc rfl ⟨rfl, rfl, rfl, rfl, rfl, trivial⟩), trivial⟩ rfl rfl rfl) <| o_p rfl (p_gtr rfl rfl) <| o_ek (fr' := [(10, aL), (11, aI), (12, aI), (21, aL), (22, aI), (23, aI), (30, aB)]) rfl rfl <| w_ch h22 rfl (fun hb23 h23 => ?_) (fun hb23 h23 => ?_)
       ·
        refine w_sr <| sB rfl <| o_ek (fr' := [(2, aB)]) rfl rfl <| w_ret <| e_blk_r <| e_seq_r <| e_seq_r <| e_blk_r <| e_seq_r <| e_blk_r <| e_seq_r <| e_seq_r ?_
        refine e_blk_r <| e_seq_r <| e_seq_r ?_
        have h24 := un_out h23 ho17
        have h25 := un_done h24 h15
        have h26 := un_out h25 ho6
        have h27 := un_done h26 h4
        obtain rfl := sy h27
        exact e_ret (rs' := [.tmp 2]) rfl <| r_tmp (v := aB) rfl <| r_nil <| fin_gen [] rfl rfl rfl lr st_nil
       ·
        exact w_skip <| e_blk_n <| e_kw <| w_region <| o_p rfl (p_add rfl rfl) <| mI rfl <| o_end (fr' := [(10, aL), (11, aI), (12, aI), (21, aL), (22, aI), (23, aI), (30, aB)]) rfl <| e_l _ (sy h23) (w_weak [] 1 rfl rfl rfl rfl ⟨lr, lr, lr, lr, lr, lr, trivial⟩ (st_r rfl st_nil))
      ·
       refine w_exit <| e_seq_x <| e_seq_x <| e_blk_h ?_
       have h29 := un_out h18 ho17
       exact e_j _ (sy h29) (w_weak [] 1 rfl rfl rfl rfl ⟨lr, lr, lr, trivial⟩ (st_r rfl st_nil))
     ·
      intro j16 hj30
      have h30 := un_go hj30 h15
      exact e_blk_n <| e_kw <| w_region <| o_p rfl (p_add rfl rfl) <| mI rfl <| o_end (fr' := [(10, aL), (11, aI), (12, aI)]) rfl <| e_l _ (sy h30) (w_weak [] 0 rfl rfl rfl rfl ⟨lr, lr, lr, trivial⟩ st_nil)
   ·
    refine w_exit <| e_seq_x <| e_seq_x <| e_blk_h ?_
    have h31 := un_out h7 ho6
    exact e_j _ (sy h31) (w_weak [] 0 rfl rfl rfl rfl trivial st_nil)
  ·
   intro j5 hj32
   have h32 := un_go hj32 h4
   refine e_kw <| w_sr <| sB rfl <| o_ek (fr' := [(2, aB)]) rfl rfl <| w_ret ?_
   obtain rfl := sy h32
   exact e_ret (rs' := [.tmp 2]) rfl <| r_tmp (v := aB) rfl <| r_nil <| fin_gen [] rfl rfl rfl lr st_nil
noncomputable def ref02xSame_l1 (p0a : ApiValue) (p1b : ApiValue) (s6 : Int) : Option (Step Int (Fl Bool Unit)) :=
 cond (decide (s6 < ((p0a.Keys).length : Int))) ((idx p0a.Keys s6).bind fun (x8 : (List UInt8)) => (idx p1b.Keys s6).bind fun (x10 : (List UInt8)) => cond (!decide (x8 = x10)) (some (Step.out (Fl.done false))) (some (Step.next (IntKind.wrap .i64 (s6 + (1 : Int)))))) (some (Step.out (Fl.go ())))
noncomputable def ref02xSame_l2 (rec_ref02xSame : ApiValue → ApiValue → Option Bool) (p0a : ApiValue) (p1b : ApiValue) (s21 : Int) : Option (Step Int (Fl Bool Unit)) :=
 cond (decide (s21 < ((p0a.Items).length : Int))) ((idx p0a.Items s21).bind fun (x23 : ApiValue) => (idx p1b.Items s21).bind fun (x25 : ApiValue) => (rec_ref02xSame x23 x25).bind fun (x27 : Bool) => cond (!x27) (some (Step.out (Fl.done false))) (some (Step.next (IntKind.wrap .i64 (s21 + (1 : Int)))))) (some (Step.out (Fl.go ())))
noncomputable def ref02xSameF : Nat → ApiValue → ApiValue → Option Bool
 | 0, _, _ => none
 | n + 1, p0a, p1b =>
  cond (cond (cond (cond (cond (!decide (p0a.Kind = p1b.Kind)) true (!decide (p0a.Int = p1b.Int))) true (!decide (p0a.Text = p1b.Text))) true (!decide (((p0a.Items).length : Int) = ((p1b.Items).length : Int)))) true (!decide (((p0a.Keys).length : Int) = ((p1b.Keys).length : Int)))) (some false) (((loopO (ref02xSame_l1 p0a p1b) ((0 : Int))) : Option (Fl Bool Unit)).bind fun (x3 : (Fl Bool Unit)) => Fl.next x3 (fun (j5 : Unit) => (((loopO (ref02xSame_l2 (ref02xSameF n) p0a p1b) ((0 : Int))) : Option (Fl Bool Unit)).bind fun (x18 : (Fl Bool Unit)) => Fl.next x18 (fun (j20 : Unit) => (some true)))))
theorem wF_ref02xSame : ∀ n : Nat, (∀ {p0a : ApiValue} {p1b : ApiValue} {res : Bool}, ref02xSameF n p0a p1b = some res → ACalls Tryd.prog 29 [.agg (AV.cs (exApiValue p0a)), .agg (AV.cs (exApiValue p1b))] [] (.c (.bool res)) []) := by
 intro n
 induction n with
 | zero => exact fun {p0a p1b res} h => absurd h (by simp [ref02xSameF])
 | succ n ih =>
  have ih_ref02xSame := @ih
  intro p0a p1b res h
  rw [ref02xSameF] at h
  refine acalls (fn := Tryd.f29) [0, 1, 2, 3, 4, 5, 6, 43, 48, 61, 66, 80] (by kernel_rfl) Tryd.func29 rfl (by kernel_rfl) (by kernel_rfl) <| w_sr <| o_box (v := .agg aIISLL) (n := 0) (cs := aIISLL) (σ' := [aIISLL]) rfl rfl rfl rfl rfl <| o_box (v := .agg aIISLL) (n := 1) (cs := aIISLL) (σ' := [aIISLL, aIISLL]) rfl rfl rfl rfl rfl <| sB rfl <| o_ek (fr' := [(2, .box 0 0), (3, .box 1 0)]) rfl rfl <| w_seqw <| w_sr <| o_p rfl (p_fa tf26x0 rfl) <| o_p rfl (p_load (v := aI) tv3 rfl rfl rfl) <| o_p rfl (p_fa tf26x0 rfl) ?_
  refine o_p rfl (p_load (v := aI) tv3 rfl rfl rfl) <| o_p rfl (p_neq rfl rfl) <| mB rfl <| og rfl rfl rfl (fun hc => (p_fa tf26x1 rfl)) <| og rfl rfl rfl (fun hc => (p_load (v := aI) tv3 (gx rfl hc) rfl rfl)) <| og rfl rfl rfl (fun hc => (p_fa tf26x1 rfl)) <| og rfl rfl rfl (fun hc => (p_load (v := aI) tv3 (gx rfl hc) rfl rfl)) <| og rfl rfl rfl (fun hc => (p_neq (gx rfl hc) (gx rfl hc))) <| o_p rfl (p_pickz rfl rfl rfl (fun e => keq e)) <| mB rfl <| og rfl rfl rfl (fun hc => (p_fa tf26x2 rfl)) <| og rfl rfl rfl (fun hc => (p_load (v := aS) tv9 (gx rfl hc) rfl rfl)) <| og rfl rfl rfl (fun hc => (p_fa tf26x2 rfl)) ?_
  refine og rfl rfl rfl (fun hc => (p_load (v := aS) tv9 (gx rfl hc) rfl rfl)) <| og rfl rfl rfl (fun hc => (p_sneq (gx rfl hc) (gx rfl hc))) <| o_p rfl (p_pickz rfl rfl rfl (fun e => keq e)) <| mB rfl <| og rfl rfl rfl (fun hc => (p_fa tf26x3 rfl)) <| og rfl rfl rfl (fun hc => (p_load (v := aL) tv23 (gx rfl hc) rfl rfl)) <| og rfl rfl rfl (fun hc => (p_len ti23 (isl_c (gx rfl hc)))) <| og rfl rfl rfl (fun hc => (p_fa tf26x3 rfl)) <| og rfl rfl rfl (fun hc => (p_load (v := aL) tv23 (gx rfl hc) rfl rfl)) <| og rfl rfl rfl (fun hc => (p_len ti23 (isl_c (gx rfl hc)))) <| og rfl rfl rfl (fun hc => (p_neq (gx rfl hc) (gx rfl hc))) <| o_p rfl (p_pickz rfl rfl rfl (fun e => keq e)) <| mB rfl ?_
  refine og rfl rfl rfl (fun hc => (p_fa tf26x4 rfl)) <| og rfl rfl rfl (fun hc => (p_load (v := aL) tv24 (gx rfl hc) rfl rfl)) <| og rfl rfl rfl (fun hc => (p_len ti24 (isl_c (gx rfl hc)))) <| og rfl rfl rfl (fun hc => (p_fa tf26x4 rfl)) <| og rfl rfl rfl (fun hc => (p_load (v := aL) tv24 (gx rfl hc) rfl rfl)) <| og rfl rfl rfl (fun hc => (p_len ti24 (isl_c (gx rfl hc)))) <| og rfl rfl rfl (fun hc => (p_neq (gx rfl hc) (gx rfl hc))) <| o_p rfl (p_pickz rfl rfl rfl (fun e => keq e)) <| o_ek (fr' := [(2, .box 0 0), (3, .box 1 0), (43, aB)]) rfl rfl <| w_ch h rfl (fun hb1 h1 => ?_) (fun hb1 h1 => ?_)
  ·
   refine w_sr <| sB rfl <| o_ek (fr' := [(4, aB)]) rfl rfl <| w_ret <| e_seq_r ?_
   obtain rfl := sy h1
   exact e_ret (rs' := [.tmp 4]) rfl <| r_tmp (v := aB) rfl <| r_nil <| fin_gen [] rfl rfl rfl lr st_nil
  ·
   refine w_skip <| e_kw <| w_seqw <| w_sr <| sI rfl <| o_ek (fr' := [(2, .box 0 0), (3, .box 1 0), (5, aI)]) rfl rfl ?_
   obtain ⟨x3, hx3, h4⟩ := bind_s h1
   refine w_jtail cl_kw (fun j5 => x3 = Fl.go j5) (fun (j5 : Unit) => ([(2, .box 0 0), (3, .box 1 0)] : Fr)) (fun (j5 : Unit) => ([[.c (.int .i64 p0a.Kind), .c (.int .i64 p0a.Int), .c (.str p0a.Text), .c (PV.ls 5 rowApiValue p0a.Items), .c (PV.ls 1 rowS p0a.Keys)], [.c (.int .i64 p1b.Kind), .c (.int .i64 p1b.Int), .c (.str p1b.Text), .c (PV.ls 5 rowApiValue p1b.Items), .c (PV.ls 1 rowS p1b.Keys)]] : St)) ?_ ?_
   ·
    refine w_block <| w_loopo _ (fun (s6 : Int) => ([(2, .box 0 0), (3, .box 1 0), (5, .c (.int .i64 s6))] : Fr)) (fun (s6 : Int) => ([[.c (.int .i64 p0a.Kind), .c (.int .i64 p0a.Int), .c (.str p0a.Text), .c (PV.ls 5 rowApiValue p0a.Items), .c (PV.ls 1 rowS p0a.Keys)], [.c (.int .i64 p1b.Kind), .c (.int .i64 p1b.Int), .c (.str p1b.Text), .c (PV.ls 5 rowApiValue p1b.Items), .c (PV.ls 1 rowS p1b.Keys)]] : St)) hx3 (w_weak [] 2 rfl rfl rfl rfl ⟨lr, lr, lr, trivial⟩ (st_r rfl (st_r rfl st_nil))) ?_
    intro s6 st6 hs6 ho6
    unfold ref02xSame_l1 at hs6
    refine w_seqw <| w_sr <| mI rfl <| o_p rfl (p_fa tf26x4 rfl) <| o_p rfl (p_load (v := aL) tv24 rfl rfl rfl) <| o_p rfl (p_len ti24 (isl_c rfl)) <| o_p rfl (p_lss rfl rfl) <| o_ek (fr' := [(2, .box 0 0), (3, .box 1 0), (5, aI), (48, aB)]) rfl rfl <| w_ch hs6 rfl (fun hb7 h7 => ?_) (fun hb7 h7 => ?_)
    ·
     refine w_skip <| e_kw <| w_seqw <| w_block <| w_seqw <| w_planT [.q 0, .q 1, .q 2, .q 3, .q 4, .q 5, .q 6, .q 7, .q 8, .q 9, .q 10] [(some 51, [2]), (some 52, [51]), (some 53, [5]), (some 54, [52, 53]), (some 55, [54]), (some 56, [3]), (some 57, [56]), (some 58, [5]), (some 59, [57, 58]), (some 60, [59]), (some 61, [55, 60])] [0, 1, 0, 7, 15, 0, 32, 0, 224, 480, 1023] (by kernel_rfl) <| dq rfl rfl (p_fa tf26x4 rfl) <| dq rfl rfl (p_load (v := aL) tv24 rfl rfl rfl) <| dq rfl rfl (p_move (v := aI) rfl) ?_
     obtain ⟨x8, hx8, h9⟩ := bind_s h7
     refine dq rfl rfl (p_ia (cs := [PV.str _]) ts24 (isl_c rfl) rfl hx8 rfl) <| dq rfl rfl (p_loade (p := PV.str _) tv9 rfl rfl) <| dq rfl rfl (p_fa tf26x4 rfl) <| dq rfl rfl (p_load (v := aL) tv24 rfl rfl rfl) <| dq rfl rfl (p_move (v := aI) rfl) ?_
     obtain ⟨x10, hx10, h11⟩ := bind_s h9
     refine dq rfl rfl (p_ia (cs := [PV.str _]) ts24 (isl_c rfl) rfl hx10 rfl) <| dq rfl rfl (p_loade (p := PV.str _) tv9 rfl rfl) <| dq rfl rfl (p_sneq rfl rfl) <| d_ek (fr' := [(2, .box 0 0), (3, .box 1 0), (5, aI), (61, aB)]) rfl rfl <| w_ch h11 rfl (fun hb12 h12 => ?_) (fun hb12 h12 => ?_)
     ·
      refine w_sr <| sB rfl <| o_ek (fr' := [(4, aB)]) rfl rfl <| w_ret <| e_blk_r <| e_seq_r <| e_seq_r <| e_blk_r <| e_seq_r <| e_seq_r ?_
      have h13 := un_out h12 ho6
      have h14 := un_done h13 h4
      obtain rfl := sy h14
      exact e_ret (rs' := [.tmp 4]) rfl <| r_tmp (v := aB) rfl <| r_nil <| fin_gen [] rfl rfl rfl lr st_nil
     ·
      exact w_skip <| e_blk_n <| e_kw <| w_region <| mI rfl <| o_p rfl (p_add rfl rfl) <| sI rfl <| o_end (fr' := [(2, .box 0 0), (3, .box 1 0), (5, aI), (61, aB)]) rfl <| e_l _ (sy h12) (w_weak [] 2 rfl rfl rfl rfl ⟨lr, lr, lr, trivial⟩ (st_r rfl (st_r rfl st_nil)))
    ·
     refine w_exit <| e_seq_x <| e_seq_x <| e_blk_h ?_
     have h16 := un_out h7 ho6
     exact e_j _ (sy h16) (w_weak [] 2 rfl rfl rfl rfl ⟨lr, lr, trivial⟩ (st_r rfl (st_r rfl st_nil)))
   ·
    intro j5 hj17
    have h17 := un_go hj17 h4
    refine e_kw <| w_seqw <| w_sr <| sI rfl <| o_ek (fr' := [(2, .box 0 0), (3, .box 1 0), (6, aI)]) rfl rfl ?_
    obtain ⟨x18, hx18, h19⟩ := bind_s h17
    refine w_jtail cl_kw (fun j20 => x18 = Fl.go j20) (fun (j20 : Unit) => ([] : Fr)) (fun (j20 : Unit) => ([[.c (.int .i64 p0a.Kind), .c (.int .i64 p0a.Int), .c (.str p0a.Text), .c (PV.ls 5 rowApiValue p0a.Items), .c (PV.ls 1 rowS p0a.Keys)], [.c (.int .i64 p1b.Kind), .c (.int .i64 p1b.Int), .c (.str p1b.Text), .c (PV.ls 5 rowApiValue p1b.Items), .c (PV.ls 1 rowS p1b.Keys)]] : St)) ?_ ?_
    ·
     refine w_block <| w_loopo _ (fun (s21 : Int) => ([(2, .box 0 0), (3, .box 1 0), (6, .c (.int .i64 s21))] : Fr)) (fun (s21 : Int) => ([[.c (.int .i64 p0a.Kind), .c (.int .i64 p0a.Int), .c (.str p0a.Text), .c (PV.ls 5 rowApiValue p0a.Items), .c (PV.ls 1 rowS p0a.Keys)], [.c (.int .i64 p1b.Kind), .c (.int .i64 p1b.Int), .c (.str p1b.Text), .c (PV.ls 5 rowApiValue p1b.Items), .c (PV.ls 1 rowS p1b.Keys)]] : St)) hx18 (w_weak [] 2 rfl rfl rfl rfl ⟨lr, lr, lr, trivial⟩ (st_r rfl (st_r rfl st_nil))) ?_
     intro s21 st21 hs21 ho21
     unfold ref02xSame_l2 at hs21
     refine w_seqw <| w_sr <| mI rfl <| o_p rfl (p_fa tf26x3 rfl) <| o_p rfl (p_load (v := aL) tv23 rfl rfl rfl) <| o_p rfl (p_len ti23 (isl_c rfl)) <| o_p rfl (p_lss rfl rfl) <| o_ek (fr' := [(2, .box 0 0), (3, .box 1 0), (6, aI), (66, aB)]) rfl rfl <| w_ch hs21 rfl (fun hb22 h22 => ?_) (fun hb22 h22 => ?_)
     ·
      refine w_skip <| e_kw <| w_seqw <| w_block <| w_seqw <| w_planT [.q 0, .q 1, .q 2, .q 3, .q 4, .q 5, .q 6, .q 7, .q 8, .q 9, .q 10, .q 11] [(some 69, [2]), (some 70, [69]), (some 71, [6]), (some 72, [70, 71]), (some 73, [72]), (some 74, [3]), (some 75, [74]), (some 76, [6]), (some 77, [75, 76]), (some 78, [77]), (some 79, [73, 78]), (some 80, [79])] [0, 1, 0, 7, 15, 0, 32, 0, 224, 480, 1023, 2047] (by kernel_rfl) <| dq rfl rfl (p_fa tf26x3 rfl) <| dq rfl rfl (p_load (v := aL) tv23 rfl rfl rfl) <| dq rfl rfl (p_move (v := aI) rfl) ?_
      obtain ⟨x23, hx23, h24⟩ := bind_s h22
      refine dq rfl rfl (p_ia (cs := [PV.int _ _, PV.int _ _, PV.str _, PV.ls _ _ _, PV.ls _ _ _]) ts23 (isl_c rfl) rfl hx23 (rowApiValue_eq _)) <| dq rfl rfl (p_loades (us := [PV.int _ _, PV.int _ _, PV.str _, PV.ls _ _ _, PV.ls _ _ _]) tv26 rfl rfl rfl) <| dq rfl rfl (p_fa tf26x3 rfl) <| dq rfl rfl (p_load (v := aL) tv23 rfl rfl rfl) <| dq rfl rfl (p_move (v := aI) rfl) ?_
      obtain ⟨x25, hx25, h26⟩ := bind_s h24
      refine dq rfl rfl (p_ia (cs := [PV.int _ _, PV.int _ _, PV.str _, PV.ls _ _ _, PV.ls _ _ _]) ts23 (isl_c rfl) rfl hx25 (rowApiValue_eq _)) <| dq rfl rfl (p_loades (us := [PV.int _ _, PV.int _ _, PV.str _, PV.ls _ _ _, PV.ls _ _ _]) tv26 rfl rfl rfl) ?_
      obtain ⟨x27, hx27, h28⟩ := bind_s h26
      refine d_q rfl (qv_call (v := aB) rfl (ih_ref02xSame hx27) ⟨(le_aggc rfl ⟨rfl, rfl, rfl, rfl, rfl, trivial⟩), (le_aggc rfl ⟨rfl, rfl, rfl, rfl, rfl, trivial⟩), trivial⟩ rfl) <| dq rfl rfl (p_not rfl) <| d_ek (fr' := [(2, .box 0 0), (3, .box 1 0), (6, aI), (80, aB)]) rfl rfl <| w_ch h28 rfl (fun hb29 h29 => ?_) (fun hb29 h29 => ?_)
      ·
       refine w_sr <| sB rfl <| o_ek (fr' := [(4, aB)]) rfl rfl <| w_ret <| e_blk_r <| e_seq_r <| e_seq_r <| e_blk_r <| e_seq_r <| e_seq_r ?_
       have h30 := un_out h29 ho21
       have h31 := un_done h30 h19
       obtain rfl := sy h31
       exact e_ret (rs' := [.tmp 4]) rfl <| r_tmp (v := aB) rfl <| r_nil <| fin_gen [] rfl rfl rfl lr st_nil
      ·
       exact w_skip <| e_blk_n <| e_kw <| w_region <| mI rfl <| o_p rfl (p_add rfl rfl) <| sI rfl <| o_end (fr' := [(2, .box 0 0), (3, .box 1 0), (6, aI), (80, aB)]) rfl <| e_l _ (sy h29) (w_weak [] 2 rfl rfl rfl rfl ⟨lr, lr, lr, trivial⟩ (st_r rfl (st_r rfl st_nil)))
     ·
      refine w_exit <| e_seq_x <| e_seq_x <| e_blk_h ?_
      have h33 := un_out h22 ho21
      exact e_j _ (sy h33) (w_weak [] 2 rfl rfl rfl rfl trivial (st_r rfl (st_r rfl st_nil)))
    ·
     intro j20 hj34
     have h34 := un_go hj34 h19
     refine e_kw <| w_sr <| sB rfl <| o_ek (fr' := [(4, aB)]) rfl rfl <| w_ret ?_
     obtain rfl := sy h34
     exact e_ret (rs' := [.tmp 4]) rfl <| r_tmp (v := aB) rfl <| r_nil <| fin_gen [] rfl rfl rfl lr st_nil
noncomputable def ref02xSame (p0a : ApiValue) (p1b : ApiValue) : Option Bool := lim fun n => ref02xSameF n p0a p1b
theorem w_ref02xSame {p0a : ApiValue} {p1b : ApiValue} {res : Bool} (h : ref02xSame p0a p1b = some res) : ACalls Tryd.prog 29 [.agg (AV.cs (exApiValue p0a)), .agg (AV.cs (exApiValue p1b))] [] (.c (.bool res)) [] := by
 obtain ⟨n, hn⟩ := lim_some h
 exact (wF_ref02xSame n) hn
noncomputable def name_Number (p0run : (List UInt8)) : Option (Int × Bool) :=
 if p0run.length ≤ 140737488355328 then some (numberS p0run) else none
theorem w_name_Number {p0run : (List UInt8)} {res : (Int × Bool)} (h : name_Number p0run = some res) : ACalls Tryd.prog 67 [.c (.str p0run)] [] (.tup [.c (.int .i64 res.1), .c (.bool res.2)]) [] := by
 unfold name_Number at h
 obtain ⟨hl, rfl⟩ := ite_some h
 refine acalls_lib (by kernel_rfl) fun g w vs hv hI hg => ?_
 rw [rc_str hv]
 refine (number_calls hl w hI hg).mono fun e w' => ?_
 rintro ⟨rfl, hb⟩
 exact ⟨_, rfl, hb, fun g' => rav_pair (.c (.int _ _)) (.c (.bool _))⟩
noncomputable def chain_Latest_l1 (p0l : (List ApiRun)) (p1workflow : (List UInt8)) (s4 : (Int × Int × Int)) : Option (Step (Int × Int × Int) Int) :=
 cond (decide (s4.2.2 < ((p0l).length : Int))) ((idx p0l s4.2.2).bind fun (x6 : ApiRun) => (name_Number x6.ID).bind fun (x8 : (Int × Bool)) => cond (cond (cond (decide (x6.Workflow = p1workflow)) x8.2 false) (cond (decide (s4.2.1 < (0 : Int))) true (decide (s4.1 < x8.1))) false) (some (Step.next (x8.1, s4.2.2, (IntKind.wrap .i64 (s4.2.2 + (1 : Int)))))) (some (Step.next (s4.1, s4.2.1, (IntKind.wrap .i64 (s4.2.2 + (1 : Int))))))) (some (Step.out s4.2.1))
noncomputable def chain_Latest (p0l : (List ApiRun)) (p1workflow : (List UInt8)) : Option (Int × Bool) :=
 ((loopO (chain_Latest_l1 p0l p1workflow) (((0 : Int), (-1 : Int), (0 : Int)))) : Option Int).bind fun (x1 : Int) => (cond (decide (x1 < (0 : Int))) (some ((0 : Int), false)) (some (x1, true)))
theorem w_chain_Latest {p0l : (List ApiRun)} {p1workflow : (List UInt8)} {res : (Int × Bool)} (h : chain_Latest p0l p1workflow = some res) : ACalls Tryd.prog 32 [.c (PV.ls 34 rowApiRun p0l), .c (.str p1workflow)] [] (.tup [.c (.int .i64 res.1), .c (.bool res.2)]) [] := by
 unfold chain_Latest at h
 refine acalls (fn := Tryd.f32) [0, 1, 4, 5, 6, 7, 8, 9, 10, 11, 12, 13, 14, 15, 40, 45] (by kernel_rfl) Tryd.func32 rfl (by kernel_rfl) (by kernel_rfl) <| w_sr <| sI rfl <| sB rfl <| o_ek (fr' := [(0, aL), (1, aS)]) rfl rfl <| w_sr <| sI rfl <| sI rfl <| o_ek (fr' := [(0, aL), (1, aS), (6, aI), (7, aI)]) rfl rfl <| w_seqw <| w_seqw ?_
 refine w_region <| mL rfl <| o_p rfl (p_len ti62 (isl_c rfl)) <| mI rfl <| o_ek (fr' := [(1, aS), (6, aI), (7, aI), (12, aL), (13, aI), (14, aI)]) rfl rfl ?_
 obtain ⟨x1, hx1, h2⟩ := bind_s h
 refine w_jtail cl_kw (fun j3 => x1 = j3) (fun (j3 : Int) => ([(7, .c (.int .i64 j3))] : Fr)) (fun (j3 : Int) => ([] : St)) ?_ ?_
 ·
  refine w_block <| w_loopo _ (fun (s4 : (Int × Int × Int)) => ([(1, .c (.str p1workflow)), (6, .c (.int .i64 s4.1)), (7, .c (.int .i64 s4.2.1)), (12, .c (PV.ls 34 rowApiRun p0l)), (13, .c (.int .i64 ((p0l).length : Int))), (14, .c (.int .i64 s4.2.2))] : Fr)) (fun (s4 : (Int × Int × Int)) => ([] : St)) hx1 (w_weak [] 0 rfl rfl rfl rfl ⟨lr, lr, lr, lr, lr, lr, trivial⟩ st_nil) ?_
  intro s4 st4 hs4 ho4
  unfold chain_Latest_l1 at hs4
  refine w_sr <| o_p rfl (p_lss rfl rfl) <| o_ek (fr' := [(1, aS), (6, aI), (7, aI), (12, aL), (13, aI), (14, aI), (15, aB)]) rfl rfl <| w_seqw <| w_ch hs4 rfl (fun hb5 h5 => ?_) (fun hb5 h5 => ?_)
  ·
   refine w_skip <| e_kw <| w_seqw <| w_block <| w_sr <| mI rfl ?_
   obtain ⟨x6, hx6, h7⟩ := bind_s h5
   refine o_p rfl (p_ia (cs := [PV.str _, PV.str _, PV.str _, PV.int _ _, PV.ls _ _ _, PV.int _ _, PV.int _ _, PV.int _ _, PV.int _ _, PV.int _ _, PV.int _ _, PV.str _, PV.int _ _, PV.int _ _, PV.str _, PV.ls _ _ _, PV.ls _ _ _, PV.int _ _, PV.int _ _, PV.str _, PV.ls _ _ _, PV.ls _ _ _, PV.bool _, PV.ls _ _ _, PV.ls _ _ _, PV.ls _ _ _, PV.ls _ _ _, PV.ls _ _ _, PV.ls _ _ _, PV.ls _ _ _, PV.ls _ _ _, PV.ls _ _ _, PV.int _ _, PV.int _ _]) ts62 (isl_c rfl) rfl hx6 rfl) <| o_p rfl (p_loades (us := [PV.str _, PV.str _, PV.str _, PV.int _ _, PV.ls _ _ _, PV.int _ _, PV.int _ _, PV.int _ _, PV.int _ _, PV.int _ _, PV.int _ _, PV.str _, PV.int _ _, PV.int _ _, PV.str _, PV.ls _ _ _, PV.ls _ _ _, PV.int _ _, PV.int _ _, PV.str _, PV.ls _ _ _, PV.ls _ _ _, PV.bool _, PV.ls _ _ _, PV.ls _ _ _, PV.ls _ _ _, PV.ls _ _ _, PV.ls _ _ _, PV.ls _ _ _, PV.ls _ _ _, PV.ls _ _ _, PV.ls _ _ _, PV.int _ _, PV.int _ _]) tv37 rfl rfl rfl) <| o_alloc (n := 0) (cs := [aS, aS, aS, aI, AV.nil, aI, aI, aI, aI, aI, aI, aS, aI, aI, aS, AV.nil, AV.nil, aI, aI, aS, AV.nil, AV.nil, aB, AV.nil, AV.nil, AV.nil, AV.nil, AV.nil, AV.nil, AV.nil, AV.nil, AV.nil, aI, aI]) (σ' := [[aS, aS, aS, aI, AV.nil, aI, aI, aI, aI, aI, aI, aS, aI, aI, aS, AV.nil, AV.nil, aI, aI, aS, AV.nil, AV.nil, aB, AV.nil, AV.nil, AV.nil, AV.nil, AV.nil, AV.nil, AV.nil, AV.nil, AV.nil, aI, aI]]) tz37 rfl rfl rfl <| sI rfl <| o_store (v := .agg aSSSILIIIIIISIISLLIISLLBLLLLLLLLLII) (us := aSSSILIIIIIISIISLLIISLLBLLLLLLLLLII) (cs := [aS, aS, aS, aI, AV.nil, aI, aI, aI, aI, aI, aI, aS, aI, aI, aS, AV.nil, AV.nil, aI, aI, aS, AV.nil, AV.nil, aB, AV.nil, AV.nil, AV.nil, AV.nil, AV.nil, AV.nil, AV.nil, AV.nil, AV.nil, aI, aI]) (σ' := [aSSSILIIIIIISIISLLIISLLBLLLLLLLLLII]) rfl tv37 rfl rfl rfl rfl rfl rfl rfl rfl <| o_ek (fr' := [(1, aS), (6, aI), (7, aI), (8, aI), (9, .box 0 0), (12, aL), (13, aI), (14, aI)]) rfl rfl <| w_sr <| o_p rfl (p_fa tf37x1 rfl) <| o_p rfl (p_load (v := aS) tv9 rfl rfl rfl) ?_
   obtain ⟨x8, hx8, h9⟩ := bind_s h7
   refine o_v (ov_call (v := .tup [aI, aB]) rfl (w_name_Number hx8) ⟨lr, trivial⟩ rfl rfl rfl) <| mV (v := .tup [aI, aB]) rfl <| o_p rfl (p_ex (v := aI) rfl rfl) <| o_p rfl (p_ex (v := aB) rfl rfl) <| sI rfl <| sB rfl <| o_ek (fr' := [(1, aS), (6, aI), (7, aI), (8, aI), (9, .box 0 0), (10, aI), (11, aB), (12, aL), (13, aI), (14, aI)]) rfl rfl <| w_sr <| o_p rfl (p_fa tf37x0 rfl) <| o_p rfl (p_load (v := aS) tv9 rfl rfl rfl) <| mS rfl <| o_p rfl (p_seql rfl rfl) ?_
   refine mB rfl <| og rfl rfl rfl (fun hc => (p_move (v := aB) rfl)) <| o_p rfl (p_picky rfl rfl rfl (fun e => keq e)) <| mB rfl <| og rfl rfl rfl (fun hc => (p_move (v := aI) rfl)) <| og rfl rfl rfl (fun hc => (p_lss (gx rfl hc) rfl)) <| og rfl rfl rfl (fun hc => (p_move (v := aB) (gx rfl hc))) <| o_gg rfl rfl (fun hc => ov_p rfl (p_move (v := aI) rfl)) <| o_gg rfl rfl (fun hc => ov_p rfl (p_move (v := aI) rfl)) <| o_gg rfl rfl (fun hc => ov_p rfl (p_gtr (gx rfl hc) (gx rfl hc))) <| og rfl rfl rfl (fun hc => (p_pickz (gx rfl hc) rfl rfl (fun e => band hc (keq e)))) <| o_p rfl (p_picky rfl rfl rfl (fun e => keq e)) <| o_ek (fr' := [(1, aS), (6, aI), (7, aI), (8, aI), (10, aI), (12, aL), (13, aI), (14, aI), (40, aB)]) rfl rfl ?_
   refine w_ch h9 rfl (fun hb10 h10 => ?_) (fun hb10 h10 => ?_)
   ·
    exact w_region <| mI rfl <| mI rfl <| sI rfl <| sI rfl <| o_end (fr' := [(1, aS), (6, aI), (7, aI), (8, aI), (10, aI), (12, aL), (13, aI), (14, aI), (40, aB)]) rfl <| e_blk_n <| e_kw <| w_region <| o_p rfl (p_add rfl rfl) <| mI rfl <| o_end (fr' := [(1, aS), (6, aI), (7, aI), (8, aI), (10, aI), (12, aL), (13, aI), (14, aI), (40, aB)]) rfl <| e_l _ (sy h10) (w_weak [] 0 rfl rfl rfl rfl ⟨lr, lr, lr, lr, lr, lr, trivial⟩ st_nil)
   ·
    exact w_skip <| e_blk_n <| e_kw <| w_region <| o_p rfl (p_add rfl rfl) <| mI rfl <| o_end (fr' := [(1, aS), (6, aI), (7, aI), (8, aI), (10, aI), (12, aL), (13, aI), (14, aI), (40, aB)]) rfl <| e_l _ (sy h10) (w_weak [] 0 rfl rfl rfl rfl ⟨lr, lr, lr, lr, lr, lr, trivial⟩ st_nil)
  ·
   refine w_exit <| e_seq_x <| e_seq_x <| e_blk_h ?_
   have h11 := un_out h5 ho4
   exact e_j _ (sy h11) (w_weak [] 0 rfl rfl rfl rfl ⟨lr, trivial⟩ st_nil)
 ·
  intro j3 hj12
  subst hj12
  refine e_kw <| w_seqw <| w_sr <| mI rfl <| o_p rfl (p_lss rfl rfl) <| o_ek (fr' := [(7, aI), (45, aB)]) rfl rfl <| w_ch h2 rfl (fun hb13 h13 => ?_) (fun hb13 h13 => ?_)
  ·
   refine w_sr <| sI rfl <| sB rfl <| o_ek (fr' := [(4, aI), (5, aB)]) rfl rfl <| w_ret <| e_seq_r ?_
   obtain rfl := sy h13
   exact e_ret (rs' := [.tmp 4, .tmp 5]) rfl <| r_tmp (v := aI) rfl <| r_tmp (v := aB) rfl <| r_nil <| fin_gen [] rfl rfl rfl (le_tupp rfl ⟨lr, lr, trivial⟩) st_nil
  ·
   refine w_skip <| e_kw <| w_sr <| mI rfl <| sI rfl <| sB rfl <| o_ek (fr' := [(4, aI), (5, aB)]) rfl rfl <| w_ret ?_
   obtain rfl := sy h13
   exact e_ret (rs' := [.tmp 4, .tmp 5]) rfl <| r_tmp (v := aI) rfl <| r_tmp (v := aB) rfl <| r_nil <| fin_gen [] rfl rfl rfl (le_tupp rfl ⟨lr, lr, trivial⟩) st_nil
noncomputable def strconv_Itoa (p0i : Int) : Option (List UInt8) :=
 if -9223372036854775808 ≤ p0i ∧ p0i ≤ 9223372036854775807 then some (Lib.itoa p0i) else none
theorem w_strconv_Itoa {p0i : Int} {res : (List UInt8)} (h : strconv_Itoa p0i = some res) : ACalls Tryd.prog 83 [.c (.int .i64 p0i)] [] (.c (.str res)) [] := by
 unfold strconv_Itoa at h
 obtain ⟨⟨h0, h1⟩, rfl⟩ := ite_some h
 refine acalls_lib (by kernel_rfl) fun g w vs hv hI hg => ?_
 rw [rc_int hv]
 refine (Tryd.strconv_Itoa p0i h0 h1 w (glo_tab hg)).mono fun e w' => ?_
 rintro ⟨he, k, os, rfl⟩
 exact ⟨_, he, Lib.below_grow _ _ (Nat.le_refl _) k os, fun g' => .c (.str _)⟩
noncomputable def name_Run (p0n : Int) : Option (List UInt8) :=
 cond (decide (p0n < (1 : Int))) (some ([] : List UInt8)) ((strconv_Itoa p0n).bind fun (x3 : (List UInt8)) => (cat ([114] : List UInt8) x3).bind fun (x5 : (List UInt8)) => some (([114] : List UInt8) ++ x3))
theorem w_name_Run {p0n : Int} {res : (List UInt8)} (h : name_Run p0n = some res) : ACalls Tryd.prog 69 [.c (.int .i64 p0n)] [] (.c (.str res)) [] := by
 unfold name_Run at h
 refine acalls (fn := Tryd.f69) [0, 2, 4] (by kernel_rfl) Tryd.func69 rfl (by kernel_rfl) (by kernel_rfl) <| w_sr <| sS rfl <| o_ek (fr' := [(0, aI)]) rfl rfl <| w_seqw <| w_sr <| mI rfl <| o_p rfl (p_lss rfl rfl) <| o_ek (fr' := [(0, aI), (4, aB)]) rfl rfl <| w_ch h rfl (fun hb1 h1 => ?_) (fun hb1 h1 => ?_)
 ·
  refine w_sr <| sS rfl <| o_ek (fr' := [(2, aS)]) rfl rfl <| w_ret <| e_seq_r ?_
  obtain rfl := sy h1
  exact e_ret (rs' := [.tmp 2]) rfl <| r_tmp (v := aS) rfl <| r_nil <| fin_gen [] rfl rfl rfl lr st_nil
 ·
  refine w_skip <| e_kw <| w_sr <| mI rfl ?_
  obtain ⟨x3, hx3, h4⟩ := bind_s h1
  refine o_v (ov_call (v := aS) rfl (w_strconv_Itoa hx3) ⟨lr, trivial⟩ rfl rfl rfl) ?_
  obtain ⟨x5, hx5, h6⟩ := bind_s h4
  refine o_p rfl (p_sadd rfl rfl (cat_some hx5).1) <| sS rfl <| o_ek (fr' := [(2, aS)]) rfl rfl <| w_ret ?_
  obtain rfl := sy h6
  exact e_ret (rs' := [.tmp 2]) rfl <| r_tmp (v := aS) rfl <| r_nil <| fin_gen [] rfl rfl rfl lr st_nil
noncomputable def chain_Next (p0l : (List ApiRun)) (p1workflow : (List UInt8)) : Option (List UInt8) :=
 (chain_Latest p0l p1workflow).bind fun (x1 : (Int × Bool)) => cond (!x1.2) ((name_Run (1 : Int)).bind fun (x4 : (List UInt8)) => some x4) ((idx p0l x1.1).bind fun (x7 : ApiRun) => (name_Number x7.ID).bind fun (x9 : (Int × Bool)) => (name_Run (IntKind.wrap .i64 (x9.1 + (1 : Int)))).bind fun (x11 : (List UInt8)) => some x11)
theorem w_chain_Next {p0l : (List ApiRun)} {p1workflow : (List UInt8)} {res : (List UInt8)} (h : chain_Next p0l p1workflow = some res) : ACalls Tryd.prog 36 [.c (PV.ls 34 rowApiRun p0l), .c (.str p1workflow)] [] (.c (.str res)) [] := by
 unfold chain_Next at h
 refine acalls (fn := Tryd.f36) [0, 1, 4, 5, 6, 7, 16] (by kernel_rfl) Tryd.func36 rfl (by kernel_rfl) (by kernel_rfl) <| w_sr <| sS rfl <| o_ek (fr' := [(0, aL), (1, aS)]) rfl rfl <| w_sr <| mL rfl <| mS rfl ?_
 obtain ⟨x1, hx1, h2⟩ := bind_s h
 refine o_v (ov_call (v := .tup [aI, aB]) rfl (w_chain_Latest hx1) ⟨lr, lr, trivial⟩ rfl rfl rfl) <| mV (v := .tup [aI, aB]) rfl <| o_p rfl (p_ex (v := aI) rfl rfl) <| o_p rfl (p_ex (v := aB) rfl rfl) <| sI rfl <| sB rfl <| o_ek (fr' := [(0, aL), (5, aI), (6, aB)]) rfl rfl <| w_seqw <| w_sr <| mB rfl <| o_p rfl (p_not rfl) <| o_ek (fr' := [(0, aL), (5, aI), (16, aB)]) rfl rfl ?_
 refine w_ch h2 rfl (fun hb3 h3 => ?_) (fun hb3 h3 => ?_)
 ·
  refine w_seqw <| w_region ?_
  obtain ⟨x4, hx4, h5⟩ := bind_s h3
  refine o_v (ov_call (v := aS) rfl (w_name_Run hx4) ⟨lr, trivial⟩ rfl rfl rfl) <| sS rfl <| o_ek (fr' := [(4, aS)]) rfl rfl <| w_ret <| e_seq_r ?_
  obtain rfl := sy h5
  exact e_ret (rs' := [.tmp 4]) rfl <| r_tmp (v := aS) rfl <| r_nil <| fin_gen [] rfl rfl rfl lr st_nil
 ·
  refine w_skip <| e_kw <| w_sr <| mL rfl <| mI rfl ?_
  obtain ⟨x7, hx7, h8⟩ := bind_s h3
  refine o_p rfl (p_ia (cs := [PV.str _, PV.str _, PV.str _, PV.int _ _, PV.ls _ _ _, PV.int _ _, PV.int _ _, PV.int _ _, PV.int _ _, PV.int _ _, PV.int _ _, PV.str _, PV.int _ _, PV.int _ _, PV.str _, PV.ls _ _ _, PV.ls _ _ _, PV.int _ _, PV.int _ _, PV.str _, PV.ls _ _ _, PV.ls _ _ _, PV.bool _, PV.ls _ _ _, PV.ls _ _ _, PV.ls _ _ _, PV.ls _ _ _, PV.ls _ _ _, PV.ls _ _ _, PV.ls _ _ _, PV.ls _ _ _, PV.ls _ _ _, PV.int _ _, PV.int _ _]) ts62 (isl_c rfl) rfl hx7 rfl) <| o_p rfl (p_fae tf37x1 rfl) <| o_p rfl (p_loade (p := PV.str _) tv9 rfl rfl) ?_
  obtain ⟨x9, hx9, h10⟩ := bind_s h8
  refine o_v (ov_call (v := .tup [aI, aB]) rfl (w_name_Number hx9) ⟨lr, trivial⟩ rfl rfl rfl) <| mV (v := .tup [aI, aB]) rfl <| o_p rfl (p_ex (v := aI) rfl rfl) <| o_p rfl (p_ex (v := aB) rfl rfl) <| sI rfl <| sB rfl <| o_ek (fr' := [(7, aI)]) rfl rfl <| w_sr <| mI rfl <| o_p rfl (p_add rfl rfl) ?_
  obtain ⟨x11, hx11, h12⟩ := bind_s h10
  refine o_v (ov_call (v := aS) rfl (w_name_Run hx11) ⟨lr, trivial⟩ rfl rfl rfl) <| sS rfl <| o_ek (fr' := [(4, aS)]) rfl rfl <| w_ret ?_
  obtain rfl := sy h12
  exact e_ret (rs' := [.tmp 4]) rfl <| r_tmp (v := aS) rfl <| r_nil <| fin_gen [] rfl rfl rfl lr st_nil
noncomputable def event_Status (p0kind : Int) : Option (Int × Bool) :=
 cond (decide (p0kind = (30 : Int))) (some ((1 : Int), true)) (cond (decide (p0kind = (31 : Int))) (some ((2 : Int), true)) (cond (decide (p0kind = (32 : Int))) (some ((3 : Int), true)) (cond (decide (p0kind = (33 : Int))) (some ((4 : Int), true)) (cond (decide (p0kind = (34 : Int))) (some ((5 : Int), true)) (cond (decide (p0kind = (35 : Int))) (some ((6 : Int), true)) (some ((0 : Int), false)))))))
theorem w_event_Status {p0kind : Int} {res : (Int × Bool)} (h : event_Status p0kind = some res) : ACalls Tryd.prog 77 [.c (.int .i64 p0kind)] [] (.tup [.c (.int .i64 res.1), .c (.bool res.2)]) [] := by
 unfold event_Status at h
 refine acalls (fn := Tryd.f77) [0, 2, 3, 4, 5, 7, 9, 11, 13, 15] (by kernel_rfl) Tryd.func77 rfl (by kernel_rfl) (by kernel_rfl) <| w_sr <| sI rfl <| sB rfl <| o_ek (fr' := [(0, aI)]) rfl rfl <| w_seqw <| w_sr <| mI rfl <| o_ek (fr' := [(4, aI)]) rfl rfl <| w_block <| w_seqw ?_
 refine w_region <| o_p rfl (p_eql rfl rfl) <| sB rfl <| o_ek (fr' := [(4, aI), (5, aB)]) rfl rfl <| w_ch h rfl (fun hb1 h1 => ?_) (fun hb1 h1 => ?_)
 ·
  refine w_sr <| sI rfl <| sB rfl <| o_ek (fr' := [(2, aI), (3, aB)]) rfl rfl <| w_ret <| e_blk_r <| e_seq_r ?_
  obtain rfl := sy h1
  exact e_ret (rs' := [.tmp 2, .tmp 3]) rfl <| r_tmp (v := aI) rfl <| r_tmp (v := aB) rfl <| r_nil <| fin_gen [] rfl rfl rfl (le_tupp rfl ⟨lr, lr, trivial⟩) st_nil
 ·
  refine w_sr <| o_p rfl (p_eql rfl rfl) <| sB rfl <| o_ek (fr' := [(4, aI), (7, aB)]) rfl rfl <| w_ch h1 rfl (fun hb3 h3 => ?_) (fun hb3 h3 => ?_)
  ·
   refine w_sr <| sI rfl <| sB rfl <| o_ek (fr' := [(2, aI), (3, aB)]) rfl rfl <| w_ret <| e_blk_r <| e_seq_r ?_
   obtain rfl := sy h3
   exact e_ret (rs' := [.tmp 2, .tmp 3]) rfl <| r_tmp (v := aI) rfl <| r_tmp (v := aB) rfl <| r_nil <| fin_gen [] rfl rfl rfl (le_tupp rfl ⟨lr, lr, trivial⟩) st_nil
  ·
   refine w_sr <| o_p rfl (p_eql rfl rfl) <| sB rfl <| o_ek (fr' := [(4, aI), (9, aB)]) rfl rfl <| w_ch h3 rfl (fun hb5 h5 => ?_) (fun hb5 h5 => ?_)
   ·
    refine w_sr <| sI rfl <| sB rfl <| o_ek (fr' := [(2, aI), (3, aB)]) rfl rfl <| w_ret <| e_blk_r <| e_seq_r ?_
    obtain rfl := sy h5
    exact e_ret (rs' := [.tmp 2, .tmp 3]) rfl <| r_tmp (v := aI) rfl <| r_tmp (v := aB) rfl <| r_nil <| fin_gen [] rfl rfl rfl (le_tupp rfl ⟨lr, lr, trivial⟩) st_nil
   ·
    refine w_sr <| o_p rfl (p_eql rfl rfl) <| sB rfl <| o_ek (fr' := [(4, aI), (11, aB)]) rfl rfl <| w_ch h5 rfl (fun hb7 h7 => ?_) (fun hb7 h7 => ?_)
    ·
     refine w_sr <| sI rfl <| sB rfl <| o_ek (fr' := [(2, aI), (3, aB)]) rfl rfl <| w_ret <| e_blk_r <| e_seq_r ?_
     obtain rfl := sy h7
     exact e_ret (rs' := [.tmp 2, .tmp 3]) rfl <| r_tmp (v := aI) rfl <| r_tmp (v := aB) rfl <| r_nil <| fin_gen [] rfl rfl rfl (le_tupp rfl ⟨lr, lr, trivial⟩) st_nil
    ·
     refine w_sr <| o_p rfl (p_eql rfl rfl) <| sB rfl <| o_ek (fr' := [(4, aI), (13, aB)]) rfl rfl <| w_ch h7 rfl (fun hb9 h9 => ?_) (fun hb9 h9 => ?_)
     ·
      refine w_sr <| sI rfl <| sB rfl <| o_ek (fr' := [(2, aI), (3, aB)]) rfl rfl <| w_ret <| e_blk_r <| e_seq_r ?_
      obtain rfl := sy h9
      exact e_ret (rs' := [.tmp 2, .tmp 3]) rfl <| r_tmp (v := aI) rfl <| r_tmp (v := aB) rfl <| r_nil <| fin_gen [] rfl rfl rfl (le_tupp rfl ⟨lr, lr, trivial⟩) st_nil
     ·
      refine w_sr <| o_p rfl (p_eql rfl rfl) <| sB rfl <| o_ek (fr' := [(15, aB)]) rfl rfl <| w_ch h9 rfl (fun hb11 h11 => ?_) (fun hb11 h11 => ?_)
      ·
       refine w_sr <| sI rfl <| sB rfl <| o_ek (fr' := [(2, aI), (3, aB)]) rfl rfl <| w_ret <| e_blk_r <| e_seq_r ?_
       obtain rfl := sy h11
       exact e_ret (rs' := [.tmp 2, .tmp 3]) rfl <| r_tmp (v := aI) rfl <| r_tmp (v := aB) rfl <| r_nil <| fin_gen [] rfl rfl rfl (le_tupp rfl ⟨lr, lr, trivial⟩) st_nil
      ·
       refine w_skip <| e_blk_n <| e_kw <| w_sr <| sI rfl <| sB rfl <| o_ek (fr' := [(2, aI), (3, aB)]) rfl rfl <| w_ret ?_
       obtain rfl := sy h11
       exact e_ret (rs' := [.tmp 2, .tmp 3]) rfl <| r_tmp (v := aI) rfl <| r_tmp (v := aB) rfl <| r_nil <| fin_gen [] rfl rfl rfl (le_tupp rfl ⟨lr, lr, trivial⟩) st_nil
noncomputable def history_Status_l1 (p0l : (List ApiEvent)) (s4 : Int) : Option (Step Int (Fl (Int × Int) Unit)) :=
 cond (decide (s4 < ((p0l).length : Int))) ((idx p0l s4).bind fun (x6 : ApiEvent) => (event_Status x6.Kind).bind fun (x8 : (Int × Bool)) => cond x8.2 (some (Step.out (Fl.done (x8.1, s4)))) (some (Step.next (IntKind.wrap .i64 (s4 + (1 : Int)))))) (some (Step.out (Fl.go ())))
noncomputable def history_Status (p0l : (List ApiEvent)) : Option (Int × Int) :=
 ((loopO (history_Status_l1 p0l) ((0 : Int))) : Option (Fl (Int × Int) Unit)).bind fun (x1 : (Fl (Int × Int) Unit)) => Fl.next x1 (fun (j3 : Unit) => (some ((0 : Int), (-1 : Int))))
theorem w_history_Status {p0l : (List ApiEvent)} {res : (Int × Int)} (h : history_Status p0l = some res) : ACalls Tryd.prog 48 [.c (PV.ls 24 rowApiEvent p0l)] [] (.tup [.c (.int .i64 res.1), .c (.int .i64 res.2)]) [] := by
 unfold history_Status at h
 refine acalls (fn := Tryd.f48) [0, 2, 3, 4, 5, 6, 7, 8, 9, 10, 11, 21] (by kernel_rfl) Tryd.func48 rfl (by kernel_rfl) (by kernel_rfl) <| w_sr <| sI rfl <| sI rfl <| o_ek (fr' := [(0, aL)]) rfl rfl <| w_seqw <| w_sr <| mL rfl <| o_p rfl (p_len ti22 (isl_c rfl)) <| mI rfl <| o_ek (fr' := [(8, aL), (9, aI), (10, aI)]) rfl rfl ?_
 obtain ⟨x1, hx1, h2⟩ := bind_s h
 refine w_jtail cl_kw (fun j3 => x1 = Fl.go j3) (fun (j3 : Unit) => ([] : Fr)) (fun (j3 : Unit) => ([] : St)) ?_ ?_
 ·
  refine w_block <| w_loopo _ (fun (s4 : Int) => ([(8, .c (PV.ls 24 rowApiEvent p0l)), (9, .c (.int .i64 ((p0l).length : Int))), (10, .c (.int .i64 s4))] : Fr)) (fun (s4 : Int) => ([] : St)) hx1 (w_weak [] 0 rfl rfl rfl rfl ⟨lr, lr, lr, trivial⟩ st_nil) ?_
  intro s4 st4 hs4 ho4
  unfold history_Status_l1 at hs4
  refine w_sr <| o_p rfl (p_lss rfl rfl) <| o_ek (fr' := [(8, aL), (9, aI), (10, aI), (11, aB)]) rfl rfl <| w_seqw <| w_ch hs4 rfl (fun hb5 h5 => ?_) (fun hb5 h5 => ?_)
  ·
   refine w_skip <| e_kw <| w_seqw <| w_block <| w_sr <| mI rfl ?_
   obtain ⟨x6, hx6, h7⟩ := bind_s h5
   refine o_p rfl (p_ia (cs := [PV.int _ _, PV.int _ _, PV.int _ _, PV.int _ _, PV.int _ _, PV.int _ _, PV.int _ _, PV.str _, PV.str _, PV.int _ _, PV.int _ _, PV.str _, PV.ls _ _ _, PV.ls _ _ _, PV.str _, PV.int _ _, PV.int _ _, PV.int _ _, PV.int _ _, PV.int _ _, PV.int _ _, PV.int _ _, PV.int _ _, PV.ls _ _ _]) ts22 (isl_c rfl) rfl hx6 rfl) <| o_p rfl (p_loades (us := [PV.int _ _, PV.int _ _, PV.int _ _, PV.int _ _, PV.int _ _, PV.int _ _, PV.int _ _, PV.str _, PV.str _, PV.int _ _, PV.int _ _, PV.str _, PV.ls _ _ _, PV.ls _ _ _, PV.str _, PV.int _ _, PV.int _ _, PV.int _ _, PV.int _ _, PV.int _ _, PV.int _ _, PV.int _ _, PV.int _ _, PV.ls _ _ _]) tv80 rfl rfl rfl) <| o_alloc (n := 0) (cs := [aI, aI, aI, aI, aI, aI, aI, aS, aS, aI, aI, aS, AV.nil, AV.nil, aS, aI, aI, aI, aI, aI, aI, aI, aI, AV.nil]) (σ' := [[aI, aI, aI, aI, aI, aI, aI, aS, aS, aI, aI, aS, AV.nil, AV.nil, aS, aI, aI, aI, aI, aI, aI, aI, aI, AV.nil]]) tz80 rfl rfl rfl <| sI rfl <| o_store (v := .agg aIIIIIIISSIISLLSIIIIIIIIL) (us := aIIIIIIISSIISLLSIIIIIIIIL) (cs := [aI, aI, aI, aI, aI, aI, aI, aS, aS, aI, aI, aS, AV.nil, AV.nil, aS, aI, aI, aI, aI, aI, aI, aI, aI, AV.nil]) (σ' := [aIIIIIIISSIISLLSIIIIIIIIL]) rfl tv80 rfl rfl rfl rfl rfl rfl rfl rfl <| o_ek (fr' := [(4, aI), (5, .box 0 0), (8, aL), (9, aI), (10, aI)]) rfl rfl <| w_sr <| o_p rfl (p_fa tf80x1 rfl) <| o_p rfl (p_load (v := aI) tv3 rfl rfl rfl) ?_
   obtain ⟨x8, hx8, h9⟩ := bind_s h7
   refine o_v (ov_call (v := .tup [aI, aB]) rfl (w_event_Status hx8) ⟨lr, trivial⟩ rfl rfl rfl) <| mV (v := .tup [aI, aB]) rfl <| o_p rfl (p_ex (v := aI) rfl rfl) <| o_p rfl (p_ex (v := aB) rfl rfl) <| sI rfl <| sB rfl <| o_ek (fr' := [(4, aI), (6, aI), (7, aB), (8, aL), (9, aI), (10, aI)]) rfl rfl <| w_sr <| mB rfl <| o_ek (fr' := [(4, aI), (6, aI), (8, aL), (9, aI), (10, aI), (21, aB)]) rfl rfl <| w_ch h9 rfl (fun hb10 h10 => ?_) (fun hb10 h10 => ?_)
   ·
    refine w_sr <| mI rfl <| mI rfl <| sI rfl <| sI rfl <| o_ek (fr' := [(2, aI), (3, aI)]) rfl rfl <| w_ret <| e_blk_r <| e_seq_r <| e_seq_r <| e_blk_r <| e_seq_r ?_
    refine e_seq_r ?_
    have h11 := un_out h10 ho4
    have h12 := un_done h11 h2
    obtain rfl := sy h12
    exact e_ret (rs' := [.tmp 2, .tmp 3]) rfl <| r_tmp (v := aI) rfl <| r_tmp (v := aI) rfl <| r_nil <| fin_gen [] rfl rfl rfl (le_tupp rfl ⟨lr, lr, trivial⟩) st_nil
   ·
    exact w_skip <| e_blk_n <| e_kw <| w_region <| o_p rfl (p_add rfl rfl) <| mI rfl <| o_end (fr' := [(4, aI), (6, aI), (8, aL), (9, aI), (10, aI), (21, aB)]) rfl <| e_l _ (sy h10) (w_weak [] 0 rfl rfl rfl rfl ⟨lr, lr, lr, trivial⟩ st_nil)
  ·
   refine w_exit <| e_seq_x <| e_seq_x <| e_blk_h ?_
   have h14 := un_out h5 ho4
   exact e_j _ (sy h14) (w_weak [] 0 rfl rfl rfl rfl trivial st_nil)
 ·
  intro j3 hj15
  have h15 := un_go hj15 h2
  refine e_kw <| w_sr <| sI rfl <| sI rfl <| o_ek (fr' := [(2, aI), (3, aI)]) rfl rfl <| w_ret ?_
  obtain rfl := sy h15
  exact e_ret (rs' := [.tmp 2, .tmp 3]) rfl <| r_tmp (v := aI) rfl <| r_tmp (v := aI) rfl <| r_nil <| fin_gen [] rfl rfl rfl (le_tupp rfl ⟨lr, lr, trivial⟩) st_nil
noncomputable def chain_begun (p0r : ApiRun) : Option (ApiEvent × Bool) :=
 (gd ((decide (((p0r.History).length : Int) = (0 : Int))) == false) (idx p0r.History (0 : Int))).bind fun (x1 : ApiEvent) => cond (cond (decide (((p0r.History).length : Int) = (0 : Int))) true (!decide (x1.Kind = (1 : Int)))) (some ((ApiEvent.mk (0 : Int) (0 : Int) (0 : Int) (0 : Int) (0 : Int) (0 : Int) (0 : Int) ([] : List UInt8) ([] : List UInt8) (ApiValue.mk (0 : Int) (0 : Int) ([] : List UInt8) ([] : (List ApiValue)) ([] : (List (List UInt8)))) (ApiPolicy.mk ([] : List UInt8) (0 : Int) (0 : Int) (0 : Int) (0 : Int) (0 : Int) (0 : Int) (0 : Int) (0 : Int) ([] : (List (List UInt8))))), false)) ((idx p0r.History (0 : Int)).bind fun (x5 : ApiEvent) => some (x5, true))
theorem w_chain_begun {p0r : ApiRun} {res : (ApiEvent × Bool)} (h : chain_begun p0r = some res) : ACalls Tryd.prog 71 [.agg (AV.cs (rowApiRun p0r))] [] (.tup [.agg (AV.cs (rowApiEvent res.1)), .c (.bool res.2)]) [] := by
 unfold chain_begun at h
 refine acalls (fn := Tryd.f71) [0, 1, 2, 3, 15] (by kernel_rfl) Tryd.func71 rfl (by kernel_rfl) (by kernel_rfl) <| w_sr <| o_box (v := .agg aSSSILIIIIIISIISLLIISLLBLLLLLLLLLII) (n := 0) (cs := aSSSILIIIIIISIISLLIISLLBLLLLLLLLLII) (σ' := [aSSSILIIIIIISIISLLIISLLBLLLLLLLLLII]) rfl rfl rfl rfl rfl <| o_alloc (n := 1) (cs := [aI, aI, aI, aI, aI, aI, aI, aS, aS, aI, aI, aS, AV.nil, AV.nil, aS, aI, aI, aI, aI, aI, aI, aI, aI, AV.nil]) (σ' := [aSSSILIIIIIISIISLLIISLLBLLLLLLLLLII, [aI, aI, aI, aI, aI, aI, aI, aS, aS, aI, aI, aS, AV.nil, AV.nil, aS, aI, aI, aI, aI, aI, aI, aI, aI, AV.nil]]) tz80 rfl rfl rfl <| sB rfl <| o_ek (fr' := [(1, .box 0 0), (2, .box 1 0)]) rfl rfl <| w_seqw <| w_sr <| o_p rfl (p_fa tf37x4 rfl) <| o_p rfl (p_load (v := aL) tv22 rfl rfl rfl) <| o_p rfl (p_len ti22 (isl_c rfl)) ?_
 refine o_p rfl (p_eql rfl rfl) <| mB rfl <| og rfl rfl rfl (fun hc => (p_fa tf37x4 rfl)) <| og rfl rfl rfl (fun hc => (p_load (v := aL) tv22 (gx rfl hc) rfl rfl)) ?_
 obtain ⟨x1, hx1, h2⟩ := bind_s h
 refine og rfl rfl rfl (fun hc => (p_ia (cs := [PV.int _ _, PV.int _ _, PV.int _ _, PV.int _ _, PV.int _ _, PV.int _ _, PV.int _ _, PV.str _, PV.str _, PV.int _ _, PV.int _ _, PV.str _, PV.ls _ _ _, PV.ls _ _ _, PV.str _, PV.int _ _, PV.int _ _, PV.int _ _, PV.int _ _, PV.int _ _, PV.int _ _, PV.int _ _, PV.int _ _, PV.ls _ _ _]) ts22 (isl_c (gx rfl hc)) rfl (gd_some hx1 hc) rfl)) <| og rfl rfl rfl (fun hc => (p_fae tf80x1 (gx rfl hc))) <| og rfl rfl rfl (fun hc => (p_loade (p := PV.int _ _) tv3 (gx rfl hc) rfl)) <| og rfl rfl rfl (fun hc => (p_neq (gx rfl hc) rfl)) <| o_p rfl (p_pickz rfl rfl rfl (fun e => keq e)) <| o_ek (fr' := [(1, .box 0 0), (2, .box 1 0), (15, aB)]) rfl rfl <| w_ch h2 rfl (fun hb3 h3 => ?_) (fun hb3 h3 => ?_)
 ·
  refine w_sr <| o_p rfl (p_buildc (c0 := [aI, aI, aI, aI, aI, aI, aI, aS, aS, aI, aI, aS, AV.nil, AV.nil, aS, aI, aI, aI, aI, aI, aI, aI, aI, AV.nil]) (cs := [aI, aI, aI, aI, aI, aI, aI, aS, aS, aI, aI, aS, AV.nil, AV.nil, aS, aI, aI, aI, aI, aI, aI, aI, aI, AV.nil]) tb80 rfl fill_nil) <| o_store (v := .agg [aI, aI, aI, aI, aI, aI, aI, aS, aS, aI, aI, aS, AV.nil, AV.nil, aS, aI, aI, aI, aI, aI, aI, aI, aI, AV.nil]) (us := [aI, aI, aI, aI, aI, aI, aI, aS, aS, aI, aI, aS, AV.nil, AV.nil, aS, aI, aI, aI, aI, aI, aI, aI, aI, AV.nil]) (cs := [aI, aI, aI, aI, aI, aI, aI, aS, aS, aI, aI, aS, AV.nil, AV.nil, aS, aI, aI, aI, aI, aI, aI, aI, aI, AV.nil]) (σ' := [aSSSILIIIIIISIISLLIISLLBLLLLLLLLLII, [aI, aI, aI, aI, aI, aI, aI, aS, aS, aI, aI, aS, AV.nil, AV.nil, aS, aI, aI, aI, aI, aI, aI, aI, aI, AV.nil]]) rfl tv80 rfl rfl rfl rfl rfl rfl rfl rfl <| sB rfl <| o_ek (fr' := [(2, .box 1 0), (3, aB)]) rfl rfl <| w_ret <| e_seq_r ?_
  obtain rfl := sy h3
  exact e_ret (rs' := [.cell 2 80, .tmp 3]) rfl <| r_cells (us := [aI, aI, aI, aI, aI, aI, aI, aS, aS, aI, aI, aS, AV.nil, AV.nil, aS, aI, aI, aI, aI, aI, aI, aI, aI, AV.nil]) (cs := [aI, aI, aI, aI, aI, aI, aI, aS, aS, aI, aI, aS, AV.nil, AV.nil, aS, aI, aI, aI, aI, aI, aI, aI, aI, AV.nil]) tv80 rfl rfl rfl rfl <| r_tmp (v := aB) rfl <| r_nil <| fin_gen [] rfl rfl rfl (le_tupp rfl ⟨(le_aggc rfl ⟨rfl, rfl, rfl, rfl, rfl, rfl, rfl, rfl, rfl, rfl, rfl, rfl, ⟨_, rfl⟩, ⟨_, rfl⟩, rfl, rfl, rfl, rfl, rfl, rfl, rfl, rfl, rfl, ⟨_, rfl⟩, trivial⟩), lr, trivial⟩) st_nil
 ·
  refine w_skip <| e_kw <| w_sr <| o_p rfl (p_fa tf37x4 rfl) <| o_p rfl (p_load (v := aL) tv22 rfl rfl rfl) ?_
  obtain ⟨x5, hx5, h6⟩ := bind_s h3
  refine o_p rfl (p_ia (cs := [PV.int _ _, PV.int _ _, PV.int _ _, PV.int _ _, PV.int _ _, PV.int _ _, PV.int _ _, PV.str _, PV.str _, PV.int _ _, PV.int _ _, PV.str _, PV.ls _ _ _, PV.ls _ _ _, PV.str _, PV.int _ _, PV.int _ _, PV.int _ _, PV.int _ _, PV.int _ _, PV.int _ _, PV.int _ _, PV.int _ _, PV.ls _ _ _]) ts22 (isl_c rfl) rfl hx5 rfl) <| o_p rfl (p_loades (us := [PV.int _ _, PV.int _ _, PV.int _ _, PV.int _ _, PV.int _ _, PV.int _ _, PV.int _ _, PV.str _, PV.str _, PV.int _ _, PV.int _ _, PV.str _, PV.ls _ _ _, PV.ls _ _ _, PV.str _, PV.int _ _, PV.int _ _, PV.int _ _, PV.int _ _, PV.int _ _, PV.int _ _, PV.int _ _, PV.int _ _, PV.ls _ _ _]) tv80 rfl rfl rfl) <| o_store (v := .agg aIIIIIIISSIISLLSIIIIIIIIL) (us := aIIIIIIISSIISLLSIIIIIIIIL) (cs := [aI, aI, aI, aI, aI, aI, aI, aS, aS, aI, aI, aS, AV.nil, AV.nil, aS, aI, aI, aI, aI, aI, aI, aI, aI, AV.nil]) (σ' := [aSSSILIIIIIISIISLLIISLLBLLLLLLLLLII, aIIIIIIISSIISLLSIIIIIIIIL]) rfl tv80 rfl rfl rfl rfl rfl rfl rfl rfl <| sB rfl <| o_ek (fr' := [(2, .box 1 0), (3, aB)]) rfl rfl <| w_ret ?_
  obtain rfl := sy h6
  exact e_ret (rs' := [.cell 2 80, .tmp 3]) rfl <| r_cells (us := aIIIIIIISSIISLLSIIIIIIIIL) (cs := aIIIIIIISSIISLLSIIIIIIIIL) tv80 rfl rfl rfl rfl <| r_tmp (v := aB) rfl <| r_nil <| fin_gen [] rfl rfl rfl (le_tupp rfl ⟨(le_aggc rfl ⟨rfl, rfl, rfl, rfl, rfl, rfl, rfl, rfl, rfl, rfl, rfl, rfl, rfl, rfl, rfl, rfl, rfl, rfl, rfl, rfl, rfl, rfl, rfl, rfl, trivial⟩), lr, trivial⟩) st_nil
noncomputable def chain_Decide (p0l : (List ApiRun)) (p1q : ApiRequest) : Option Int :=
 (chain_Latest p0l p1q.Workflow).bind fun (x1 : (Int × Bool)) => cond (!x1.2) (some (1 : Int)) ((idx p0l x1.1).bind fun (x5 : ApiRun) => (chain_begun x5).bind fun (x7 : (ApiEvent × Bool)) => cond (cond x7.2 (decide (x7.1.Key = p1q.ID)) false) (some (2 : Int)) ((idx p0l x1.1).bind fun (x11 : ApiRun) => (history_Status x11.History).bind fun (x13 : (Int × Int)) => cond (decide (x13.1 = (0 : Int))) (some (3 : Int)) (cond (decide (p1q.N = (0 : Int))) (some (1 : Int)) (cond (decide (p1q.N = (1 : Int))) (cond (!decide (x13.1 = (1 : Int))) (some (1 : Int)) (some (3 : Int))) (some (3 : Int))))))
theorem w_chain_Decide {p0l : (List ApiRun)} {p1q : ApiRequest} {res : Int} (h : chain_Decide p0l p1q = some res) : ACalls Tryd.prog 38 [.c (PV.ls 34 rowApiRun p0l), .agg (AV.cs (rowApiRequest p1q))] [] (.c (.int .i64 res)) [] := by
 unfold chain_Decide at h
 refine acalls (fn := Tryd.f38) [0, 1, 3, 4, 5, 6, 7, 8, 9, 19, 35, 46, 48, 49, 51, 54] (by kernel_rfl) Tryd.func38 rfl (by kernel_rfl) (by kernel_rfl) <| w_sr <| o_box (v := .agg aIISSSSIIIIIISLLSIIIIIIIILLS) (n := 0) (cs := aIISSSSIIIIIISLLSIIIIIIIILLS) (σ' := [aIISSSSIIIIIISLLSIIIIIIIILLS]) rfl rfl rfl rfl rfl <| sI rfl <| o_ek (fr' := [(0, aL), (3, .box 0 0)]) rfl rfl <| w_sr <| mL rfl <| o_p rfl (p_fa tf44x2 rfl) <| o_p rfl (p_load (v := aS) tv9 rfl rfl rfl) ?_
 obtain ⟨x1, hx1, h2⟩ := bind_s h
 refine o_v (ov_call (v := .tup [aI, aB]) rfl (w_chain_Latest hx1) ⟨lr, lr, trivial⟩ rfl rfl rfl) <| mV (v := .tup [aI, aB]) rfl <| o_p rfl (p_ex (v := aI) rfl rfl) <| o_p rfl (p_ex (v := aB) rfl rfl) <| sI rfl <| sB rfl <| o_ek (fr' := [(0, aL), (3, .box 0 0), (5, aI), (6, aB)]) rfl rfl <| w_seqw <| w_sr <| mB rfl <| o_p rfl (p_not rfl) <| o_ek (fr' := [(0, aL), (3, .box 0 0), (5, aI), (19, aB)]) rfl rfl ?_
 refine w_ch h2 rfl (fun hb3 h3 => ?_) (fun hb3 h3 => ?_)
 ·
  refine w_sr <| sI rfl <| o_ek (fr' := [(4, aI)]) rfl rfl <| w_ret <| e_seq_r ?_
  obtain rfl := sy h3
  exact e_ret (rs' := [.tmp 4]) rfl <| r_tmp (v := aI) rfl <| r_nil <| fin_gen [] rfl rfl rfl lr st_nil
 ·
  refine w_skip <| e_kw <| w_seqw <| w_sr <| mL rfl <| mI rfl ?_
  obtain ⟨x5, hx5, h6⟩ := bind_s h3
  refine o_p rfl (p_ia (cs := [PV.str _, PV.str _, PV.str _, PV.int _ _, PV.ls _ _ _, PV.int _ _, PV.int _ _, PV.int _ _, PV.int _ _, PV.int _ _, PV.int _ _, PV.str _, PV.int _ _, PV.int _ _, PV.str _, PV.ls _ _ _, PV.ls _ _ _, PV.int _ _, PV.int _ _, PV.str _, PV.ls _ _ _, PV.ls _ _ _, PV.bool _, PV.ls _ _ _, PV.ls _ _ _, PV.ls _ _ _, PV.ls _ _ _, PV.ls _ _ _, PV.ls _ _ _, PV.ls _ _ _, PV.ls _ _ _, PV.ls _ _ _, PV.int _ _, PV.int _ _]) ts62 (isl_c rfl) rfl hx5 rfl) <| o_p rfl (p_loades (us := [PV.str _, PV.str _, PV.str _, PV.int _ _, PV.ls _ _ _, PV.int _ _, PV.int _ _, PV.int _ _, PV.int _ _, PV.int _ _, PV.int _ _, PV.str _, PV.int _ _, PV.int _ _, PV.str _, PV.ls _ _ _, PV.ls _ _ _, PV.int _ _, PV.int _ _, PV.str _, PV.ls _ _ _, PV.ls _ _ _, PV.bool _, PV.ls _ _ _, PV.ls _ _ _, PV.ls _ _ _, PV.ls _ _ _, PV.ls _ _ _, PV.ls _ _ _, PV.ls _ _ _, PV.ls _ _ _, PV.ls _ _ _, PV.int _ _, PV.int _ _]) tv37 rfl rfl rfl) ?_
  obtain ⟨x7, hx7, h8⟩ := bind_s h6
  refine o_v (ov_call (v := .tup [.agg aIIIIIIISSIISLLSIIIIIIIIL, aB]) rfl (w_chain_begun hx7) ⟨(le_aggc rfl ⟨rfl, rfl, rfl, rfl, rfl, rfl, rfl, rfl, rfl, rfl, rfl, rfl, rfl, rfl, rfl, rfl, rfl, rfl, rfl, rfl, rfl, rfl, rfl, rfl, rfl, rfl, rfl, rfl, rfl, rfl, rfl, rfl, rfl, rfl, trivial⟩), trivial⟩ rfl rfl rfl) <| mV (v := .tup [.agg aIIIIIIISSIISLLSIIIIIIIIL, aB]) rfl <| o_p rfl (p_ex (v := .agg aIIIIIIISSIISLLSIIIIIIIIL) rfl rfl) <| o_p rfl (p_ex (v := aB) rfl rfl) <| o_alloc (n := 1) (cs := [aI, aI, aI, aI, aI, aI, aI, aS, aS, aI, aI, aS, AV.nil, AV.nil, aS, aI, aI, aI, aI, aI, aI, aI, aI, AV.nil]) (σ' := [aIISSSSIIIIIISLLSIIIIIIIILLS, [aI, aI, aI, aI, aI, aI, aI, aS, aS, aI, aI, aS, AV.nil, AV.nil, aS, aI, aI, aI, aI, aI, aI, aI, aI, AV.nil]]) tz80 rfl rfl rfl <| o_store (v := .agg aIIIIIIISSIISLLSIIIIIIIIL) (us := aIIIIIIISSIISLLSIIIIIIIIL) (cs := [aI, aI, aI, aI, aI, aI, aI, aS, aS, aI, aI, aS, AV.nil, AV.nil, aS, aI, aI, aI, aI, aI, aI, aI, aI, AV.nil]) (σ' := [aIISSSSIIIIIISLLSIIIIIIIILLS, aIIIIIIISSIISLLSIIIIIIIIL]) rfl tv80 rfl rfl rfl rfl rfl rfl rfl rfl <| sB rfl <| o_ek (fr' := [(0, aL), (3, .box 0 0), (5, aI), (7, .box 1 0), (8, aB)]) rfl rfl <| w_sr <| mB rfl <| mB rfl <| og rfl rfl rfl (fun hc => (p_fa tf80x8 rfl)) ?_
  refine og rfl rfl rfl (fun hc => (p_load (v := aS) tv9 (gx rfl hc) rfl rfl)) <| og rfl rfl rfl (fun hc => (p_fa tf44x4 rfl)) <| og rfl rfl rfl (fun hc => (p_load (v := aS) tv9 (gx rfl hc) rfl rfl)) <| og rfl rfl rfl (fun hc => (p_seql (gx rfl hc) (gx rfl hc))) <| o_p rfl (p_picky rfl rfl rfl (fun e => keq e)) <| o_ek (fr' := [(0, aL), (3, .box 0 0), (5, aI), (35, aB)]) rfl rfl <| w_ch h8 rfl (fun hb9 h9 => ?_) (fun hb9 h9 => ?_)
  ·
   refine w_sr <| sI rfl <| o_ek (fr' := [(4, aI)]) rfl rfl <| w_ret <| e_seq_r ?_
   obtain rfl := sy h9
   exact e_ret (rs' := [.tmp 4]) rfl <| r_tmp (v := aI) rfl <| r_nil <| fin_gen [] rfl rfl rfl lr st_nil
  ·
   refine w_skip <| e_kw <| w_sr <| mL rfl <| mI rfl ?_
   obtain ⟨x11, hx11, h12⟩ := bind_s h9
   refine o_p rfl (p_ia (cs := [PV.str _, PV.str _, PV.str _, PV.int _ _, PV.ls _ _ _, PV.int _ _, PV.int _ _, PV.int _ _, PV.int _ _, PV.int _ _, PV.int _ _, PV.str _, PV.int _ _, PV.int _ _, PV.str _, PV.ls _ _ _, PV.ls _ _ _, PV.int _ _, PV.int _ _, PV.str _, PV.ls _ _ _, PV.ls _ _ _, PV.bool _, PV.ls _ _ _, PV.ls _ _ _, PV.ls _ _ _, PV.ls _ _ _, PV.ls _ _ _, PV.ls _ _ _, PV.ls _ _ _, PV.ls _ _ _, PV.ls _ _ _, PV.int _ _, PV.int _ _]) ts62 (isl_c rfl) rfl hx11 rfl) <| o_p rfl (p_fae tf37x4 rfl) <| o_p rfl (p_loade (p := PV.ls _ _ _) tv22 rfl rfl) ?_
   obtain ⟨x13, hx13, h14⟩ := bind_s h12
   refine o_v (ov_call (v := .tup [aI, aI]) rfl (w_history_Status hx13) ⟨lr, trivial⟩ rfl rfl rfl) <| mV (v := .tup [aI, aI]) rfl <| o_p rfl (p_ex (v := aI) rfl rfl) <| o_p rfl (p_ex (v := aI) rfl rfl) <| sI rfl <| sI rfl <| o_ek (fr' := [(3, .box 0 0), (9, aI)]) rfl rfl <| w_seqw <| w_sr <| mI rfl <| o_p rfl (p_eql rfl rfl) <| o_ek (fr' := [(3, .box 0 0), (9, aI), (46, aB)]) rfl rfl ?_
   refine w_ch h14 rfl (fun hb15 h15 => ?_) (fun hb15 h15 => ?_)
   ·
    refine w_sr <| sI rfl <| o_ek (fr' := [(4, aI)]) rfl rfl <| w_ret <| e_seq_r ?_
    obtain rfl := sy h15
    exact e_ret (rs' := [.tmp 4]) rfl <| r_tmp (v := aI) rfl <| r_nil <| fin_gen [] rfl rfl rfl lr st_nil
   ·
    refine w_skip <| e_kw <| w_seqw <| w_sr <| o_p rfl (p_fa tf44x9 rfl) <| o_p rfl (p_load (v := aI) tv3 rfl rfl rfl) <| o_ek (fr' := [(9, aI), (48, aI)]) rfl rfl <| w_block <| w_sr <| o_p rfl (p_eql rfl rfl) <| sB rfl ?_
    refine o_ek (fr' := [(9, aI), (48, aI), (49, aB)]) rfl rfl <| w_ch h15 rfl (fun hb17 h17 => ?_) (fun hb17 h17 => ?_)
    ·
     refine w_sr <| sI rfl <| o_ek (fr' := [(4, aI)]) rfl rfl <| w_ret <| e_blk_r <| e_seq_r ?_
     obtain rfl := sy h17
     exact e_ret (rs' := [.tmp 4]) rfl <| r_tmp (v := aI) rfl <| r_nil <| fin_gen [] rfl rfl rfl lr st_nil
    ·
     refine w_sr <| o_p rfl (p_eql rfl rfl) <| sB rfl <| o_ek (fr' := [(9, aI), (51, aB)]) rfl rfl <| w_ch h17 rfl (fun hb19 h19 => ?_) (fun hb19 h19 => ?_)
     ·
      refine w_sr <| mI rfl <| o_p rfl (p_neq rfl rfl) <| o_ek (fr' := [(54, aB)]) rfl rfl <| w_ch h19 rfl (fun hb20 h20 => ?_) (fun hb20 h20 => ?_)
      ·
       refine w_sr <| sI rfl <| o_ek (fr' := [(4, aI)]) rfl rfl <| w_ret <| e_blk_r <| e_seq_r ?_
       obtain rfl := sy h20
       exact e_ret (rs' := [.tmp 4]) rfl <| r_tmp (v := aI) rfl <| r_nil <| fin_gen [] rfl rfl rfl lr st_nil
      ·
       refine w_skip <| e_blk_n <| e_kw <| w_sr <| sI rfl <| o_ek (fr' := [(4, aI)]) rfl rfl <| w_ret ?_
       obtain rfl := sy h20
       exact e_ret (rs' := [.tmp 4]) rfl <| r_tmp (v := aI) rfl <| r_nil <| fin_gen [] rfl rfl rfl lr st_nil
     ·
      refine w_skip <| e_blk_n <| e_kw <| w_sr <| sI rfl <| o_ek (fr' := [(4, aI)]) rfl rfl <| w_ret ?_
      obtain rfl := sy h19
      exact e_ret (rs' := [.tmp 4]) rfl <| r_tmp (v := aI) rfl <| r_nil <| fin_gen [] rfl rfl rfl lr st_nil
noncomputable def chain_Find_l1 (p0l : (List ApiRun)) (p2run : (List UInt8)) (p1workflow : (List UInt8)) (s8 : Int) : Option (Step Int (Fl (Int × Bool) Unit)) :=
 cond (decide (s8 < ((p0l).length : Int))) ((idx p0l s8).bind fun (x10 : ApiRun) => cond (cond (decide (x10.Workflow = p1workflow)) (decide (x10.ID = p2run)) false) (some (Step.out (Fl.done (s8, true)))) (some (Step.next (IntKind.wrap .i64 (s8 + (1 : Int)))))) (some (Step.out (Fl.go ())))
noncomputable def chain_Find (p0l : (List ApiRun)) (p1workflow : (List UInt8)) (p2run : (List UInt8)) : Option (Int × Bool) :=
 cond (decide (p2run = ([] : List UInt8))) ((chain_Latest p0l p1workflow).bind fun (x2 : (Int × Bool)) => some (x2.1, x2.2)) (((loopO (chain_Find_l1 p0l p2run p1workflow) ((0 : Int))) : Option (Fl (Int × Bool) Unit)).bind fun (x5 : (Fl (Int × Bool) Unit)) => Fl.next x5 (fun (j7 : Unit) => (some ((0 : Int), false))))
theorem w_chain_Find {p0l : (List ApiRun)} {p1workflow : (List UInt8)} {p2run : (List UInt8)} {res : (Int × Bool)} (h : chain_Find p0l p1workflow p2run = some res) : ACalls Tryd.prog 34 [.c (PV.ls 34 rowApiRun p0l), .c (.str p1workflow), .c (.str p2run)] [] (.tup [.c (.int .i64 res.1), .c (.bool res.2)]) [] := by
 unfold chain_Find at h
 refine acalls (fn := Tryd.f34) [0, 1, 2, 6, 7, 8, 9, 11, 17, 18, 19, 20, 33] (by kernel_rfl) Tryd.func34 rfl (by kernel_rfl) (by kernel_rfl) <| w_sr <| sI rfl <| sB rfl <| o_ek (fr' := [(0, aL), (1, aS), (2, aS)]) rfl rfl <| w_seqw <| w_sr <| mS rfl <| o_p rfl (p_seql rfl rfl) <| o_ek (fr' := [(0, aL), (1, aS), (2, aS), (11, aB)]) rfl rfl <| w_ch h rfl (fun hb1 h1 => ?_) (fun hb1 h1 => ?_)
 ·
  refine w_sr <| mL rfl <| mS rfl ?_
  obtain ⟨x2, hx2, h3⟩ := bind_s h1
  refine o_v (ov_call (v := .tup [aI, aB]) rfl (w_chain_Latest hx2) ⟨lr, lr, trivial⟩ rfl rfl rfl) <| o_p rfl (p_ex (v := aI) rfl rfl) <| o_p rfl (p_ex (v := aB) rfl rfl) <| sI rfl <| sB rfl <| o_ek (fr' := [(6, aI), (7, aB)]) rfl rfl <| w_ret <| e_seq_r ?_
  obtain rfl := sy h3
  exact e_ret (rs' := [.tmp 6, .tmp 7]) rfl <| r_tmp (v := aI) rfl <| r_tmp (v := aB) rfl <| r_nil <| fin_gen [] rfl rfl rfl (le_tupp rfl ⟨lr, lr, trivial⟩) st_nil
 ·
  refine w_skip <| e_kw <| w_seqw <| w_sr <| mL rfl <| o_p rfl (p_len ti62 (isl_c rfl)) <| mI rfl <| o_ek (fr' := [(1, aS), (2, aS), (17, aL), (18, aI), (19, aI)]) rfl rfl ?_
  obtain ⟨x5, hx5, h6⟩ := bind_s h1
  refine w_jtail cl_kw (fun j7 => x5 = Fl.go j7) (fun (j7 : Unit) => ([] : Fr)) (fun (j7 : Unit) => ([] : St)) ?_ ?_
  ·
   refine w_block <| w_loopo _ (fun (s8 : Int) => ([(1, .c (.str p1workflow)), (2, .c (.str p2run)), (17, .c (PV.ls 34 rowApiRun p0l)), (18, .c (.int .i64 ((p0l).length : Int))), (19, .c (.int .i64 s8))] : Fr)) (fun (s8 : Int) => ([] : St)) hx5 (w_weak [] 0 rfl rfl rfl rfl ⟨lr, lr, lr, lr, lr, trivial⟩ st_nil) ?_
   intro s8 st8 hs8 ho8
   unfold chain_Find_l1 at hs8
   refine w_sr <| o_p rfl (p_lss rfl rfl) <| o_ek (fr' := [(1, aS), (2, aS), (17, aL), (18, aI), (19, aI), (20, aB)]) rfl rfl <| w_seqw <| w_ch hs8 rfl (fun hb9 h9 => ?_) (fun hb9 h9 => ?_)
   ·
    refine w_skip <| e_kw <| w_seqw <| w_block <| w_sr <| mI rfl ?_
    obtain ⟨x10, hx10, h11⟩ := bind_s h9
    refine o_p rfl (p_ia (cs := [PV.str _, PV.str _, PV.str _, PV.int _ _, PV.ls _ _ _, PV.int _ _, PV.int _ _, PV.int _ _, PV.int _ _, PV.int _ _, PV.int _ _, PV.str _, PV.int _ _, PV.int _ _, PV.str _, PV.ls _ _ _, PV.ls _ _ _, PV.int _ _, PV.int _ _, PV.str _, PV.ls _ _ _, PV.ls _ _ _, PV.bool _, PV.ls _ _ _, PV.ls _ _ _, PV.ls _ _ _, PV.ls _ _ _, PV.ls _ _ _, PV.ls _ _ _, PV.ls _ _ _, PV.ls _ _ _, PV.ls _ _ _, PV.int _ _, PV.int _ _]) ts62 (isl_c rfl) rfl hx10 rfl) <| o_p rfl (p_loades (us := [PV.str _, PV.str _, PV.str _, PV.int _ _, PV.ls _ _ _, PV.int _ _, PV.int _ _, PV.int _ _, PV.int _ _, PV.int _ _, PV.int _ _, PV.str _, PV.int _ _, PV.int _ _, PV.str _, PV.ls _ _ _, PV.ls _ _ _, PV.int _ _, PV.int _ _, PV.str _, PV.ls _ _ _, PV.ls _ _ _, PV.bool _, PV.ls _ _ _, PV.ls _ _ _, PV.ls _ _ _, PV.ls _ _ _, PV.ls _ _ _, PV.ls _ _ _, PV.ls _ _ _, PV.ls _ _ _, PV.ls _ _ _, PV.int _ _, PV.int _ _]) tv37 rfl rfl rfl) <| o_alloc (n := 0) (cs := [aS, aS, aS, aI, AV.nil, aI, aI, aI, aI, aI, aI, aS, aI, aI, aS, AV.nil, AV.nil, aI, aI, aS, AV.nil, AV.nil, aB, AV.nil, AV.nil, AV.nil, AV.nil, AV.nil, AV.nil, AV.nil, AV.nil, AV.nil, aI, aI]) (σ' := [[aS, aS, aS, aI, AV.nil, aI, aI, aI, aI, aI, aI, aS, aI, aI, aS, AV.nil, AV.nil, aI, aI, aS, AV.nil, AV.nil, aB, AV.nil, AV.nil, AV.nil, AV.nil, AV.nil, AV.nil, AV.nil, AV.nil, AV.nil, aI, aI]]) tz37 rfl rfl rfl <| sI rfl <| o_store (v := .agg aSSSILIIIIIISIISLLIISLLBLLLLLLLLLII) (us := aSSSILIIIIIISIISLLIISLLBLLLLLLLLLII) (cs := [aS, aS, aS, aI, AV.nil, aI, aI, aI, aI, aI, aI, aS, aI, aI, aS, AV.nil, AV.nil, aI, aI, aS, AV.nil, AV.nil, aB, AV.nil, AV.nil, AV.nil, AV.nil, AV.nil, AV.nil, AV.nil, AV.nil, AV.nil, aI, aI]) (σ' := [aSSSILIIIIIISIISLLIISLLBLLLLLLLLLII]) rfl tv37 rfl rfl rfl rfl rfl rfl rfl rfl <| o_ek (fr' := [(1, aS), (2, aS), (8, aI), (9, .box 0 0), (17, aL), (18, aI), (19, aI)]) rfl rfl <| w_sr <| o_p rfl (p_fa tf37x0 rfl) <| o_p rfl (p_load (v := aS) tv9 rfl rfl rfl) <| mS rfl <| o_p rfl (p_seql rfl rfl) <| mB rfl ?_
    refine og rfl rfl rfl (fun hc => (p_fa tf37x1 rfl)) <| og rfl rfl rfl (fun hc => (p_load (v := aS) tv9 (gx rfl hc) rfl rfl)) <| og rfl rfl rfl (fun hc => (p_move (v := aS) rfl)) <| og rfl rfl rfl (fun hc => (p_seql (gx rfl hc) (gx rfl hc))) <| o_p rfl (p_picky rfl rfl rfl (fun e => keq e)) <| o_ek (fr' := [(1, aS), (2, aS), (8, aI), (17, aL), (18, aI), (19, aI), (33, aB)]) rfl rfl <| w_ch h11 rfl (fun hb12 h12 => ?_) (fun hb12 h12 => ?_)
    ·
     refine w_sr <| mI rfl <| sI rfl <| sB rfl <| o_ek (fr' := [(6, aI), (7, aB)]) rfl rfl <| w_ret <| e_blk_r <| e_seq_r <| e_seq_r <| e_blk_r <| e_seq_r <| e_seq_r ?_
     have h13 := un_out h12 ho8
     have h14 := un_done h13 h6
     obtain rfl := sy h14
     exact e_ret (rs' := [.tmp 6, .tmp 7]) rfl <| r_tmp (v := aI) rfl <| r_tmp (v := aB) rfl <| r_nil <| fin_gen [] rfl rfl rfl (le_tupp rfl ⟨lr, lr, trivial⟩) st_nil
    ·
     exact w_skip <| e_blk_n <| e_kw <| w_region <| o_p rfl (p_add rfl rfl) <| mI rfl <| o_end (fr' := [(1, aS), (2, aS), (8, aI), (17, aL), (18, aI), (19, aI), (33, aB)]) rfl <| e_l _ (sy h12) (w_weak [] 0 rfl rfl rfl rfl ⟨lr, lr, lr, lr, lr, trivial⟩ st_nil)
   ·
    refine w_exit <| e_seq_x <| e_seq_x <| e_blk_h ?_
    have h16 := un_out h9 ho8
    exact e_j _ (sy h16) (w_weak [] 0 rfl rfl rfl rfl trivial st_nil)
  ·
   intro j7 hj17
   have h17 := un_go hj17 h6
   refine e_kw <| w_sr <| sI rfl <| sB rfl <| o_ek (fr' := [(6, aI), (7, aB)]) rfl rfl <| w_ret ?_
   obtain rfl := sy h17
   exact e_ret (rs' := [.tmp 6, .tmp 7]) rfl <| r_tmp (v := aI) rfl <| r_tmp (v := aB) rfl <| r_nil <| fin_gen [] rfl rfl rfl (le_tupp rfl ⟨lr, lr, trivial⟩) st_nil
end Go.Proofs.YtopijeegnhighaaDoor

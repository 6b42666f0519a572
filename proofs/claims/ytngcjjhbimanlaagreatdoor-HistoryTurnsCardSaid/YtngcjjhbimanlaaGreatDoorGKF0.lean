import Derived.Test.YtngcjjhbimanlaaGreatDoorGKTy
namespace Go.Proofs.YtngcjjhbimanlaaGreatDoor
open Go Abs
set_option maxRecDepth 100000
set_option linter.unusedVariables false
set_option linter.unusedSimpArgs false
noncomputable def event_commandOf (p0kind : Int) : Option Int :=
 cond (decide (p0kind = (7 : Int))) (some (1 : Int)) (cond (decide (p0kind = (12 : Int))) (some (2 : Int)) (cond (decide (p0kind = (14 : Int))) (some (3 : Int)) (cond (decide (p0kind = (16 : Int))) (some (4 : Int)) (cond (decide (p0kind = (19 : Int))) (some (5 : Int)) (cond (decide (p0kind = (23 : Int))) (some (6 : Int)) (cond (decide (p0kind = (18 : Int))) (some (7 : Int)) (cond (decide (p0kind = (27 : Int))) (some (8 : Int)) (cond (decide (p0kind = (28 : Int))) (some (9 : Int)) (cond (decide (p0kind = (29 : Int))) (some (10 : Int)) (cond (decide (p0kind = (30 : Int))) (some (11 : Int)) (cond (decide (p0kind = (31 : Int))) (some (12 : Int)) (cond (decide (p0kind = (32 : Int))) (some (13 : Int)) (cond (decide (p0kind = (35 : Int))) (some (14 : Int)) (some (0 : Int)))))))))))))))
theorem w_event_commandOf {p0kind : Int} {res : Int} (h : event_commandOf p0kind = some res) : ACalls Tryz.prog 29 [.c (.int .i64 p0kind)] [] (.c (.int .i64 res)) [] := by
 unfold event_commandOf at h
 refine acalls (fn := Tryz.f29) [0, 2, 3, 4, 6, 8, 10, 12, 14, 16, 18, 20, 22, 24, 26, 28, 30] (by kernel_rfl) Tryz.func29 rfl (by kernel_rfl) (by kernel_rfl) <| w_sr <| sI rfl <| o_ek (fr' := [(0, aI)]) rfl rfl <| w_seqw <| w_sr <| mI rfl <| o_ek (fr' := [(3, aI)]) rfl rfl <| w_block <| w_seqw <| w_region ?_
 refine o_p rfl (p_eql rfl rfl) <| sB rfl <| o_ek (fr' := [(3, aI), (4, aB)]) rfl rfl <| w_ch h rfl (fun hb1 h1 => ?_) (fun hb1 h1 => ?_)
 ·
  refine w_sr <| sI rfl <| o_ek (fr' := [(2, aI)]) rfl rfl <| w_ret <| e_blk_r <| e_seq_r ?_
  obtain rfl := sy h1
  exact e_ret (rs' := [.tmp 2]) rfl <| r_tmp (v := aI) rfl <| r_nil <| fin_gen [] rfl rfl rfl lr st_nil
 ·
  refine w_sr <| o_p rfl (p_eql rfl rfl) <| sB rfl <| o_ek (fr' := [(3, aI), (6, aB)]) rfl rfl <| w_ch h1 rfl (fun hb3 h3 => ?_) (fun hb3 h3 => ?_)
  ·
   refine w_sr <| sI rfl <| o_ek (fr' := [(2, aI)]) rfl rfl <| w_ret <| e_blk_r <| e_seq_r ?_
   obtain rfl := sy h3
   exact e_ret (rs' := [.tmp 2]) rfl <| r_tmp (v := aI) rfl <| r_nil <| fin_gen [] rfl rfl rfl lr st_nil
  ·
   refine w_sr <| o_p rfl (p_eql rfl rfl) <| sB rfl <| o_ek (fr' := [(3, aI), (8, aB)]) rfl rfl <| w_ch h3 rfl (fun hb5 h5 => ?_) (fun hb5 h5 => ?_)
   ·
    refine w_sr <| sI rfl <| o_ek (fr' := [(2, aI)]) rfl rfl <| w_ret <| e_blk_r <| e_seq_r ?_
    obtain rfl := sy h5
    exact e_ret (rs' := [.tmp 2]) rfl <| r_tmp (v := aI) rfl <| r_nil <| fin_gen [] rfl rfl rfl lr st_nil
   ·
    refine w_sr <| o_p rfl (p_eql rfl rfl) <| sB rfl <| o_ek (fr' := [(3, aI), (10, aB)]) rfl rfl <| w_ch h5 rfl (fun hb7 h7 => ?_) (fun hb7 h7 => ?_)
    ·
     refine w_sr <| sI rfl <| o_ek (fr' := [(2, aI)]) rfl rfl <| w_ret <| e_blk_r <| e_seq_r ?_
     obtain rfl := sy h7
     exact e_ret (rs' := [.tmp 2]) rfl <| r_tmp (v := aI) rfl <| r_nil <| fin_gen [] rfl rfl rfl lr st_nil
    ·
     refine w_sr <| o_p rfl (p_eql rfl rfl) <| sB rfl <| o_ek (fr' := [(3, aI), (12, aB)]) rfl rfl <| w_ch h7 rfl (fun hb9 h9 => ?_) (fun hb9 h9 => ?_)
     ·
      refine w_sr <| sI rfl <| o_ek (fr' := [(2, aI)]) rfl rfl <| w_ret <| e_blk_r <| e_seq_r ?_
      obtain rfl := sy h9
      exact e_ret (rs' := [.tmp 2]) rfl <| r_tmp (v := aI) rfl <| r_nil <| fin_gen [] rfl rfl rfl lr st_nil
     ·
      refine w_sr <| o_p rfl (p_eql rfl rfl) <| sB rfl <| o_ek (fr' := [(3, aI), (14, aB)]) rfl rfl <| w_ch h9 rfl (fun hb11 h11 => ?_) (fun hb11 h11 => ?_)
      ·
       refine w_sr <| sI rfl <| o_ek (fr' := [(2, aI)]) rfl rfl <| w_ret <| e_blk_r <| e_seq_r ?_
       obtain rfl := sy h11
       exact e_ret (rs' := [.tmp 2]) rfl <| r_tmp (v := aI) rfl <| r_nil <| fin_gen [] rfl rfl rfl lr st_nil
      ·
       refine w_sr <| o_p rfl (p_eql rfl rfl) <| sB rfl <| o_ek (fr' := [(3, aI), (16, aB)]) rfl rfl <| w_ch h11 rfl (fun hb13 h13 => ?_) (fun hb13 h13 => ?_)
       ·
        refine w_sr <| sI rfl <| o_ek (fr' := [(2, aI)]) rfl rfl <| w_ret <| e_blk_r <| e_seq_r ?_
        obtain rfl := sy h13
        exact e_ret (rs' := [.tmp 2]) rfl <| r_tmp (v := aI) rfl <| r_nil <| fin_gen [] rfl rfl rfl lr st_nil
       ·
        refine w_sr <| o_p rfl (p_eql rfl rfl) <| sB rfl <| o_ek (fr' := [(3, aI), (18, aB)]) rfl rfl <| w_ch h13 rfl (fun hb15 h15 => ?_) (fun hb15 h15 => ?_)
        ·
         refine w_sr <| sI rfl <| o_ek (fr' := [(2, aI)]) rfl rfl <| w_ret <| e_blk_r <| e_seq_r ?_
         obtain rfl := sy h15
         exact e_ret (rs' := [.tmp 2]) rfl <| r_tmp (v := aI) rfl <| r_nil <| fin_gen [] rfl rfl rfl lr st_nil
        ·
         refine w_sr <| o_p rfl (p_eql rfl rfl) <| sB rfl <| o_ek (fr' := [(3, aI), (20, aB)]) rfl rfl <| w_ch h15 rfl (fun hb17 h17 => ?_) (fun hb17 h17 => ?_)
         ·
          refine w_sr <| sI rfl <| o_ek (fr' := [(2, aI)]) rfl rfl <| w_ret <| e_blk_r <| e_seq_r ?_
          obtain rfl := sy h17
          exact e_ret (rs' := [.tmp 2]) rfl <| r_tmp (v := aI) rfl <| r_nil <| fin_gen [] rfl rfl rfl lr st_nil
         ·
          refine w_sr <| o_p rfl (p_eql rfl rfl) <| sB rfl <| o_ek (fr' := [(3, aI), (22, aB)]) rfl rfl <| w_ch h17 rfl (fun hb19 h19 => ?_) (fun hb19 h19 => ?_)
          ·
           refine w_sr <| sI rfl <| o_ek (fr' := [(2, aI)]) rfl rfl <| w_ret <| e_blk_r <| e_seq_r ?_
           obtain rfl := sy h19
           exact e_ret (rs' := [.tmp 2]) rfl <| r_tmp (v := aI) rfl <| r_nil <| fin_gen [] rfl rfl rfl lr st_nil
          ·
           refine w_sr <| o_p rfl (p_eql rfl rfl) <| sB rfl <| o_ek (fr' := [(3, aI), (24, aB)]) rfl rfl <| w_ch h19 rfl (fun hb21 h21 => ?_) (fun hb21 h21 => ?_)
           ·
            refine w_sr <| sI rfl <| o_ek (fr' := [(2, aI)]) rfl rfl <| w_ret <| e_blk_r <| e_seq_r ?_
            obtain rfl := sy h21
            exact e_ret (rs' := [.tmp 2]) rfl <| r_tmp (v := aI) rfl <| r_nil <| fin_gen [] rfl rfl rfl lr st_nil
           ·
            refine w_sr <| o_p rfl (p_eql rfl rfl) <| sB rfl <| o_ek (fr' := [(3, aI), (26, aB)]) rfl rfl <| w_ch h21 rfl (fun hb23 h23 => ?_) (fun hb23 h23 => ?_)
            ·
             refine w_sr <| sI rfl <| o_ek (fr' := [(2, aI)]) rfl rfl <| w_ret <| e_blk_r <| e_seq_r ?_
             obtain rfl := sy h23
             exact e_ret (rs' := [.tmp 2]) rfl <| r_tmp (v := aI) rfl <| r_nil <| fin_gen [] rfl rfl rfl lr st_nil
            ·
             refine w_sr <| o_p rfl (p_eql rfl rfl) <| sB rfl <| o_ek (fr' := [(3, aI), (28, aB)]) rfl rfl <| w_ch h23 rfl (fun hb25 h25 => ?_) (fun hb25 h25 => ?_)
             ·
              refine w_sr <| sI rfl <| o_ek (fr' := [(2, aI)]) rfl rfl <| w_ret <| e_blk_r <| e_seq_r ?_
              obtain rfl := sy h25
              exact e_ret (rs' := [.tmp 2]) rfl <| r_tmp (v := aI) rfl <| r_nil <| fin_gen [] rfl rfl rfl lr st_nil
             ·
              refine w_sr <| o_p rfl (p_eql rfl rfl) <| sB rfl <| o_ek (fr' := [(30, aB)]) rfl rfl <| w_ch h25 rfl (fun hb27 h27 => ?_) (fun hb27 h27 => ?_)
              ·
               refine w_sr <| sI rfl <| o_ek (fr' := [(2, aI)]) rfl rfl <| w_ret <| e_blk_r <| e_seq_r ?_
               obtain rfl := sy h27
               exact e_ret (rs' := [.tmp 2]) rfl <| r_tmp (v := aI) rfl <| r_nil <| fin_gen [] rfl rfl rfl lr st_nil
              ·
               refine w_skip <| e_blk_n <| e_kw <| w_sr <| sI rfl <| o_ek (fr' := [(2, aI)]) rfl rfl <| w_ret ?_
               obtain rfl := sy h27
               exact e_ret (rs' := [.tmp 2]) rfl <| r_tmp (v := aI) rfl <| r_nil <| fin_gen [] rfl rfl rfl lr st_nil
noncomputable def event_IsCommand (p0kind : Int) : Option Bool :=
 (event_commandOf p0kind).bind fun (x1 : Int) => some (!decide (x1 = (0 : Int)))
theorem w_event_IsCommand {p0kind : Int} {res : Bool} (h : event_IsCommand p0kind = some res) : ACalls Tryz.prog 17 [.c (.int .i64 p0kind)] [] (.c (.bool res)) [] := by
 unfold event_IsCommand at h
 refine acalls (fn := Tryz.f17) [0, 2] (by kernel_rfl) Tryz.func17 rfl (by kernel_rfl) (by kernel_rfl) <| w_sr <| sB rfl <| o_ek (fr' := [(0, aI)]) rfl rfl <| w_sr <| mI rfl ?_
 obtain ⟨x1, hx1, h2⟩ := bind_s h
 refine o_v (ov_call (v := aI) rfl (w_event_commandOf hx1) ⟨lr, trivial⟩ rfl rfl rfl) <| o_p rfl (p_neq rfl rfl) <| sB rfl <| o_ek (fr' := [(2, aB)]) rfl rfl <| w_ret ?_
 obtain rfl := sy h2
 exact e_ret (rs' := [.tmp 2]) rfl <| r_tmp (v := aB) rfl <| r_nil <| fin_gen [] rfl rfl rfl lr st_nil
noncomputable def history_closesActivity (p0kind : Int) : Option Bool :=
 some (cond (cond (cond (decide (p0kind = (9 : Int))) true (decide (p0kind = (10 : Int)))) true (decide (p0kind = (11 : Int)))) true (decide (p0kind = (13 : Int))))
theorem w_history_closesActivity {p0kind : Int} {res : Bool} (h : history_closesActivity p0kind = some res) : ACalls Tryz.prog 86 [.c (.int .i64 p0kind)] [] (.c (.bool res)) [] := by
 unfold history_closesActivity at h
 refine acalls (fn := Tryz.f86) [0, 2] (by kernel_rfl) Tryz.func86 rfl (by kernel_rfl) (by kernel_rfl) <| w_sr <| sB rfl <| o_ek (fr' := [(0, aI)]) rfl rfl <| w_sr <| mI rfl <| o_p rfl (p_eql rfl rfl) <| mB rfl <| og rfl rfl rfl (fun hc => (p_move (v := aI) rfl)) <| og rfl rfl rfl (fun hc => (p_eql (gx rfl hc) rfl)) <| o_p rfl (p_pickz rfl rfl rfl (fun e => keq e)) ?_
 refine mB rfl <| og rfl rfl rfl (fun hc => (p_move (v := aI) rfl)) <| og rfl rfl rfl (fun hc => (p_eql (gx rfl hc) rfl)) <| o_p rfl (p_pickz rfl rfl rfl (fun e => keq e)) <| mB rfl <| og rfl rfl rfl (fun hc => (p_move (v := aI) rfl)) <| og rfl rfl rfl (fun hc => (p_eql (gx rfl hc) rfl)) <| o_p rfl (p_pickz rfl rfl rfl (fun e => keq e)) <| sB rfl <| o_ek (fr' := [(2, aB)]) rfl rfl <| w_ret ?_
 obtain rfl := sy h
 exact e_ret (rs' := [.tmp 2]) rfl <| r_tmp (v := aB) rfl <| r_nil <| fin_gen [] rfl rfl rfl lr st_nil
noncomputable def history_checker_step_v2 (p1e : ApiEvent) (p100v : HistoryChecker) : Option (Bool × Bool × HistoryChecker) :=
 ((cond (decide (p1e.Kind = (2 : Int))) (some (Fl.go ((decide (p100v.task_ = (0 : Int))), (HistoryChecker.mk (1 : Int) p1e.ID p100v.before_ p100v.closed_)))) (cond (decide (p1e.Kind = (3 : Int))) (some (Fl.go ((cond (decide (p100v.task_ = (1 : Int))) (decide (p1e.Ref = p100v.ref_)) false), (HistoryChecker.mk (2 : Int) p1e.ID p100v.before_ p100v.closed_)))) (((cond (decide (p1e.Kind = (4 : Int))) (some (decide (p1e.Kind = (4 : Int)))) (cond (decide (p1e.Kind = (5 : Int))) (some (decide (p1e.Kind = (5 : Int)))) (some (decide (p1e.Kind = (6 : Int)))))) : Option Bool).bind fun (x6 : Bool) => (cond x6 (some (Fl.go ((cond (decide (p100v.task_ = (2 : Int))) (decide (p1e.Ref = p100v.ref_)) false), (HistoryChecker.mk (0 : Int) p100v.ref_ p100v.before_ p100v.closed_)))) (some (Fl.done (false, false, p100v))))))) : Option (Fl (Bool × Bool × HistoryChecker) (Bool × HistoryChecker))).bind fun (x1 : (Fl (Bool × Bool × HistoryChecker) (Bool × HistoryChecker))) => Fl.next x1 (fun (j3 : (Bool × HistoryChecker)) => (some (j3.1, true, j3.2)))
theorem w_history_checker_step_v2 {p1e : ApiEvent} {p100v : HistoryChecker} {res : (Bool × Bool × HistoryChecker)} (h : history_checker_step_v2 p1e p100v = some res) : ACalls Tryz.prog 87 [.box 0 0, .agg (AV.cs (rowApiEvent p1e))] [AV.cs (rowHistoryChecker p100v)] (.tup [.c (.bool res.1), .c (.bool res.2.1)]) [AV.cs (rowHistoryChecker res.2.2)] := by
 unfold history_checker_step_v2 at h
 refine acalls (fn := Tryz.f87) [0, 1, 3, 4, 5, 7, 8, 23, 47] (by kernel_rfl) Tryz.func87 rfl (by kernel_rfl) (by kernel_rfl) <| w_sr <| o_box (v := .agg aIIIIIIISSIISLLSIIIIIIIIL) (n := 1) (cs := aIIIIIIISSIISLLSIIIIIIIIL) (σ' := [aIIIIIIIIISSIISLLSIIIIIIIILB, aIIIIIIISSIISLLSIIIIIIIIL]) rfl rfl rfl rfl rfl <| sB rfl <| sB rfl <| o_ek (fr' := [(0, .box 0 0), (3, .box 1 0)]) rfl rfl ?_
 obtain ⟨x1, hx1, h2⟩ := bind_s h
 refine w_join (fun j3 => x1 = Fl.go j3) (fun (j3 : (Bool × HistoryChecker)) => ([(4, .c (.bool j3.1))] : Fr)) (fun (j3 : (Bool × HistoryChecker)) => ([[.c (.int .i64 j3.2.task_), .c (.int .i64 j3.2.ref_), .c (.int .i64 j3.2.before_.ID), .c (.int .i64 j3.2.before_.Kind), .c (.int .i64 j3.2.before_.Time), .c (.int .i64 j3.2.before_.Seq), .c (.int .i64 j3.2.before_.Ref), .c (.int .i64 j3.2.before_.N), .c (.int .i64 j3.2.before_.Code), .c (.str j3.2.before_.Name), .c (.str j3.2.before_.Key), .c (.int .i64 j3.2.before_.Data.Kind), .c (.int .i64 j3.2.before_.Data.Int), .c (.str j3.2.before_.Data.Text), .c (PV.ls 5 rowApiValue j3.2.before_.Data.Items), .c (PV.ls 1 rowS j3.2.before_.Data.Keys), .c (.str j3.2.before_.Opts.Queue), .c (.int .i64 j3.2.before_.Opts.ToStart), .c (.int .i64 j3.2.before_.Opts.ToClose), .c (.int .i64 j3.2.before_.Opts.Total), .c (.int .i64 j3.2.before_.Opts.Beat), .c (.int .i64 j3.2.before_.Opts.First), .c (.int .i64 j3.2.before_.Opts.Coef), .c (.int .i64 j3.2.before_.Opts.Most), .c (.int .i64 j3.2.before_.Opts.Attempts), .c (PV.ls 1 rowS j3.2.before_.Opts.Fatal), .c (.bool j3.2.closed_)], [.c (.int .i64 p1e.ID), .c (.int .i64 p1e.Kind), .c (.int .i64 p1e.Time), .c (.int .i64 p1e.Seq), .c (.int .i64 p1e.Ref), .c (.int .i64 p1e.N), .c (.int .i64 p1e.Code), .c (.str p1e.Name), .c (.str p1e.Key), .c (.int .i64 p1e.Data.Kind), .c (.int .i64 p1e.Data.Int), .c (.str p1e.Data.Text), .c (PV.ls 5 rowApiValue p1e.Data.Items), .c (PV.ls 1 rowS p1e.Data.Keys), .c (.str p1e.Opts.Queue), .c (.int .i64 p1e.Opts.ToStart), .c (.int .i64 p1e.Opts.ToClose), .c (.int .i64 p1e.Opts.Total), .c (.int .i64 p1e.Opts.Beat), .c (.int .i64 p1e.Opts.First), .c (.int .i64 p1e.Opts.Coef), .c (.int .i64 p1e.Opts.Most), .c (.int .i64 p1e.Opts.Attempts), .c (PV.ls 1 rowS p1e.Opts.Fatal)]] : St)) ?_ ?_
 ·
  refine w_sr <| o_p rfl (p_fa tf29x1 rfl) <| o_p rfl (p_load (v := aI) tv3 rfl rfl rfl) <| o_ek (fr' := [(0, .box 0 0), (3, .box 1 0), (7, aI)]) rfl rfl <| w_block <| w_sr <| o_p rfl (p_eql rfl rfl) <| sB rfl <| o_ek (fr' := [(0, .box 0 0), (3, .box 1 0), (7, aI), (8, aB)]) rfl rfl <| w_ch hx1 rfl (fun hb4 h4 => ?_) (fun hb4 h4 => ?_)
  ·
   refine w_sr <| mV (v := .box 0 0) rfl <| o_p rfl (p_nc rfl) <| o_p rfl (p_fa tf78x0 rfl) <| o_p rfl (p_load (v := aI) tv3 rfl rfl rfl) <| o_p rfl (p_eql rfl rfl) <| sB rfl <| o_ek (fr' := [(0, .box 0 0), (3, .box 1 0), (4, aB)]) rfl rfl <| w_planT [.q 0, .q 1, .q 2, .q 3, .q 4, .q 5, .n 6 [1, 2, 3], .q 7, .q 8, .n 9 []] [(some 15, [0]), (some 16, [0]), (some 17, [3]), (some 18, [17]), (some 19, [15]), (some 20, [19]), (none, [20]), (some 21, [16]), (some 22, [21]), (none, [22, 18])] [0, 0, 0, 4, 1, 17, 49, 127, 255, 511] (by kernel_rfl) <| dq rfl rfl (p_move (v := .box 0 0) rfl) <| dq rfl rfl (p_move (v := .box 0 0) rfl) <| dq rfl rfl (p_fa tf29x0 rfl) ?_
   refine dq rfl rfl (p_load (v := aI) tv3 rfl rfl rfl) <| dq rfl rfl (p_nc rfl) <| dq rfl rfl (p_fa tf78x0 rfl) <| d_n rfl ?_ rfl
   refine o_store (v := aI) (us := [aI]) (cs := aIIIIIIIIISSIISLLSIIIIIIIILB) (σ' := [aIIIIIIIIISSIISLLSIIIIIIIILB, aIIIIIIISSIISLLSIIIIIIIIL]) rfl tv3 rfl rfl rfl rfl rfl rfl rfl rfl <| o_rc <| ⟨(rc_q (v := .box 0 0) rfl rfl (qv_p rfl (p_move (v := .box 0 0) rfl)) (rc_q (v := .box 1 0) rfl rfl (qv_p rfl (p_fa tf29x0 rfl)) (rc_q (v := aI) rfl rfl (qv_p rfl (p_load (v := aI) tv3 rfl rfl rfl)) rc_nil))), ?_⟩
   refine dq rfl rfl (p_nc rfl) <| dq rfl rfl (p_fa tf78x1 rfl) <| d_n rfl ?_ rfl
   refine o_store (v := aI) (us := [aI]) (cs := aIIIIIIIIISSIISLLSIIIIIIIILB) (σ' := [aIIIIIIIIISSIISLLSIIIIIIIILB, aIIIIIIISSIISLLSIIIIIIIIL]) rfl tv3 rfl rfl rfl rfl rfl rfl rfl rfl <| o_rc <| ⟨rc_nil, ?_⟩
   exact d_end (fr' := [(0, .box 0 0), (3, .box 1 0), (4, aB)]) rfl <| e_blk_n <| e_j _ (sy h4) (w_weak [] 2 rfl rfl rfl rfl ⟨lr, trivial⟩ (st_r rfl (st_r rfl st_nil)))
  ·
   refine w_sr <| o_p rfl (p_eql rfl rfl) <| sB rfl <| o_ek (fr' := [(0, .box 0 0), (3, .box 1 0), (7, aI), (23, aB)]) rfl rfl <| w_ch h4 rfl (fun hb5 h5 => ?_) (fun hb5 h5 => ?_)
   ·
    refine w_seqw <| w_planT [.q 0, .q 1, .q 2, .q 3, .q 4, .q 5, .q 6, .q 7, .q 8, .q 9, .q 10, .q 11, .q 12, .q 13, .n 14 []] [(some 25, [0]), (some 26, [25]), (some 27, [26]), (some 28, [27]), (some 29, [28]), (some 30, [29]), (some 31, [3, 30]), (some 32, [31, 30]), (some 33, [0, 30]), (some 34, [33, 30]), (some 35, [34, 30]), (some 36, [35, 30]), (some 37, [32, 36, 30]), (some 38, [30, 37]), (some 4, [38])] [0, 1, 3, 7, 15, 31, 63, 127, 63, 319, 831, 1855, 4095, 8191, 16383] (by kernel_rfl) <| dq rfl rfl (p_move (v := .box 0 0) rfl) <| dq rfl rfl (p_nc rfl) <| dq rfl rfl (p_fa tf78x0 rfl) <| dq rfl rfl (p_load (v := aI) tv3 rfl rfl rfl) <| dq rfl rfl (p_eql rfl rfl) <| dq rfl rfl (p_move (v := aB) rfl) <| d_g rfl rfl rfl (fun hc => qv_p rfl (p_fa tf29x4 rfl)) <| d_g rfl rfl rfl (fun hc => qv_p rfl (p_load (v := aI) tv3 (gx rfl hc) rfl rfl)) <| d_g rfl rfl rfl (fun hc => qv_p rfl (p_move (v := .box 0 0) rfl)) <| d_g rfl rfl rfl (fun hc => qv_p rfl (p_nc (gx rfl hc))) <| d_g rfl rfl rfl (fun hc => qv_p rfl (p_fa tf78x1 (gx rfl hc))) ?_
    refine d_g rfl rfl rfl (fun hc => qv_p rfl (p_load (v := aI) tv3 (gx rfl hc) rfl rfl)) <| d_g rfl rfl rfl (fun hc => qv_p rfl (p_eql (gx rfl hc) (gx rfl hc))) <| dq rfl rfl (p_picky rfl rfl rfl (fun e => keq e)) <| d_n rfl ?_ rfl
    refine sB rfl <| o_rc <| ⟨rc_nil, ?_⟩
    refine d_ek (fr' := [(0, .box 0 0), (3, .box 1 0), (4, aB)]) rfl rfl <| w_planT [.q 0, .q 1, .q 2, .q 3, .q 4, .q 5, .n 6 [1, 2, 3], .q 7, .q 8, .n 9 []] [(some 39, [0]), (some 40, [0]), (some 41, [3]), (some 42, [41]), (some 43, [39]), (some 44, [43]), (none, [44]), (some 45, [40]), (some 46, [45]), (none, [46, 42])] [0, 0, 0, 4, 1, 17, 49, 127, 255, 511] (by kernel_rfl) <| dq rfl rfl (p_move (v := .box 0 0) rfl) <| dq rfl rfl (p_move (v := .box 0 0) rfl) <| dq rfl rfl (p_fa tf29x0 rfl) <| dq rfl rfl (p_load (v := aI) tv3 rfl rfl rfl) <| dq rfl rfl (p_nc rfl) <| dq rfl rfl (p_fa tf78x0 rfl) <| d_n rfl ?_ rfl
    refine o_store (v := aI) (us := [aI]) (cs := aIIIIIIIIISSIISLLSIIIIIIIILB) (σ' := [aIIIIIIIIISSIISLLSIIIIIIIILB, aIIIIIIISSIISLLSIIIIIIIIL]) rfl tv3 rfl rfl rfl rfl rfl rfl rfl rfl <| o_rc <| ⟨(rc_q (v := .box 0 0) rfl rfl (qv_p rfl (p_move (v := .box 0 0) rfl)) (rc_q (v := .box 1 0) rfl rfl (qv_p rfl (p_fa tf29x0 rfl)) (rc_q (v := aI) rfl rfl (qv_p rfl (p_load (v := aI) tv3 rfl rfl rfl)) rc_nil))), ?_⟩
    refine dq rfl rfl (p_nc rfl) <| dq rfl rfl (p_fa tf78x1 rfl) <| d_n rfl ?_ rfl
    refine o_store (v := aI) (us := [aI]) (cs := aIIIIIIIIISSIISLLSIIIIIIIILB) (σ' := [aIIIIIIIIISSIISLLSIIIIIIIILB, aIIIIIIISSIISLLSIIIIIIIIL]) rfl tv3 rfl rfl rfl rfl rfl rfl rfl rfl <| o_rc <| ⟨rc_nil, ?_⟩
    exact d_end (fr' := [(0, .box 0 0), (3, .box 1 0), (4, aB)]) rfl <| e_blk_n <| e_j _ (sy h5) (w_weak [] 2 rfl rfl rfl rfl ⟨lr, trivial⟩ (st_r rfl (st_r rfl st_nil)))
   ·
    obtain ⟨x6, hx6, h7⟩ := bind_s h5
    refine w_join (fun j8 => x6 = j8) (fun (j8 : Bool) => ([(0, .box 0 0), (3, .box 1 0), (47, .c (.bool j8))] : Fr)) (fun (j8 : Bool) => ([[.c (.int .i64 p100v.task_), .c (.int .i64 p100v.ref_), .c (.int .i64 p100v.before_.ID), .c (.int .i64 p100v.before_.Kind), .c (.int .i64 p100v.before_.Time), .c (.int .i64 p100v.before_.Seq), .c (.int .i64 p100v.before_.Ref), .c (.int .i64 p100v.before_.N), .c (.int .i64 p100v.before_.Code), .c (.str p100v.before_.Name), .c (.str p100v.before_.Key), .c (.int .i64 p100v.before_.Data.Kind), .c (.int .i64 p100v.before_.Data.Int), .c (.str p100v.before_.Data.Text), .c (PV.ls 5 rowApiValue p100v.before_.Data.Items), .c (PV.ls 1 rowS p100v.before_.Data.Keys), .c (.str p100v.before_.Opts.Queue), .c (.int .i64 p100v.before_.Opts.ToStart), .c (.int .i64 p100v.before_.Opts.ToClose), .c (.int .i64 p100v.before_.Opts.Total), .c (.int .i64 p100v.before_.Opts.Beat), .c (.int .i64 p100v.before_.Opts.First), .c (.int .i64 p100v.before_.Opts.Coef), .c (.int .i64 p100v.before_.Opts.Most), .c (.int .i64 p100v.before_.Opts.Attempts), .c (PV.ls 1 rowS p100v.before_.Opts.Fatal), .c (.bool p100v.closed_)], [.c (.int .i64 p1e.ID), .c (.int .i64 p1e.Kind), .c (.int .i64 p1e.Time), .c (.int .i64 p1e.Seq), .c (.int .i64 p1e.Ref), .c (.int .i64 p1e.N), .c (.int .i64 p1e.Code), .c (.str p1e.Name), .c (.str p1e.Key), .c (.int .i64 p1e.Data.Kind), .c (.int .i64 p1e.Data.Int), .c (.str p1e.Data.Text), .c (PV.ls 5 rowApiValue p1e.Data.Items), .c (PV.ls 1 rowS p1e.Data.Keys), .c (.str p1e.Opts.Queue), .c (.int .i64 p1e.Opts.ToStart), .c (.int .i64 p1e.Opts.ToClose), .c (.int .i64 p1e.Opts.Total), .c (.int .i64 p1e.Opts.Beat), .c (.int .i64 p1e.Opts.First), .c (.int .i64 p1e.Opts.Coef), .c (.int .i64 p1e.Opts.Most), .c (.int .i64 p1e.Opts.Attempts), .c (PV.ls 1 rowS p1e.Opts.Fatal)]] : St)) ?_ ?_
    ·
     refine w_sr <| o_p rfl (p_eql rfl rfl) <| sB rfl <| o_ek (fr' := [(0, .box 0 0), (3, .box 1 0), (7, aI), (47, aB)]) rfl rfl <| w_ch hx6 rfl (fun hb9 h9 => ?_) (fun hb9 h9 => ?_)
     ·
      exact w_skip <| e_j _ (sy h9) (w_weak [] 2 rfl rfl rfl rfl ⟨lr, lr, lr, trivial⟩ (st_r rfl (st_r rfl st_nil)))
     ·
      refine w_sr <| o_p rfl (p_eql rfl rfl) <| sB rfl <| o_ek (fr' := [(0, .box 0 0), (3, .box 1 0), (7, aI), (47, aB)]) rfl rfl <| w_ch h9 rfl (fun hb10 h10 => ?_) (fun hb10 h10 => ?_)
      ·
       exact w_skip <| e_j _ (sy h10) (w_weak [] 2 rfl rfl rfl rfl ⟨lr, lr, lr, trivial⟩ (st_r rfl (st_r rfl st_nil)))
      ·
       exact w_region <| o_p rfl (p_eql rfl rfl) <| sB rfl <| o_end (fr' := [(0, .box 0 0), (3, .box 1 0), (7, aI), (47, aB)]) rfl <| e_j _ (sy h10) (w_weak [] 2 rfl rfl rfl rfl ⟨lr, lr, lr, trivial⟩ (st_r rfl (st_r rfl st_nil)))
    ·
     intro j8 hj11
     subst hj11
     refine w_ch h7 rfl (fun hb12 h12 => ?_) (fun hb12 h12 => ?_)
     ·
      refine w_seqw <| w_planT [.q 0, .q 1, .q 2, .q 3, .q 4, .q 5, .q 6, .q 7, .q 8, .q 9, .q 10, .q 11, .q 12, .q 13, .n 14 []] [(some 51, [0]), (some 52, [51]), (some 53, [52]), (some 54, [53]), (some 55, [54]), (some 56, [55]), (some 57, [3, 56]), (some 58, [57, 56]), (some 59, [0, 56]), (some 60, [59, 56]), (some 61, [60, 56]), (some 62, [61, 56]), (some 63, [58, 62, 56]), (some 64, [56, 63]), (some 4, [64])] [0, 1, 3, 7, 15, 31, 63, 127, 63, 319, 831, 1855, 4095, 8191, 16383] (by kernel_rfl) <| dq rfl rfl (p_move (v := .box 0 0) rfl) <| dq rfl rfl (p_nc rfl) <| dq rfl rfl (p_fa tf78x0 rfl) <| dq rfl rfl (p_load (v := aI) tv3 rfl rfl rfl) <| dq rfl rfl (p_eql rfl rfl) <| dq rfl rfl (p_move (v := aB) rfl) <| d_g rfl rfl rfl (fun hc => qv_p rfl (p_fa tf29x4 rfl)) <| d_g rfl rfl rfl (fun hc => qv_p rfl (p_load (v := aI) tv3 (gx rfl hc) rfl rfl)) <| d_g rfl rfl rfl (fun hc => qv_p rfl (p_move (v := .box 0 0) rfl)) <| d_g rfl rfl rfl (fun hc => qv_p rfl (p_nc (gx rfl hc))) <| d_g rfl rfl rfl (fun hc => qv_p rfl (p_fa tf78x1 (gx rfl hc))) ?_
      refine d_g rfl rfl rfl (fun hc => qv_p rfl (p_load (v := aI) tv3 (gx rfl hc) rfl rfl)) <| d_g rfl rfl rfl (fun hc => qv_p rfl (p_eql (gx rfl hc) (gx rfl hc))) <| dq rfl rfl (p_picky rfl rfl rfl (fun e => keq e)) <| d_n rfl ?_ rfl
      refine sB rfl <| o_rc <| ⟨rc_nil, ?_⟩
      exact d_ek (fr' := [(0, .box 0 0), (4, aB)]) rfl rfl <| w_region <| mV (v := .box 0 0) rfl <| o_p rfl (p_nc rfl) <| o_p rfl (p_fa tf78x0 rfl) <| o_store (v := aI) (us := [aI]) (cs := aIIIIIIIIISSIISLLSIIIIIIIILB) (σ' := [aIIIIIIIIISSIISLLSIIIIIIIILB, aIIIIIIISSIISLLSIIIIIIIIL]) rfl tv3 rfl rfl rfl rfl rfl rfl rfl rfl <| o_end (fr' := [(0, .box 0 0), (4, aB)]) rfl <| e_blk_n <| e_j _ (sy h12) (w_weak [] 2 rfl rfl rfl rfl ⟨lr, trivial⟩ (st_r rfl (st_r rfl st_nil)))
     ·
      refine w_sr <| sB rfl <| sB rfl <| o_ek (fr' := [(4, aB), (5, aB)]) rfl rfl <| w_ret <| e_blk_r <| e_seq_r ?_
      have h13 := un_done h12 h2
      obtain rfl := sy h13
      exact e_ret (rs' := [.tmp 4, .tmp 5]) rfl <| r_tmp (v := aB) rfl <| r_tmp (v := aB) rfl <| r_nil <| fin_gen [] rfl rfl rfl (le_tupp rfl ⟨lr, lr, trivial⟩) (st_c ⟨rfl, rfl, rfl, rfl, rfl, rfl, rfl, rfl, rfl, rfl, rfl, rfl, rfl, rfl, rfl, rfl, rfl, rfl, rfl, rfl, rfl, rfl, rfl, rfl, rfl, rfl, rfl, trivial⟩ st_nil)
 ·
  intro j3 hj15
  have h15 := un_go hj15 h2
  refine w_sr <| mB rfl <| sB rfl <| sB rfl <| o_ek (fr' := [(4, aB), (5, aB)]) rfl rfl <| w_ret ?_
  obtain rfl := sy h15
  exact e_ret (rs' := [.tmp 4, .tmp 5]) rfl <| r_tmp (v := aB) rfl <| r_tmp (v := aB) rfl <| r_nil <| fin_gen [] rfl rfl rfl (le_tupp rfl ⟨lr, lr, trivial⟩) (st_c ⟨rfl, rfl, rfl, rfl, rfl, rfl, rfl, rfl, rfl, rfl, rfl, rfl, rfl, rfl, rfl, rfl, rfl, rfl, rfl, rfl, rfl, rfl, rfl, rfl, rfl, rfl, rfl, trivial⟩ st_nil)
noncomputable def history_checker_allows_v2 (p1at : Int) (p2e : ApiEvent) (p100v : HistoryChecker) : Option (Bool × HistoryChecker) :=
 ((cond p100v.closed_ (some p100v.closed_) (cond (!((decide (p1at = (0 : Int))) == (decide (p2e.Kind = (1 : Int))))) (some (!((decide (p1at = (0 : Int))) == (decide (p2e.Kind = (1 : Int)))))) (some (cond (decide (p1at = (1 : Int))) (!decide (p2e.Kind = (2 : Int))) false)))) : Option Bool).bind fun (x1 : Bool) => (cond x1 (some (false, p100v)) ((gd ((cond (decide ((0 : Int) < p1at)) (decide (p100v.before_.Kind = (8 : Int))) false) == true) (history_closesActivity p2e.Kind)).bind fun (x9 : Bool) => cond (cond (cond (decide ((0 : Int) < p1at)) (decide (p100v.before_.Kind = (8 : Int))) false) (cond (!x9) true (!decide (p2e.Seq = p100v.before_.Seq))) false) (some (false, p100v)) ((history_checker_step_v2 p2e p100v).bind fun (x13 : (Bool × Bool × HistoryChecker)) => cond x13.2.1 (some (x13.1, x13.2.2)) (cond (cond (cond (decide (p100v.task_ = (2 : Int))) (!decide (p2e.Kind = (33 : Int))) false) (!decide (p2e.Kind = (34 : Int))) false) (some (false, x13.2.2)) ((event_IsCommand p2e.Kind).bind fun (x19 : Bool) => cond x19 ((gd ((decide (p100v.before_.Kind = (4 : Int))) == false) (event_IsCommand p100v.before_.Kind)).bind fun (x22 : Bool) => some ((cond (decide (p100v.before_.Kind = (4 : Int))) true x22), x13.2.2)) (some (true, x13.2.2)))))))
theorem w_history_checker_allows_v2 {p1at : Int} {p2e : ApiEvent} {p100v : HistoryChecker} {res : (Bool × HistoryChecker)} (h : history_checker_allows_v2 p1at p2e p100v = some res) : ACalls Tryz.prog 55 [.box 0 0, .c (.int .i64 p1at), .agg (AV.cs (rowApiEvent p2e))] [AV.cs (rowHistoryChecker p100v)] (.c (.bool res.1)) [AV.cs (rowHistoryChecker res.2)] := by
 unfold history_checker_allows_v2 at h
 refine acalls (fn := Tryz.f55) [0, 1, 2, 5, 6, 7, 8, 9, 10, 15, 33, 65, 68, 80] (by kernel_rfl) Tryz.func55 rfl (by kernel_rfl) (by kernel_rfl) <| w_sr <| o_box (v := .agg aIIIIIIISSIISLLSIIIIIIIIL) (n := 1) (cs := aIIIIIIISSIISLLSIIIIIIIIL) (σ' := [aIIIIIIIIISSIISLLSIIIIIIIILB, aIIIIIIISSIISLLSIIIIIIIIL]) rfl rfl rfl rfl rfl <| sB rfl <| o_ek (fr' := [(0, .box 0 0), (1, aI), (5, .box 1 0)]) rfl rfl <| w_sr <| mV (v := .box 0 0) rfl <| o_p rfl (p_nc rfl) <| o_p rfl (p_fa tf78x2 rfl) <| o_p rfl (p_loads (us := aIIIIIIISSIISLLSIIIIIIIIL) tv29 rfl rfl rfl rfl) <| o_alloc (n := 2) (cs := [aI, aI, aI, aI, aI, aI, aI, aS, aS, aI, aI, aS, AV.nil, AV.nil, aS, aI, aI, aI, aI, aI, aI, aI, aI, AV.nil]) (σ' := [aIIIIIIIIISSIISLLSIIIIIIIILB, aIIIIIIISSIISLLSIIIIIIIIL, [aI, aI, aI, aI, aI, aI, aI, aS, aS, aI, aI, aS, AV.nil, AV.nil, aS, aI, aI, aI, aI, aI, aI, aI, aI, AV.nil]]) tz29 rfl rfl rfl ?_
 refine o_store (v := .agg aIIIIIIISSIISLLSIIIIIIIIL) (us := aIIIIIIISSIISLLSIIIIIIIIL) (cs := [aI, aI, aI, aI, aI, aI, aI, aS, aS, aI, aI, aS, AV.nil, AV.nil, aS, aI, aI, aI, aI, aI, aI, aI, aI, AV.nil]) (σ' := [aIIIIIIIIISSIISLLSIIIIIIIILB, aIIIIIIISSIISLLSIIIIIIIIL, aIIIIIIISSIISLLSIIIIIIIIL]) rfl tv29 rfl rfl rfl rfl rfl rfl rfl rfl <| o_ek (fr' := [(0, .box 0 0), (1, aI), (5, .box 1 0), (7, .box 2 0)]) rfl rfl <| w_seqw <| w_block ?_
 obtain ⟨x1, hx1, h2⟩ := bind_s h
 refine w_join (fun j3 => x1 = j3) (fun (j3 : Bool) => ([(0, .box 0 0), (1, .c (.int .i64 p1at)), (5, .box 1 0), (7, .box 2 0), (15, .c (.bool j3))] : Fr)) (fun (j3 : Bool) => ([[.c (.int .i64 p100v.task_), .c (.int .i64 p100v.ref_), .c (.int .i64 p100v.before_.ID), .c (.int .i64 p100v.before_.Kind), .c (.int .i64 p100v.before_.Time), .c (.int .i64 p100v.before_.Seq), .c (.int .i64 p100v.before_.Ref), .c (.int .i64 p100v.before_.N), .c (.int .i64 p100v.before_.Code), .c (.str p100v.before_.Name), .c (.str p100v.before_.Key), .c (.int .i64 p100v.before_.Data.Kind), .c (.int .i64 p100v.before_.Data.Int), .c (.str p100v.before_.Data.Text), .c (PV.ls 5 rowApiValue p100v.before_.Data.Items), .c (PV.ls 1 rowS p100v.before_.Data.Keys), .c (.str p100v.before_.Opts.Queue), .c (.int .i64 p100v.before_.Opts.ToStart), .c (.int .i64 p100v.before_.Opts.ToClose), .c (.int .i64 p100v.before_.Opts.Total), .c (.int .i64 p100v.before_.Opts.Beat), .c (.int .i64 p100v.before_.Opts.First), .c (.int .i64 p100v.before_.Opts.Coef), .c (.int .i64 p100v.before_.Opts.Most), .c (.int .i64 p100v.before_.Opts.Attempts), .c (PV.ls 1 rowS p100v.before_.Opts.Fatal), .c (.bool p100v.closed_)], [.c (.int .i64 p2e.ID), .c (.int .i64 p2e.Kind), .c (.int .i64 p2e.Time), .c (.int .i64 p2e.Seq), .c (.int .i64 p2e.Ref), .c (.int .i64 p2e.N), .c (.int .i64 p2e.Code), .c (.str p2e.Name), .c (.str p2e.Key), .c (.int .i64 p2e.Data.Kind), .c (.int .i64 p2e.Data.Int), .c (.str p2e.Data.Text), .c (PV.ls 5 rowApiValue p2e.Data.Items), .c (PV.ls 1 rowS p2e.Data.Keys), .c (.str p2e.Opts.Queue), .c (.int .i64 p2e.Opts.ToStart), .c (.int .i64 p2e.Opts.ToClose), .c (.int .i64 p2e.Opts.Total), .c (.int .i64 p2e.Opts.Beat), .c (.int .i64 p2e.Opts.First), .c (.int .i64 p2e.Opts.Coef), .c (.int .i64 p2e.Opts.Most), .c (.int .i64 p2e.Opts.Attempts), .c (PV.ls 1 rowS p2e.Opts.Fatal)], [.c (.int .i64 p100v.before_.ID), .c (.int .i64 p100v.before_.Kind), .c (.int .i64 p100v.before_.Time), .c (.int .i64 p100v.before_.Seq), .c (.int .i64 p100v.before_.Ref), .c (.int .i64 p100v.before_.N), .c (.int .i64 p100v.before_.Code), .c (.str p100v.before_.Name), .c (.str p100v.before_.Key), .c (.int .i64 p100v.before_.Data.Kind), .c (.int .i64 p100v.before_.Data.Int), .c (.str p100v.before_.Data.Text), .c (PV.ls 5 rowApiValue p100v.before_.Data.Items), .c (PV.ls 1 rowS p100v.before_.Data.Keys), .c (.str p100v.before_.Opts.Queue), .c (.int .i64 p100v.before_.Opts.ToStart), .c (.int .i64 p100v.before_.Opts.ToClose), .c (.int .i64 p100v.before_.Opts.Total), .c (.int .i64 p100v.before_.Opts.Beat), .c (.int .i64 p100v.before_.Opts.First), .c (.int .i64 p100v.before_.Opts.Coef), .c (.int .i64 p100v.before_.Opts.Most), .c (.int .i64 p100v.before_.Opts.Attempts), .c (PV.ls 1 rowS p100v.before_.Opts.Fatal)]] : St)) ?_ ?_
 ·
  refine w_sr <| mV (v := .box 0 0) rfl <| o_p rfl (p_nc rfl) <| o_p rfl (p_fa tf78x3 rfl) <| o_p rfl (p_load (v := aB) tv4 rfl rfl rfl) <| sB rfl <| o_ek (fr' := [(0, .box 0 0), (1, aI), (5, .box 1 0), (7, .box 2 0), (15, aB)]) rfl rfl <| w_ch hx1 rfl (fun hb4 h4 => ?_) (fun hb4 h4 => ?_)
  ·
   exact w_skip <| e_j _ (sy h4) (w_weak [] 3 rfl rfl rfl rfl ⟨lr, lr, lr, lr, lr, trivial⟩ (st_r rfl (st_r rfl (st_r rfl st_nil))))
  ·
   refine w_sr <| mI rfl <| o_p rfl (p_eql rfl rfl) <| o_p rfl (p_fa tf29x1 rfl) <| o_p rfl (p_load (v := aI) tv3 rfl rfl rfl) <| o_p rfl (p_eql rfl rfl) <| o_p rfl (p_bneq ti4 rfl rfl) <| sB rfl <| o_ek (fr' := [(0, .box 0 0), (1, aI), (5, .box 1 0), (7, .box 2 0), (15, aB)]) rfl rfl <| w_ch h4 rfl (fun hb5 h5 => ?_) (fun hb5 h5 => ?_)
   ·
    exact w_skip <| e_j _ (sy h5) (w_weak [] 3 rfl rfl rfl rfl ⟨lr, lr, lr, lr, lr, trivial⟩ (st_r rfl (st_r rfl (st_r rfl st_nil))))
   ·
    exact w_region <| mI rfl <| o_p rfl (p_eql rfl rfl) <| mB rfl <| og rfl rfl rfl (fun hc => (p_fa tf29x1 rfl)) <| og rfl rfl rfl (fun hc => (p_load (v := aI) tv3 (gx rfl hc) rfl rfl)) <| og rfl rfl rfl (fun hc => (p_neq (gx rfl hc) rfl)) <| o_p rfl (p_picky rfl rfl rfl (fun e => keq e)) <| sB rfl <| o_end (fr' := [(0, .box 0 0), (1, aI), (5, .box 1 0), (7, .box 2 0), (15, aB)]) rfl <| e_j _ (sy h5) (w_weak [] 3 rfl rfl rfl rfl ⟨lr, lr, lr, lr, lr, trivial⟩ (st_r rfl (st_r rfl (st_r rfl st_nil))))
 ·
  intro j3 hj6
  subst hj6
  refine w_ch h2 rfl (fun hb7 h7 => ?_) (fun hb7 h7 => ?_)
  ·
   refine w_sr <| sB rfl <| o_ek (fr' := [(6, aB)]) rfl rfl <| w_ret <| e_blk_r <| e_seq_r ?_
   obtain rfl := sy h7
   exact e_ret (rs' := [.tmp 6]) rfl <| r_tmp (v := aB) rfl <| r_nil <| fin_gen [] rfl rfl rfl lr (st_c ⟨rfl, rfl, rfl, rfl, rfl, rfl, rfl, rfl, rfl, rfl, rfl, rfl, rfl, rfl, rfl, rfl, rfl, rfl, rfl, rfl, rfl, rfl, rfl, rfl, rfl, rfl, rfl, trivial⟩ st_nil)
  ·
   refine w_sr <| mI rfl <| o_p rfl (p_gtr rfl rfl) <| mB rfl <| og rfl rfl rfl (fun hc => (p_fa tf29x1 rfl)) <| og rfl rfl rfl (fun hc => (p_load (v := aI) tv3 (gx rfl hc) rfl rfl)) <| og rfl rfl rfl (fun hc => (p_eql (gx rfl hc) rfl)) <| o_p rfl (p_picky rfl rfl rfl (fun e => keq e)) <| mB rfl <| og rfl rfl rfl (fun hc => (p_fa tf29x1 rfl)) <| og rfl rfl rfl (fun hc => (p_load (v := aI) tv3 (gx rfl hc) rfl rfl)) ?_
   obtain ⟨x9, hx9, h10⟩ := bind_s h7
   refine o_g rfl rfl (fun hc => ov_call (v := aB) rfl (w_history_closesActivity (gd_some hx9 hc)) ⟨(le_gv (gx rfl hc) lr), trivial⟩ (ok_eq (by repeat (first | exact ok_nil | refine ok_cons rfl ?_ | refine ok_cons (dgv rfl) ?_ | refine ok_cons dar ?_))) rfl rfl) ?_
   refine og rfl rfl rfl (fun hc => (p_not (gx rfl hc))) <| og rfl rfl rfl (fun hc => (p_move (v := aB) (gx rfl hc))) <| o_gg rfl rfl (fun hc => ov_p rfl (p_fa tf29x3 rfl)) <| o_gg rfl rfl (fun hc => ov_p rfl (p_load (v := aI) tv3 (gx rfl hc) rfl rfl)) <| o_gg rfl rfl (fun hc => ov_p rfl (p_fa tf29x3 rfl)) <| o_gg rfl rfl (fun hc => ov_p rfl (p_load (v := aI) tv3 (gx rfl hc) rfl rfl)) <| o_gg rfl rfl (fun hc => ov_p rfl (p_neq (gx rfl hc) (gx rfl hc))) <| og rfl rfl rfl (fun hc => (p_pickz (gx rfl hc) rfl rfl (fun e => band hc (keq e)))) <| o_p rfl (p_picky rfl rfl rfl (fun e => keq e)) <| sB rfl <| o_ek (fr' := [(0, .box 0 0), (5, .box 1 0), (7, .box 2 0), (33, aB)]) rfl rfl <| w_ch h10 rfl (fun hb11 h11 => ?_) (fun hb11 h11 => ?_)
   ·
    refine w_sr <| sB rfl <| o_ek (fr' := [(6, aB)]) rfl rfl <| w_ret <| e_blk_r <| e_seq_r ?_
    obtain rfl := sy h11
    exact e_ret (rs' := [.tmp 6]) rfl <| r_tmp (v := aB) rfl <| r_nil <| fin_gen [] rfl rfl rfl lr (st_c ⟨rfl, rfl, rfl, rfl, rfl, rfl, rfl, rfl, rfl, rfl, rfl, rfl, rfl, rfl, rfl, rfl, rfl, rfl, rfl, rfl, rfl, rfl, rfl, rfl, rfl, rfl, rfl, trivial⟩ st_nil)
   ·
    refine w_skip <| e_blk_n <| e_kw <| w_sr <| mV (v := .box 0 0) rfl <| o_p rfl (p_nc rfl) <| o_p rfl (p_fa tf78x0 rfl) <| o_p rfl (p_load (v := aI) tv3 rfl rfl rfl) <| o_p rfl (p_eql rfl rfl) <| sB rfl <| o_ek (fr' := [(0, .box 0 0), (5, .box 1 0), (7, .box 2 0), (8, aB)]) rfl rfl <| w_seqw ?_
    refine w_region <| mV (v := .box 0 0) rfl <| o_p rfl (p_loads (us := aIIIIIIISSIISLLSIIIIIIIIL) tv29 rfl rfl rfl rfl) ?_
    obtain ⟨x13, hx13, h14⟩ := bind_s h11
    refine o_call (v := .tup [aB, aB]) (σ' := [aIIIIIIIIISSIISLLSIIIIIIIILB, aIIIIIIISSIISLLSIIIIIIIIL, aIIIIIIISSIISLLSIIIIIIIIL]) [0] rfl (w_history_checker_step_v2 hx13) rfl rfl ⟨lr, (le_aggc rfl ⟨rfl, rfl, rfl, rfl, rfl, rfl, rfl, rfl, rfl, rfl, rfl, rfl, rfl, rfl, rfl, rfl, rfl, rfl, rfl, rfl, rfl, rfl, rfl, rfl, trivial⟩), trivial⟩ (st_c ⟨rfl, rfl, rfl, rfl, rfl, rfl, rfl, rfl, rfl, rfl, rfl, rfl, rfl, rfl, rfl, rfl, rfl, rfl, rfl, rfl, rfl, rfl, rfl, rfl, rfl, rfl, rfl, trivial⟩ st_nil) rfl rfl rfl <| mV (v := .tup [aB, aB]) rfl <| o_p rfl (p_ex (v := aB) rfl rfl) <| o_p rfl (p_ex (v := aB) rfl rfl) <| sB rfl <| sB rfl <| o_ek (fr' := [(5, .box 1 0), (7, .box 2 0), (8, aB), (9, aB), (10, aB)]) rfl rfl <| w_seqw <| w_block <| w_sr <| mB rfl <| sB rfl ?_
    refine o_ek (fr' := [(5, .box 1 0), (7, .box 2 0), (8, aB), (9, aB), (65, aB)]) rfl rfl <| w_ch h14 rfl (fun hb15 h15 => ?_) (fun hb15 h15 => ?_)
    ·
     refine w_sr <| mB rfl <| sB rfl <| o_ek (fr' := [(6, aB)]) rfl rfl <| w_ret <| e_blk_r <| e_seq_r ?_
     obtain rfl := sy h15
     exact e_ret (rs' := [.tmp 6]) rfl <| r_tmp (v := aB) rfl <| r_nil <| fin_gen [] rfl rfl rfl lr (st_c ⟨rfl, rfl, rfl, rfl, rfl, rfl, rfl, rfl, rfl, rfl, rfl, rfl, rfl, rfl, rfl, rfl, rfl, rfl, rfl, rfl, rfl, rfl, rfl, rfl, rfl, rfl, rfl, trivial⟩ st_nil)
    ·
     refine w_sr <| mB rfl <| mB rfl <| og rfl rfl rfl (fun hc => (p_fa tf29x1 rfl)) <| og rfl rfl rfl (fun hc => (p_load (v := aI) tv3 (gx rfl hc) rfl rfl)) <| og rfl rfl rfl (fun hc => (p_neq (gx rfl hc) rfl)) <| o_p rfl (p_picky rfl rfl rfl (fun e => keq e)) <| mB rfl <| og rfl rfl rfl (fun hc => (p_fa tf29x1 rfl)) <| og rfl rfl rfl (fun hc => (p_load (v := aI) tv3 (gx rfl hc) rfl rfl)) <| og rfl rfl rfl (fun hc => (p_neq (gx rfl hc) rfl)) <| o_p rfl (p_picky rfl rfl rfl (fun e => keq e)) ?_
     refine sB rfl <| o_ek (fr' := [(5, .box 1 0), (7, .box 2 0), (68, aB)]) rfl rfl <| w_ch h15 rfl (fun hb17 h17 => ?_) (fun hb17 h17 => ?_)
     ·
      refine w_sr <| sB rfl <| o_ek (fr' := [(6, aB)]) rfl rfl <| w_ret <| e_blk_r <| e_seq_r ?_
      obtain rfl := sy h17
      exact e_ret (rs' := [.tmp 6]) rfl <| r_tmp (v := aB) rfl <| r_nil <| fin_gen [] rfl rfl rfl lr (st_c ⟨rfl, rfl, rfl, rfl, rfl, rfl, rfl, rfl, rfl, rfl, rfl, rfl, rfl, rfl, rfl, rfl, rfl, rfl, rfl, rfl, rfl, rfl, rfl, rfl, rfl, rfl, rfl, trivial⟩ st_nil)
     ·
      refine w_sr <| o_p rfl (p_fa tf29x1 rfl) <| o_p rfl (p_load (v := aI) tv3 rfl rfl rfl) ?_
      obtain ⟨x19, hx19, h20⟩ := bind_s h17
      refine o_v (ov_call (v := aB) rfl (w_event_IsCommand hx19) ⟨lr, trivial⟩ rfl rfl rfl) <| sB rfl <| o_ek (fr' := [(7, .box 2 0), (80, aB)]) rfl rfl <| w_ch h20 rfl (fun hb21 h21 => ?_) (fun hb21 h21 => ?_)
      ·
       refine w_sr <| o_p rfl (p_fa tf29x1 rfl) <| o_p rfl (p_load (v := aI) tv3 rfl rfl rfl) <| o_p rfl (p_eql rfl rfl) <| mB rfl <| og rfl rfl rfl (fun hc => (p_fa tf29x1 rfl)) <| og rfl rfl rfl (fun hc => (p_load (v := aI) tv3 (gx rfl hc) rfl rfl)) ?_
       obtain ⟨x22, hx22, h23⟩ := bind_s h21
       refine o_g rfl rfl (fun hc => ov_call (v := aB) rfl (w_event_IsCommand (gd_some hx22 hc)) ⟨(le_gv (gx rfl hc) lr), trivial⟩ (ok_eq (by repeat (first | exact ok_nil | refine ok_cons rfl ?_ | refine ok_cons (dgv rfl) ?_ | refine ok_cons dar ?_))) rfl rfl) ?_
       refine o_p rfl (p_pickz rfl rfl rfl (fun e => keq e)) <| sB rfl <| o_ek (fr' := [(6, aB)]) rfl rfl <| w_ret <| e_blk_r <| e_seq_r ?_
       obtain rfl := sy h23
       exact e_ret (rs' := [.tmp 6]) rfl <| r_tmp (v := aB) rfl <| r_nil <| fin_gen [] rfl rfl rfl lr (st_c ⟨rfl, rfl, rfl, rfl, rfl, rfl, rfl, rfl, rfl, rfl, rfl, rfl, rfl, rfl, rfl, rfl, rfl, rfl, rfl, rfl, rfl, rfl, rfl, rfl, rfl, rfl, rfl, trivial⟩ st_nil)
      ·
       refine w_skip <| e_blk_n <| e_kw <| w_sr <| sB rfl <| o_ek (fr' := [(6, aB)]) rfl rfl <| w_ret ?_
       obtain rfl := sy h21
       exact e_ret (rs' := [.tmp 6]) rfl <| r_tmp (v := aB) rfl <| r_nil <| fin_gen [] rfl rfl rfl lr (st_c ⟨rfl, rfl, rfl, rfl, rfl, rfl, rfl, rfl, rfl, rfl, rfl, rfl, rfl, rfl, rfl, rfl, rfl, rfl, rfl, rfl, rfl, rfl, rfl, rfl, rfl, rfl, rfl, trivial⟩ st_nil)
noncomputable def event_Status (p0kind : Int) : Option (Int × Bool) :=
 cond (decide (p0kind = (30 : Int))) (some ((1 : Int), true)) (cond (decide (p0kind = (31 : Int))) (some ((2 : Int), true)) (cond (decide (p0kind = (32 : Int))) (some ((3 : Int), true)) (cond (decide (p0kind = (33 : Int))) (some ((4 : Int), true)) (cond (decide (p0kind = (34 : Int))) (some ((5 : Int), true)) (cond (decide (p0kind = (35 : Int))) (some ((6 : Int), true)) (some ((0 : Int), false)))))))
theorem w_event_Status {p0kind : Int} {res : (Int × Bool)} (h : event_Status p0kind = some res) : ACalls Tryz.prog 44 [.c (.int .i64 p0kind)] [] (.tup [.c (.int .i64 res.1), .c (.bool res.2)]) [] := by
 unfold event_Status at h
 refine acalls (fn := Tryz.f44) [0, 2, 3, 4, 5, 7, 9, 11, 13, 15] (by kernel_rfl) Tryz.func44 rfl (by kernel_rfl) (by kernel_rfl) <| w_sr <| sI rfl <| sB rfl <| o_ek (fr' := [(0, aI)]) rfl rfl <| w_seqw <| w_sr <| mI rfl <| o_ek (fr' := [(4, aI)]) rfl rfl <| w_block <| w_seqw ?_
 refine w_region <| o_p rfl (p_eql rfl rfl) <| sB rfl <| o_ek (fr' := [(4, aI), (5, aB)]) rfl rfl <| w_ch h rfl (fun hb1 h1 => ?_) (fun hb1 h1 => ?_)
 ·
  refine w_sr <| sI rfl <| sB rfl <| o_ek (fr' := [(2, aI), (3, aB)]) rfl rfl <| w_ret <| e_blk_r <| e_seq_r ?_
  obtain rfl := sy h1
  exact e_ret (rs' := [.tmp 2, .tmp 3]) rfl <| r_tmp (v := aI) rfl <| r_tmp (v := aB) rfl <| r_nil <| fin_gen [] rfl rfl rfl (le_tupp rfl ⟨lr, lr, trivial⟩) st_nil
 ·
  refine w_sr <| o_p rfl (p_eql rfl rfl) <| sB rfl <| o_ek (fr' := [(4, aI), (7, aB)]) rfl rfl <| w_ch h1 rfl (fun hb3 h3 => ?_) (fun hb3 h3 => ?_)
  ·
   refine w_sr <| sI rfl <| sB rfl <| o_ek (fr' := [(2, aI), (3, aB)]) rfl rfl <| w_ret <| e_blk_r <| e_seq_r ?_
   obtain rfl := sy h3
   exact e_ret (rs' := [.tmp 2, .tmp 3]) rfl <| r_tmp (v := aI) rfl <| r_tmp (v := aB) rfl <| r_nil <| fin_gen [] rfl rfl rfl (le_tupp rfl ⟨lr, lr, trivial⟩) st_nil
  ·
   refine w_sr <| o_p rfl (p_eql rfl rfl) <| sB rfl <| o_ek (fr' := [(4, aI), (9, aB)]) rfl rfl <| w_ch h3 rfl (fun hb5 h5 => ?_) (fun hb5 h5 => ?_)
   ·
    refine w_sr <| sI rfl <| sB rfl <| o_ek (fr' := [(2, aI), (3, aB)]) rfl rfl <| w_ret <| e_blk_r <| e_seq_r ?_
    obtain rfl := sy h5
    exact e_ret (rs' := [.tmp 2, .tmp 3]) rfl <| r_tmp (v := aI) rfl <| r_tmp (v := aB) rfl <| r_nil <| fin_gen [] rfl rfl rfl (le_tupp rfl ⟨lr, lr, trivial⟩) st_nil
   ·
    refine w_sr <| o_p rfl (p_eql rfl rfl) <| sB rfl <| o_ek (fr' := [(4, aI), (11, aB)]) rfl rfl <| w_ch h5 rfl (fun hb7 h7 => ?_) (fun hb7 h7 => ?_)
    ·
     refine w_sr <| sI rfl <| sB rfl <| o_ek (fr' := [(2, aI), (3, aB)]) rfl rfl <| w_ret <| e_blk_r <| e_seq_r ?_
     obtain rfl := sy h7
     exact e_ret (rs' := [.tmp 2, .tmp 3]) rfl <| r_tmp (v := aI) rfl <| r_tmp (v := aB) rfl <| r_nil <| fin_gen [] rfl rfl rfl (le_tupp rfl ⟨lr, lr, trivial⟩) st_nil
    ·
     refine w_sr <| o_p rfl (p_eql rfl rfl) <| sB rfl <| o_ek (fr' := [(4, aI), (13, aB)]) rfl rfl <| w_ch h7 rfl (fun hb9 h9 => ?_) (fun hb9 h9 => ?_)
     ·
      refine w_sr <| sI rfl <| sB rfl <| o_ek (fr' := [(2, aI), (3, aB)]) rfl rfl <| w_ret <| e_blk_r <| e_seq_r ?_
      obtain rfl := sy h9
      exact e_ret (rs' := [.tmp 2, .tmp 3]) rfl <| r_tmp (v := aI) rfl <| r_tmp (v := aB) rfl <| r_nil <| fin_gen [] rfl rfl rfl (le_tupp rfl ⟨lr, lr, trivial⟩) st_nil
     ·
      refine w_sr <| o_p rfl (p_eql rfl rfl) <| sB rfl <| o_ek (fr' := [(15, aB)]) rfl rfl <| w_ch h9 rfl (fun hb11 h11 => ?_) (fun hb11 h11 => ?_)
      ·
       refine w_sr <| sI rfl <| sB rfl <| o_ek (fr' := [(2, aI), (3, aB)]) rfl rfl <| w_ret <| e_blk_r <| e_seq_r ?_
       obtain rfl := sy h11
       exact e_ret (rs' := [.tmp 2, .tmp 3]) rfl <| r_tmp (v := aI) rfl <| r_tmp (v := aB) rfl <| r_nil <| fin_gen [] rfl rfl rfl (le_tupp rfl ⟨lr, lr, trivial⟩) st_nil
      ·
       refine w_skip <| e_blk_n <| e_kw <| w_sr <| sI rfl <| sB rfl <| o_ek (fr' := [(2, aI), (3, aB)]) rfl rfl <| w_ret ?_
       obtain rfl := sy h11
       exact e_ret (rs' := [.tmp 2, .tmp 3]) rfl <| r_tmp (v := aI) rfl <| r_tmp (v := aB) rfl <| r_nil <| fin_gen [] rfl rfl rfl (le_tupp rfl ⟨lr, lr, trivial⟩) st_nil
noncomputable def event_Closes (p0kind : Int) : Option Bool :=
 (event_Status p0kind).bind fun (x1 : (Int × Bool)) => some x1.2
theorem w_event_Closes {p0kind : Int} {res : Bool} (h : event_Closes p0kind = some res) : ACalls Tryz.prog 56 [.c (.int .i64 p0kind)] [] (.c (.bool res)) [] := by
 unfold event_Closes at h
 refine acalls (fn := Tryz.f56) [0, 2, 4] (by kernel_rfl) Tryz.func56 rfl (by kernel_rfl) (by kernel_rfl) <| w_sr <| sB rfl <| o_ek (fr' := [(0, aI)]) rfl rfl <| w_sr <| mI rfl ?_
 obtain ⟨x1, hx1, h2⟩ := bind_s h
 refine o_v (ov_call (v := .tup [aI, aB]) rfl (w_event_Status hx1) ⟨lr, trivial⟩ rfl rfl rfl) <| mV (v := .tup [aI, aB]) rfl <| o_p rfl (p_ex (v := aI) rfl rfl) <| o_p rfl (p_ex (v := aB) rfl rfl) <| sI rfl <| sB rfl <| o_ek (fr' := [(4, aB)]) rfl rfl <| w_sr <| mB rfl <| sB rfl <| o_ek (fr' := [(2, aB)]) rfl rfl <| w_ret ?_
 obtain rfl := sy h2
 exact e_ret (rs' := [.tmp 2]) rfl <| r_tmp (v := aB) rfl <| r_nil <| fin_gen [] rfl rfl rfl lr st_nil
noncomputable def event_within (p0n : Int) (p1low : Int) (p2high : Int) : Option Bool :=
 some (cond (decide (p1low ≤ p0n)) (decide (p0n ≤ p2high)) false)
theorem w_event_within {p0n : Int} {p1low : Int} {p2high : Int} {res : Bool} (h : event_within p0n p1low p2high = some res) : ACalls Tryz.prog 27 [.c (.int .i64 p0n), .c (.int .i64 p1low), .c (.int .i64 p2high)] [] (.c (.bool res)) [] := by
 unfold event_within at h
 refine acalls (fn := Tryz.f27) [0, 1, 2, 6] (by kernel_rfl) Tryz.func27 rfl (by kernel_rfl) (by kernel_rfl) <| w_sr <| sB rfl <| o_ek (fr' := [(0, aI), (1, aI), (2, aI)]) rfl rfl <| w_sr <| mI rfl <| mI rfl <| o_p rfl (p_geq rfl rfl) <| mB rfl <| og rfl rfl rfl (fun hc => (p_move (v := aI) rfl)) <| og rfl rfl rfl (fun hc => (p_move (v := aI) rfl)) ?_
 refine og rfl rfl rfl (fun hc => (p_leq (gx rfl hc) (gx rfl hc))) <| o_p rfl (p_picky rfl rfl rfl (fun e => keq e)) <| sB rfl <| o_ek (fr' := [(6, aB)]) rfl rfl <| w_ret ?_
 obtain rfl := sy h
 exact e_ret (rs' := [.tmp 6]) rfl <| r_tmp (v := aB) rfl <| r_nil <| fin_gen [] rfl rfl rfl lr st_nil
end Go.Proofs.YtngcjjhbimanlaaGreatDoor

import Derived.Test.YtmbdbdhdcbdcpaaGreatDoorGATy
import Derived.Test.YtmbdbdhdcbdcpaaGreatDoorGAF0
import Derived.Test.YtmbdbdhdcbdcpaaGreatDoorGAF3
namespace Go.Proofs.YtmbdbdhdcbdcpaaGreatDoor
open Go Abs
set_option maxRecDepth 100000
set_option linter.unusedVariables false
set_option linter.unusedSimpArgs false
noncomputable def event_Closes (p0kind:Int):Option Bool :=
 (event_Status p0kind).bind fun x1=>some x1.2
theorem w_event_Closes {p0kind:Int}{res:Bool} (h:event_Closes p0kind=some res):ACalls Tryz.prog 19 [.c (.int .i64 p0kind)] [] (.c (.bool res)) []:=by
 unfold event_Closes at h
 refine acalls (fn:=Tryz.f19) [0,2,4] (by kernel_rfl) Tryz.func19 r (by kernel_rfl) (by kernel_rfl)<|w_sr<|sB r<|o_ek (fr':=[(0,aI)]) r r<|w_sr<|mI r ?_
 obtain ⟨x1,hx1,h2⟩:=bind_s h
 refine o_v (ov_call (v:=.tup [aI,aB]) r (w_event_Status hx1) ⟨lr,trivial⟩ r r r)<|mV (v:=.tup [aI,aB]) r<|o_p r (p_ex (v:=aI) r r)<|o_p r (p_ex (v:=aB) r r)<|sI r<|sB r<|o_ek (fr':=[(4,aB)]) r r<|w_sr<|mB r<|sB r<|o_ek (fr':=[(2,aB)]) r r<|w_ret ?_
 obtain rfl:=sy h2
 exact e_ret (rs':=[.tmp 2]) r<|r_tmp (v:=aB) r<|r_nil<|fin_gen [] r r r lr st_nil
noncomputable def history_Check_l1 (p0l:(List ApiEvent)) (s6:(Int × HistoryChecker)):Option (Step (Int × HistoryChecker) (Fl Int HistoryChecker)) :=
 cond (decide (s6.1<((p0l).length:Int))) ((idx p0l s6.1).bind fun x8=>(event_Right x8).bind fun x10=>cond (!x10) (some (Step.out (Fl.done (11:Int)))) (cond (cond (!decide (x8.ID=(IntKind.wrap .i64 (s6.1+(1:Int))))) true (cond (decide ((0:Int)<s6.1)) (decide (x8.Time<s6.2.before_.Time)) false)) (some (Step.out (Fl.done (30:Int)))) ((history_checker_allows_v2 s6.1 x8 s6.2).bind fun x20=>cond (!x20.1) (some (Step.out (Fl.done (16:Int)))) ((event_Closes x8.Kind).bind fun x26=>some (Step.next ((IntKind.wrap .i64 (s6.1+(1:Int))),(HistoryChecker.mk x20.2.task_ x20.2.ref_ x8 x26))))))) (some (Step.out (Fl.go s6.2)))
noncomputable def history_Check (p0l:(List ApiEvent)):Option Int :=
 cond (decide ((2000:Int)<((p0l).length:Int))) (some (6:Int)) (((loopO (history_Check_l1 p0l) (((0:Int),(HistoryChecker.mk (0:Int) (0:Int) (ApiEvent.mk (0:Int) (0:Int) (0:Int) (0:Int) (0:Int) (0:Int) (0:Int) ([]:List UInt8) ([]:List UInt8) (ApiValue.mk (0:Int) (0:Int) ([]:List UInt8) ([]:(List ApiValue)) ([]:(List (List UInt8)))) (ApiPolicy.mk ([]:List UInt8) (0:Int) (0:Int) (0:Int) (0:Int) (0:Int) (0:Int) (0:Int) (0:Int) ([]:(List (List UInt8))))) false)))):Option (Fl Int HistoryChecker)).bind fun x3=>Fl.next x3 (fun j5=>(some (0:Int))))
theorem w_history_Check {p0l:(List ApiEvent)}{res:Int} (h:history_Check p0l=some res):ACalls Tryz.prog 11 [.c (PV.ls 24 rowApiEvent p0l)] [] (.c (.int .i64 res)) []:=by
 unfold history_Check at h
 refine acalls (fn:=Tryz.f11) [0,2,3,4,5,8,9,10,11,12,16,20,38] (by kernel_rfl) Tryz.func11 r (by kernel_rfl) (by kernel_rfl)<|w_sr<|sI r<|o_ek (fr':=[(0,aL)]) r r<|w_seqw<|w_sr<|mL r<|o_p r (p_len ti22 (isl_c r))<|o_p r (p_gtr r r)<|o_ek (fr':=[(0,aL),(8,aB)]) r r<|w_ch h r (fun hb1 h1=>?_) (fun hb1 h1=>?_)
 ·
  refine w_sr<|sI r<|o_ek (fr':=[(2,aI)]) r r<|w_ret<|e_seq_r ?_
  obtain rfl:=sy h1
  exact e_ret (rs':=[.tmp 2]) r<|r_tmp (v:=aI) r<|r_nil<|fin_gen [] r r r lr st_nil
 ·
  refine w_skip<|e_kw<|w_sr<|o_alloc (n:=0) (cs:=[aI,aI,aI,aI,aI,aI,aI,aI,aI,aS,aS,aI,aI,aS,AV.nil,AV.nil,aS,aI,aI,aI,aI,aI,aI,aI,aI,AV.nil,aB]) (σ':=[[aI,aI,aI,aI,aI,aI,aI,aI,aI,aS,aS,aI,aI,aS,AV.nil,AV.nil,aS,aI,aI,aI,aI,aI,aI,aI,aI,AV.nil,aB]]) tz50 r r r<|o_ek (fr':=[(0,aL),(3,.box 0 0)]) r r<|w_seqw<|w_sr<|mL r<|o_p r (p_len ti22 (isl_c r))<|mI r<|o_ek (fr':=[(3,.box 0 0),(9,aL),(10,aI),(11,aI)]) r r ?_
  obtain ⟨x3,hx3,h4⟩:=bind_s h1
  refine w_jtail cl_kw (fun j5=>x3=Fl.go j5) (fun (j5:HistoryChecker)=>([]:Fr)) (fun (j5:HistoryChecker)=>([[.c (.int .i64 j5.task_),.c (.int .i64 j5.ref_),.c (.int .i64 j5.before_.ID),.c (.int .i64 j5.before_.Kind),.c (.int .i64 j5.before_.Time),.c (.int .i64 j5.before_.Seq),.c (.int .i64 j5.before_.Ref),.c (.int .i64 j5.before_.N),.c (.int .i64 j5.before_.Code),.c (.str j5.before_.Name),.c (.str j5.before_.Key),.c (.int .i64 j5.before_.Data.Kind),.c (.int .i64 j5.before_.Data.Int),.c (.str j5.before_.Data.Text),.c (PV.ls 5 rowApiValue j5.before_.Data.Items),.c (PV.ls 1 rowS j5.before_.Data.Keys),.c (.str j5.before_.Opts.Queue),.c (.int .i64 j5.before_.Opts.ToStart),.c (.int .i64 j5.before_.Opts.ToClose),.c (.int .i64 j5.before_.Opts.Total),.c (.int .i64 j5.before_.Opts.Beat),.c (.int .i64 j5.before_.Opts.First),.c (.int .i64 j5.before_.Opts.Coef),.c (.int .i64 j5.before_.Opts.Most),.c (.int .i64 j5.before_.Opts.Attempts),.c (PV.ls 1 rowS j5.before_.Opts.Fatal),.c (.bool j5.closed_)]]:St)) ?_ ?_
  ·
   refine w_block<|w_loopo _ (fun (s6:(Int × HistoryChecker))=>([(3,.box 0 0),(9,.c (PV.ls 24 rowApiEvent p0l)),(10,.c (.int .i64 ((p0l).length:Int))),(11,.c (.int .i64 s6.1))]:Fr)) (fun (s6:(Int × HistoryChecker))=>([[.c (.int .i64 s6.2.task_),.c (.int .i64 s6.2.ref_),.c (.int .i64 s6.2.before_.ID),.c (.int .i64 s6.2.before_.Kind),.c (.int .i64 s6.2.before_.Time),.c (.int .i64 s6.2.before_.Seq),.c (.int .i64 s6.2.before_.Ref),.c (.int .i64 s6.2.before_.N),.c (.int .i64 s6.2.before_.Code),.c (.str s6.2.before_.Name),.c (.str s6.2.before_.Key),.c (.int .i64 s6.2.before_.Data.Kind),.c (.int .i64 s6.2.before_.Data.Int),.c (.str s6.2.before_.Data.Text),.c (PV.ls 5 rowApiValue s6.2.before_.Data.Items),.c (PV.ls 1 rowS s6.2.before_.Data.Keys),.c (.str s6.2.before_.Opts.Queue),.c (.int .i64 s6.2.before_.Opts.ToStart),.c (.int .i64 s6.2.before_.Opts.ToClose),.c (.int .i64 s6.2.before_.Opts.Total),.c (.int .i64 s6.2.before_.Opts.Beat),.c (.int .i64 s6.2.before_.Opts.First),.c (.int .i64 s6.2.before_.Opts.Coef),.c (.int .i64 s6.2.before_.Opts.Most),.c (.int .i64 s6.2.before_.Opts.Attempts),.c (PV.ls 1 rowS s6.2.before_.Opts.Fatal),.c (.bool s6.2.closed_)]]:St)) hx3 (w_weak [] 1 r r r r ⟨lr,lr,lr,lr,trivial⟩ (st_p ⟨lr,lr,lr,lr,lr,lr,lr,lr,lr,lr,lr,lr,lr,lr,le_nls,le_nls,lr,lr,lr,lr,lr,lr,lr,lr,lr,le_nls,lr,trivial⟩ st_nil)) ?_
   intro s6 st6 hs6 ho6
   unfold history_Check_l1 at hs6
   refine w_sr<|o_p r (p_lss r r)<|o_ek (fr':=[(3,.box 0 0),(9,aL),(10,aI),(11,aI),(12,aB)]) r r<|w_seqw<|w_ch hs6 r (fun hb7 h7=>?_) (fun hb7 h7=>?_)
   ·
    refine w_skip<|e_kw<|w_seqw<|w_block<|w_sr<|mI r ?_
    obtain ⟨x8,hx8,h9⟩:=bind_s h7
    refine o_p r (p_ia (cs:=[PV.int _ _,PV.int _ _,PV.int _ _,PV.int _ _,PV.int _ _,PV.int _ _,PV.int _ _,PV.str _,PV.str _,PV.int _ _,PV.int _ _,PV.str _,PV.ls _ _ _,PV.ls _ _ _,PV.str _,PV.int _ _,PV.int _ _,PV.int _ _,PV.int _ _,PV.int _ _,PV.int _ _,PV.int _ _,PV.int _ _,PV.ls _ _ _]) ts22 (isl_c r) r hx8 r)<|o_p r (p_loades (us:=[PV.int _ _,PV.int _ _,PV.int _ _,PV.int _ _,PV.int _ _,PV.int _ _,PV.int _ _,PV.str _,PV.str _,PV.int _ _,PV.int _ _,PV.str _,PV.ls _ _ _,PV.ls _ _ _,PV.str _,PV.int _ _,PV.int _ _,PV.int _ _,PV.int _ _,PV.int _ _,PV.int _ _,PV.int _ _,PV.int _ _,PV.ls _ _ _]) tv45 r r r)<|o_alloc (n:=1) (cs:=[aI,aI,aI,aI,aI,aI,aI,aS,aS,aI,aI,aS,AV.nil,AV.nil,aS,aI,aI,aI,aI,aI,aI,aI,aI,AV.nil]) (σ':=[aIIIIIIIIISSIISLLSIIIIIIIILB,[aI,aI,aI,aI,aI,aI,aI,aS,aS,aI,aI,aS,AV.nil,AV.nil,aS,aI,aI,aI,aI,aI,aI,aI,aI,AV.nil]]) tz45 r r r<|sI r<|o_store (v:=.agg aIIIIIIISSIISLLSIIIIIIIIL) (us:=aIIIIIIISSIISLLSIIIIIIIIL) (cs:=[aI,aI,aI,aI,aI,aI,aI,aS,aS,aI,aI,aS,AV.nil,AV.nil,aS,aI,aI,aI,aI,aI,aI,aI,aI,AV.nil]) (σ':=[aIIIIIIIIISSIISLLSIIIIIIIILB,aIIIIIIISSIISLLSIIIIIIIIL]) r tv45 r r r r r r r r<|o_ek (fr':=[(3,.box 0 0),(4,aI),(5,.box 1 0),(9,aL),(10,aI),(11,aI)]) r r<|w_seqw<|w_block<|w_sr<|o_p r (p_loads (us:=aIIIIIIISSIISLLSIIIIIIIIL) tv45 r r r r) ?_
    obtain ⟨x10,hx10,h11⟩:=bind_s h9
    refine o_v (ov_call (v:=aB) r (w_event_Right hx10) ⟨(le_aggc r ⟨r,r,r,r,r,r,r,r,r,r,r,r,r,r,r,r,r,r,r,r,r,r,r,r,trivial⟩),trivial⟩ r r r)<|o_p r (p_not r)<|sB r<|o_ek (fr':=[(3,.box 0 0),(4,aI),(5,.box 1 0),(9,aL),(10,aI),(11,aI),(16,aB)]) r r<|w_ch h11 r (fun hb12 h12=>?_) (fun hb12 h12=>?_)
    ·
     refine w_sr<|sI r<|o_ek (fr':=[(2,aI)]) r r<|w_ret<|e_blk_r<|e_seq_r<|e_blk_r<|e_seq_r<|e_seq_r<|e_blk_r<|e_seq_r<|e_seq_r ?_
     have h13:=un_out h12 ho6
     have h14:=un_done h13 h4
     obtain rfl:=sy h14
     exact e_ret (rs':=[.tmp 2]) r<|r_tmp (v:=aI) r<|r_nil<|fin_gen [] r r r lr st_nil
    ·
     refine w_sr<|o_p r (p_fa tf45x0 r)<|o_p r (p_load (v:=aI) tv3 r r r)<|mI r<|o_p r (p_add r r)<|o_p r (p_neq r r)<|mB r<|og r r r (fun hc=>(p_move (v:=aI) r))<|og r r r (fun hc=>(p_gtr (gx r hc) r))<|og r r r (fun hc=>(p_move (v:=aB) (gx r hc)))<|o_gg r r (fun hc=>ov_p r (p_fa tf45x2 r))<|o_gg r r (fun hc=>ov_p r (p_load (v:=aI) tv3 (gx r hc) r r)) ?_
     refine o_gg r r (fun hc=>ov_p r (p_fa tf50x2 r))<|o_gg r r (fun hc=>ov_p r (p_fa tf45x2 (gx r hc)))<|o_gg r r (fun hc=>ov_p r (p_load (v:=aI) tv3 (gx r hc) r r))<|o_gg r r (fun hc=>ov_p r (p_lss (gx r hc) (gx r hc)))<|og r r r (fun hc=>(p_picky (gx r hc) r r (fun e=>band hc (keq e))))<|o_p r (p_pickz r r r (fun e=>keq e))<|sB r<|o_ek (fr':=[(3,.box 0 0),(4,aI),(5,.box 1 0),(9,aL),(10,aI),(11,aI),(20,aB)]) r r<|w_ch h12 r (fun hb16 h16=>?_) (fun hb16 h16=>?_)
     ·
      refine w_sr<|sI r<|o_ek (fr':=[(2,aI)]) r r<|w_ret<|e_blk_r<|e_seq_r<|e_blk_r<|e_seq_r<|e_seq_r<|e_blk_r<|e_seq_r<|e_seq_r ?_
      have h17:=un_out h16 ho6
      have h18:=un_done h17 h4
      obtain rfl:=sy h18
      exact e_ret (rs':=[.tmp 2]) r<|r_tmp (v:=aI) r<|r_nil<|fin_gen [] r r r lr st_nil
     ·
      refine w_sr<|mI r<|o_p r (p_loads (us:=aIIIIIIISSIISLLSIIIIIIIIL) tv45 r r r r) ?_
      obtain ⟨x20,hx20,h21⟩:=bind_s h16
      refine o_call (v:=aB) (σ':=[aIIIIIIIIISSIISLLSIIIIIIIILB,aIIIIIIISSIISLLSIIIIIIIIL]) [0] r (w_history_checker_allows_v2 hx20) r r ⟨lr,lr,(le_aggc r ⟨r,r,r,r,r,r,r,r,r,r,r,r,r,r,r,r,r,r,r,r,r,r,r,r,trivial⟩),trivial⟩ (st_c ⟨r,r,r,r,r,r,r,r,r,r,r,r,r,r,r,r,r,r,r,r,r,r,r,r,r,r,r,trivial⟩ st_nil) r r r<|o_p r (p_not r)<|sB r<|o_ek (fr':=[(3,.box 0 0),(5,.box 1 0),(9,aL),(10,aI),(11,aI),(38,aB)]) r r<|w_ch h21 r (fun hb22 h22=>?_) (fun hb22 h22=>?_)
      ·
       refine w_sr<|sI r<|o_ek (fr':=[(2,aI)]) r r<|w_ret<|e_blk_r<|e_seq_r<|e_blk_r<|e_seq_r<|e_seq_r<|e_blk_r<|e_seq_r<|e_seq_r ?_
       have h23:=un_out h22 ho6
       have h24:=un_done h23 h4
       obtain rfl:=sy h24
       exact e_ret (rs':=[.tmp 2]) r<|r_tmp (v:=aI) r<|r_nil<|fin_gen [] r r r lr st_nil
      ·
       refine w_skip<|e_blk_n<|e_kw<|w_planT [.q 0,.q 1,.q 2,.q 3,.q 4,.n 5 [],.q 6,.n 7 []] [(some 43,[5]),(some 44,[5]),(some 45,[44]),(some 46,[45]),(some 47,[3]),(none,[47,43]),(some 48,[3]),(none,[48,46])] [0,0,2,6,15,31,63,127] (by kernel_rfl)<|dq r r (p_loads (us:=aIIIIIIISSIISLLSIIIIIIIIL) tv45 r r r r)<|dq r r (p_fa tf45x1 r)<|dq r r (p_load (v:=aI) tv3 r r r) ?_
       obtain ⟨x26,hx26,h27⟩:=bind_s h22
       refine d_q r (qv_call (v:=aB) r (w_event_Closes hx26) ⟨lr,trivial⟩ r)<|dq r r (p_fa tf50x2 r)<|d_n r ?_ r
       refine o_store (v:=.agg aIIIIIIISSIISLLSIIIIIIIIL) (us:=aIIIIIIISSIISLLSIIIIIIIIL) (cs:=aIIIIIIIIISSIISLLSIIIIIIIILB) (σ':=[aIIIIIIIIISSIISLLSIIIIIIIILB,aIIIIIIISSIISLLSIIIIIIIIL]) r tv45 r r r r r r r r<|o_rc<|⟨rc_nil,?_⟩
       refine dq r r (p_fa tf50x3 r)<|d_n r ?_ r
       refine o_store (v:=aB) (us:=[aB]) (cs:=aIIIIIIIIISSIISLLSIIIIIIIILB) (σ':=[aIIIIIIIIISSIISLLSIIIIIIIILB,aIIIIIIISSIISLLSIIIIIIIIL]) r tv4 r r r r r r r r<|o_rc<|⟨rc_nil,?_⟩
       exact d_end (fr':=[(3,.box 0 0),(5,.box 1 0),(9,aL),(10,aI),(11,aI),(38,aB)]) r<|e_blk_n<|e_kw<|w_region<|o_p r (p_add r r)<|mI r<|o_end (fr':=[(3,.box 0 0),(5,.box 1 0),(9,aL),(10,aI),(11,aI),(38,aB)]) r<|e_l _ (sy h27) (w_weak [] 1 r r r r ⟨lr,lr,lr,lr,trivial⟩ (st_r r st_nil))
   ·
    refine w_exit<|e_seq_x<|e_seq_x<|e_blk_h ?_
    have h28:=un_out h7 ho6
    exact e_j _ (sy h28) (w_weak [] 1 r r r r trivial (st_r r st_nil))
  ·
   intro j5 hj29
   have h29:=un_go hj29 h4
   refine e_kw<|w_sr<|sI r<|o_ek (fr':=[(2,aI)]) r r<|w_ret ?_
   obtain rfl:=sy h29
   exact e_ret (rs':=[.tmp 2]) r<|r_tmp (v:=aI) r<|r_nil<|fin_gen [] r r r lr st_nil
noncomputable def history_Turns_l2 (p0l:(List ApiEvent)) (x16:ApiEvent) (s21:Int):Option (Step Int Int) :=
 (gd ((cond (decide (x16.Kind=(4:Int))) (decide (s21<((p0l).length:Int))) false)==true) (idx p0l s21)).bind fun x22=>(gd ((cond (decide (x16.Kind=(4:Int))) (decide (s21<((p0l).length:Int))) false)==true) (event_IsCommand x22.Kind)).bind fun x24=>cond (cond (cond (decide (x16.Kind=(4:Int))) (decide (s21<((p0l).length:Int))) false) x24 false) (some (Step.next (IntKind.wrap .i64 (s21+(1:Int))))) (some (Step.out s21))
noncomputable def history_Turns_l1 (p0l:(List ApiEvent)) (s8:((List HistoryTurn) × Int)):Option (Step ((List HistoryTurn) × Int) (List HistoryTurn)) :=
 cond (decide (s8.2<((p0l).length:Int))) ((idx p0l s8.2).bind fun x10=>cond (!decide (x10.Kind=(3:Int))) (some (Step.next (s8.1,(IntKind.wrap .i64 (s8.2+(1:Int)))))) (cond (decide (s8.2=(IntKind.wrap .i64 (((p0l).length:Int) - (1:Int))))) ((app 32 s8.1 ([(HistoryTurn.mk s8.2 (-1:Int) ((p0l).length:Int) false)]:List HistoryTurn)).bind fun x14=>some (Step.next (x14,(IntKind.wrap .i64 (s8.2+(1:Int)))))) ((idx p0l (IntKind.wrap .i64 (s8.2+(1:Int)))).bind fun x16=>((loopO (history_Turns_l2 p0l x16) ((IntKind.wrap .i64 (s8.2+(2:Int))))):Option Int).bind fun x18=>((app 32 s8.1 ([(HistoryTurn.mk s8.2 (IntKind.wrap .i64 (s8.2+(1:Int))) x18 (decide (x16.Kind=(4:Int))))]:List HistoryTurn)).bind fun x29=>some (Step.next (x29,(IntKind.wrap .i64 (s8.2+(1:Int))))))))) (some (Step.out s8.1))
noncomputable def history_Turns (p0l:(List ApiEvent)):Option (List HistoryTurn) :=
 (history_Check p0l).bind fun x1=>cond (!decide (x1=(0:Int))) (some ([]:(List HistoryTurn))) (((loopO (history_Turns_l1 p0l) ((([]:(List HistoryTurn)),(0:Int)))):Option (List HistoryTurn)).bind fun x5=>(some x5))
theorem w_history_Turns {p0l:(List ApiEvent)}{res:(List HistoryTurn)} (h:history_Turns p0l=some res):ACalls Tryz.prog 8 [.c (PV.ls 24 rowApiEvent p0l)] [] (AV.os 0 4 rowHistoryTurn res) []:=by
 unfold history_Turns at h
 refine acalls (fn:=Tryz.f8) [0,2,3,4,5,6,9,10,11,12,13,19,24,62] (by kernel_rfl) Tryz.func8 r (by kernel_rfl) (by kernel_rfl)<|w_sr<|sV (v:=AV.nil) r<|o_ek (fr':=[(0,aL)]) r r<|w_seqw<|w_sr<|mL r ?_
 obtain ⟨x1,hx1,h2⟩:=bind_s h
 refine o_v (ov_call (v:=aI) r (w_history_Check hx1) ⟨lr,trivial⟩ r r r)<|o_p r (p_neq r r)<|o_ek (fr':=[(0,aL),(9,aB)]) r r<|w_ch h2 r (fun hb3 h3=>?_) (fun hb3 h3=>?_)
 ·
  refine w_sr<|sV (v:=AV.nil) r<|o_ek (fr':=[(2,AV.nil)]) r r<|w_ret<|e_seq_r ?_
  obtain rfl:=sy h3
  exact e_ret (rs':=[.tmp 2]) r<|r_tmp (v:=AV.nil) r<|r_nil<|fin_gen [1000000] r r r (le_nos r) st_nil
 ·
  refine w_skip<|e_kw<|w_sr<|sV (v:=AV.nil) r<|o_ek (fr':=[(0,aL),(3,AV.nil)]) r r<|w_seqw<|w_sr<|mL r<|o_p r (p_len ti22 (isl_c r))<|mI r<|o_ek (fr':=[(0,aL),(3,AV.nil),(10,aL),(11,aI),(12,aI)]) r r ?_
  obtain ⟨x5,hx5,h6⟩:=bind_s h3
  refine w_jtail cl_kw (fun j7=>x5=j7) (fun (j7:(List HistoryTurn))=>([(3,AV.os 0 4 rowHistoryTurn j7)]:Fr)) (fun (j7:(List HistoryTurn))=>([]:St)) ?_ ?_
  ·
   refine w_block<|w_loopo _ (fun (s8:((List HistoryTurn) × Int))=>([(0,.c (PV.ls 24 rowApiEvent p0l)),(3,AV.os 0 4 rowHistoryTurn s8.1),(10,.c (PV.ls 24 rowApiEvent p0l)),(11,.c (.int .i64 ((p0l).length:Int))),(12,.c (.int .i64 s8.2))]:Fr)) (fun (s8:((List HistoryTurn) × Int))=>([]:St)) hx5 (w_weak [1000000] 0 r r r r ⟨lr,(le_nos r),lr,lr,lr,trivial⟩ st_nil) ?_
   intro s8 st8 hs8 ho8
   unfold history_Turns_l1 at hs8
   refine w_sr<|o_p r (p_lss r r)<|o_ek (fr':=[(0,aL),(3,aO),(10,aL),(11,aI),(12,aI),(13,aB)]) r r<|w_seqw<|w_ch hs8 r (fun hb9 h9=>?_) (fun hb9 h9=>?_)
   ·
    refine w_skip<|e_kw<|w_seqw<|w_block<|w_sr<|mI r ?_
    obtain ⟨x10,hx10,h11⟩:=bind_s h9
    refine o_p r (p_ia (cs:=[PV.int _ _,PV.int _ _,PV.int _ _,PV.int _ _,PV.int _ _,PV.int _ _,PV.int _ _,PV.str _,PV.str _,PV.int _ _,PV.int _ _,PV.str _,PV.ls _ _ _,PV.ls _ _ _,PV.str _,PV.int _ _,PV.int _ _,PV.int _ _,PV.int _ _,PV.int _ _,PV.int _ _,PV.int _ _,PV.int _ _,PV.ls _ _ _]) ts22 (isl_c r) r hx10 r)<|o_p r (p_loades (us:=[PV.int _ _,PV.int _ _,PV.int _ _,PV.int _ _,PV.int _ _,PV.int _ _,PV.int _ _,PV.str _,PV.str _,PV.int _ _,PV.int _ _,PV.str _,PV.ls _ _ _,PV.ls _ _ _,PV.str _,PV.int _ _,PV.int _ _,PV.int _ _,PV.int _ _,PV.int _ _,PV.int _ _,PV.int _ _,PV.int _ _,PV.ls _ _ _]) tv45 r r r)<|o_alloc (n:=0) (cs:=[aI,aI,aI,aI,aI,aI,aI,aS,aS,aI,aI,aS,AV.nil,AV.nil,aS,aI,aI,aI,aI,aI,aI,aI,aI,AV.nil]) (σ':=[[aI,aI,aI,aI,aI,aI,aI,aS,aS,aI,aI,aS,AV.nil,AV.nil,aS,aI,aI,aI,aI,aI,aI,aI,aI,AV.nil]]) tz45 r r r<|sI r<|o_store (v:=.agg aIIIIIIISSIISLLSIIIIIIIIL) (us:=aIIIIIIISSIISLLSIIIIIIIIL) (cs:=[aI,aI,aI,aI,aI,aI,aI,aS,aS,aI,aI,aS,AV.nil,AV.nil,aS,aI,aI,aI,aI,aI,aI,aI,aI,AV.nil]) (σ':=[aIIIIIIISSIISLLSIIIIIIIIL]) r tv45 r r r r r r r r<|o_ek (fr':=[(0,aL),(3,aO),(4,aI),(5,.box 0 0),(10,aL),(11,aI),(12,aI)]) r r<|w_seqw<|w_sr<|o_p r (p_fa tf45x1 r)<|o_p r (p_load (v:=aI) tv3 r r r)<|o_p r (p_neq r r)<|o_ek (fr':=[(0,aL),(3,aO),(4,aI),(10,aL),(11,aI),(12,aI),(19,aB)]) r r ?_
    refine w_ch h11 r (fun hb12 h12=>?_) (fun hb12 h12=>?_)
    ·
     exact w_exit<|e_seq_x<|e_blk_h<|e_kw<|w_region<|o_p r (p_add r r)<|mI r<|o_end (fr':=[(0,aL),(3,aO),(4,aI),(10,aL),(11,aI),(12,aI),(19,aB)]) r<|e_l _ (sy h12) (w_weak [0] 0 r r r r ⟨lr,lr,lr,lr,lr,trivial⟩ st_nil)
    ·
     refine w_skip<|e_kw<|w_seqw<|w_sr<|mI r<|mL r<|o_p r (p_len ti22 (isl_c r))<|o_p r (p_sub r r)<|o_p r (p_eql r r)<|o_ek (fr':=[(0,aL),(3,aO),(4,aI),(10,aL),(11,aI),(12,aI),(24,aB)]) r r<|w_ch h12 r (fun hb13 h13=>?_) (fun hb13 h13=>?_)
     ·
      refine w_sr<|mV (v:=aO) r<|mI r<|mL r<|o_p r (p_len ti22 (isl_c r))<|o_p r (p_build (cs:=aIIIB) tb35 r)<|o_rows (row:=rowHistoryTurn) (xs:=([(HistoryTurn.mk s8.2 (-1:Int) ((p0l).length:Int) false)]:List HistoryTurn)) (rows:=[[_,_,_,_]]) (σ':=[aIIIIIIISSIISLLSIIIIIIIIL]) [0,0,0,0] ts28 r r r (arow_cons r arow_nil) r r ?_
      obtain ⟨x14,hx14,h15⟩:=bind_s h13
      exact o_app (row:=rowHistoryTurn) ts28 r ti28 r (isl_o r) (fun _=>r) hx14<|sV (v:=aO) r<|o_ek (fr':=[(0,aL),(3,aO),(10,aL),(11,aI),(12,aI)]) r r<|w_exit<|e_seq_x<|e_blk_h<|e_kw<|w_region<|o_p r (p_add r r)<|mI r<|o_end (fr':=[(0,aL),(3,aO),(10,aL),(11,aI),(12,aI)]) r<|e_l _ (sy h15) (w_weak [496] 0 r r r r ⟨lr,lr,lr,lr,lr,trivial⟩ st_nil)
     ·
      refine w_skip<|e_kw<|w_sr<|mI r<|mI r<|o_p r (p_add r r)<|mI r<|o_p r (p_add r r)<|mL r<|mI r<|o_p r (p_add r r) ?_
      obtain ⟨x16,hx16,h17⟩:=bind_s h13
      refine o_p r (p_ia (cs:=[PV.int _ _,PV.int _ _,PV.int _ _,PV.int _ _,PV.int _ _,PV.int _ _,PV.int _ _,PV.str _,PV.str _,PV.int _ _,PV.int _ _,PV.str _,PV.ls _ _ _,PV.ls _ _ _,PV.str _,PV.int _ _,PV.int _ _,PV.int _ _,PV.int _ _,PV.int _ _,PV.int _ _,PV.int _ _,PV.int _ _,PV.ls _ _ _]) ts22 (isl_c r) r hx16 r)<|o_p r (p_fae tf45x1 r)<|o_p r (p_loade (p:=PV.int _ _) tv3 r r)<|o_p r (p_eql r r)<|o_p r (p_build (cs:=aIIIB) tb35 r)<|o_alloc (n:=1) (cs:=aIIIB) (σ':=[aIIIIIIISSIISLLSIIIIIIIIL,aIIIB]) tz35 r r r<|o_store (v:=.agg aIIIB) (us:=aIIIB) (cs:=aIIIB) (σ':=[aIIIIIIISSIISLLSIIIIIIIIL,aIIIB]) r tv35 r r r r r r r r<|o_ek (fr':=[(0,aL),(3,aO),(6,.box 1 0),(10,aL),(11,aI),(12,aI)]) r r ?_
      obtain ⟨x18,hx18,h19⟩:=bind_s h17
      refine w_join (fun j20=>x18=j20) (fun (j20:Int)=>([(0,.c (PV.ls 24 rowApiEvent p0l)),(3,AV.os 0 4 rowHistoryTurn s8.1),(6,.box 1 0),(10,.c (PV.ls 24 rowApiEvent p0l)),(11,.c (.int .i64 ((p0l).length:Int))),(12,.c (.int .i64 s8.2))]:Fr)) (fun (j20:Int)=>([[.c (.int .i64 x10.ID),.c (.int .i64 x10.Kind),.c (.int .i64 x10.Time),.c (.int .i64 x10.Seq),.c (.int .i64 x10.Ref),.c (.int .i64 x10.N),.c (.int .i64 x10.Code),.c (.str x10.Name),.c (.str x10.Key),.c (.int .i64 x10.Data.Kind),.c (.int .i64 x10.Data.Int),.c (.str x10.Data.Text),.c (PV.ls 5 rowApiValue x10.Data.Items),.c (PV.ls 1 rowS x10.Data.Keys),.c (.str x10.Opts.Queue),.c (.int .i64 x10.Opts.ToStart),.c (.int .i64 x10.Opts.ToClose),.c (.int .i64 x10.Opts.Total),.c (.int .i64 x10.Opts.Beat),.c (.int .i64 x10.Opts.First),.c (.int .i64 x10.Opts.Coef),.c (.int .i64 x10.Opts.Most),.c (.int .i64 x10.Opts.Attempts),.c (PV.ls 1 rowS x10.Opts.Fatal)],[.c (.int .i64 s8.2),.c (.int .i64 (IntKind.wrap .i64 (s8.2+(1:Int)))),.c (.int .i64 j20),.c (.bool (decide (x16.Kind=(4:Int))))]]:St)) ?_ ?_
      ·
       refine w_block<|w_loopo _ (fun (s21:Int)=>([(0,.c (PV.ls 24 rowApiEvent p0l)),(3,AV.os 0 4 rowHistoryTurn s8.1),(6,.box 1 0),(10,.c (PV.ls 24 rowApiEvent p0l)),(11,.c (.int .i64 ((p0l).length:Int))),(12,.c (.int .i64 s8.2))]:Fr)) (fun (s21:Int)=>([[.c (.int .i64 x10.ID),.c (.int .i64 x10.Kind),.c (.int .i64 x10.Time),.c (.int .i64 x10.Seq),.c (.int .i64 x10.Ref),.c (.int .i64 x10.N),.c (.int .i64 x10.Code),.c (.str x10.Name),.c (.str x10.Key),.c (.int .i64 x10.Data.Kind),.c (.int .i64 x10.Data.Int),.c (.str x10.Data.Text),.c (PV.ls 5 rowApiValue x10.Data.Items),.c (PV.ls 1 rowS x10.Data.Keys),.c (.str x10.Opts.Queue),.c (.int .i64 x10.Opts.ToStart),.c (.int .i64 x10.Opts.ToClose),.c (.int .i64 x10.Opts.Total),.c (.int .i64 x10.Opts.Beat),.c (.int .i64 x10.Opts.First),.c (.int .i64 x10.Opts.Coef),.c (.int .i64 x10.Opts.Most),.c (.int .i64 x10.Opts.Attempts),.c (PV.ls 1 rowS x10.Opts.Fatal)],[.c (.int .i64 s8.2),.c (.int .i64 (IntKind.wrap .i64 (s8.2+(1:Int)))),.c (.int .i64 s21),.c (.bool (decide (x16.Kind=(4:Int))))]]:St)) hx18 (w_weak [0] 2 r r r r ⟨lr,lr,lr,lr,lr,lr,trivial⟩ (st_r r (st_r r st_nil))) ?_
       intro s21 st21 hs21 ho21
       unfold history_Turns_l2 at hs21
       refine w_seqw<|w_sr<|o_p r (p_fa tf35x3 r)<|o_p r (p_load (v:=aB) tv4 r r r)<|mB r<|og r r r (fun hc=>(p_fa tf35x2 r))<|og r r r (fun hc=>(p_load (v:=aI) tv3 (gx r hc) r r))<|og r r r (fun hc=>(p_move (v:=aL) r))<|og r r r (fun hc=>(p_len ti22 (isl_c (gx r hc))))<|og r r r (fun hc=>(p_lss (gx r hc) (gx r hc)))<|o_p r (p_picky r r r (fun e=>keq e))<|mB r ?_
       refine og r r r (fun hc=>(p_move (v:=aL) r))<|og r r r (fun hc=>(p_fa tf35x2 r))<|og r r r (fun hc=>(p_load (v:=aI) tv3 (gx r hc) r r)) ?_
       obtain ⟨x22,hx22,h23⟩:=bind_s hs21
       refine og r r r (fun hc=>(p_ia (cs:=[PV.int _ _,PV.int _ _,PV.int _ _,PV.int _ _,PV.int _ _,PV.int _ _,PV.int _ _,PV.str _,PV.str _,PV.int _ _,PV.int _ _,PV.str _,PV.ls _ _ _,PV.ls _ _ _,PV.str _,PV.int _ _,PV.int _ _,PV.int _ _,PV.int _ _,PV.int _ _,PV.int _ _,PV.int _ _,PV.int _ _,PV.ls _ _ _]) ts22 (isl_c (gx r hc)) (gx r hc) (gd_some hx22 hc) r))<|og r r r (fun hc=>(p_fae tf45x1 (gx r hc)))<|og r r r (fun hc=>(p_loade (p:=PV.int _ _) tv3 (gx r hc) r)) ?_
       obtain ⟨x24,hx24,h25⟩:=bind_s h23
       refine o_g r r (fun hc=>ov_call (v:=aB) r (w_event_IsCommand (gd_some hx24 hc)) ⟨(le_gv (gx r hc) lr),trivial⟩ (ok_eq (by repeat (first | exact ok_nil | refine ok_cons r ?_ | refine ok_cons (dgv r) ?_ | refine ok_cons dar ?_))) r r) ?_
       refine o_p r (p_picky r r r (fun e=>keq e))<|o_ek (fr':=[(0,aL),(3,aO),(6,.box 1 0),(10,aL),(11,aI),(12,aI),(62,aB)]) r r<|w_ch h25 r (fun hb26 h26=>?_) (fun hb26 h26=>?_)
       ·
        exact w_skip<|e_kw<|w_block<|w_region<|o_p r (p_fa tf35x2 r)<|o_p r (p_load (v:=aI) tv3 r r r)<|o_p r (p_add r r)<|o_p r (p_fa tf35x2 r)<|o_store (v:=aI) (us:=[aI]) (cs:=aIIIB) (σ':=[aIIIIIIISSIISLLSIIIIIIIIL,aIIIB]) r tv3 r r r r r r r r<|o_end (fr':=[(0,aL),(3,aO),(6,.box 1 0),(10,aL),(11,aI),(12,aI),(62,aB)]) r<|e_blk_n<|e_l _ (sy h26) (w_weak [0] 2 r r r r ⟨lr,lr,lr,lr,lr,lr,trivial⟩ (st_r r (st_r r st_nil)))
       ·
        refine w_exit<|e_seq_x<|e_seq_x<|e_blk_h ?_
        have h27:=un_out h26 ho21
        exact e_j _ (sy h27) (w_weak [0] 2 r r r r ⟨lr,lr,lr,lr,lr,lr,trivial⟩ (st_r r (st_r r st_nil)))
      ·
       intro j20 hj28
       subst hj28
       refine w_region<|mV (v:=aO) r<|o_p r (p_loads (us:=aIIIB) tv35 r r r r)<|o_rows (row:=rowHistoryTurn) (xs:=([(HistoryTurn.mk s8.2 (IntKind.wrap .i64 (s8.2+(1:Int))) x18 (decide (x16.Kind=(4:Int))))]:List HistoryTurn)) (rows:=[[_,_,_,_]]) (σ':=[aIIIIIIISSIISLLSIIIIIIIIL,aIIIB]) [0,0,0,0] ts28 r r r (arow_cons r arow_nil) r r ?_
       obtain ⟨x29,hx29,h30⟩:=bind_s h19
       exact o_app (row:=rowHistoryTurn) ts28 r ti28 r (isl_o r) (fun _=>r) hx29<|sV (v:=aO) r<|o_end (fr':=[(0,aL),(3,aO),(6,.box 1 0),(10,aL),(11,aI),(12,aI)]) r<|e_blk_n<|e_kw<|w_region<|o_p r (p_add r r)<|mI r<|o_end (fr':=[(0,aL),(3,aO),(6,.box 1 0),(10,aL),(11,aI),(12,aI)]) r<|e_l _ (sy h30) (w_weak [1120] 0 r r r r ⟨lr,lr,lr,lr,lr,trivial⟩ st_nil)
   ·
    refine w_exit<|e_seq_x<|e_seq_x<|e_blk_h ?_
    have h31:=un_out h9 ho8
    exact e_j _ (sy h31) (w_weak [0] 0 r r r r ⟨lr,trivial⟩ st_nil)
  ·
   intro j7 hj32
   subst hj32
   refine e_kw<|w_sr<|mV (v:=aO) r<|sV (v:=aO) r<|o_ek (fr':=[(2,aO)]) r r<|w_ret ?_
   obtain rfl:=sy h6
   exact e_ret (rs':=[.tmp 2]) r<|r_tmp (v:=aO) r<|r_nil<|fin_gen [0] r r r lr st_nil
noncomputable def law24xexample  : Option (List ApiEvent) :=
 some ([(ApiEvent.mk (1:Int) (1:Int) (0:Int) (0:Int) (0:Int) (0:Int) (0:Int) ([116]:List UInt8) ([107]:List UInt8) (ApiValue.mk (4:Int) (0:Int) ([]:List UInt8) ([(ApiValue.mk (0:Int) (0:Int) ([]:List UInt8) ([]:(List ApiValue)) ([]:(List (List UInt8)))),(ApiValue.mk (4:Int) (0:Int) ([]:List UInt8) ([]:(List ApiValue)) ([]:(List (List UInt8))))]:List ApiValue) ([]:(List (List UInt8)))) (ApiPolicy.mk ([]:List UInt8) (0:Int) (0:Int) (0:Int) (0:Int) (0:Int) (0:Int) (0:Int) (0:Int) ([]:(List (List UInt8))))),(ApiEvent.mk (2:Int) (2:Int) (0:Int) (0:Int) (0:Int) (1:Int) (0:Int) ([]:List UInt8) ([]:List UInt8) (ApiValue.mk (0:Int) (0:Int) ([]:List UInt8) ([]:(List ApiValue)) ([]:(List (List UInt8)))) (ApiPolicy.mk ([]:List UInt8) (0:Int) (0:Int) (0:Int) (0:Int) (0:Int) (0:Int) (0:Int) (0:Int) ([]:(List (List UInt8))))),(ApiEvent.mk (3:Int) (3:Int) (0:Int) (0:Int) (2:Int) (0:Int) (0:Int) ([]:List UInt8) ([]:List UInt8) (ApiValue.mk (0:Int) (0:Int) ([]:List UInt8) ([]:(List ApiValue)) ([]:(List (List UInt8)))) (ApiPolicy.mk ([]:List UInt8) (0:Int) (0:Int) (0:Int) (0:Int) (0:Int) (0:Int) (0:Int) (0:Int) ([]:(List (List UInt8))))),(ApiEvent.mk (4:Int) (4:Int) (0:Int) (0:Int) (3:Int) (0:Int) (0:Int) ([]:List UInt8) ([]:List UInt8) (ApiValue.mk (0:Int) (0:Int) ([]:List UInt8) ([]:(List ApiValue)) ([]:(List (List UInt8)))) (ApiPolicy.mk ([]:List UInt8) (0:Int) (0:Int) (0:Int) (0:Int) (0:Int) (0:Int) (0:Int) (0:Int) ([]:(List (List UInt8))))),(ApiEvent.mk (5:Int) (14:Int) (0:Int) (1:Int) (0:Int) (5:Int) (0:Int) ([]:List UInt8) ([]:List UInt8) (ApiValue.mk (0:Int) (0:Int) ([]:List UInt8) ([]:(List ApiValue)) ([]:(List (List UInt8)))) (ApiPolicy.mk ([]:List UInt8) (0:Int) (0:Int) (0:Int) (0:Int) (0:Int) (0:Int) (0:Int) (0:Int) ([]:(List (List UInt8)))))]:List ApiEvent)
theorem w_law24xexample  {res:(List ApiEvent)} (h:law24xexample=some res):ACalls Tryz.prog 9 [] [] (AV.os 0 24 rowApiEvent res) []:=by
 unfold law24xexample at h
 refine acalls (fn:=Tryz.f9) [0,1] (by kernel_rfl) Tryz.func9 r (by kernel_rfl) (by kernel_rfl)<|w_sr<|sV (v:=AV.nil) r<|o_ek (fr':=[]) r r<|w_sr<|o_p r (p_build (cs:=[aI,aI,aS,AV.nil,AV.nil]) tb41 r)<|o_p r (p_build (cs:=[aI,aI,aS,AV.nil,AV.nil]) tb41 r)<|o_rows (row:=rowApiValue) (xs:=([(ApiValue.mk (0:Int) (0:Int) ([]:List UInt8) ([]:(List ApiValue)) ([]:(List (List UInt8)))),(ApiValue.mk (4:Int) (0:Int) ([]:List UInt8) ([]:(List ApiValue)) ([]:(List (List UInt8))))]:List ApiValue)) (rows:=[[_,_,_,_,_],[_,_,_,_,_]]) (σ':=[]) [0,0,0,5,1] ts38 r r r (arow_cons (rowApiValue_eq _) (arow_cons (rowApiValue_eq _) arow_nil)) r r<|o_p r (p_build (cs:=[aI,aI,aS,aO,AV.nil]) tb41 r)<|o_alloc (n:=0) (cs:=[aI,aI,aS,AV.nil,AV.nil]) (σ':=[[aI,aI,aS,AV.nil,AV.nil]]) tz41 r r r<|o_store (v:=.agg [aI,aI,aS,aO,AV.nil]) (us:=[aI,aI,aS,aO,AV.nil]) (cs:=[aI,aI,aS,AV.nil,AV.nil]) (σ':=[[aI,aI,aS,aO,AV.nil]]) r tv41 r r r r r r r r ?_
 refine o_ek (fr':=[(1,.box 0 0)]) r r<|w_sr<|o_p r (p_loads (us:=[aI,aI,aS,aO,AV.nil]) tv41 r r r r)<|o_p r (p_buildc (c0:=[aI,aI,aI,aI,aI,aI,aI,aS,aS,aI,aI,aS,AV.nil,AV.nil,aS,aI,aI,aI,aI,aI,aI,aI,aI,AV.nil]) (cs:=[aI,aI,aI,aI,aI,aI,aI,aS,aS,aI,aI,aS,aO,AV.nil,aS,aI,aI,aI,aI,aI,aI,aI,aI,AV.nil]) tb45 r (fill_cons (v:=aI) (us:=[_]) (cs':=u24) r r r r r r (fill_cons (v:=aI) (us:=[_]) (cs':=u24) r r r r r r (fill_cons (v:=aS) (us:=[_]) (cs':=u24) r r r r r r (fill_cons (v:=aS) (us:=[_]) (cs':=u24) r r r r r r (fill_cons (v:=.agg [aI,aI,aS,aO,AV.nil]) (us:=u5) (cs':=u24) r r r r r r fill_nil))))))<|o_p r (p_buildc (c0:=[aI,aI,aI,aI,aI,aI,aI,aS,aS,aI,aI,aS,AV.nil,AV.nil,aS,aI,aI,aI,aI,aI,aI,aI,aI,AV.nil]) (cs:=[aI,aI,aI,aI,aI,aI,aI,aS,aS,aI,aI,aS,AV.nil,AV.nil,aS,aI,aI,aI,aI,aI,aI,aI,aI,AV.nil]) tb45 r (fill_cons (v:=aI) (us:=[_]) (cs':=u24) r r r r r r (fill_cons (v:=aI) (us:=[_]) (cs':=u24) r r r r r r (fill_cons (v:=aI) (us:=[_]) (cs':=u24) r r r r r r fill_nil))))<|o_p r (p_buildc (c0:=[aI,aI,aI,aI,aI,aI,aI,aS,aS,aI,aI,aS,AV.nil,AV.nil,aS,aI,aI,aI,aI,aI,aI,aI,aI,AV.nil]) (cs:=[aI,aI,aI,aI,aI,aI,aI,aS,aS,aI,aI,aS,AV.nil,AV.nil,aS,aI,aI,aI,aI,aI,aI,aI,aI,AV.nil]) tb45 r (fill_cons (v:=aI) (us:=[_]) (cs':=u24) r r r r r r (fill_cons (v:=aI) (us:=[_]) (cs':=u24) r r r r r r (fill_cons (v:=aI) (us:=[_]) (cs':=u24) r r r r r r fill_nil))))<|o_p r (p_buildc (c0:=[aI,aI,aI,aI,aI,aI,aI,aS,aS,aI,aI,aS,AV.nil,AV.nil,aS,aI,aI,aI,aI,aI,aI,aI,aI,AV.nil]) (cs:=[aI,aI,aI,aI,aI,aI,aI,aS,aS,aI,aI,aS,AV.nil,AV.nil,aS,aI,aI,aI,aI,aI,aI,aI,aI,AV.nil]) tb45 r (fill_cons (v:=aI) (us:=[_]) (cs':=u24) r r r r r r (fill_cons (v:=aI) (us:=[_]) (cs':=u24) r r r r r r (fill_cons (v:=aI) (us:=[_]) (cs':=u24) r r r r r r fill_nil))))<|o_p r (p_buildc (c0:=[aI,aI,aI,aI,aI,aI,aI,aS,aS,aI,aI,aS,AV.nil,AV.nil,aS,aI,aI,aI,aI,aI,aI,aI,aI,AV.nil]) (cs:=[aI,aI,aI,aI,aI,aI,aI,aS,aS,aI,aI,aS,AV.nil,AV.nil,aS,aI,aI,aI,aI,aI,aI,aI,aI,AV.nil]) tb45 r (fill_cons (v:=aI) (us:=[_]) (cs':=u24) r r r r r r (fill_cons (v:=aI) (us:=[_]) (cs':=u24) r r r r r r (fill_cons (v:=aI) (us:=[_]) (cs':=u24) r r r r r r (fill_cons (v:=aI) (us:=[_]) (cs':=u24) r r r r r r fill_nil)))))<|o_rows (row:=rowApiEvent) (xs:=([(ApiEvent.mk (1:Int) (1:Int) (0:Int) (0:Int) (0:Int) (0:Int) (0:Int) ([116]:List UInt8) ([107]:List UInt8) (ApiValue.mk (4:Int) (0:Int) ([]:List UInt8) ([(ApiValue.mk (0:Int) (0:Int) ([]:List UInt8) ([]:(List ApiValue)) ([]:(List (List UInt8)))),(ApiValue.mk (4:Int) (0:Int) ([]:List UInt8) ([]:(List ApiValue)) ([]:(List (List UInt8))))]:List ApiValue) ([]:(List (List UInt8)))) (ApiPolicy.mk ([]:List UInt8) (0:Int) (0:Int) (0:Int) (0:Int) (0:Int) (0:Int) (0:Int) (0:Int) ([]:(List (List UInt8))))),(ApiEvent.mk (2:Int) (2:Int) (0:Int) (0:Int) (0:Int) (1:Int) (0:Int) ([]:List UInt8) ([]:List UInt8) (ApiValue.mk (0:Int) (0:Int) ([]:List UInt8) ([]:(List ApiValue)) ([]:(List (List UInt8)))) (ApiPolicy.mk ([]:List UInt8) (0:Int) (0:Int) (0:Int) (0:Int) (0:Int) (0:Int) (0:Int) (0:Int) ([]:(List (List UInt8))))),(ApiEvent.mk (3:Int) (3:Int) (0:Int) (0:Int) (2:Int) (0:Int) (0:Int) ([]:List UInt8) ([]:List UInt8) (ApiValue.mk (0:Int) (0:Int) ([]:List UInt8) ([]:(List ApiValue)) ([]:(List (List UInt8)))) (ApiPolicy.mk ([]:List UInt8) (0:Int) (0:Int) (0:Int) (0:Int) (0:Int) (0:Int) (0:Int) (0:Int) ([]:(List (List UInt8))))),(ApiEvent.mk (4:Int) (4:Int) (0:Int) (0:Int) (3:Int) (0:Int) (0:Int) ([]:List UInt8) ([]:List UInt8) (ApiValue.mk (0:Int) (0:Int) ([]:List UInt8) ([]:(List ApiValue)) ([]:(List (List UInt8)))) (ApiPolicy.mk ([]:List UInt8) (0:Int) (0:Int) (0:Int) (0:Int) (0:Int) (0:Int) (0:Int) (0:Int) ([]:(List (List UInt8))))),(ApiEvent.mk (5:Int) (14:Int) (0:Int) (1:Int) (0:Int) (5:Int) (0:Int) ([]:List UInt8) ([]:List UInt8) (ApiValue.mk (0:Int) (0:Int) ([]:List UInt8) ([]:(List ApiValue)) ([]:(List (List UInt8)))) (ApiPolicy.mk ([]:List UInt8) (0:Int) (0:Int) (0:Int) (0:Int) (0:Int) (0:Int) (0:Int) (0:Int) ([]:(List (List UInt8)))))]:List ApiEvent)) (rows:=[[_,_,_,_,_,_,_,_,_,_,_,_,_,_,_,_,_,_,_,_,_,_,_,_],[_,_,_,_,_,_,_,_,_,_,_,_,_,_,_,_,_,_,_,_,_,_,_,_],[_,_,_,_,_,_,_,_,_,_,_,_,_,_,_,_,_,_,_,_,_,_,_,_],[_,_,_,_,_,_,_,_,_,_,_,_,_,_,_,_,_,_,_,_,_,_,_,_],[_,_,_,_,_,_,_,_,_,_,_,_,_,_,_,_,_,_,_,_,_,_,_,_]]) (σ':=[[aI,aI,aS,aO,AV.nil]]) [0,0,0,0,0,0,0,0,0,0,0,0,5,1,0,0,0,0,0,0,0,0,0,1] ts22 r r r (arow_cons r (arow_cons r (arow_cons r (arow_cons r (arow_cons r arow_nil))))) r r<|sV (v:=aO) r<|o_ek (fr':=[(0,aO)]) r r<|w_ret ?_
 obtain rfl:=sy h
 exact e_ret (rs':=[.tmp 0]) r<|r_tmp (v:=aO) r<|r_nil<|fin_gen [192] r r r lr st_nil
noncomputable def law24xworks  : Option Bool :=
 (law24xexample).bind fun x1=>(history_Turns x1).bind fun x3=>(law24xexample).bind fun x5=>(history_Status x5).bind fun x7=>(law24xexample).bind fun x9=>(history_Check x9).bind fun x11=>(gd ((cond (decide (x11=(0:Int))) (decide (((x3).length:Int)=(1:Int))) false)==true) (idx x3 (0:Int))).bind fun x13=>some (cond (cond (cond (cond (decide (x11=(0:Int))) (decide (((x3).length:Int)=(1:Int))) false) (decide (x13.Start=(2:Int))&&(decide (x13.End=(3:Int))&&(decide (x13.Next=(5:Int))&&((x13.Done==true)&&true)))) false) (decide (x7.1=(0:Int))) false) (decide (x7.2=(-1:Int))) false)
theorem w_law24xworks  {res:Bool} (h:law24xworks=some res):ACalls Tryz.prog 4 [] [] (.c (.bool res)) []:=by
 unfold law24xworks at h
 refine acalls (fn:=Tryz.f4) [0,1,2,3] (by kernel_rfl) Tryz.func4 r (by kernel_rfl) (by kernel_rfl)<|w_sr<|sB r<|o_ek (fr':=[]) r r<|w_seqw<|w_region ?_
 obtain ⟨x1,hx1,h2⟩:=bind_s h
 refine o_v (ov_call (v:=aO) r (w_law24xexample hx1) trivial r r r) ?_
 obtain ⟨x3,hx3,h4⟩:=bind_s h2
 refine o_v (ov_call (v:=aO) r (w_history_Turns hx3) ⟨lr,trivial⟩ r r r)<|sV (v:=aO) r<|o_ek (fr':=[(1,aO)]) r r<|w_seqw<|w_region ?_
 obtain ⟨x5,hx5,h6⟩:=bind_s h4
 refine o_v (ov_call (v:=aO) r (w_law24xexample hx5) trivial r r r) ?_
 obtain ⟨x7,hx7,h8⟩:=bind_s h6
 refine o_v (ov_call (v:=.tup [aI,aI]) r (w_history_Status hx7) ⟨lr,trivial⟩ r r r)<|mV (v:=.tup [aI,aI]) r<|o_p r (p_ex (v:=aI) r r)<|o_p r (p_ex (v:=aI) r r)<|sI r<|sI r<|o_ek (fr':=[(1,aO),(2,aI),(3,aI)]) r r<|w_seqw<|w_region ?_
 obtain ⟨x9,hx9,h10⟩:=bind_s h8
 refine o_v (ov_call (v:=aO) r (w_law24xexample hx9) trivial r r r) ?_
 obtain ⟨x11,hx11,h12⟩:=bind_s h10
 refine o_v (ov_call (v:=aI) r (w_history_Check hx11) ⟨lr,trivial⟩ r r r)<|o_p r (p_eql r r)<|mB r<|og r r r (fun hc=>(p_move (v:=aO) r))<|og r r r (fun hc=>(p_len ti28 (isl_o (gx r hc))))<|og r r r (fun hc=>(p_eql (gx r hc) r))<|o_p r (p_picky r r r (fun e=>keq e))<|mB r<|og r r r (fun hc=>(p_move (v:=aO) r)) ?_
 obtain ⟨x13,hx13,h14⟩:=bind_s h12
 refine og r r r (fun hc=>(p_ia (cs:=[PV.int _ _,PV.int _ _,PV.int _ _,PV.bool _]) ts28 (isl_o (gx r hc)) r (gd_some hx13 hc) r))<|og r r r (fun hc=>(p_loades (us:=[PV.int _ _,PV.int _ _,PV.int _ _,PV.bool _]) tv35 (gx r hc) r r))<|og r r r (fun hc=>(p_build (cs:=aIIIB) tb35 r))<|og r r r (fun hc=>(p_aeql eqk35 tv35 eg35 (gx r hc) (gx r hc) r r))<|o_p r (p_picky r r r (fun e=>keq e))<|mB r<|og r r r (fun hc=>(p_move (v:=aI) r))<|og r r r (fun hc=>(p_eql (gx r hc) r))<|o_p r (p_picky r r r (fun e=>keq e))<|mB r<|og r r r (fun hc=>(p_move (v:=aI) r))<|og r r r (fun hc=>(p_eql (gx r hc) r))<|o_p r (p_picky r r r (fun e=>keq e)) ?_
 refine sB r<|o_ek (fr':=[(0,aB)]) r r<|w_ret ?_
 obtain rfl:=sy h14
 exact e_ret (rs':=[.tmp 0]) r<|r_tmp (v:=aB) r<|r_nil<|fin_gen [] r r r lr st_nil
noncomputable def slices_Clone_api_Event_api_Event_mut (p0s:(List ApiEvent)):Option (List ApiEvent) :=
 app 272 ([]:List ApiEvent) p0s
theorem w_slices_Clone_api_Event_api_Event_mut {p0s:(List ApiEvent)}{res:(List ApiEvent)} (h:slices_Clone_api_Event_api_Event_mut p0s=some res):ACalls Tryz.prog 20 [.c (PV.ls 24 rowApiEvent p0s)] [] (AV.ms 0 24 rowApiEvent res) []:=by
 unfold slices_Clone_api_Event_api_Event_mut at h
 refine acalls (fn:=Tryz.f20) [0,2,4] (by kernel_rfl) Tryz.func20 r (by kernel_rfl) (by kernel_rfl) ?_
 obtain ⟨hm,he⟩:=app_some h
 rw [List.nil_append] at he
 subst he
 refine w_sr<|o_p r (p_assign (v:=.nil) r)<|o_end (fr':=[(0,.c (PV.ls _ _ _)),(2,.nil)]) r<|e_kw<|w_seqw<|w_sr<|o_p r (p_move (v:=.c (PV.ls _ _ _)) r)<|o_nilc (row:=rowApiEvent) ti22 (isl_c r) (fun b hb=>?_)
 refine o_end (fr':=[(0,.c (PV.ls _ _ _)),(2,.nil),(4,.c (.bool _))]) r<|e_kw<|w_cond b r (fun e=>?_) (fun e=>?_)
 ·
  rw [hb e]
  exact w_sr<|o_p r (p_assign (v:=.nil) r)<|o_end (fr':=[(0,.c (PV.ls _ _ _)),(2,.nil),(4,.c (.bool _))]) r<|e_kw<|w_ret<|e_seq_r<|e_ret (rs':=[.tmp 2]) r<|r_tmp (v:=.nil) r<|r_nil<|fin_gen [] r r r (le_nms r) st_nil
 ·
  refine w_skip<|e_kw<|w_sr<|o_rows (row:=rowApiEvent) (xs:=([]:List ApiEvent)) (rows:=[]) (σ':=[]) [] ts22 r r r arow_nil r r<|o_p r (p_move (v:=.c (PV.ls _ _ _)) r)<|o_appm (row:=rowApiEvent) ts22 r ti22 r (isl_c r) (fun _=>r) h<|o_p r (p_assign (v:=AV.ms _ _ _ _) r)<|o_end (fr':=[(0,.c (PV.ls _ _ _)),(2,AV.ms _ _ _ _),(4,.c (.bool _))]) r<|e_kw<|w_ret<|e_ret (rs':=[.tmp 2]) r<|r_tmp (v:=AV.ms _ _ _ _) r ?_
  exact r_nil<|fin_gen [112] r r r lr st_nil
noncomputable def slices_Clone_string_string (p0s:(List (List UInt8))):Option (List (List UInt8)) :=
 app 16 ([]:List (List UInt8)) p0s
theorem w_slices_Clone_string_string {p0s:(List (List UInt8))}{res:(List (List UInt8))} (h:slices_Clone_string_string p0s=some res):ACalls Tryz.prog 22 [.c (PV.ls 1 rowS p0s)] [] (AV.os 0 1 rowS res) []:=by
 unfold slices_Clone_string_string at h
 refine acalls (fn:=Tryz.f22) [0,2,4] (by kernel_rfl) Tryz.func22 r (by kernel_rfl) (by kernel_rfl) ?_
 obtain ⟨hm,he⟩:=app_some h
 rw [List.nil_append] at he
 subst he
 refine w_sr<|o_p r (p_assign (v:=.nil) r)<|o_end (fr':=[(0,.c (PV.ls _ _ _)),(2,.nil)]) r<|e_kw<|w_seqw<|w_sr<|o_p r (p_move (v:=.c (PV.ls _ _ _)) r)<|o_nilc (row:=rowS) ti39 (isl_c r) (fun b hb=>?_)
 refine o_end (fr':=[(0,.c (PV.ls _ _ _)),(2,.nil),(4,.c (.bool _))]) r<|e_kw<|w_cond b r (fun e=>?_) (fun e=>?_)
 ·
  rw [hb e]
  exact w_sr<|o_p r (p_assign (v:=.nil) r)<|o_end (fr':=[(0,.c (PV.ls _ _ _)),(2,.nil),(4,.c (.bool _))]) r<|e_kw<|w_ret<|e_seq_r<|e_ret (rs':=[.tmp 2]) r<|r_tmp (v:=.nil) r<|r_nil<|fin_gen [] r r r (le_nos r) st_nil
 ·
  refine w_skip<|e_kw<|w_sr<|o_rows (row:=rowS) (xs:=([]:List (List UInt8))) (rows:=[]) (σ':=[]) [] ts39 r r r arow_nil r r<|o_p r (p_move (v:=.c (PV.ls _ _ _)) r)<|o_app (row:=rowS) ts39 r ti39 r (isl_c r) (fun _=>r) h<|o_p r (p_assign (v:=AV.os _ _ _ _) r)<|o_end (fr':=[(0,.c (PV.ls _ _ _)),(2,AV.os _ _ _ _),(4,.c (.bool _))]) r<|e_kw<|w_ret<|e_ret (rs':=[.tmp 2]) r<|r_tmp (v:=AV.os _ _ _ _) r ?_
  exact r_nil<|fin_gen [112] r r r lr st_nil
noncomputable def slices_Clone_api_Value_api_Value_mut (p0s:(List ApiValue)):Option (List ApiValue) :=
 app 80 ([]:List ApiValue) p0s
theorem w_slices_Clone_api_Value_api_Value_mut {p0s:(List ApiValue)}{res:(List ApiValue)} (h:slices_Clone_api_Value_api_Value_mut p0s=some res):ACalls Tryz.prog 36 [.c (PV.ls 5 rowApiValue p0s)] [] (AV.ms 0 5 rowApiValue res) []:=by
 unfold slices_Clone_api_Value_api_Value_mut at h
 refine acalls (fn:=Tryz.f36) [0,2,4] (by kernel_rfl) Tryz.func36 r (by kernel_rfl) (by kernel_rfl) ?_
 obtain ⟨hm,he⟩:=app_some h
 rw [List.nil_append] at he
 subst he
 refine w_sr<|o_p r (p_assign (v:=.nil) r)<|o_end (fr':=[(0,.c (PV.ls _ _ _)),(2,.nil)]) r<|e_kw<|w_seqw<|w_sr<|o_p r (p_move (v:=.c (PV.ls _ _ _)) r)<|o_nilc (row:=rowApiValue) ti38 (isl_c r) (fun b hb=>?_)
 refine o_end (fr':=[(0,.c (PV.ls _ _ _)),(2,.nil),(4,.c (.bool _))]) r<|e_kw<|w_cond b r (fun e=>?_) (fun e=>?_)
 ·
  rw [hb e]
  exact w_sr<|o_p r (p_assign (v:=.nil) r)<|o_end (fr':=[(0,.c (PV.ls _ _ _)),(2,.nil),(4,.c (.bool _))]) r<|e_kw<|w_ret<|e_seq_r<|e_ret (rs':=[.tmp 2]) r<|r_tmp (v:=.nil) r<|r_nil<|fin_gen [] r r r (le_nms r) st_nil
 ·
  refine w_skip<|e_kw<|w_sr<|o_rows (row:=rowApiValue) (xs:=([]:List ApiValue)) (rows:=[]) (σ':=[]) [] ts38 r r r arow_nil r r<|o_p r (p_move (v:=.c (PV.ls _ _ _)) r)<|o_appm (row:=rowApiValue) ts38 r ti38 r (isl_c r) rowApiValue_len h<|o_p r (p_assign (v:=AV.ms _ _ _ _) r)<|o_end (fr':=[(0,.c (PV.ls _ _ _)),(2,AV.ms _ _ _ _),(4,.c (.bool _))]) r<|e_kw<|w_ret<|e_ret (rs':=[.tmp 2]) r<|r_tmp (v:=AV.ms _ _ _ _) r ?_
  exact r_nil<|fin_gen [112] r r r lr st_nil
noncomputable def history_values_l1 (rec_history_values:(List ApiValue)→Option (List ApiValue)) (x1:(List ApiValue)) (s6:((List ApiValue) × Int)):Option (Step ((List ApiValue) × Int) (List ApiValue)) :=
 cond (decide (s6.2<((x1).length:Int))) ((idx s6.1 s6.2).bind fun x8=>(rec_history_values x8.Items).bind fun x10=>(slices_Clone_string_string x8.Keys).bind fun x12=>(idx s6.1 s6.2).bind fun x14=>some (Step.next ((List.set s6.1 (Int.toNat s6.2) (ApiValue.mk x8.Kind x8.Int x8.Text x10 x12)),(IntKind.wrap .i64 (s6.2+(1:Int)))))) (some (Step.out s6.1))
noncomputable def history_valuesF:Nat→(List ApiValue)→Option (List ApiValue)
 | 0,_=>none
 | n+1,p0l =>
  (slices_Clone_api_Value_api_Value_mut p0l).bind fun x1=>((loopO (history_values_l1 (history_valuesF n) x1) ((x1,(0:Int)))):Option (List ApiValue)).bind fun x3=>(some x3)
theorem wF_history_values:∀ n:Nat,(∀ {p0l:(List ApiValue)}{res:(List ApiValue)},history_valuesF n p0l=some res→ACalls Tryz.prog 21 [.c (PV.ls 5 rowApiValue p0l)] [] (AV.os 0 5 rowApiValue res) []):=by
 intro n
 induction n with
 | zero=>exact fun {p0l res} h=>absurd h (by simp [history_valuesF])
 | succ n ih =>
  have ih_history_values:=@ih
  intro p0l res h
  rw [history_valuesF] at h
  refine acalls (fn:=Tryz.f21) [0,2,3,4,5,8,9,10,11] (by kernel_rfl) Tryz.func21 r (by kernel_rfl) (by kernel_rfl)<|w_sr<|sV (v:=AV.nil) r<|o_ek (fr':=[(0,aL)]) r r<|w_sr<|mL r ?_
  obtain ⟨x1,hx1,h2⟩:=bind_s h
  refine o_v (ov_call (v:=aM) r (w_slices_Clone_api_Value_api_Value_mut hx1) ⟨lr,trivial⟩ r r r)<|sV (v:=aM) r<|o_ek (fr':=[(3,aM)]) r r<|w_seqw<|w_sr<|mV (v:=aM) r<|o_p r (p_lenm ti38 r)<|mI r<|o_ek (fr':=[(3,aM),(8,aM),(9,aI),(10,aI)]) r r ?_
  obtain ⟨x3,hx3,h4⟩:=bind_s h2
  refine w_jtail cl_kw (fun j5=>x3=j5) (fun (j5:(List ApiValue))=>([(3,AV.os 0 5 rowApiValue j5)]:Fr)) (fun (j5:(List ApiValue))=>([]:St)) ?_ ?_
  ·
   refine w_block<|w_loopo _ (fun (s6:((List ApiValue) × Int))=>([(3,AV.ms 0 5 rowApiValue s6.1),(8,AV.ms 0 5 rowApiValue s6.1),(9,.c (.int .i64 ((x1).length:Int))),(10,.c (.int .i64 s6.2))]:Fr)) (fun (s6:((List ApiValue) × Int))=>([]:St)) hx3 (w_weak [112] 0 r r r r ⟨lr,lr,lr,lr,trivial⟩ st_nil) ?_
   intro s6 st6 hs6 ho6
   unfold history_values_l1 at hs6
   refine w_sr<|o_p r (p_lss r r)<|o_ek (fr':=[(3,aM),(8,aM),(9,aI),(10,aI),(11,aB)]) r r<|w_seqw<|w_ch hs6 r (fun hb7 h7=>?_) (fun hb7 h7=>?_)
   ·
    refine w_skip<|e_kw<|w_seqw<|w_block<|w_sr<|mI r ?_
    obtain ⟨x8,hx8,h9⟩:=bind_s h7
    refine o_p r (p_iam (cs:=[PV.int _ _,PV.int _ _,PV.str _,PV.ls _ _ _,PV.ls _ _ _]) ts38 r r hx8 (rowApiValue_eq _))<|o_p r (p_loadms (us:=[PV.int _ _,PV.int _ _,PV.str _,PV.ls _ _ _,PV.ls _ _ _]) tv41 r r r)<|o_alloc (n:=0) (cs:=[aI,aI,aS,AV.nil,AV.nil]) (σ':=[[aI,aI,aS,AV.nil,AV.nil]]) tz41 r r r<|sI r<|o_store (v:=.agg aIISLL) (us:=aIISLL) (cs:=[aI,aI,aS,AV.nil,AV.nil]) (σ':=[aIISLL]) r tv41 r r r r r r r r<|o_ek (fr':=[(3,aM),(4,aI),(5,.box 0 0),(8,aM),(9,aI),(10,aI)]) r r<|w_seqw<|w_planT [.q 0,.q 1,.q 2,.q 3,.q 4,.q 5,.q 6,.n 7 [],.q 8,.n 9 []] [(some 15,[5]),(some 16,[15]),(some 17,[16]),(some 18,[5]),(some 19,[18]),(some 20,[19]),(some 21,[5]),(none,[21,17]),(some 22,[5]),(none,[22,20])] [0,1,3,0,8,31,31,127,255,511] (by kernel_rfl)<|dq r r (p_fa tf41x3 r)<|dq r r (p_load (v:=aL) tv38 r r r) ?_
    obtain ⟨x10,hx10,h11⟩:=bind_s h9
    refine d_q r (qv_call (v:=aL) r (ih_history_values hx10) ⟨lr,trivial⟩ r)<|dq r r (p_fa tf41x4 r)<|dq r r (p_load (v:=aL) tv39 r r r) ?_
    obtain ⟨x12,hx12,h13⟩:=bind_s h11
    refine d_q r (qv_call (v:=aL) r (w_slices_Clone_string_string hx12) ⟨lr,trivial⟩ r)<|dq r r (p_fa tf41x3 r)<|d_n r ?_ r
    refine o_store (v:=aL) (us:=[aL]) (cs:=aIISLL) (σ':=[aIISLL]) r tv38 r r r r r r r r<|o_rc<|⟨rc_nil,?_⟩
    refine dq r r (p_fa tf41x4 r)<|d_n r ?_ r
    refine o_store (v:=aL) (us:=[aL]) (cs:=aIISLL) (σ':=[aIISLL]) r tv39 r r r r r r r r<|o_rc<|⟨rc_nil,?_⟩
    refine d_ek (fr':=[(3,aM),(4,aI),(5,.box 0 0),(8,aM),(9,aI),(10,aI)]) r r<|w_region<|mV (v:=aM) r<|mI r<|o_p r (p_loads (us:=aIISLL) tv41 r r r r) ?_
    obtain ⟨x14,hx14,h15⟩:=bind_s h13
    exact o_p r (p_iam (cs:=[PV.int _ _,PV.int _ _,PV.str _,PV.ls _ _ _,PV.ls _ _ _]) ts38 r r hx14 (rowApiValue_eq _))<|o_mst (v:=.agg aIISLL) (cs:=[PV.int _ _,PV.int _ _,PV.str _,PV.ls _ _ _,PV.ls _ _ _]) (row:=rowApiValue) (xs:=s6.1) (u:=(ApiValue.mk x8.Kind x8.Int x8.Text x10 x12)) [] [(26,0)] tv41 r r r r r r (rowApiValue_eq _) ⟨r,trivial⟩ r r<|o_end (fr':=[(3,aM),(4,aI),(5,.box 0 0),(8,aM),(9,aI),(10,aI)]) r<|e_blk_n<|e_kw<|w_region<|o_p r (p_add r r)<|mI r<|o_end (fr':=[(3,aM),(4,aI),(5,.box 0 0),(8,aM),(9,aI),(10,aI)]) r<|e_l _ (sy h15) (w_weak [0] 0 r r r r ⟨lr,lr,lr,lr,trivial⟩ st_nil)
   ·
    refine w_exit<|e_seq_x<|e_seq_x<|e_blk_h ?_
    have h16:=un_out h7 ho6
    exact e_j _ (sy h16) (w_frz 0 5 rowApiValue s6.1 r r (w_weak [0] 0 r r r r ⟨lr,trivial⟩ st_nil))
  ·
   intro j5 hj17
   subst hj17
   refine e_kw<|w_sr<|mV (v:=aO) r<|sV (v:=aO) r<|o_ek (fr':=[(2,aO)]) r r<|w_ret ?_
   obtain rfl:=sy h4
   exact e_ret (rs':=[.tmp 2]) r<|r_tmp (v:=aO) r<|r_nil<|fin_gen [0] r r r lr st_nil
noncomputable def history_values (p0l:(List ApiValue)):Option (List ApiValue):=lim fun n=>history_valuesF n p0l
theorem w_history_values {p0l:(List ApiValue)}{res:(List ApiValue)} (h:history_values p0l=some res):ACalls Tryz.prog 21 [.c (PV.ls 5 rowApiValue p0l)] [] (AV.os 0 5 rowApiValue res) []:=by
 obtain ⟨n,hn⟩:=lim_some h
 exact (wF_history_values n) hn
noncomputable def history_copied_l1 (x1:(List ApiEvent)) (s6:((List ApiEvent) × Int)):Option (Step ((List ApiEvent) × Int) (List ApiEvent)) :=
 cond (decide (s6.2<((x1).length:Int))) ((idx s6.1 s6.2).bind fun x8=>(history_values ([x8.Data]:List ApiValue)).bind fun x10=>(idx x10 (0:Int)).bind fun x12=>(slices_Clone_string_string x8.Opts.Fatal).bind fun x14=>(idx s6.1 s6.2).bind fun x16=>some (Step.next ((List.set s6.1 (Int.toNat s6.2) (ApiEvent.mk x8.ID x8.Kind x8.Time x8.Seq x8.Ref x8.N x8.Code x8.Name x8.Key x12 (ApiPolicy.mk x8.Opts.Queue x8.Opts.ToStart x8.Opts.ToClose x8.Opts.Total x8.Opts.Beat x8.Opts.First x8.Opts.Coef x8.Opts.Most x8.Opts.Attempts x14))),(IntKind.wrap .i64 (s6.2+(1:Int)))))) (some (Step.out s6.1))
noncomputable def history_copied (p0l:(List ApiEvent)):Option (List ApiEvent) :=
 (slices_Clone_api_Event_api_Event_mut p0l).bind fun x1=>((loopO (history_copied_l1 x1) ((x1,(0:Int)))):Option (List ApiEvent)).bind fun x3=>(some x3)
theorem w_history_copied {p0l:(List ApiEvent)}{res:(List ApiEvent)} (h:history_copied p0l=some res):ACalls Tryz.prog 12 [.c (PV.ls 24 rowApiEvent p0l)] [] (AV.os 0 24 rowApiEvent res) []:=by
 unfold history_copied at h
 refine acalls (fn:=Tryz.f12) [0,2,3,4,5,8,9,10,11] (by kernel_rfl) Tryz.func12 r (by kernel_rfl) (by kernel_rfl)<|w_sr<|sV (v:=AV.nil) r<|o_ek (fr':=[(0,aL)]) r r<|w_sr<|mL r ?_
 obtain ⟨x1,hx1,h2⟩:=bind_s h
 refine o_v (ov_call (v:=aM) r (w_slices_Clone_api_Event_api_Event_mut hx1) ⟨lr,trivial⟩ r r r)<|sV (v:=aM) r<|o_ek (fr':=[(3,aM)]) r r<|w_seqw<|w_sr<|mV (v:=aM) r<|o_p r (p_lenm ti22 r)<|mI r<|o_ek (fr':=[(3,aM),(8,aM),(9,aI),(10,aI)]) r r ?_
 obtain ⟨x3,hx3,h4⟩:=bind_s h2
 refine w_jtail cl_kw (fun j5=>x3=j5) (fun (j5:(List ApiEvent))=>([(3,AV.os 0 24 rowApiEvent j5)]:Fr)) (fun (j5:(List ApiEvent))=>([]:St)) ?_ ?_
 ·
  refine w_block<|w_loopo _ (fun (s6:((List ApiEvent) × Int))=>([(3,AV.ms 0 24 rowApiEvent s6.1),(8,AV.ms 0 24 rowApiEvent s6.1),(9,.c (.int .i64 ((x1).length:Int))),(10,.c (.int .i64 s6.2))]:Fr)) (fun (s6:((List ApiEvent) × Int))=>([]:St)) hx3 (w_weak [112] 0 r r r r ⟨lr,lr,lr,lr,trivial⟩ st_nil) ?_
  intro s6 st6 hs6 ho6
  unfold history_copied_l1 at hs6
  refine w_sr<|o_p r (p_lss r r)<|o_ek (fr':=[(3,aM),(8,aM),(9,aI),(10,aI),(11,aB)]) r r<|w_seqw<|w_ch hs6 r (fun hb7 h7=>?_) (fun hb7 h7=>?_)
  ·
   refine w_skip<|e_kw<|w_seqw<|w_block<|w_sr<|mI r ?_
   obtain ⟨x8,hx8,h9⟩:=bind_s h7
   refine o_p r (p_iam (cs:=[PV.int _ _,PV.int _ _,PV.int _ _,PV.int _ _,PV.int _ _,PV.int _ _,PV.int _ _,PV.str _,PV.str _,PV.int _ _,PV.int _ _,PV.str _,PV.ls _ _ _,PV.ls _ _ _,PV.str _,PV.int _ _,PV.int _ _,PV.int _ _,PV.int _ _,PV.int _ _,PV.int _ _,PV.int _ _,PV.int _ _,PV.ls _ _ _]) ts22 r r hx8 r)<|o_p r (p_loadms (us:=[PV.int _ _,PV.int _ _,PV.int _ _,PV.int _ _,PV.int _ _,PV.int _ _,PV.int _ _,PV.str _,PV.str _,PV.int _ _,PV.int _ _,PV.str _,PV.ls _ _ _,PV.ls _ _ _,PV.str _,PV.int _ _,PV.int _ _,PV.int _ _,PV.int _ _,PV.int _ _,PV.int _ _,PV.int _ _,PV.int _ _,PV.ls _ _ _]) tv45 r r r)<|o_alloc (n:=0) (cs:=[aI,aI,aI,aI,aI,aI,aI,aS,aS,aI,aI,aS,AV.nil,AV.nil,aS,aI,aI,aI,aI,aI,aI,aI,aI,AV.nil]) (σ':=[[aI,aI,aI,aI,aI,aI,aI,aS,aS,aI,aI,aS,AV.nil,AV.nil,aS,aI,aI,aI,aI,aI,aI,aI,aI,AV.nil]]) tz45 r r r<|sI r<|o_store (v:=.agg aIIIIIIISSIISLLSIIIIIIIIL) (us:=aIIIIIIISSIISLLSIIIIIIIIL) (cs:=[aI,aI,aI,aI,aI,aI,aI,aS,aS,aI,aI,aS,AV.nil,AV.nil,aS,aI,aI,aI,aI,aI,aI,aI,aI,AV.nil]) (σ':=[aIIIIIIISSIISLLSIIIIIIIIL]) r tv45 r r r r r r r r<|o_ek (fr':=[(3,aM),(4,aI),(5,.box 0 0),(8,aM),(9,aI),(10,aI)]) r r<|w_sr<|o_p r (p_fa tf45x9 r)<|o_p r (p_loads (us:=aIISLL) tv41 r r r r)<|o_rows (row:=rowApiValue) (xs:=([x8.Data]:List ApiValue)) (rows:=[[_,_,_,_,_]]) (σ':=[aIIIIIIISSIISLLSIIIIIIIIL]) [0,0,0,5,1] ts38 r r r (arow_cons (rowApiValue_eq _) arow_nil) r r ?_
   obtain ⟨x10,hx10,h11⟩:=bind_s h9
   refine o_v (ov_call (v:=aO) r (w_history_values hx10) ⟨lr,trivial⟩ r r r) ?_
   obtain ⟨x12,hx12,h13⟩:=bind_s h11
   refine o_p r (p_ia (cs:=[PV.int _ _,PV.int _ _,PV.str _,PV.ls _ _ _,PV.ls _ _ _]) ts38 (isl_o r) r hx12 (rowApiValue_eq _))<|o_p r (p_loades (us:=[PV.int _ _,PV.int _ _,PV.str _,PV.ls _ _ _,PV.ls _ _ _]) tv41 r r r)<|o_p r (p_fa tf45x9 r)<|o_store (v:=.agg aIISLL) (us:=aIISLL) (cs:=aIIIIIIISSIISLLSIIIIIIIIL) (σ':=[aIIIIIIISSIISLLSIIIIIIIIL]) r tv41 r r r r r r r r<|o_ek (fr':=[(3,aM),(4,aI),(5,.box 0 0),(8,aM),(9,aI),(10,aI)]) r r<|w_sr<|o_p r (p_fa tf45x10 r)<|o_p r (p_fa tf43x9 r)<|o_p r (p_load (v:=aL) tv39 r r r) ?_
   obtain ⟨x14,hx14,h15⟩:=bind_s h13
   refine o_v (ov_call (v:=aO) r (w_slices_Clone_string_string hx14) ⟨lr,trivial⟩ r r r)<|o_p r (p_fa tf45x10 r)<|o_p r (p_fa tf43x9 r)<|o_store (v:=aO) (us:=[aO]) (cs:=aIIIIIIISSIISLLSIIIIIIIIL) (σ':=[[aI,aI,aI,aI,aI,aI,aI,aS,aS,aI,aI,aS,aL,aL,aS,aI,aI,aI,aI,aI,aI,aI,aI,aO]]) r tv39 r r r r r r r r<|o_ek (fr':=[(3,aM),(4,aI),(5,.box 0 0),(8,aM),(9,aI),(10,aI)]) r r<|w_region<|mV (v:=aM) r<|mI r<|o_p r (p_loads (us:=[aI,aI,aI,aI,aI,aI,aI,aS,aS,aI,aI,aS,aL,aL,aS,aI,aI,aI,aI,aI,aI,aI,aI,aO]) tv45 r r r r) ?_
   obtain ⟨x16,hx16,h17⟩:=bind_s h15
   exact o_p r (p_iam (cs:=[PV.int _ _,PV.int _ _,PV.int _ _,PV.int _ _,PV.int _ _,PV.int _ _,PV.int _ _,PV.str _,PV.str _,PV.int _ _,PV.int _ _,PV.str _,PV.ls _ _ _,PV.ls _ _ _,PV.str _,PV.int _ _,PV.int _ _,PV.int _ _,PV.int _ _,PV.int _ _,PV.int _ _,PV.int _ _,PV.int _ _,PV.ls _ _ _]) ts22 r r hx16 r)<|o_mst (v:=.agg [aI,aI,aI,aI,aI,aI,aI,aS,aS,aI,aI,aS,aL,aL,aS,aI,aI,aI,aI,aI,aI,aI,aI,aO]) (cs:=[PV.int _ _,PV.int _ _,PV.int _ _,PV.int _ _,PV.int _ _,PV.int _ _,PV.int _ _,PV.str _,PV.str _,PV.int _ _,PV.int _ _,PV.str _,PV.ls _ _ _,PV.ls _ _ _,PV.str _,PV.int _ _,PV.int _ _,PV.int _ _,PV.int _ _,PV.int _ _,PV.int _ _,PV.int _ _,PV.int _ _,PV.ls _ _ _]) (row:=rowApiEvent) (xs:=s6.1) (u:=(ApiEvent.mk x8.ID x8.Kind x8.Time x8.Seq x8.Ref x8.N x8.Code x8.Name x8.Key x12 (ApiPolicy.mk x8.Opts.Queue x8.Opts.ToStart x8.Opts.ToClose x8.Opts.Total x8.Opts.Beat x8.Opts.First x8.Opts.Coef x8.Opts.Most x8.Opts.Attempts x14))) [] [(31,0)] tv45 r r r r r r r ⟨r,trivial⟩ r r<|o_end (fr':=[(3,aM),(4,aI),(5,.box 0 0),(8,aM),(9,aI),(10,aI)]) r<|e_blk_n<|e_kw<|w_region<|o_p r (p_add r r)<|mI r<|o_end (fr':=[(3,aM),(4,aI),(5,.box 0 0),(8,aM),(9,aI),(10,aI)]) r<|e_l _ (sy h17) (w_weak [0] 0 r r r r ⟨lr,lr,lr,lr,trivial⟩ st_nil)
  ·
   refine w_exit<|e_seq_x<|e_seq_x<|e_blk_h ?_
   have h18:=un_out h7 ho6
   exact e_j _ (sy h18) (w_frz 0 24 rowApiEvent s6.1 r r (w_weak [0] 0 r r r r ⟨lr,trivial⟩ st_nil))
 ·
  intro j5 hj19
  subst hj19
  refine e_kw<|w_sr<|mV (v:=aO) r<|sV (v:=aO) r<|o_ek (fr':=[(2,aO)]) r r<|w_ret ?_
  obtain rfl:=sy h4
  exact e_ret (rs':=[.tmp 2]) r<|r_tmp (v:=aO) r<|r_nil<|fin_gen [0] r r r lr st_nil
noncomputable def history_Append (p0l:(List ApiEvent)) (p1more:(List ApiEvent)):Option ((List ApiEvent) × Int) :=
 (history_copied p0l).bind fun x1=>(history_copied p1more).bind fun x3=>(app 272 x1 x3).bind fun x5=>(history_Check x5).bind fun x7=>cond (!decide (x7=(0:Int))) (some (([]:(List ApiEvent)),x7)) (some (x5,(0:Int)))
theorem w_history_Append {p0l:(List ApiEvent)}{p1more:(List ApiEvent)}{res:((List ApiEvent) × Int)} (h:history_Append p0l p1more=some res):ACalls Tryz.prog 5 [.c (PV.ls 24 rowApiEvent p0l),.c (PV.ls 24 rowApiEvent p1more)] [] (.tup [AV.os 0 24 rowApiEvent res.1,.c (.int .i64 res.2)]) []:=by
 unfold history_Append at h
 refine acalls (fn:=Tryz.f5) [0,1,4,5,6,7,16] (by kernel_rfl) Tryz.func5 r (by kernel_rfl) (by kernel_rfl)<|w_sr<|sV (v:=AV.nil) r<|sI r<|o_ek (fr':=[(0,aL),(1,aL)]) r r<|w_sr<|mL r ?_
 obtain ⟨x1,hx1,h2⟩:=bind_s h
 refine o_v (ov_call (v:=aO) r (w_history_copied hx1) ⟨lr,trivial⟩ r r r)<|mL r ?_
 obtain ⟨x3,hx3,h4⟩:=bind_s h2
 refine o_v (ov_call (v:=aO) r (w_history_copied hx3) ⟨lr,trivial⟩ r r r) ?_
 obtain ⟨x5,hx5,h6⟩:=bind_s h4
 refine o_app (row:=rowApiEvent) ts22 r ti22 r (isl_o r) (fun _=>r) hx5<|sV (v:=aO) r<|o_ek (fr':=[(6,aO)]) r r<|w_seqw<|w_sr<|mV (v:=aO) r ?_
 obtain ⟨x7,hx7,h8⟩:=bind_s h6
 refine o_v (ov_call (v:=aI) r (w_history_Check hx7) ⟨lr,trivial⟩ r r r)<|sI r<|o_ek (fr':=[(6,aO),(7,aI)]) r r<|w_sr<|mI r<|o_p r (p_neq r r)<|o_ek (fr':=[(6,aO),(7,aI),(16,aB)]) r r<|w_ch h8 r (fun hb9 h9=>?_) (fun hb9 h9=>?_)
 ·
  refine w_sr<|mI r<|sV (v:=AV.nil) r<|sI r<|o_ek (fr':=[(4,AV.nil),(5,aI)]) r r<|w_ret<|e_seq_r ?_
  obtain rfl:=sy h9
  exact e_ret (rs':=[.tmp 4,.tmp 5]) r<|r_tmp (v:=AV.nil) r<|r_tmp (v:=aI) r<|r_nil<|fin_gen [1000000] r r r (le_tupp r ⟨(le_nos r),lr,trivial⟩) st_nil
 ·
  refine w_skip<|e_kw<|w_sr<|mV (v:=aO) r<|sV (v:=aO) r<|sI r<|o_ek (fr':=[(4,aO),(5,aI)]) r r<|w_ret ?_
  obtain rfl:=sy h9
  exact e_ret (rs':=[.tmp 4,.tmp 5]) r<|r_tmp (v:=aO) r<|r_tmp (v:=aI) r<|r_nil<|fin_gen [192] r r r (le_tupp r ⟨lr,lr,trivial⟩) st_nil
noncomputable def ref22xin (p0n:Int) (p1low:Int) (p2high:Int):Option Bool :=
 some (cond (decide (p1low≤p0n)) (decide (p0n≤p2high)) false)
theorem w_ref22xin {p0n:Int}{p1low:Int}{p2high:Int}{res:Bool} (h:ref22xin p0n p1low p2high=some res):ACalls Tryz.prog 37 [.c (.int .i64 p0n),.c (.int .i64 p1low),.c (.int .i64 p2high)] [] (.c (.bool res)) []:=by
 unfold ref22xin at h
 refine acalls (fn:=Tryz.f37) [0,1,2,6] (by kernel_rfl) Tryz.func37 r (by kernel_rfl) (by kernel_rfl)<|w_sr<|sB r<|o_ek (fr':=[(0,aI),(1,aI),(2,aI)]) r r<|w_sr<|mI r<|mI r<|o_p r (p_geq r r)<|mB r<|og r r r (fun hc=>(p_move (v:=aI) r))<|og r r r (fun hc=>(p_move (v:=aI) r)) ?_
 refine og r r r (fun hc=>(p_leq (gx r hc) (gx r hc)))<|o_p r (p_picky r r r (fun e=>keq e))<|sB r<|o_ek (fr':=[(6,aB)]) r r<|w_ret ?_
 obtain rfl:=sy h
 exact e_ret (rs':=[.tmp 6]) r<|r_tmp (v:=aB) r<|r_nil<|fin_gen [] r r r lr st_nil
end Go.Proofs.YtmbdbdhdcbdcpaaGreatDoor

import Derived.Test.YtmbdbdhdcbdcpaaGreatDoorGATy
namespace Go.Proofs.YtmbdbdhdcbdcpaaGreatDoor
open Go Abs
set_option maxRecDepth 100000
set_option linter.unusedVariables false
set_option linter.unusedSimpArgs false
noncomputable def event_Status (p0kind:Int):Option (Int × Bool) :=
 cond (decide (p0kind=(30:Int))) (some ((1:Int),true)) (cond (decide (p0kind=(31:Int))) (some ((2:Int),true)) (cond (decide (p0kind=(32:Int))) (some ((3:Int),true)) (cond (decide (p0kind=(33:Int))) (some ((4:Int),true)) (cond (decide (p0kind=(34:Int))) (some ((5:Int),true)) (cond (decide (p0kind=(35:Int))) (some ((6:Int),true)) (some ((0:Int),false)))))))
theorem w_event_Status {p0kind:Int}{res:(Int × Bool)} (h:event_Status p0kind=some res):ACalls Tryz.prog 16 [.c (.int .i64 p0kind)] [] (.tup [.c (.int .i64 res.1),.c (.bool res.2)]) []:=by
 unfold event_Status at h
 refine acalls (fn:=Tryz.f16) [0,2,3,4,5,7,9,11,13,15] (by kernel_rfl) Tryz.func16 r (by kernel_rfl) (by kernel_rfl)<|w_sr<|sI r<|sB r<|o_ek (fr':=[(0,aI)]) r r<|w_seqw<|w_sr<|mI r<|o_ek (fr':=[(4,aI)]) r r<|w_block<|w_seqw ?_
 refine w_region<|o_p r (p_eql r r)<|sB r<|o_ek (fr':=[(4,aI),(5,aB)]) r r<|w_ch h r (fun hb1 h1=>?_) (fun hb1 h1=>?_)
 ·
  refine w_sr<|sI r<|sB r<|o_ek (fr':=[(2,aI),(3,aB)]) r r<|w_ret<|e_blk_r<|e_seq_r ?_
  obtain rfl:=sy h1
  exact e_ret (rs':=[.tmp 2,.tmp 3]) r<|r_tmp (v:=aI) r<|r_tmp (v:=aB) r<|r_nil<|fin_gen [] r r r (le_tupp r ⟨lr,lr,trivial⟩) st_nil
 ·
  refine w_sr<|o_p r (p_eql r r)<|sB r<|o_ek (fr':=[(4,aI),(7,aB)]) r r<|w_ch h1 r (fun hb3 h3=>?_) (fun hb3 h3=>?_)
  ·
   refine w_sr<|sI r<|sB r<|o_ek (fr':=[(2,aI),(3,aB)]) r r<|w_ret<|e_blk_r<|e_seq_r ?_
   obtain rfl:=sy h3
   exact e_ret (rs':=[.tmp 2,.tmp 3]) r<|r_tmp (v:=aI) r<|r_tmp (v:=aB) r<|r_nil<|fin_gen [] r r r (le_tupp r ⟨lr,lr,trivial⟩) st_nil
  ·
   refine w_sr<|o_p r (p_eql r r)<|sB r<|o_ek (fr':=[(4,aI),(9,aB)]) r r<|w_ch h3 r (fun hb5 h5=>?_) (fun hb5 h5=>?_)
   ·
    refine w_sr<|sI r<|sB r<|o_ek (fr':=[(2,aI),(3,aB)]) r r<|w_ret<|e_blk_r<|e_seq_r ?_
    obtain rfl:=sy h5
    exact e_ret (rs':=[.tmp 2,.tmp 3]) r<|r_tmp (v:=aI) r<|r_tmp (v:=aB) r<|r_nil<|fin_gen [] r r r (le_tupp r ⟨lr,lr,trivial⟩) st_nil
   ·
    refine w_sr<|o_p r (p_eql r r)<|sB r<|o_ek (fr':=[(4,aI),(11,aB)]) r r<|w_ch h5 r (fun hb7 h7=>?_) (fun hb7 h7=>?_)
    ·
     refine w_sr<|sI r<|sB r<|o_ek (fr':=[(2,aI),(3,aB)]) r r<|w_ret<|e_blk_r<|e_seq_r ?_
     obtain rfl:=sy h7
     exact e_ret (rs':=[.tmp 2,.tmp 3]) r<|r_tmp (v:=aI) r<|r_tmp (v:=aB) r<|r_nil<|fin_gen [] r r r (le_tupp r ⟨lr,lr,trivial⟩) st_nil
    ·
     refine w_sr<|o_p r (p_eql r r)<|sB r<|o_ek (fr':=[(4,aI),(13,aB)]) r r<|w_ch h7 r (fun hb9 h9=>?_) (fun hb9 h9=>?_)
     ·
      refine w_sr<|sI r<|sB r<|o_ek (fr':=[(2,aI),(3,aB)]) r r<|w_ret<|e_blk_r<|e_seq_r ?_
      obtain rfl:=sy h9
      exact e_ret (rs':=[.tmp 2,.tmp 3]) r<|r_tmp (v:=aI) r<|r_tmp (v:=aB) r<|r_nil<|fin_gen [] r r r (le_tupp r ⟨lr,lr,trivial⟩) st_nil
     ·
      refine w_sr<|o_p r (p_eql r r)<|sB r<|o_ek (fr':=[(15,aB)]) r r<|w_ch h9 r (fun hb11 h11=>?_) (fun hb11 h11=>?_)
      ·
       refine w_sr<|sI r<|sB r<|o_ek (fr':=[(2,aI),(3,aB)]) r r<|w_ret<|e_blk_r<|e_seq_r ?_
       obtain rfl:=sy h11
       exact e_ret (rs':=[.tmp 2,.tmp 3]) r<|r_tmp (v:=aI) r<|r_tmp (v:=aB) r<|r_nil<|fin_gen [] r r r (le_tupp r ⟨lr,lr,trivial⟩) st_nil
      ·
       refine w_skip<|e_blk_n<|e_kw<|w_sr<|sI r<|sB r<|o_ek (fr':=[(2,aI),(3,aB)]) r r<|w_ret ?_
       obtain rfl:=sy h11
       exact e_ret (rs':=[.tmp 2,.tmp 3]) r<|r_tmp (v:=aI) r<|r_tmp (v:=aB) r<|r_nil<|fin_gen [] r r r (le_tupp r ⟨lr,lr,trivial⟩) st_nil
noncomputable def history_Status_l1 (p0l:(List ApiEvent)) (s4:Int):Option (Step Int (Fl (Int × Int) Unit)) :=
 cond (decide (s4<((p0l).length:Int))) ((idx p0l s4).bind fun x6=>(event_Status x6.Kind).bind fun x8=>cond x8.2 (some (Step.out (Fl.done (x8.1,s4)))) (some (Step.next (IntKind.wrap .i64 (s4+(1:Int)))))) (some (Step.out (Fl.go ())))
noncomputable def history_Status (p0l:(List ApiEvent)):Option (Int × Int) :=
 ((loopO (history_Status_l1 p0l) ((0:Int))):Option (Fl (Int × Int) Unit)).bind fun x1=>Fl.next x1 (fun j3=>(some ((0:Int),(-1:Int))))
theorem w_history_Status {p0l:(List ApiEvent)}{res:(Int × Int)} (h:history_Status p0l=some res):ACalls Tryz.prog 10 [.c (PV.ls 24 rowApiEvent p0l)] [] (.tup [.c (.int .i64 res.1),.c (.int .i64 res.2)]) []:=by
 unfold history_Status at h
 refine acalls (fn:=Tryz.f10) [0,2,3,4,5,6,7,8,9,10,11,21] (by kernel_rfl) Tryz.func10 r (by kernel_rfl) (by kernel_rfl)<|w_sr<|sI r<|sI r<|o_ek (fr':=[(0,aL)]) r r<|w_seqw<|w_sr<|mL r<|o_p r (p_len ti22 (isl_c r))<|mI r<|o_ek (fr':=[(8,aL),(9,aI),(10,aI)]) r r ?_
 obtain ⟨x1,hx1,h2⟩:=bind_s h
 refine w_jtail cl_kw (fun j3=>x1=Fl.go j3) (fun (j3:Unit)=>([]:Fr)) (fun (j3:Unit)=>([]:St)) ?_ ?_
 ·
  refine w_block<|w_loopo _ (fun (s4:Int)=>([(8,.c (PV.ls 24 rowApiEvent p0l)),(9,.c (.int .i64 ((p0l).length:Int))),(10,.c (.int .i64 s4))]:Fr)) (fun (s4:Int)=>([]:St)) hx1 (w_weak [] 0 r r r r ⟨lr,lr,lr,trivial⟩ st_nil) ?_
  intro s4 st4 hs4 ho4
  unfold history_Status_l1 at hs4
  refine w_sr<|o_p r (p_lss r r)<|o_ek (fr':=[(8,aL),(9,aI),(10,aI),(11,aB)]) r r<|w_seqw<|w_ch hs4 r (fun hb5 h5=>?_) (fun hb5 h5=>?_)
  ·
   refine w_skip<|e_kw<|w_seqw<|w_block<|w_sr<|mI r ?_
   obtain ⟨x6,hx6,h7⟩:=bind_s h5
   refine o_p r (p_ia (cs:=[PV.int _ _,PV.int _ _,PV.int _ _,PV.int _ _,PV.int _ _,PV.int _ _,PV.int _ _,PV.str _,PV.str _,PV.int _ _,PV.int _ _,PV.str _,PV.ls _ _ _,PV.ls _ _ _,PV.str _,PV.int _ _,PV.int _ _,PV.int _ _,PV.int _ _,PV.int _ _,PV.int _ _,PV.int _ _,PV.int _ _,PV.ls _ _ _]) ts22 (isl_c r) r hx6 r)<|o_p r (p_loades (us:=[PV.int _ _,PV.int _ _,PV.int _ _,PV.int _ _,PV.int _ _,PV.int _ _,PV.int _ _,PV.str _,PV.str _,PV.int _ _,PV.int _ _,PV.str _,PV.ls _ _ _,PV.ls _ _ _,PV.str _,PV.int _ _,PV.int _ _,PV.int _ _,PV.int _ _,PV.int _ _,PV.int _ _,PV.int _ _,PV.int _ _,PV.ls _ _ _]) tv45 r r r)<|o_alloc (n:=0) (cs:=[aI,aI,aI,aI,aI,aI,aI,aS,aS,aI,aI,aS,AV.nil,AV.nil,aS,aI,aI,aI,aI,aI,aI,aI,aI,AV.nil]) (σ':=[[aI,aI,aI,aI,aI,aI,aI,aS,aS,aI,aI,aS,AV.nil,AV.nil,aS,aI,aI,aI,aI,aI,aI,aI,aI,AV.nil]]) tz45 r r r<|sI r<|o_store (v:=.agg aIIIIIIISSIISLLSIIIIIIIIL) (us:=aIIIIIIISSIISLLSIIIIIIIIL) (cs:=[aI,aI,aI,aI,aI,aI,aI,aS,aS,aI,aI,aS,AV.nil,AV.nil,aS,aI,aI,aI,aI,aI,aI,aI,aI,AV.nil]) (σ':=[aIIIIIIISSIISLLSIIIIIIIIL]) r tv45 r r r r r r r r<|o_ek (fr':=[(4,aI),(5,.box 0 0),(8,aL),(9,aI),(10,aI)]) r r<|w_sr<|o_p r (p_fa tf45x1 r)<|o_p r (p_load (v:=aI) tv3 r r r) ?_
   obtain ⟨x8,hx8,h9⟩:=bind_s h7
   refine o_v (ov_call (v:=.tup [aI,aB]) r (w_event_Status hx8) ⟨lr,trivial⟩ r r r)<|mV (v:=.tup [aI,aB]) r<|o_p r (p_ex (v:=aI) r r)<|o_p r (p_ex (v:=aB) r r)<|sI r<|sB r<|o_ek (fr':=[(4,aI),(6,aI),(7,aB),(8,aL),(9,aI),(10,aI)]) r r<|w_sr<|mB r<|o_ek (fr':=[(4,aI),(6,aI),(8,aL),(9,aI),(10,aI),(21,aB)]) r r<|w_ch h9 r (fun hb10 h10=>?_) (fun hb10 h10=>?_)
   ·
    refine w_sr<|mI r<|mI r<|sI r<|sI r<|o_ek (fr':=[(2,aI),(3,aI)]) r r<|w_ret<|e_blk_r<|e_seq_r<|e_seq_r<|e_blk_r<|e_seq_r ?_
    refine e_seq_r ?_
    have h11:=un_out h10 ho4
    have h12:=un_done h11 h2
    obtain rfl:=sy h12
    exact e_ret (rs':=[.tmp 2,.tmp 3]) r<|r_tmp (v:=aI) r<|r_tmp (v:=aI) r<|r_nil<|fin_gen [] r r r (le_tupp r ⟨lr,lr,trivial⟩) st_nil
   ·
    exact w_skip<|e_blk_n<|e_kw<|w_region<|o_p r (p_add r r)<|mI r<|o_end (fr':=[(4,aI),(6,aI),(8,aL),(9,aI),(10,aI),(21,aB)]) r<|e_l _ (sy h10) (w_weak [] 0 r r r r ⟨lr,lr,lr,trivial⟩ st_nil)
  ·
   refine w_exit<|e_seq_x<|e_seq_x<|e_blk_h ?_
   have h14:=un_out h5 ho4
   exact e_j _ (sy h14) (w_weak [] 0 r r r r trivial st_nil)
 ·
  intro j3 hj15
  have h15:=un_go hj15 h2
  refine e_kw<|w_sr<|sI r<|sI r<|o_ek (fr':=[(2,aI),(3,aI)]) r r<|w_ret ?_
  obtain rfl:=sy h15
  exact e_ret (rs':=[.tmp 2,.tmp 3]) r<|r_tmp (v:=aI) r<|r_tmp (v:=aI) r<|r_nil<|fin_gen [] r r r (le_tupp r ⟨lr,lr,trivial⟩) st_nil
noncomputable def event_commandOf (p0kind:Int):Option Int :=
 cond (decide (p0kind=(7:Int))) (some (1:Int)) (cond (decide (p0kind=(12:Int))) (some (2:Int)) (cond (decide (p0kind=(14:Int))) (some (3:Int)) (cond (decide (p0kind=(16:Int))) (some (4:Int)) (cond (decide (p0kind=(19:Int))) (some (5:Int)) (cond (decide (p0kind=(23:Int))) (some (6:Int)) (cond (decide (p0kind=(18:Int))) (some (7:Int)) (cond (decide (p0kind=(27:Int))) (some (8:Int)) (cond (decide (p0kind=(28:Int))) (some (9:Int)) (cond (decide (p0kind=(29:Int))) (some (10:Int)) (cond (decide (p0kind=(30:Int))) (some (11:Int)) (cond (decide (p0kind=(31:Int))) (some (12:Int)) (cond (decide (p0kind=(32:Int))) (some (13:Int)) (cond (decide (p0kind=(35:Int))) (some (14:Int)) (some (0:Int)))))))))))))))
theorem w_event_commandOf {p0kind:Int}{res:Int} (h:event_commandOf p0kind=some res):ACalls Tryz.prog 27 [.c (.int .i64 p0kind)] [] (.c (.int .i64 res)) []:=by
 unfold event_commandOf at h
 refine acalls (fn:=Tryz.f27) [0,2,3,4,6,8,10,12,14,16,18,20,22,24,26,28,30] (by kernel_rfl) Tryz.func27 r (by kernel_rfl) (by kernel_rfl)<|w_sr<|sI r<|o_ek (fr':=[(0,aI)]) r r<|w_seqw<|w_sr<|mI r<|o_ek (fr':=[(3,aI)]) r r<|w_block<|w_seqw<|w_region ?_
 refine o_p r (p_eql r r)<|sB r<|o_ek (fr':=[(3,aI),(4,aB)]) r r<|w_ch h r (fun hb1 h1=>?_) (fun hb1 h1=>?_)
 ·
  refine w_sr<|sI r<|o_ek (fr':=[(2,aI)]) r r<|w_ret<|e_blk_r<|e_seq_r ?_
  obtain rfl:=sy h1
  exact e_ret (rs':=[.tmp 2]) r<|r_tmp (v:=aI) r<|r_nil<|fin_gen [] r r r lr st_nil
 ·
  refine w_sr<|o_p r (p_eql r r)<|sB r<|o_ek (fr':=[(3,aI),(6,aB)]) r r<|w_ch h1 r (fun hb3 h3=>?_) (fun hb3 h3=>?_)
  ·
   refine w_sr<|sI r<|o_ek (fr':=[(2,aI)]) r r<|w_ret<|e_blk_r<|e_seq_r ?_
   obtain rfl:=sy h3
   exact e_ret (rs':=[.tmp 2]) r<|r_tmp (v:=aI) r<|r_nil<|fin_gen [] r r r lr st_nil
  ·
   refine w_sr<|o_p r (p_eql r r)<|sB r<|o_ek (fr':=[(3,aI),(8,aB)]) r r<|w_ch h3 r (fun hb5 h5=>?_) (fun hb5 h5=>?_)
   ·
    refine w_sr<|sI r<|o_ek (fr':=[(2,aI)]) r r<|w_ret<|e_blk_r<|e_seq_r ?_
    obtain rfl:=sy h5
    exact e_ret (rs':=[.tmp 2]) r<|r_tmp (v:=aI) r<|r_nil<|fin_gen [] r r r lr st_nil
   ·
    refine w_sr<|o_p r (p_eql r r)<|sB r<|o_ek (fr':=[(3,aI),(10,aB)]) r r<|w_ch h5 r (fun hb7 h7=>?_) (fun hb7 h7=>?_)
    ·
     refine w_sr<|sI r<|o_ek (fr':=[(2,aI)]) r r<|w_ret<|e_blk_r<|e_seq_r ?_
     obtain rfl:=sy h7
     exact e_ret (rs':=[.tmp 2]) r<|r_tmp (v:=aI) r<|r_nil<|fin_gen [] r r r lr st_nil
    ·
     refine w_sr<|o_p r (p_eql r r)<|sB r<|o_ek (fr':=[(3,aI),(12,aB)]) r r<|w_ch h7 r (fun hb9 h9=>?_) (fun hb9 h9=>?_)
     ·
      refine w_sr<|sI r<|o_ek (fr':=[(2,aI)]) r r<|w_ret<|e_blk_r<|e_seq_r ?_
      obtain rfl:=sy h9
      exact e_ret (rs':=[.tmp 2]) r<|r_tmp (v:=aI) r<|r_nil<|fin_gen [] r r r lr st_nil
     ·
      refine w_sr<|o_p r (p_eql r r)<|sB r<|o_ek (fr':=[(3,aI),(14,aB)]) r r<|w_ch h9 r (fun hb11 h11=>?_) (fun hb11 h11=>?_)
      ·
       refine w_sr<|sI r<|o_ek (fr':=[(2,aI)]) r r<|w_ret<|e_blk_r<|e_seq_r ?_
       obtain rfl:=sy h11
       exact e_ret (rs':=[.tmp 2]) r<|r_tmp (v:=aI) r<|r_nil<|fin_gen [] r r r lr st_nil
      ·
       refine w_sr<|o_p r (p_eql r r)<|sB r<|o_ek (fr':=[(3,aI),(16,aB)]) r r<|w_ch h11 r (fun hb13 h13=>?_) (fun hb13 h13=>?_)
       ·
        refine w_sr<|sI r<|o_ek (fr':=[(2,aI)]) r r<|w_ret<|e_blk_r<|e_seq_r ?_
        obtain rfl:=sy h13
        exact e_ret (rs':=[.tmp 2]) r<|r_tmp (v:=aI) r<|r_nil<|fin_gen [] r r r lr st_nil
       ·
        refine w_sr<|o_p r (p_eql r r)<|sB r<|o_ek (fr':=[(3,aI),(18,aB)]) r r<|w_ch h13 r (fun hb15 h15=>?_) (fun hb15 h15=>?_)
        ·
         refine w_sr<|sI r<|o_ek (fr':=[(2,aI)]) r r<|w_ret<|e_blk_r<|e_seq_r ?_
         obtain rfl:=sy h15
         exact e_ret (rs':=[.tmp 2]) r<|r_tmp (v:=aI) r<|r_nil<|fin_gen [] r r r lr st_nil
        ·
         refine w_sr<|o_p r (p_eql r r)<|sB r<|o_ek (fr':=[(3,aI),(20,aB)]) r r<|w_ch h15 r (fun hb17 h17=>?_) (fun hb17 h17=>?_)
         ·
          refine w_sr<|sI r<|o_ek (fr':=[(2,aI)]) r r<|w_ret<|e_blk_r<|e_seq_r ?_
          obtain rfl:=sy h17
          exact e_ret (rs':=[.tmp 2]) r<|r_tmp (v:=aI) r<|r_nil<|fin_gen [] r r r lr st_nil
         ·
          refine w_sr<|o_p r (p_eql r r)<|sB r<|o_ek (fr':=[(3,aI),(22,aB)]) r r<|w_ch h17 r (fun hb19 h19=>?_) (fun hb19 h19=>?_)
          ·
           refine w_sr<|sI r<|o_ek (fr':=[(2,aI)]) r r<|w_ret<|e_blk_r<|e_seq_r ?_
           obtain rfl:=sy h19
           exact e_ret (rs':=[.tmp 2]) r<|r_tmp (v:=aI) r<|r_nil<|fin_gen [] r r r lr st_nil
          ·
           refine w_sr<|o_p r (p_eql r r)<|sB r<|o_ek (fr':=[(3,aI),(24,aB)]) r r<|w_ch h19 r (fun hb21 h21=>?_) (fun hb21 h21=>?_)
           ·
            refine w_sr<|sI r<|o_ek (fr':=[(2,aI)]) r r<|w_ret<|e_blk_r<|e_seq_r ?_
            obtain rfl:=sy h21
            exact e_ret (rs':=[.tmp 2]) r<|r_tmp (v:=aI) r<|r_nil<|fin_gen [] r r r lr st_nil
           ·
            refine w_sr<|o_p r (p_eql r r)<|sB r<|o_ek (fr':=[(3,aI),(26,aB)]) r r<|w_ch h21 r (fun hb23 h23=>?_) (fun hb23 h23=>?_)
            ·
             refine w_sr<|sI r<|o_ek (fr':=[(2,aI)]) r r<|w_ret<|e_blk_r<|e_seq_r ?_
             obtain rfl:=sy h23
             exact e_ret (rs':=[.tmp 2]) r<|r_tmp (v:=aI) r<|r_nil<|fin_gen [] r r r lr st_nil
            ·
             refine w_sr<|o_p r (p_eql r r)<|sB r<|o_ek (fr':=[(3,aI),(28,aB)]) r r<|w_ch h23 r (fun hb25 h25=>?_) (fun hb25 h25=>?_)
             ·
              refine w_sr<|sI r<|o_ek (fr':=[(2,aI)]) r r<|w_ret<|e_blk_r<|e_seq_r ?_
              obtain rfl:=sy h25
              exact e_ret (rs':=[.tmp 2]) r<|r_tmp (v:=aI) r<|r_nil<|fin_gen [] r r r lr st_nil
             ·
              refine w_sr<|o_p r (p_eql r r)<|sB r<|o_ek (fr':=[(30,aB)]) r r<|w_ch h25 r (fun hb27 h27=>?_) (fun hb27 h27=>?_)
              ·
               refine w_sr<|sI r<|o_ek (fr':=[(2,aI)]) r r<|w_ret<|e_blk_r<|e_seq_r ?_
               obtain rfl:=sy h27
               exact e_ret (rs':=[.tmp 2]) r<|r_tmp (v:=aI) r<|r_nil<|fin_gen [] r r r lr st_nil
              ·
               refine w_skip<|e_blk_n<|e_kw<|w_sr<|sI r<|o_ek (fr':=[(2,aI)]) r r<|w_ret ?_
               obtain rfl:=sy h27
               exact e_ret (rs':=[.tmp 2]) r<|r_tmp (v:=aI) r<|r_nil<|fin_gen [] r r r lr st_nil
noncomputable def event_within (p0n:Int) (p1low:Int) (p2high:Int):Option Bool :=
 some (cond (decide (p1low≤p0n)) (decide (p0n≤p2high)) false)
theorem w_event_within {p0n:Int}{p1low:Int}{p2high:Int}{res:Bool} (h:event_within p0n p1low p2high=some res):ACalls Tryz.prog 28 [.c (.int .i64 p0n),.c (.int .i64 p1low),.c (.int .i64 p2high)] [] (.c (.bool res)) []:=by
 unfold event_within at h
 refine acalls (fn:=Tryz.f28) [0,1,2,6] (by kernel_rfl) Tryz.func28 r (by kernel_rfl) (by kernel_rfl)<|w_sr<|sB r<|o_ek (fr':=[(0,aI),(1,aI),(2,aI)]) r r<|w_sr<|mI r<|mI r<|o_p r (p_geq r r)<|mB r<|og r r r (fun hc=>(p_move (v:=aI) r))<|og r r r (fun hc=>(p_move (v:=aI) r)) ?_
 refine og r r r (fun hc=>(p_leq (gx r hc) (gx r hc)))<|o_p r (p_picky r r r (fun e=>keq e))<|sB r<|o_ek (fr':=[(6,aB)]) r r<|w_ret ?_
 obtain rfl:=sy h
 exact e_ret (rs':=[.tmp 6]) r<|r_tmp (v:=aB) r<|r_nil<|fin_gen [] r r r lr st_nil
noncomputable def value_Depth_l1 (rec_value_Depth:ApiValue→Option Int) (p0v:ApiValue) (s4:(Int × Int)):Option (Step (Int × Int) Int) :=
 cond (decide (s4.2<((p0v.Items).length:Int))) ((idx p0v.Items s4.2).bind fun x6=>(rec_value_Depth x6).bind fun x8=>some (Step.next ((if x8 > s4.1 then x8 else s4.1),(IntKind.wrap .i64 (s4.2+(1:Int)))))) (some (Step.out s4.1))
noncomputable def value_DepthF:Nat→ApiValue→Option Int
 | 0,_=>none
 | n+1,p0v =>
  ((loopO (value_Depth_l1 (value_DepthF n) p0v) (((0:Int),(0:Int)))):Option Int).bind fun x1=>(some (IntKind.wrap .i64 (x1+(1:Int))))
theorem wF_value_Depth:∀ n:Nat,(∀ {p0v:ApiValue}{res:Int},value_DepthF n p0v=some res→ACalls Tryz.prog 71 [.agg (AV.cs (exApiValue p0v))] [] (.c (.int .i64 res)) []):=by
 intro n
 induction n with
 | zero=>exact fun {p0v res} h=>absurd h (by simp [value_DepthF])
 | succ n ih =>
  have ih_value_Depth:=@ih
  intro p0v res h
  rw [value_DepthF] at h
  refine acalls (fn:=Tryz.f71) [0,1,2,3,5,7,8,9,10] (by kernel_rfl) Tryz.func71 r (by kernel_rfl) (by kernel_rfl)<|w_sr<|o_box (v:=.agg aIISLL) (n:=0) (cs:=aIISLL) (σ':=[aIISLL]) r r r r r<|sI r<|o_ek (fr':=[(1,.box 0 0)]) r r<|w_sr<|sI r<|o_ek (fr':=[(1,.box 0 0),(3,aI)]) r r<|w_seqw<|w_seqw<|w_region ?_
  refine o_p r (p_fa tf41x3 r)<|o_p r (p_load (v:=aL) tv38 r r r)<|o_p r (p_len ti38 (isl_c r))<|mI r<|o_ek (fr':=[(3,aI),(7,aL),(8,aI),(9,aI)]) r r ?_
  obtain ⟨x1,hx1,h2⟩:=bind_s h
  refine w_jtail cl_kw (fun j3=>x1=j3) (fun (j3:Int)=>([(3,.c (.int .i64 j3))]:Fr)) (fun (j3:Int)=>([[.c (.int .i64 p0v.Kind),.c (.int .i64 p0v.Int),.c (.str p0v.Text),.c (PV.ls 5 rowApiValue p0v.Items),.c (PV.ls 1 rowS p0v.Keys)]]:St)) ?_ ?_
  ·
   refine w_block<|w_loopo _ (fun (s4:(Int × Int))=>([(3,.c (.int .i64 s4.1)),(7,.c (PV.ls 5 rowApiValue p0v.Items)),(8,.c (.int .i64 ((p0v.Items).length:Int))),(9,.c (.int .i64 s4.2))]:Fr)) (fun (s4:(Int × Int))=>([[.c (.int .i64 p0v.Kind),.c (.int .i64 p0v.Int),.c (.str p0v.Text),.c (PV.ls 5 rowApiValue p0v.Items),.c (PV.ls 1 rowS p0v.Keys)]]:St)) hx1 (w_weak [] 1 r r r r ⟨lr,lr,lr,lr,trivial⟩ (st_r r st_nil)) ?_
   intro s4 st4 hs4 ho4
   unfold value_Depth_l1 at hs4
   refine w_sr<|o_p r (p_lss r r)<|o_ek (fr':=[(3,aI),(7,aL),(8,aI),(9,aI),(10,aB)]) r r<|w_seqw<|w_ch hs4 r (fun hb5 h5=>?_) (fun hb5 h5=>?_)
   ·
    refine w_skip<|e_kw<|w_seqw<|w_block<|w_seqw<|w_region ?_
    obtain ⟨x6,hx6,h7⟩:=bind_s h5
    refine o_p r (p_ia (cs:=[PV.int _ _,PV.int _ _,PV.str _,PV.ls _ _ _,PV.ls _ _ _]) ts38 (isl_c r) r hx6 (rowApiValue_eq _))<|o_p r (p_loades (us:=[PV.int _ _,PV.int _ _,PV.str _,PV.ls _ _ _,PV.ls _ _ _]) tv41 r r r)<|o_alloc (n:=1) (cs:=[aI,aI,aS,AV.nil,AV.nil]) (σ':=[aIISLL,[aI,aI,aS,AV.nil,AV.nil]]) tz41 r r r<|o_store (v:=.agg aIISLL) (us:=aIISLL) (cs:=[aI,aI,aS,AV.nil,AV.nil]) (σ':=[aIISLL,aIISLL]) r tv41 r r r r r r r r<|o_ek (fr':=[(3,aI),(5,.box 1 0),(7,aL),(8,aI),(9,aI)]) r r<|w_region<|mI r<|o_p r (p_loads (us:=aIISLL) tv41 r r r r) ?_
    obtain ⟨x8,hx8,h9⟩:=bind_s h7
    exact o_v (ov_call (v:=aI) r (ih_value_Depth hx8) ⟨(le_aggc r ⟨r,r,r,r,r,trivial⟩),trivial⟩ r r r)<|o_p r (p_max r r)<|sI r<|o_end (fr':=[(3,aI),(5,.box 1 0),(7,aL),(8,aI),(9,aI)]) r<|e_blk_n<|e_kw<|w_region<|o_p r (p_add r r)<|mI r<|o_end (fr':=[(3,aI),(5,.box 1 0),(7,aL),(8,aI),(9,aI)]) r<|e_l _ (sy h9) (w_weak [] 1 r r r r ⟨lr,lr,lr,lr,trivial⟩ (st_r r st_nil))
   ·
    refine w_exit<|e_seq_x<|e_seq_x<|e_blk_h ?_
    have h10:=un_out h5 ho4
    exact e_j _ (sy h10) (w_weak [] 1 r r r r ⟨lr,trivial⟩ (st_r r st_nil))
  ·
   intro j3 hj11
   subst hj11
   refine e_kw<|w_sr<|mI r<|o_p r (p_add r r)<|sI r<|o_ek (fr':=[(2,aI)]) r r<|w_ret ?_
   obtain rfl:=sy h2
   exact e_ret (rs':=[.tmp 2]) r<|r_tmp (v:=aI) r<|r_nil<|fin_gen [] r r r lr st_nil
noncomputable def value_Depth (p0v:ApiValue):Option Int:=lim fun n=>value_DepthF n p0v
theorem w_value_Depth {p0v:ApiValue}{res:Int} (h:value_Depth p0v=some res):ACalls Tryz.prog 71 [.agg (AV.cs (exApiValue p0v))] [] (.c (.int .i64 res)) []:=by
 obtain ⟨n,hn⟩:=lim_some h
 exact (wF_value_Depth n) hn
noncomputable def value_Size_l1 (rec_value_Size:ApiValue→Option Int) (p0v:ApiValue) (s4:(Int × Int)):Option (Step (Int × Int) Int) :=
 cond (decide (s4.2<((p0v.Items).length:Int))) ((idx p0v.Items s4.2).bind fun x6=>(rec_value_Size x6).bind fun x8=>some (Step.next ((IntKind.wrap .i64 (s4.1+x8)),(IntKind.wrap .i64 (s4.2+(1:Int)))))) (some (Step.out s4.1))
noncomputable def value_SizeF:Nat→ApiValue→Option Int
 | 0,_=>none
 | n+1,p0v =>
  ((loopO (value_Size_l1 (value_SizeF n) p0v) (((1:Int),(0:Int)))):Option Int).bind fun x1=>(some x1)
theorem wF_value_Size:∀ n:Nat,(∀ {p0v:ApiValue}{res:Int},value_SizeF n p0v=some res→ACalls Tryz.prog 72 [.agg (AV.cs (exApiValue p0v))] [] (.c (.int .i64 res)) []):=by
 intro n
 induction n with
 | zero=>exact fun {p0v res} h=>absurd h (by simp [value_SizeF])
 | succ n ih =>
  have ih_value_Size:=@ih
  intro p0v res h
  rw [value_SizeF] at h
  refine acalls (fn:=Tryz.f72) [0,1,2,3,5,7,8,9,10] (by kernel_rfl) Tryz.func72 r (by kernel_rfl) (by kernel_rfl)<|w_sr<|o_box (v:=.agg aIISLL) (n:=0) (cs:=aIISLL) (σ':=[aIISLL]) r r r r r<|sI r<|o_ek (fr':=[(1,.box 0 0)]) r r<|w_sr<|sI r<|o_ek (fr':=[(1,.box 0 0),(3,aI)]) r r<|w_seqw<|w_seqw<|w_region ?_
  refine o_p r (p_fa tf41x3 r)<|o_p r (p_load (v:=aL) tv38 r r r)<|o_p r (p_len ti38 (isl_c r))<|mI r<|o_ek (fr':=[(3,aI),(7,aL),(8,aI),(9,aI)]) r r ?_
  obtain ⟨x1,hx1,h2⟩:=bind_s h
  refine w_jtail cl_kw (fun j3=>x1=j3) (fun (j3:Int)=>([(3,.c (.int .i64 j3))]:Fr)) (fun (j3:Int)=>([[.c (.int .i64 p0v.Kind),.c (.int .i64 p0v.Int),.c (.str p0v.Text),.c (PV.ls 5 rowApiValue p0v.Items),.c (PV.ls 1 rowS p0v.Keys)]]:St)) ?_ ?_
  ·
   refine w_block<|w_loopo _ (fun (s4:(Int × Int))=>([(3,.c (.int .i64 s4.1)),(7,.c (PV.ls 5 rowApiValue p0v.Items)),(8,.c (.int .i64 ((p0v.Items).length:Int))),(9,.c (.int .i64 s4.2))]:Fr)) (fun (s4:(Int × Int))=>([[.c (.int .i64 p0v.Kind),.c (.int .i64 p0v.Int),.c (.str p0v.Text),.c (PV.ls 5 rowApiValue p0v.Items),.c (PV.ls 1 rowS p0v.Keys)]]:St)) hx1 (w_weak [] 1 r r r r ⟨lr,lr,lr,lr,trivial⟩ (st_r r st_nil)) ?_
   intro s4 st4 hs4 ho4
   unfold value_Size_l1 at hs4
   refine w_sr<|o_p r (p_lss r r)<|o_ek (fr':=[(3,aI),(7,aL),(8,aI),(9,aI),(10,aB)]) r r<|w_seqw<|w_ch hs4 r (fun hb5 h5=>?_) (fun hb5 h5=>?_)
   ·
    refine w_skip<|e_kw<|w_seqw<|w_block<|w_seqw<|w_region ?_
    obtain ⟨x6,hx6,h7⟩:=bind_s h5
    refine o_p r (p_ia (cs:=[PV.int _ _,PV.int _ _,PV.str _,PV.ls _ _ _,PV.ls _ _ _]) ts38 (isl_c r) r hx6 (rowApiValue_eq _))<|o_p r (p_loades (us:=[PV.int _ _,PV.int _ _,PV.str _,PV.ls _ _ _,PV.ls _ _ _]) tv41 r r r)<|o_alloc (n:=1) (cs:=[aI,aI,aS,AV.nil,AV.nil]) (σ':=[aIISLL,[aI,aI,aS,AV.nil,AV.nil]]) tz41 r r r<|o_store (v:=.agg aIISLL) (us:=aIISLL) (cs:=[aI,aI,aS,AV.nil,AV.nil]) (σ':=[aIISLL,aIISLL]) r tv41 r r r r r r r r<|o_ek (fr':=[(3,aI),(5,.box 1 0),(7,aL),(8,aI),(9,aI)]) r r<|w_region<|mI r<|o_p r (p_loads (us:=aIISLL) tv41 r r r r) ?_
    obtain ⟨x8,hx8,h9⟩:=bind_s h7
    exact o_v (ov_call (v:=aI) r (ih_value_Size hx8) ⟨(le_aggc r ⟨r,r,r,r,r,trivial⟩),trivial⟩ r r r)<|o_p r (p_add r r)<|sI r<|o_end (fr':=[(3,aI),(5,.box 1 0),(7,aL),(8,aI),(9,aI)]) r<|e_blk_n<|e_kw<|w_region<|o_p r (p_add r r)<|mI r<|o_end (fr':=[(3,aI),(5,.box 1 0),(7,aL),(8,aI),(9,aI)]) r<|e_l _ (sy h9) (w_weak [] 1 r r r r ⟨lr,lr,lr,lr,trivial⟩ (st_r r st_nil))
   ·
    refine w_exit<|e_seq_x<|e_seq_x<|e_blk_h ?_
    have h10:=un_out h5 ho4
    exact e_j _ (sy h10) (w_weak [] 1 r r r r ⟨lr,trivial⟩ (st_r r st_nil))
  ·
   intro j3 hj11
   subst hj11
   refine e_kw<|w_sr<|mI r<|sI r<|o_ek (fr':=[(2,aI)]) r r<|w_ret ?_
   obtain rfl:=sy h2
   exact e_ret (rs':=[.tmp 2]) r<|r_tmp (v:=aI) r<|r_nil<|fin_gen [] r r r lr st_nil
noncomputable def value_Size (p0v:ApiValue):Option Int:=lim fun n=>value_SizeF n p0v
theorem w_value_Size {p0v:ApiValue}{res:Int} (h:value_Size p0v=some res):ACalls Tryz.prog 72 [.agg (AV.cs (exApiValue p0v))] [] (.c (.int .i64 res)) []:=by
 obtain ⟨n,hn⟩:=lim_some h
 exact (wF_value_Size n) hn
noncomputable def value_short_1 (p0k:(List UInt8)):Option Bool :=
 some (decide ((4096:Int)<((p0k).length:Int)))
theorem w_value_short_1 {p0k:(List UInt8)}{res:Bool} (h:value_short_1 p0k=some res):ACalls Tryz.prog 96 [.c (.str p0k)] [] (.c (.bool res)) []:=by
 unfold value_short_1 at h
 refine acalls (fn:=Tryz.f96) [0,2] (by kernel_rfl) Tryz.func96 r (by kernel_rfl) (by kernel_rfl)<|w_sr<|sB r<|o_ek (fr':=[(0,aS)]) r r<|w_sr<|mS r<|o_p r (p_lens ti9 r)<|o_p r (p_gtr r r)<|sB r<|o_ek (fr':=[(2,aB)]) r r<|w_ret ?_
 obtain rfl:=sy h
 exact e_ret (rs':=[.tmp 2]) r<|r_tmp (v:=aB) r<|r_nil<|fin_gen [] r r r lr st_nil
noncomputable def slices_IndexFunc_string_string_value_short_1_l1 (p0s:(List (List UInt8))) (s4:Int):Option (Step Int (Fl Int Unit)) :=
 cond (decide (s4<((p0s).length:Int))) ((idx p0s s4).bind fun x6=>(value_short_1 x6).bind fun x8=>cond x8 (some (Step.out (Fl.done s4))) (some (Step.next (IntKind.wrap .i64 (s4+(1:Int)))))) (some (Step.out (Fl.go ())))
noncomputable def slices_IndexFunc_string_string_value_short_1 (p0s:(List (List UInt8))):Option Int :=
 ((loopO (slices_IndexFunc_string_string_value_short_1_l1 p0s) ((0:Int))):Option (Fl Int Unit)).bind fun x1=>Fl.next x1 (fun j3=>(some (-1:Int)))
theorem w_slices_IndexFunc_string_string_value_short_1 {p0s:(List (List UInt8))}{res:Int} (h:slices_IndexFunc_string_string_value_short_1 p0s=some res):ACalls Tryz.prog 110 [.c (PV.ls 1 rowS p0s),.fn 96 []] [] (.c (.int .i64 res)) []:=by
 unfold slices_IndexFunc_string_string_value_short_1 at h
 refine acalls (fn:=Tryz.f110) [0,1,4,5,7,8,9,16] (by kernel_rfl) Tryz.func110 r (by kernel_rfl) (by kernel_rfl)<|w_sr<|sI r<|o_ek (fr':=[(0,aL),(1,.fn _ [])]) r r<|w_seqw<|w_sr<|mL r<|o_p r (p_len ti39 (isl_c r))<|mI r<|o_ek (fr':=[(0,aL),(1,.fn _ []),(7,aI),(8,aI)]) r r ?_
 obtain ⟨x1,hx1,h2⟩:=bind_s h
 refine w_jtail cl_kw (fun j3=>x1=Fl.go j3) (fun (j3:Unit)=>([]:Fr)) (fun (j3:Unit)=>([]:St)) ?_ ?_
 ·
  refine w_block<|w_loopo _ (fun (s4:Int)=>([(0,.c (PV.ls 1 rowS p0s)),(1,.fn 96 []),(7,.c (.int .i64 ((p0s).length:Int))),(8,.c (.int .i64 s4))]:Fr)) (fun (s4:Int)=>([]:St)) hx1 (w_weak [] 0 r r r r ⟨lr,lr,lr,lr,trivial⟩ st_nil) ?_
  intro s4 st4 hs4 ho4
  unfold slices_IndexFunc_string_string_value_short_1_l1 at hs4
  refine w_sr<|o_p r (p_lss r r)<|o_ek (fr':=[(0,aL),(1,.fn _ []),(7,aI),(8,aI),(9,aB)]) r r<|w_seqw<|w_ch hs4 r (fun hb5 h5=>?_) (fun hb5 h5=>?_)
  ·
   refine w_skip<|e_kw<|w_seqw<|w_block<|w_sr<|mI r<|sI r<|o_ek (fr':=[(0,aL),(1,.fn _ []),(5,aI),(7,aI),(8,aI)]) r r<|w_sr<|mV (v:=.fn _ []) r<|mL r ?_
   refine mI r ?_
   obtain ⟨x6,hx6,h7⟩:=bind_s h5
   refine o_p r (p_ia (cs:=[PV.str _]) ts39 (isl_c r) r hx6 r)<|o_p r (p_loade (p:=PV.str _) tv9 r r) ?_
   obtain ⟨x8,hx8,h9⟩:=bind_s h7
   refine o_v (ov_call (v:=aB) r (w_value_short_1 hx8) ⟨lr,trivial⟩ r r r)<|o_ek (fr':=[(0,aL),(1,.fn _ []),(5,aI),(7,aI),(8,aI),(16,aB)]) r r<|w_ch h9 r (fun hb10 h10=>?_) (fun hb10 h10=>?_)
   ·
    refine w_sr<|mI r<|sI r<|o_ek (fr':=[(4,aI)]) r r<|w_ret<|e_blk_r<|e_seq_r<|e_seq_r<|e_blk_r<|e_seq_r<|e_seq_r ?_
    have h11:=un_out h10 ho4
    have h12:=un_done h11 h2
    obtain rfl:=sy h12
    exact e_ret (rs':=[.tmp 4]) r<|r_tmp (v:=aI) r<|r_nil<|fin_gen [] r r r lr st_nil
   ·
    exact w_skip<|e_blk_n<|e_kw<|w_region<|o_p r (p_add r r)<|mI r<|o_end (fr':=[(0,aL),(1,.fn _ []),(5,aI),(7,aI),(8,aI),(16,aB)]) r<|e_l _ (sy h10) (w_weak [] 0 r r r r ⟨lr,lr,lr,lr,trivial⟩ st_nil)
  ·
   refine w_exit<|e_seq_x<|e_seq_x<|e_blk_h ?_
   have h14:=un_out h5 ho4
   exact e_j _ (sy h14) (w_weak [] 0 r r r r trivial st_nil)
 ·
  intro j3 hj15
  have h15:=un_go hj15 h2
  refine e_kw<|w_sr<|sI r<|o_ek (fr':=[(4,aI)]) r r<|w_ret ?_
  obtain rfl:=sy h15
  exact e_ret (rs':=[.tmp 4]) r<|r_tmp (v:=aI) r<|r_nil<|fin_gen [] r r r lr st_nil
noncomputable def slices_ContainsFunc_string_string_value_short_1 (p0s:(List (List UInt8))):Option Bool :=
 (slices_IndexFunc_string_string_value_short_1 p0s).bind fun x1=>some (decide ((0:Int)≤x1))
theorem w_slices_ContainsFunc_string_string_value_short_1 {p0s:(List (List UInt8))}{res:Bool} (h:slices_ContainsFunc_string_string_value_short_1 p0s=some res):ACalls Tryz.prog 95 [.c (PV.ls 1 rowS p0s),.fn 96 []] [] (.c (.bool res)) []:=by
 unfold slices_ContainsFunc_string_string_value_short_1 at h
 refine acalls (fn:=Tryz.f95) [0,1,4] (by kernel_rfl) Tryz.func95 r (by kernel_rfl) (by kernel_rfl)<|w_sr<|sB r<|o_ek (fr':=[(0,aL),(1,.fn _ [])]) r r<|w_sr<|mL r<|mV (v:=.fn _ []) r ?_
 obtain ⟨x1,hx1,h2⟩:=bind_s h
 refine o_v (ov_call (v:=aI) r (w_slices_IndexFunc_string_string_value_short_1 hx1) ⟨lr,lr,trivial⟩ r r r)<|o_p r (p_geq r r)<|sB r<|o_ek (fr':=[(4,aB)]) r r<|w_ret ?_
 obtain rfl:=sy h2
 exact e_ret (rs':=[.tmp 4]) r<|r_tmp (v:=aB) r<|r_nil<|fin_gen [] r r r lr st_nil
noncomputable def slices_IndexFunc_api_Value_api_Value_value_short_2_l1 (rec_value_short_2:ApiValue→Option Bool) (p0s:(List ApiValue)) (s4:Int):Option (Step Int (Fl Int Unit)) :=
 cond (decide (s4<((p0s).length:Int))) ((idx p0s s4).bind fun x6=>(rec_value_short_2 x6).bind fun x8=>cond x8 (some (Step.out (Fl.done s4))) (some (Step.next (IntKind.wrap .i64 (s4+(1:Int)))))) (some (Step.out (Fl.go ())))
mutual
noncomputable def slices_ContainsFunc_api_Value_api_Value_value_short_2F:Nat→(List ApiValue)→Option Bool
 | 0,_=>none
 | n+1,p0s =>
  ((slices_IndexFunc_api_Value_api_Value_value_short_2F n) p0s).bind fun x1=>some (decide ((0:Int)≤x1))
noncomputable def slices_IndexFunc_api_Value_api_Value_value_short_2F:Nat→(List ApiValue)→Option Int
 | 0,_=>none
 | n+1,p0s =>
  ((loopO (slices_IndexFunc_api_Value_api_Value_value_short_2_l1 (value_short_2F n) p0s) ((0:Int))):Option (Fl Int Unit)).bind fun x1=>Fl.next x1 (fun j3=>(some (-1:Int)))
noncomputable def value_shortF:Nat→ApiValue→Option Bool
 | 0,_=>none
 | n+1,p0v =>
  (gd ((decide ((4096:Int)<((p0v.Text).length:Int)))==false) (slices_ContainsFunc_string_string_value_short_1 p0v.Keys)).bind fun x1=>cond (cond (decide ((4096:Int)<((p0v.Text).length:Int))) true x1) (some false) (((slices_ContainsFunc_api_Value_api_Value_value_short_2F n) p0v.Items).bind fun x5=>some (!x5))
noncomputable def value_short_2F:Nat→ApiValue→Option Bool
 | 0,_=>none
 | n+1,p0x =>
  ((value_shortF n) p0x).bind fun x1=>some (!x1)
end
theorem wF_slices_ContainsFunc_api_Value_api_Value_value_short_2:∀ n:Nat,(∀ {p0s:(List ApiValue)}{res:Bool},slices_ContainsFunc_api_Value_api_Value_value_short_2F n p0s=some res→ACalls Tryz.prog 75 [.c (PV.ls 5 rowApiValue p0s),.fn 97 []] [] (.c (.bool res)) [])∧(∀ {p0s:(List ApiValue)}{res:Int},slices_IndexFunc_api_Value_api_Value_value_short_2F n p0s=some res→ACalls Tryz.prog 98 [.c (PV.ls 5 rowApiValue p0s),.fn 97 []] [] (.c (.int .i64 res)) [])∧(∀ {p0v:ApiValue}{res:Bool},value_shortF n p0v=some res→ACalls Tryz.prog 73 [.agg (AV.cs (exApiValue p0v))] [] (.c (.bool res)) [])∧(∀ {p0x:ApiValue}{res:Bool},value_short_2F n p0x=some res→ACalls Tryz.prog 97 [.agg (AV.cs (exApiValue p0x))] [] (.c (.bool res)) []):=by
 intro n
 induction n with
 | zero=>exact ⟨fun {p0s res} h=>absurd h (by simp [slices_ContainsFunc_api_Value_api_Value_value_short_2F]),fun {p0s res} h=>absurd h (by simp [slices_IndexFunc_api_Value_api_Value_value_short_2F]),fun {p0v res} h=>absurd h (by simp [value_shortF]),fun {p0x res} h=>absurd h (by simp [value_short_2F])⟩
 | succ n ih =>
  obtain ⟨ih_slices_ContainsFunc_api_Value_api_Value_value_short_2,ih_slices_IndexFunc_api_Value_api_Value_value_short_2,ih_value_short,ih_value_short_2⟩:=ih
  refine ⟨?_,?_,?_,?_⟩
  ·
   intro p0s res h
   rw [slices_ContainsFunc_api_Value_api_Value_value_short_2F] at h
   refine acalls (fn:=Tryz.f75) [0,1,4] (by kernel_rfl) Tryz.func75 r (by kernel_rfl) (by kernel_rfl)<|w_sr<|sB r<|o_ek (fr':=[(0,aL),(1,.fn _ [])]) r r<|w_sr<|mL r<|mV (v:=.fn _ []) r ?_
   obtain ⟨x1,hx1,h2⟩:=bind_s h
   refine o_v (ov_call (v:=aI) r (ih_slices_IndexFunc_api_Value_api_Value_value_short_2 hx1) ⟨lr,lr,trivial⟩ r r r)<|o_p r (p_geq r r)<|sB r<|o_ek (fr':=[(4,aB)]) r r<|w_ret ?_
   obtain rfl:=sy h2
   exact e_ret (rs':=[.tmp 4]) r<|r_tmp (v:=aB) r<|r_nil<|fin_gen [] r r r lr st_nil
  ·
   intro p0s res h
   rw [slices_IndexFunc_api_Value_api_Value_value_short_2F] at h
   refine acalls (fn:=Tryz.f98) [0,1,4,5,7,8,9,16] (by kernel_rfl) Tryz.func98 r (by kernel_rfl) (by kernel_rfl)<|w_sr<|sI r<|o_ek (fr':=[(0,aL),(1,.fn _ [])]) r r<|w_seqw<|w_sr<|mL r<|o_p r (p_len ti38 (isl_c r))<|mI r<|o_ek (fr':=[(0,aL),(1,.fn _ []),(7,aI),(8,aI)]) r r ?_
   obtain ⟨x1,hx1,h2⟩:=bind_s h
   refine w_jtail cl_kw (fun j3=>x1=Fl.go j3) (fun (j3:Unit)=>([]:Fr)) (fun (j3:Unit)=>([]:St)) ?_ ?_
   ·
    refine w_block<|w_loopo _ (fun (s4:Int)=>([(0,.c (PV.ls 5 rowApiValue p0s)),(1,.fn 97 []),(7,.c (.int .i64 ((p0s).length:Int))),(8,.c (.int .i64 s4))]:Fr)) (fun (s4:Int)=>([]:St)) hx1 (w_weak [] 0 r r r r ⟨lr,lr,lr,lr,trivial⟩ st_nil) ?_
    intro s4 st4 hs4 ho4
    unfold slices_IndexFunc_api_Value_api_Value_value_short_2_l1 at hs4
    refine w_sr<|o_p r (p_lss r r)<|o_ek (fr':=[(0,aL),(1,.fn _ []),(7,aI),(8,aI),(9,aB)]) r r<|w_seqw<|w_ch hs4 r (fun hb5 h5=>?_) (fun hb5 h5=>?_)
    ·
     refine w_skip<|e_kw<|w_seqw<|w_block<|w_sr<|mI r<|sI r<|o_ek (fr':=[(0,aL),(1,.fn _ []),(5,aI),(7,aI),(8,aI)]) r r<|w_sr<|mV (v:=.fn _ []) r<|mL r ?_
     refine mI r ?_
     obtain ⟨x6,hx6,h7⟩:=bind_s h5
     refine o_p r (p_ia (cs:=[PV.int _ _,PV.int _ _,PV.str _,PV.ls _ _ _,PV.ls _ _ _]) ts38 (isl_c r) r hx6 (rowApiValue_eq _))<|o_p r (p_loades (us:=[PV.int _ _,PV.int _ _,PV.str _,PV.ls _ _ _,PV.ls _ _ _]) tv41 r r r) ?_
     obtain ⟨x8,hx8,h9⟩:=bind_s h7
     refine o_v (ov_call (v:=aB) r (ih_value_short_2 hx8) ⟨(le_aggc r ⟨r,r,r,r,r,trivial⟩),trivial⟩ r r r)<|o_ek (fr':=[(0,aL),(1,.fn _ []),(5,aI),(7,aI),(8,aI),(16,aB)]) r r<|w_ch h9 r (fun hb10 h10=>?_) (fun hb10 h10=>?_)
     ·
      refine w_sr<|mI r<|sI r<|o_ek (fr':=[(4,aI)]) r r<|w_ret<|e_blk_r<|e_seq_r<|e_seq_r<|e_blk_r<|e_seq_r<|e_seq_r ?_
      have h11:=un_out h10 ho4
      have h12:=un_done h11 h2
      obtain rfl:=sy h12
      exact e_ret (rs':=[.tmp 4]) r<|r_tmp (v:=aI) r<|r_nil<|fin_gen [] r r r lr st_nil
     ·
      exact w_skip<|e_blk_n<|e_kw<|w_region<|o_p r (p_add r r)<|mI r<|o_end (fr':=[(0,aL),(1,.fn _ []),(5,aI),(7,aI),(8,aI),(16,aB)]) r<|e_l _ (sy h10) (w_weak [] 0 r r r r ⟨lr,lr,lr,lr,trivial⟩ st_nil)
    ·
     refine w_exit<|e_seq_x<|e_seq_x<|e_blk_h ?_
     have h14:=un_out h5 ho4
     exact e_j _ (sy h14) (w_weak [] 0 r r r r trivial st_nil)
   ·
    intro j3 hj15
    have h15:=un_go hj15 h2
    refine e_kw<|w_sr<|sI r<|o_ek (fr':=[(4,aI)]) r r<|w_ret ?_
    obtain rfl:=sy h15
    exact e_ret (rs':=[.tmp 4]) r<|r_tmp (v:=aI) r<|r_nil<|fin_gen [] r r r lr st_nil
  ·
   intro p0v res h
   rw [value_shortF] at h
   refine acalls (fn:=Tryz.f73) [0,1,2,11] (by kernel_rfl) Tryz.func73 r (by kernel_rfl) (by kernel_rfl)<|w_sr<|o_box (v:=.agg aIISLL) (n:=0) (cs:=aIISLL) (σ':=[aIISLL]) r r r r r<|sB r<|o_ek (fr':=[(1,.box 0 0)]) r r<|w_seqw<|w_sr<|o_p r (p_fa tf41x2 r)<|o_p r (p_load (v:=aS) tv9 r r r)<|o_p r (p_lens ti9 r)<|o_p r (p_gtr r r) ?_
   refine mB r<|og r r r (fun hc=>(p_fa tf41x4 r))<|og r r r (fun hc=>(p_load (v:=aL) tv39 (gx r hc) r r)) ?_
   obtain ⟨x1,hx1,h2⟩:=bind_s h
   refine o_g r r (fun hc=>ov_call (v:=aB) r (w_slices_ContainsFunc_string_string_value_short_1 (gd_some hx1 hc)) ⟨(le_gv (gx r hc) lr),lr,trivial⟩ (ok_eq (by repeat (first | exact ok_nil | refine ok_cons r ?_ | refine ok_cons (dgv r) ?_ | refine ok_cons dar ?_))) r r) ?_
   refine o_p r (p_pickz r r r (fun e=>keq e))<|o_ek (fr':=[(1,.box 0 0),(11,aB)]) r r<|w_ch h2 r (fun hb3 h3=>?_) (fun hb3 h3=>?_)
   ·
    refine w_sr<|sB r<|o_ek (fr':=[(2,aB)]) r r<|w_ret<|e_seq_r ?_
    obtain rfl:=sy h3
    exact e_ret (rs':=[.tmp 2]) r<|r_tmp (v:=aB) r<|r_nil<|fin_gen [] r r r lr st_nil
   ·
    refine w_skip<|e_kw<|w_sr<|o_p r (p_fa tf41x3 r)<|o_p r (p_load (v:=aL) tv38 r r r) ?_
    obtain ⟨x5,hx5,h6⟩:=bind_s h3
    refine o_v (ov_call (v:=aB) r (ih_slices_ContainsFunc_api_Value_api_Value_value_short_2 hx5) ⟨lr,lr,trivial⟩ r r r)<|o_p r (p_not r)<|sB r<|o_ek (fr':=[(2,aB)]) r r<|w_ret ?_
    obtain rfl:=sy h6
    exact e_ret (rs':=[.tmp 2]) r<|r_tmp (v:=aB) r<|r_nil<|fin_gen [] r r r lr st_nil
  ·
   intro p0x res h
   rw [value_short_2F] at h
   refine acalls (fn:=Tryz.f97) [0,1,2] (by kernel_rfl) Tryz.func97 r (by kernel_rfl) (by kernel_rfl)<|w_sr<|o_box (v:=.agg aIISLL) (n:=0) (cs:=aIISLL) (σ':=[aIISLL]) r r r r r<|sB r<|o_ek (fr':=[(1,.box 0 0)]) r r<|w_sr<|o_p r (p_loads (us:=aIISLL) tv41 r r r r) ?_
   obtain ⟨x1,hx1,h2⟩:=bind_s h
   refine o_v (ov_call (v:=aB) r (ih_value_short hx1) ⟨(le_aggc r ⟨r,r,r,r,r,trivial⟩),trivial⟩ r r r)<|o_p r (p_not r)<|sB r<|o_ek (fr':=[(2,aB)]) r r<|w_ret ?_
   obtain rfl:=sy h2
   exact e_ret (rs':=[.tmp 2]) r<|r_tmp (v:=aB) r<|r_nil<|fin_gen [] r r r lr st_nil
noncomputable def value_short (p0v:ApiValue):Option Bool:=lim fun n=>value_shortF n p0v
theorem w_value_short {p0v:ApiValue}{res:Bool} (h:value_short p0v=some res):ACalls Tryz.prog 73 [.agg (AV.cs (exApiValue p0v))] [] (.c (.bool res)) []:=by
 obtain ⟨n,hn⟩:=lim_some h
 exact (wF_slices_ContainsFunc_api_Value_api_Value_value_short_2 n).2.2.1 hn
noncomputable def value_within (p0v:ApiValue):Option Bool :=
 (value_Depth p0v).bind fun x1=>(gd ((decide (x1≤(16:Int)))==true) (value_Size p0v)).bind fun x3=>(gd ((cond (decide (x1≤(16:Int))) (decide (x3≤(1000:Int))) false)==true) (value_short p0v)).bind fun x5=>some (cond (cond (decide (x1≤(16:Int))) (decide (x3≤(1000:Int))) false) x5 false)
theorem w_value_within {p0v:ApiValue}{res:Bool} (h:value_within p0v=some res):ACalls Tryz.prog 50 [.agg (AV.cs (exApiValue p0v))] [] (.c (.bool res)) []:=by
 unfold value_within at h
 refine acalls (fn:=Tryz.f50) [0,1,2] (by kernel_rfl) Tryz.func50 r (by kernel_rfl) (by kernel_rfl)<|w_sr<|o_box (v:=.agg aIISLL) (n:=0) (cs:=aIISLL) (σ':=[aIISLL]) r r r r r<|sB r<|o_ek (fr':=[(1,.box 0 0)]) r r<|w_sr<|o_p r (p_loads (us:=aIISLL) tv41 r r r r) ?_
 obtain ⟨x1,hx1,h2⟩:=bind_s h
 refine o_v (ov_call (v:=aI) r (w_value_Depth hx1) ⟨(le_aggc r ⟨r,r,r,r,r,trivial⟩),trivial⟩ r r r)<|o_p r (p_leq r r)<|mB r<|og r r r (fun hc=>(p_loads (us:=aIISLL) tv41 r r r r)) ?_
 obtain ⟨x3,hx3,h4⟩:=bind_s h2
 refine o_g r r (fun hc=>ov_call (v:=aI) r (w_value_Size (gd_some hx3 hc)) ⟨(le_gv (gx r hc) (le_aggc r ⟨r,r,r,r,r,trivial⟩)),trivial⟩ (ok_eq (by repeat (first | exact ok_nil | refine ok_cons r ?_ | refine ok_cons (dgv r) ?_ | refine ok_cons dar ?_))) r r) ?_
 refine og r r r (fun hc=>(p_leq (gx r hc) r))<|o_p r (p_picky r r r (fun e=>keq e))<|mB r<|og r r r (fun hc=>(p_loads (us:=aIISLL) tv41 r r r r)) ?_
 obtain ⟨x5,hx5,h6⟩:=bind_s h4
 refine o_g r r (fun hc=>ov_call (v:=aB) r (w_value_short (gd_some hx5 hc)) ⟨(le_gv (gx r hc) (le_aggc r ⟨r,r,r,r,r,trivial⟩)),trivial⟩ (ok_eq (by repeat (first | exact ok_nil | refine ok_cons r ?_ | refine ok_cons (dgv r) ?_ | refine ok_cons dar ?_))) r r) ?_
 refine o_p r (p_picky r r r (fun e=>keq e))<|sB r<|o_ek (fr':=[(2,aB)]) r r<|w_ret ?_
 obtain rfl:=sy h6
 exact e_ret (rs':=[.tmp 2]) r<|r_tmp (v:=aB) r<|r_nil<|fin_gen [] r r r lr st_nil
noncomputable def value_ascending_l1 (p0l:(List (List UInt8))) (s4:Int):Option (Step Int (Fl Bool Unit)) :=
 cond (decide (s4<((p0l).length:Int))) ((idx p0l (IntKind.wrap .i64 (s4 - (1:Int)))).bind fun x6=>(idx p0l s4).bind fun x8=>cond (!Op.bytesLess x6 x8) (some (Step.out (Fl.done false))) (some (Step.next (IntKind.wrap .i64 (s4+(1:Int)))))) (some (Step.out (Fl.go ())))
noncomputable def value_ascending (p0l:(List (List UInt8))):Option Bool :=
 ((loopO (value_ascending_l1 p0l) ((1:Int))):Option (Fl Bool Unit)).bind fun x1=>Fl.next x1 (fun j3=>(some true))
theorem w_value_ascending {p0l:(List (List UInt8))}{res:Bool} (h:value_ascending p0l=some res):ACalls Tryz.prog 74 [.c (PV.ls 1 rowS p0l)] [] (.c (.bool res)) []:=by
 unfold value_ascending at h
 refine acalls (fn:=Tryz.f74) [0,2,3,7,19] (by kernel_rfl) Tryz.func74 r (by kernel_rfl) (by kernel_rfl)<|w_sr<|sB r<|o_ek (fr':=[(0,aL)]) r r<|w_seqw<|w_sr<|sI r<|o_ek (fr':=[(0,aL),(3,aI)]) r r ?_
 obtain ⟨x1,hx1,h2⟩:=bind_s h
 refine w_jtail cl_kw (fun j3=>x1=Fl.go j3) (fun (j3:Unit)=>([]:Fr)) (fun (j3:Unit)=>([]:St)) ?_ ?_
 ·
  refine w_block<|w_loopo _ (fun (s4:Int)=>([(0,.c (PV.ls 1 rowS p0l)),(3,.c (.int .i64 s4))]:Fr)) (fun (s4:Int)=>([]:St)) hx1 (w_weak [] 0 r r r r ⟨lr,lr,trivial⟩ st_nil) ?_
  intro s4 st4 hs4 ho4
  unfold value_ascending_l1 at hs4
  refine w_seqw<|w_sr<|mI r<|mL r<|o_p r (p_len ti39 (isl_c r))<|o_p r (p_lss r r)<|o_ek (fr':=[(0,aL),(3,aI),(7,aB)]) r r<|w_ch hs4 r (fun hb5 h5=>?_) (fun hb5 h5=>?_)
  ·
   refine w_skip<|e_kw<|w_seqw<|w_block<|w_seqw<|w_planT [.q 0,.q 1,.q 2,.q 3,.q 4,.q 5,.q 6,.q 7,.q 8,.q 9] [(some 10,[0]),(some 11,[3]),(some 12,[11]),(some 13,[10,12]),(some 14,[13]),(some 15,[0]),(some 16,[3]),(some 17,[15,16]),(some 18,[17]),(some 19,[14,18])] [0,0,2,7,15,0,0,96,224,511] (by kernel_rfl)<|dq r r (p_move (v:=aL) r)<|dq r r (p_move (v:=aI) r)<|dq r r (p_sub r r) ?_
   obtain ⟨x6,hx6,h7⟩:=bind_s h5
   refine dq r r (p_ia (cs:=[PV.str _]) ts39 (isl_c r) r hx6 r)<|dq r r (p_loade (p:=PV.str _) tv9 r r)<|dq r r (p_move (v:=aL) r)<|dq r r (p_move (v:=aI) r) ?_
   obtain ⟨x8,hx8,h9⟩:=bind_s h7
   refine dq r r (p_ia (cs:=[PV.str _]) ts39 (isl_c r) r hx8 r)<|dq r r (p_loade (p:=PV.str _) tv9 r r)<|dq r r (p_sgeq r r)<|d_ek (fr':=[(0,aL),(3,aI),(19,aB)]) r r<|w_ch h9 r (fun hb10 h10=>?_) (fun hb10 h10=>?_)
   ·
    refine w_sr<|sB r<|o_ek (fr':=[(2,aB)]) r r<|w_ret<|e_blk_r<|e_seq_r<|e_seq_r<|e_blk_r<|e_seq_r<|e_seq_r ?_
    have h11:=un_out h10 ho4
    have h12:=un_done h11 h2
    obtain rfl:=sy h12
    exact e_ret (rs':=[.tmp 2]) r<|r_tmp (v:=aB) r<|r_nil<|fin_gen [] r r r lr st_nil
   ·
    exact w_skip<|e_blk_n<|e_kw<|w_region<|mI r<|o_p r (p_add r r)<|sI r<|o_end (fr':=[(0,aL),(3,aI),(19,aB)]) r<|e_l _ (sy h10) (w_weak [] 0 r r r r ⟨lr,lr,trivial⟩ st_nil)
  ·
   refine w_exit<|e_seq_x<|e_seq_x<|e_blk_h ?_
   have h14:=un_out h5 ho4
   exact e_j _ (sy h14) (w_weak [] 0 r r r r trivial st_nil)
 ·
  intro j3 hj15
  have h15:=un_go hj15 h2
  refine e_kw<|w_sr<|sB r<|o_ek (fr':=[(2,aB)]) r r<|w_ret ?_
  obtain rfl:=sy h15
  exact e_ret (rs':=[.tmp 2]) r<|r_tmp (v:=aB) r<|r_nil<|fin_gen [] r r r lr st_nil
noncomputable def slices_IndexFunc_api_Value_api_Value_value_formed_1_l1 (rec_value_formed_1:ApiValue→Bool→Option Bool) (p0s:(List ApiValue)) (p100vx0:Bool) (s4:Int):Option (Step Int (Fl Int Unit)) :=
 cond (decide (s4<((p0s).length:Int))) ((idx p0s s4).bind fun x6=>(rec_value_formed_1 x6 p100vx0).bind fun x8=>cond x8 (some (Step.out (Fl.done s4))) (some (Step.next (IntKind.wrap .i64 (s4+(1:Int)))))) (some (Step.out (Fl.go ())))
mutual
noncomputable def slices_ContainsFunc_api_Value_api_Value_value_formed_1F:Nat→(List ApiValue)→Bool→Option Bool
 | 0,_,_=>none
 | n+1,p0s,p100vx0 =>
  ((slices_IndexFunc_api_Value_api_Value_value_formed_1F n) p0s p100vx0).bind fun x1=>some (decide ((0:Int)≤x1))
noncomputable def slices_IndexFunc_api_Value_api_Value_value_formed_1F:Nat→(List ApiValue)→Bool→Option Int
 | 0,_,_=>none
 | n+1,p0s,p100vx0 =>
  ((loopO (slices_IndexFunc_api_Value_api_Value_value_formed_1_l1 (value_formed_1F n) p0s p100vx0) ((0:Int))):Option (Fl Int Unit)).bind fun x1=>Fl.next x1 (fun j3=>(some (-1:Int)))
noncomputable def value_formedF:Nat→ApiValue→Bool→Option Bool
 | 0,_,_=>none
 | n+1,p0C,p1o =>
  ((cond (decide (p0C.Kind=(0:Int))) (some (Fl.done (cond (cond (cond (!(!decide (p0C.Int=(0:Int)))) (!(!decide (p0C.Text=([]:List UInt8)))) false) (!(decide ((0:Int)<((p0C.Items).length:Int)))) false) (!(decide ((0:Int)<((p0C.Keys).length:Int)))) false))) (cond (decide (p0C.Kind=(1:Int))) (some (Fl.done (cond (cond (cond (cond (decide (p0C.Int=(0:Int))) true (decide (p0C.Int=(1:Int)))) (!(!decide (p0C.Text=([]:List UInt8)))) false) (!(decide ((0:Int)<((p0C.Items).length:Int)))) false) (!(decide ((0:Int)<((p0C.Keys).length:Int)))) false))) (cond (decide (p0C.Kind=(2:Int))) (some (Fl.done (cond (cond (!(!decide (p0C.Text=([]:List UInt8)))) (!(decide ((0:Int)<((p0C.Items).length:Int)))) false) (!(decide ((0:Int)<((p0C.Keys).length:Int)))) false))) (cond (decide (p0C.Kind=(6:Int))) (some (Fl.done (cond (cond (cond (cond p1o (decide ((0:Int)≤p0C.Int)) false) (!(!decide (p0C.Text=([]:List UInt8)))) false) (!(decide ((0:Int)<((p0C.Items).length:Int)))) false) (!(decide ((0:Int)<((p0C.Keys).length:Int)))) false))) (cond (decide (p0C.Kind=(3:Int))) (some (Fl.done (cond (cond (!(!decide (p0C.Int=(0:Int)))) (!(decide ((0:Int)<((p0C.Items).length:Int)))) false) (!(decide ((0:Int)<((p0C.Keys).length:Int)))) false))) (cond (decide (p0C.Kind=(4:Int))) (cond (cond (cond (!decide (p0C.Int=(0:Int))) true (!decide (p0C.Text=([]:List UInt8)))) true (decide ((0:Int)<((p0C.Keys).length:Int)))) (some (Fl.done false)) (some (Fl.go ()))) (cond (decide (p0C.Kind=(5:Int))) ((gd ((cond (cond (!decide (p0C.Int=(0:Int))) true (!decide (p0C.Text=([]:List UInt8)))) true (!decide (((p0C.Keys).length:Int)=((p0C.Items).length:Int))))==false) (value_ascending p0C.Keys)).bind fun x24=>cond (cond (cond (cond (!decide (p0C.Int=(0:Int))) true (!decide (p0C.Text=([]:List UInt8)))) true (!decide (((p0C.Keys).length:Int)=((p0C.Items).length:Int)))) true (!x24)) (some (Fl.done false)) (some (Fl.go ()))) (some (Fl.done false))))))))):Option (Fl Bool Unit)).bind fun x1=>Fl.next x1 (fun j3=>(((slices_ContainsFunc_api_Value_api_Value_value_formed_1F n) p0C.Items p1o).bind fun x32=>some (!x32)))
noncomputable def value_formed_1F:Nat→ApiValue→Bool→Option Bool
 | 0,_,_=>none
 | n+1,p0x,p100vx0 =>
  ((value_formedF n) p0x p100vx0).bind fun x1=>some (!x1)
end
theorem wF_slices_ContainsFunc_api_Value_api_Value_value_formed_1:∀ n:Nat,(∀ {p0s:(List ApiValue)}{p100vx0:Bool}{res:Bool},slices_ContainsFunc_api_Value_api_Value_value_formed_1F n p0s p100vx0=some res→ACalls Tryz.prog 75 [.c (PV.ls 5 rowApiValue p0s),.fn 76 [.box 0 0]] [[.c (.bool p100vx0)]] (.c (.bool res)) [[.c (.bool p100vx0)]])∧(∀ {p0s:(List ApiValue)}{p100vx0:Bool}{res:Int},slices_IndexFunc_api_Value_api_Value_value_formed_1F n p0s p100vx0=some res→ACalls Tryz.prog 98 [.c (PV.ls 5 rowApiValue p0s),.fn 76 [.box 0 0]] [[.c (.bool p100vx0)]] (.c (.int .i64 res)) [[.c (.bool p100vx0)]])∧(∀ {p0C:ApiValue}{p1o:Bool}{res:Bool},value_formedF n p0C p1o=some res→ACalls Tryz.prog 51 [.agg (AV.cs (exApiValue p0C)),.c (.bool p1o)] [] (.c (.bool res)) [])∧(∀ {p0x:ApiValue}{p100vx0:Bool}{res:Bool},value_formed_1F n p0x p100vx0=some res→ACalls Tryz.prog 76 [.agg (AV.cs (exApiValue p0x)),.box 0 0] [[.c (.bool p100vx0)]] (.c (.bool res)) [[.c (.bool p100vx0)]]):=by
 intro n
 induction n with
 | zero=>exact ⟨fun {p0s p100vx0 res} h=>absurd h (by simp [slices_ContainsFunc_api_Value_api_Value_value_formed_1F]),fun {p0s p100vx0 res} h=>absurd h (by simp [slices_IndexFunc_api_Value_api_Value_value_formed_1F]),fun {p0C p1o res} h=>absurd h (by simp [value_formedF]),fun {p0x p100vx0 res} h=>absurd h (by simp [value_formed_1F])⟩
 | succ n ih =>
  obtain ⟨ih_slices_ContainsFunc_api_Value_api_Value_value_formed_1,ih_slices_IndexFunc_api_Value_api_Value_value_formed_1,ih_value_formed,ih_value_formed_1⟩:=ih
  refine ⟨?_,?_,?_,?_⟩
  ·
   intro p0s p100vx0 res h
   rw [slices_ContainsFunc_api_Value_api_Value_value_formed_1F] at h
   refine acalls (fn:=Tryz.f75) [0,1,4] (by kernel_rfl) Tryz.func75 r (by kernel_rfl) (by kernel_rfl)<|w_sr<|sB r<|o_ek (fr':=[(0,aL),(1,.fn _ [.box 0 0])]) r r<|w_sr<|mL r<|mV (v:=.fn _ [.box 0 0]) r ?_
   obtain ⟨x1,hx1,h2⟩:=bind_s h
   refine o_call (v:=aI) (σ':=[[aB]]) [0] r (ih_slices_IndexFunc_api_Value_api_Value_value_formed_1 hx1) r r ⟨lr,(le_fnp r ⟨lr,trivial⟩),trivial⟩ (st_p ⟨lr,trivial⟩ st_nil) r r r<|o_p r (p_geq r r)<|sB r<|o_ek (fr':=[(4,aB)]) r r<|w_ret ?_
   obtain rfl:=sy h2
   exact e_ret (rs':=[.tmp 4]) r<|r_tmp (v:=aB) r<|r_nil<|fin_gen [] r r r lr (st_r r st_nil)
  ·
   intro p0s p100vx0 res h
   rw [slices_IndexFunc_api_Value_api_Value_value_formed_1F] at h
   refine acalls (fn:=Tryz.f98) [0,1,4,5,7,8,9,16] (by kernel_rfl) Tryz.func98 r (by kernel_rfl) (by kernel_rfl)<|w_sr<|sI r<|o_ek (fr':=[(0,aL),(1,.fn _ [.box 0 0])]) r r<|w_seqw<|w_sr<|mL r<|o_p r (p_len ti38 (isl_c r))<|mI r<|o_ek (fr':=[(0,aL),(1,.fn _ [.box 0 0]),(7,aI),(8,aI)]) r r ?_
   obtain ⟨x1,hx1,h2⟩:=bind_s h
   refine w_jtail cl_kw (fun j3=>x1=Fl.go j3) (fun (j3:Unit)=>([]:Fr)) (fun (j3:Unit)=>([[.c (.bool p100vx0)]]:St)) ?_ ?_
   ·
    refine w_block<|w_loopo _ (fun (s4:Int)=>([(0,.c (PV.ls 5 rowApiValue p0s)),(1,.fn 76 [.box 0 0]),(7,.c (.int .i64 ((p0s).length:Int))),(8,.c (.int .i64 s4))]:Fr)) (fun (s4:Int)=>([[.c (.bool p100vx0)]]:St)) hx1 (w_weak [] 1 r r r r ⟨lr,lr,lr,lr,trivial⟩ (st_r r st_nil)) ?_
    intro s4 st4 hs4 ho4
    unfold slices_IndexFunc_api_Value_api_Value_value_formed_1_l1 at hs4
    refine w_sr<|o_p r (p_lss r r)<|o_ek (fr':=[(0,aL),(1,.fn _ [.box 0 0]),(7,aI),(8,aI),(9,aB)]) r r<|w_seqw<|w_ch hs4 r (fun hb5 h5=>?_) (fun hb5 h5=>?_)
    ·
     refine w_skip<|e_kw<|w_seqw<|w_block<|w_sr<|mI r<|sI r<|o_ek (fr':=[(0,aL),(1,.fn _ [.box 0 0]),(5,aI),(7,aI),(8,aI)]) r r<|w_sr<|mV (v:=.fn _ [.box 0 0]) r<|mL r ?_
     refine mI r ?_
     obtain ⟨x6,hx6,h7⟩:=bind_s h5
     refine o_p r (p_ia (cs:=[PV.int _ _,PV.int _ _,PV.str _,PV.ls _ _ _,PV.ls _ _ _]) ts38 (isl_c r) r hx6 (rowApiValue_eq _))<|o_p r (p_loades (us:=[PV.int _ _,PV.int _ _,PV.str _,PV.ls _ _ _,PV.ls _ _ _]) tv41 r r r) ?_
     obtain ⟨x8,hx8,h9⟩:=bind_s h7
     refine o_call (v:=aB) (σ':=[[aB]]) [0] r (ih_value_formed_1 hx8) r r ⟨(le_aggc r ⟨r,r,r,r,r,trivial⟩),lr,trivial⟩ (st_p ⟨lr,trivial⟩ st_nil) r r r<|o_ek (fr':=[(0,aL),(1,.fn _ [.box 0 0]),(5,aI),(7,aI),(8,aI),(16,aB)]) r r<|w_ch h9 r (fun hb10 h10=>?_) (fun hb10 h10=>?_)
     ·
      refine w_sr<|mI r<|sI r<|o_ek (fr':=[(4,aI)]) r r<|w_ret<|e_blk_r<|e_seq_r<|e_seq_r<|e_blk_r<|e_seq_r<|e_seq_r ?_
      have h11:=un_out h10 ho4
      have h12:=un_done h11 h2
      obtain rfl:=sy h12
      exact e_ret (rs':=[.tmp 4]) r<|r_tmp (v:=aI) r<|r_nil<|fin_gen [] r r r lr (st_r r st_nil)
     ·
      exact w_skip<|e_blk_n<|e_kw<|w_region<|o_p r (p_add r r)<|mI r<|o_end (fr':=[(0,aL),(1,.fn _ [.box 0 0]),(5,aI),(7,aI),(8,aI),(16,aB)]) r<|e_l _ (sy h10) (w_weak [] 1 r r r r ⟨lr,lr,lr,lr,trivial⟩ (st_r r st_nil))
    ·
     refine w_exit<|e_seq_x<|e_seq_x<|e_blk_h ?_
     have h14:=un_out h5 ho4
     exact e_j _ (sy h14) (w_weak [] 1 r r r r trivial (st_r r st_nil))
   ·
    intro j3 hj15
    have h15:=un_go hj15 h2
    refine e_kw<|w_sr<|sI r<|o_ek (fr':=[(4,aI)]) r r<|w_ret ?_
    obtain rfl:=sy h15
    exact e_ret (rs':=[.tmp 4]) r<|r_tmp (v:=aI) r<|r_nil<|fin_gen [] r r r lr (st_r r st_nil)
  ·
   intro p0C p1o res h
   rw [value_formedF] at h
   refine acalls (fn:=Tryz.f51) [0,1,2,3,4,5,6,7,8,24,25,41,63,75,95,107,115,116,136] (by kernel_rfl) Tryz.func51 r (by kernel_rfl) (by kernel_rfl)<|w_sr<|o_box (v:=.agg aIISLL) (n:=0) (cs:=aIISLL) (σ':=[aIISLL]) r r r r r<|o_box (v:=aB) (n:=1) (cs:=[aB]) (σ':=[aIISLL,[aB]]) r r r r r<|sB r<|o_ek (fr':=[(2,.box 0 0),(3,.box 1 0)]) r r<|w_sr<|o_p r (p_fa tf41x1 r)<|o_p r (p_load (v:=aI) tv3 r r r)<|o_p r (p_neq r r)<|sB r ?_
   refine o_ek (fr':=[(2,.box 0 0),(3,.box 1 0),(5,aB)]) r r<|w_sr<|o_p r (p_fa tf41x2 r)<|o_p r (p_load (v:=aS) tv9 r r r)<|o_p r (p_sneq r r)<|sB r<|o_ek (fr':=[(2,.box 0 0),(3,.box 1 0),(5,aB),(6,aB)]) r r<|w_sr<|o_p r (p_fa tf41x3 r)<|o_p r (p_load (v:=aL) tv38 r r r)<|o_p r (p_len ti38 (isl_c r)) ?_
   refine o_p r (p_gtr r r)<|sB r<|o_ek (fr':=[(2,.box 0 0),(3,.box 1 0),(5,aB),(6,aB),(7,aB)]) r r<|w_sr<|o_p r (p_fa tf41x4 r)<|o_p r (p_load (v:=aL) tv39 r r r)<|o_p r (p_len ti39 (isl_c r))<|o_p r (p_gtr r r)<|sB r<|o_ek (fr':=[(2,.box 0 0),(3,.box 1 0),(5,aB),(6,aB),(7,aB),(8,aB)]) r r ?_
   obtain ⟨x1,hx1,h2⟩:=bind_s h
   refine w_join (fun j3=>x1=Fl.go j3) (fun (j3:Unit)=>([(2,.box 0 0),(3,.box 1 0)]:Fr)) (fun (j3:Unit)=>([[.c (.int .i64 p0C.Kind),.c (.int .i64 p0C.Int),.c (.str p0C.Text),.c (PV.ls 5 rowApiValue p0C.Items),.c (PV.ls 1 rowS p0C.Keys)],[.c (.bool p1o)]]:St)) ?_ ?_
   ·
    refine w_sr<|o_p r (p_fa tf41x0 r)<|o_p r (p_load (v:=aI) tv3 r r r)<|o_ek (fr':=[(2,.box 0 0),(3,.box 1 0),(5,aB),(6,aB),(7,aB),(8,aB),(24,aI)]) r r<|w_block<|w_sr<|o_p r (p_eql r r)<|sB r<|o_ek (fr':=[(2,.box 0 0),(3,.box 1 0),(5,aB),(6,aB),(7,aB),(8,aB),(24,aI),(25,aB)]) r r<|w_ch hx1 r (fun hb4 h4=>?_) (fun hb4 h4=>?_)
    ·
     refine w_sr<|mB r<|o_p r (p_not r)<|mB r<|og r r r (fun hc=>(p_move (v:=aB) r))<|og r r r (fun hc=>(p_not (gx r hc)))<|o_p r (p_picky r r r (fun e=>keq e))<|mB r<|og r r r (fun hc=>(p_move (v:=aB) r))<|og r r r (fun hc=>(p_not (gx r hc)))<|o_p r (p_picky r r r (fun e=>keq e))<|mB r ?_
     refine og r r r (fun hc=>(p_move (v:=aB) r))<|og r r r (fun hc=>(p_not (gx r hc)))<|o_p r (p_picky r r r (fun e=>keq e))<|sB r<|o_ek (fr':=[(4,aB)]) r r<|w_ret<|e_blk_r<|e_seq_r ?_
     have h5:=un_done h4 h2
     obtain rfl:=sy h5
     exact e_ret (rs':=[.tmp 4]) r<|r_tmp (v:=aB) r<|r_nil<|fin_gen [] r r r lr st_nil
    ·
     refine w_sr<|o_p r (p_eql r r)<|sB r<|o_ek (fr':=[(2,.box 0 0),(3,.box 1 0),(5,aB),(6,aB),(7,aB),(8,aB),(24,aI),(41,aB)]) r r<|w_ch h4 r (fun hb7 h7=>?_) (fun hb7 h7=>?_)
     ·
      refine w_sr<|o_p r (p_fa tf41x1 r)<|o_p r (p_load (v:=aI) tv3 r r r)<|o_p r (p_eql r r)<|mB r<|og r r r (fun hc=>(p_fa tf41x1 r))<|og r r r (fun hc=>(p_load (v:=aI) tv3 (gx r hc) r r))<|og r r r (fun hc=>(p_eql (gx r hc) r))<|o_p r (p_pickz r r r (fun e=>keq e))<|mB r<|og r r r (fun hc=>(p_move (v:=aB) r))<|og r r r (fun hc=>(p_not (gx r hc))) ?_
      refine o_p r (p_picky r r r (fun e=>keq e))<|mB r<|og r r r (fun hc=>(p_move (v:=aB) r))<|og r r r (fun hc=>(p_not (gx r hc)))<|o_p r (p_picky r r r (fun e=>keq e))<|mB r<|og r r r (fun hc=>(p_move (v:=aB) r))<|og r r r (fun hc=>(p_not (gx r hc)))<|o_p r (p_picky r r r (fun e=>keq e))<|sB r<|o_ek (fr':=[(4,aB)]) r r<|w_ret<|e_blk_r ?_
      refine e_seq_r ?_
      have h8:=un_done h7 h2
      obtain rfl:=sy h8
      exact e_ret (rs':=[.tmp 4]) r<|r_tmp (v:=aB) r<|r_nil<|fin_gen [] r r r lr st_nil
     ·
      refine w_sr<|o_p r (p_eql r r)<|sB r<|o_ek (fr':=[(2,.box 0 0),(3,.box 1 0),(5,aB),(6,aB),(7,aB),(8,aB),(24,aI),(63,aB)]) r r<|w_ch h7 r (fun hb10 h10=>?_) (fun hb10 h10=>?_)
      ·
       refine w_sr<|mB r<|o_p r (p_not r)<|mB r<|og r r r (fun hc=>(p_move (v:=aB) r))<|og r r r (fun hc=>(p_not (gx r hc)))<|o_p r (p_picky r r r (fun e=>keq e))<|mB r<|og r r r (fun hc=>(p_move (v:=aB) r))<|og r r r (fun hc=>(p_not (gx r hc)))<|o_p r (p_picky r r r (fun e=>keq e))<|sB r ?_
       refine o_ek (fr':=[(4,aB)]) r r<|w_ret<|e_blk_r<|e_seq_r ?_
       have h11:=un_done h10 h2
       obtain rfl:=sy h11
       exact e_ret (rs':=[.tmp 4]) r<|r_tmp (v:=aB) r<|r_nil<|fin_gen [] r r r lr st_nil
      ·
       refine w_sr<|o_p r (p_eql r r)<|sB r<|o_ek (fr':=[(2,.box 0 0),(3,.box 1 0),(5,aB),(6,aB),(7,aB),(8,aB),(24,aI),(75,aB)]) r r<|w_ch h10 r (fun hb13 h13=>?_) (fun hb13 h13=>?_)
       ·
        refine w_sr<|o_p r (p_load (v:=aB) tv4 r r r)<|mB r<|og r r r (fun hc=>(p_fa tf41x1 r))<|og r r r (fun hc=>(p_load (v:=aI) tv3 (gx r hc) r r))<|og r r r (fun hc=>(p_geq (gx r hc) r))<|o_p r (p_picky r r r (fun e=>keq e))<|mB r<|og r r r (fun hc=>(p_move (v:=aB) r))<|og r r r (fun hc=>(p_not (gx r hc)))<|o_p r (p_picky r r r (fun e=>keq e))<|mB r ?_
        refine og r r r (fun hc=>(p_move (v:=aB) r))<|og r r r (fun hc=>(p_not (gx r hc)))<|o_p r (p_picky r r r (fun e=>keq e))<|mB r<|og r r r (fun hc=>(p_move (v:=aB) r))<|og r r r (fun hc=>(p_not (gx r hc)))<|o_p r (p_picky r r r (fun e=>keq e))<|sB r<|o_ek (fr':=[(4,aB)]) r r<|w_ret<|e_blk_r<|e_seq_r ?_
        have h14:=un_done h13 h2
        obtain rfl:=sy h14
        exact e_ret (rs':=[.tmp 4]) r<|r_tmp (v:=aB) r<|r_nil<|fin_gen [] r r r lr st_nil
       ·
        refine w_sr<|o_p r (p_eql r r)<|sB r<|o_ek (fr':=[(2,.box 0 0),(3,.box 1 0),(5,aB),(6,aB),(7,aB),(8,aB),(24,aI),(95,aB)]) r r<|w_ch h13 r (fun hb16 h16=>?_) (fun hb16 h16=>?_)
        ·
         refine w_sr<|mB r<|o_p r (p_not r)<|mB r<|og r r r (fun hc=>(p_move (v:=aB) r))<|og r r r (fun hc=>(p_not (gx r hc)))<|o_p r (p_picky r r r (fun e=>keq e))<|mB r<|og r r r (fun hc=>(p_move (v:=aB) r))<|og r r r (fun hc=>(p_not (gx r hc)))<|o_p r (p_picky r r r (fun e=>keq e))<|sB r ?_
         refine o_ek (fr':=[(4,aB)]) r r<|w_ret<|e_blk_r<|e_seq_r ?_
         have h17:=un_done h16 h2
         obtain rfl:=sy h17
         exact e_ret (rs':=[.tmp 4]) r<|r_tmp (v:=aB) r<|r_nil<|fin_gen [] r r r lr st_nil
        ·
         refine w_sr<|o_p r (p_eql r r)<|sB r<|o_ek (fr':=[(2,.box 0 0),(3,.box 1 0),(5,aB),(6,aB),(8,aB),(24,aI),(107,aB)]) r r<|w_ch h16 r (fun hb19 h19=>?_) (fun hb19 h19=>?_)
         ·
          refine w_sr<|mB r<|mB r<|og r r r (fun hc=>(p_move (v:=aB) r))<|o_p r (p_pickz r r r (fun e=>keq e))<|mB r<|og r r r (fun hc=>(p_move (v:=aB) r))<|o_p r (p_pickz r r r (fun e=>keq e))<|o_ek (fr':=[(2,.box 0 0),(3,.box 1 0),(115,aB)]) r r<|w_ch h19 r (fun hb20 h20=>?_) (fun hb20 h20=>?_)
          ·
           refine w_sr<|sB r<|o_ek (fr':=[(4,aB)]) r r<|w_ret<|e_blk_r<|e_seq_r ?_
           have h21:=un_done h20 h2
           obtain rfl:=sy h21
           exact e_ret (rs':=[.tmp 4]) r<|r_tmp (v:=aB) r<|r_nil<|fin_gen [] r r r lr st_nil
          ·
           exact w_skip<|e_blk_n<|e_j _ (sy h20) (w_weak [] 2 r r r r ⟨lr,lr,trivial⟩ (st_r r (st_r r st_nil)))
         ·
          refine w_sr<|o_p r (p_eql r r)<|sB r<|o_ek (fr':=[(2,.box 0 0),(3,.box 1 0),(5,aB),(6,aB),(116,aB)]) r r<|w_ch h19 r (fun hb23 h23=>?_) (fun hb23 h23=>?_)
          ·
           refine w_sr<|mB r<|mB r<|og r r r (fun hc=>(p_move (v:=aB) r))<|o_p r (p_pickz r r r (fun e=>keq e))<|mB r<|og r r r (fun hc=>(p_fa tf41x4 r))<|og r r r (fun hc=>(p_load (v:=aL) tv39 (gx r hc) r r))<|og r r r (fun hc=>(p_len ti39 (isl_c (gx r hc))))<|og r r r (fun hc=>(p_fa tf41x3 r))<|og r r r (fun hc=>(p_load (v:=aL) tv38 (gx r hc) r r))<|og r r r (fun hc=>(p_len ti38 (isl_c (gx r hc)))) ?_
           refine og r r r (fun hc=>(p_neq (gx r hc) (gx r hc)))<|o_p r (p_pickz r r r (fun e=>keq e))<|mB r<|og r r r (fun hc=>(p_fa tf41x4 r))<|og r r r (fun hc=>(p_load (v:=aL) tv39 (gx r hc) r r)) ?_
           obtain ⟨x24,hx24,h25⟩:=bind_s h23
           refine o_g r r (fun hc=>ov_call (v:=aB) r (w_value_ascending (gd_some hx24 hc)) ⟨(le_gv (gx r hc) lr),trivial⟩ (ok_eq (by repeat (first | exact ok_nil | refine ok_cons r ?_ | refine ok_cons (dgv r) ?_ | refine ok_cons dar ?_))) r r) ?_
           refine og r r r (fun hc=>(p_not (gx r hc)))<|o_p r (p_pickz r r r (fun e=>keq e))<|o_ek (fr':=[(2,.box 0 0),(3,.box 1 0),(136,aB)]) r r<|w_ch h25 r (fun hb26 h26=>?_) (fun hb26 h26=>?_)
           ·
            refine w_sr<|sB r<|o_ek (fr':=[(4,aB)]) r r<|w_ret<|e_blk_r<|e_seq_r ?_
            have h27:=un_done h26 h2
            obtain rfl:=sy h27
            exact e_ret (rs':=[.tmp 4]) r<|r_tmp (v:=aB) r<|r_nil<|fin_gen [] r r r lr st_nil
           ·
            exact w_skip<|e_blk_n<|e_j _ (sy h26) (w_weak [] 2 r r r r ⟨lr,lr,trivial⟩ (st_r r (st_r r st_nil)))
          ·
           refine w_sr<|sB r<|o_ek (fr':=[(4,aB)]) r r<|w_ret<|e_blk_r<|e_seq_r ?_
           have h29:=un_done h23 h2
           obtain rfl:=sy h29
           exact e_ret (rs':=[.tmp 4]) r<|r_tmp (v:=aB) r<|r_nil<|fin_gen [] r r r lr st_nil
   ·
    intro j3 hj31
    have h31:=un_go hj31 h2
    refine w_sr<|o_p r (p_fa tf41x3 r)<|o_p r (p_load (v:=aL) tv38 r r r)<|o_p r (p_func (cs:=[.box 1 0]) r r) ?_
    obtain ⟨x32,hx32,h33⟩:=bind_s h31
    refine o_call (v:=aB) (σ':=[aIISLL,[aB]]) [1] r (ih_slices_ContainsFunc_api_Value_api_Value_value_formed_1 hx32) r r ⟨lr,(le_fnp r ⟨lr,trivial⟩),trivial⟩ (st_p ⟨lr,trivial⟩ st_nil) r r r<|o_p r (p_not r)<|sB r<|o_ek (fr':=[(4,aB)]) r r<|w_ret ?_
    obtain rfl:=sy h33
    exact e_ret (rs':=[.tmp 4]) r<|r_tmp (v:=aB) r<|r_nil<|fin_gen [] r r r lr st_nil
  ·
   intro p0x p100vx0 res h
   rw [value_formed_1F] at h
   refine acalls (fn:=Tryz.f76) [0,1,2,3] (by kernel_rfl) Tryz.func76 r (by kernel_rfl) (by kernel_rfl)<|w_sr<|o_box (v:=.agg aIISLL) (n:=1) (cs:=aIISLL) (σ':=[[aB],aIISLL]) r r r r r<|sB r<|o_ek (fr':=[(1,.box 0 0),(2,.box 1 0)]) r r<|w_sr<|o_p r (p_loads (us:=aIISLL) tv41 r r r r)<|o_p r (p_load (v:=aB) tv4 r r r) ?_
   obtain ⟨x1,hx1,h2⟩:=bind_s h
   refine o_v (ov_call (v:=aB) r (ih_value_formed hx1) ⟨(le_aggc r ⟨r,r,r,r,r,trivial⟩),lr,trivial⟩ r r r)<|o_p r (p_not r)<|sB r<|o_ek (fr':=[(3,aB)]) r r<|w_ret ?_
   obtain rfl:=sy h2
   exact e_ret (rs':=[.tmp 3]) r<|r_tmp (v:=aB) r<|r_nil<|fin_gen [] r r r lr (st_r r st_nil)
noncomputable def value_formed (p0C:ApiValue) (p1o:Bool):Option Bool:=lim fun n=>value_formedF n p0C p1o
theorem w_value_formed {p0C:ApiValue}{p1o:Bool}{res:Bool} (h:value_formed p0C p1o=some res):ACalls Tryz.prog 51 [.agg (AV.cs (exApiValue p0C)),.c (.bool p1o)] [] (.c (.bool res)) []:=by
 obtain ⟨n,hn⟩:=lim_some h
 exact (wF_slices_ContainsFunc_api_Value_api_Value_value_formed_1 n).2.2.1 hn
end Go.Proofs.YtmbdbdhdcbdcpaaGreatDoor

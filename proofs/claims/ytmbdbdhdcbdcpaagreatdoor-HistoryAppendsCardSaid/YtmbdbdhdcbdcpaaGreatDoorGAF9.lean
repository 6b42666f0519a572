import Derived.Test.YtmbdbdhdcbdcpaaGreatDoorGATy
import Derived.Test.YtmbdbdhdcbdcpaaGreatDoorGAF4
import Derived.Test.YtmbdbdhdcbdcpaaGreatDoorGAF5
import Derived.Test.YtmbdbdhdcbdcpaaGreatDoorGAF6
import Derived.Test.YtmbdbdhdcbdcpaaGreatDoorGAF8
namespace Go.Proofs.YtmbdbdhdcbdcpaaGreatDoor
open Go Abs
set_option maxRecDepth 100000
set_option linter.unusedVariables false
set_option linter.unusedSimpArgs false
noncomputable def ref24xCheck_l1 (p0l:(List ApiEvent)) (s6:Int):Option (Step Int (Fl Int Unit)) :=
 cond (decide (s6<((p0l).length:Int))) ((idx p0l s6).bind fun x8=>(ref22xRight x8).bind fun x10=>cond (!x10) (some (Step.out (Fl.done (11:Int)))) ((idx p0l s6).bind fun x16=>(gd (((!decide (x16.ID=(IntKind.wrap .i64 (s6+(1:Int)))))==false)&&((decide ((0:Int)<s6))==true)) (idx p0l s6)).bind fun x18=>(gd (((!decide (x16.ID=(IntKind.wrap .i64 (s6+(1:Int)))))==false)&&((decide ((0:Int)<s6))==true)) (idx p0l (IntKind.wrap .i64 (s6 - (1:Int))))).bind fun x20=>cond (cond (!decide (x16.ID=(IntKind.wrap .i64 (s6+(1:Int))))) true (cond (decide ((0:Int)<s6)) (decide (x18.Time<x20.Time)) false)) (some (Step.out (Fl.done (30:Int)))) ((ref24xallowed p0l s6).bind fun x26=>cond (!x26) (some (Step.out (Fl.done (16:Int)))) (some (Step.next (IntKind.wrap .i64 (s6+(1:Int)))))))) (some (Step.out (Fl.go ())))
noncomputable def ref24xCheck (p0l:(List ApiEvent)):Option Int :=
 cond (decide ((2000:Int)<((p0l).length:Int))) (some (6:Int)) (((loopO (ref24xCheck_l1 p0l) ((0:Int))):Option (Fl Int Unit)).bind fun x3=>Fl.next x3 (fun j5=>(some (0:Int))))
theorem w_ref24xCheck {p0l:(List ApiEvent)}{res:Int} (h:ref24xCheck p0l=some res):ACalls Tryz.prog 13 [.c (PV.ls 24 rowApiEvent p0l)] [] (.c (.int .i64 res)) []:=by
 unfold ref24xCheck at h
 refine acalls (fn:=Tryz.f13) [0,2,3,6,10,18,44,48] (by kernel_rfl) Tryz.func13 r (by kernel_rfl) (by kernel_rfl)<|w_sr<|sI r<|o_ek (fr':=[(0,aL)]) r r<|w_seqw<|w_sr<|mL r<|o_p r (p_len ti22 (isl_c r))<|o_p r (p_gtr r r)<|o_ek (fr':=[(0,aL),(6,aB)]) r r<|w_ch h r (fun hb1 h1=>?_) (fun hb1 h1=>?_)
 ·
  refine w_sr<|sI r<|o_ek (fr':=[(2,aI)]) r r<|w_ret<|e_seq_r ?_
  obtain rfl:=sy h1
  exact e_ret (rs':=[.tmp 2]) r<|r_tmp (v:=aI) r<|r_nil<|fin_gen [] r r r lr st_nil
 ·
  refine w_skip<|e_kw<|w_seqw<|w_sr<|sI r<|o_ek (fr':=[(0,aL),(3,aI)]) r r ?_
  obtain ⟨x3,hx3,h4⟩:=bind_s h1
  refine w_jtail cl_kw (fun j5=>x3=Fl.go j5) (fun (j5:Unit)=>([]:Fr)) (fun (j5:Unit)=>([]:St)) ?_ ?_
  ·
   refine w_block<|w_loopo _ (fun (s6:Int)=>([(0,.c (PV.ls 24 rowApiEvent p0l)),(3,.c (.int .i64 s6))]:Fr)) (fun (s6:Int)=>([]:St)) hx3 (w_weak [] 0 r r r r ⟨lr,lr,trivial⟩ st_nil) ?_
   intro s6 st6 hs6 ho6
   unfold ref24xCheck_l1 at hs6
   refine w_seqw<|w_sr<|mI r<|mL r<|o_p r (p_len ti22 (isl_c r))<|o_p r (p_lss r r)<|o_ek (fr':=[(0,aL),(3,aI),(10,aB)]) r r<|w_ch hs6 r (fun hb7 h7=>?_) (fun hb7 h7=>?_)
   ·
    refine w_skip<|e_kw<|w_seqw<|w_block<|w_seqw<|w_sr<|mL r<|mI r ?_
    obtain ⟨x8,hx8,h9⟩:=bind_s h7
    refine o_p r (p_ia (cs:=[PV.int _ _,PV.int _ _,PV.int _ _,PV.int _ _,PV.int _ _,PV.int _ _,PV.int _ _,PV.str _,PV.str _,PV.int _ _,PV.int _ _,PV.str _,PV.ls _ _ _,PV.ls _ _ _,PV.str _,PV.int _ _,PV.int _ _,PV.int _ _,PV.int _ _,PV.int _ _,PV.int _ _,PV.int _ _,PV.int _ _,PV.ls _ _ _]) ts22 (isl_c r) r hx8 r)<|o_p r (p_loades (us:=[PV.int _ _,PV.int _ _,PV.int _ _,PV.int _ _,PV.int _ _,PV.int _ _,PV.int _ _,PV.str _,PV.str _,PV.int _ _,PV.int _ _,PV.str _,PV.ls _ _ _,PV.ls _ _ _,PV.str _,PV.int _ _,PV.int _ _,PV.int _ _,PV.int _ _,PV.int _ _,PV.int _ _,PV.int _ _,PV.int _ _,PV.ls _ _ _]) tv45 r r r) ?_
    obtain ⟨x10,hx10,h11⟩:=bind_s h9
    refine o_v (ov_call (v:=aB) r (w_ref22xRight hx10) ⟨(le_aggc r ⟨r,r,r,r,r,r,r,r,r,r,r,r,r,r,r,r,r,r,r,r,r,r,r,r,trivial⟩),trivial⟩ r r r)<|o_p r (p_not r)<|o_ek (fr':=[(0,aL),(3,aI),(18,aB)]) r r<|w_ch h11 r (fun hb12 h12=>?_) (fun hb12 h12=>?_)
    ·
     refine w_sr<|sI r<|o_ek (fr':=[(2,aI)]) r r<|w_ret<|e_seq_r<|e_blk_r<|e_seq_r<|e_seq_r<|e_blk_r<|e_seq_r<|e_seq_r ?_
     have h13:=un_out h12 ho6
     have h14:=un_done h13 h4
     obtain rfl:=sy h14
     exact e_ret (rs':=[.tmp 2]) r<|r_tmp (v:=aI) r<|r_nil<|fin_gen [] r r r lr st_nil
    ·
     refine w_skip<|e_kw<|w_seqw<|w_seqw<|w_planT [.q 0,.q 1,.q 2,.q 3,.q 4,.q 5,.q 6,.q 7,.q 8,.q 9,.q 10,.q 11,.q 12,.q 13,.q 14,.q 15,.q 16,.q 17,.q 18,.q 19,.q 20,.q 21,.q 22,.q 23,.q 24,.q 25] [(some 19,[0]),(some 20,[3]),(some 21,[19,20]),(some 22,[21]),(some 23,[22]),(some 24,[3]),(some 25,[24]),(some 26,[23,25]),(some 27,[26]),(some 28,[3,27]),(some 29,[28,27]),(some 30,[29,27]),(some 31,[0,30]),(some 32,[3,30]),(some 33,[31,32,30]),(some 34,[33,30]),(some 35,[34,30]),(some 36,[0,30]),(some 37,[3,30]),(some 38,[37,30]),(some 39,[36,38,30]),(some 40,[39,30]),(some 41,[40,30]),(some 42,[35,41,30]),(some 43,[30,42,27]),(some 44,[27,43])] [0,0,3,7,15,0,32,127,255,511,1023,2047,4095,4095,16383,32767,65535,4095,4095,266239,921599,1970175,4067327,8388607,16777215,33554431] (by kernel_rfl)<|dq r r (p_move (v:=aL) r)<|dq r r (p_move (v:=aI) r) ?_
     obtain ⟨x16,hx16,h17⟩:=bind_s h12
     refine dq r r (p_ia (cs:=[PV.int _ _,PV.int _ _,PV.int _ _,PV.int _ _,PV.int _ _,PV.int _ _,PV.int _ _,PV.str _,PV.str _,PV.int _ _,PV.int _ _,PV.str _,PV.ls _ _ _,PV.ls _ _ _,PV.str _,PV.int _ _,PV.int _ _,PV.int _ _,PV.int _ _,PV.int _ _,PV.int _ _,PV.int _ _,PV.int _ _,PV.ls _ _ _]) ts22 (isl_c r) r hx16 r)<|dq r r (p_fae tf45x0 r)<|dq r r (p_loade (p:=PV.int _ _) tv3 r r)<|dq r r (p_move (v:=aI) r)<|dq r r (p_add r r)<|dq r r (p_neq r r)<|dq r r (p_move (v:=aB) r)<|d_g r r r (fun hc=>qv_p r (p_move (v:=aI) r))<|d_g r r r (fun hc=>qv_p r (p_gtr (gx r hc) r))<|d_g r r r (fun hc=>qv_p r (p_move (v:=aB) (gx r hc)))<|d_gg r r r (fun hc=>qv_p r (p_move (v:=aL) r))<|d_gg r r r (fun hc=>qv_p r (p_move (v:=aI) r)) ?_
     obtain ⟨x18,hx18,h19⟩:=bind_s h17
     refine d_gg r r r (fun hc=>qv_p r (p_ia (cs:=[PV.int _ _,PV.int _ _,PV.int _ _,PV.int _ _,PV.int _ _,PV.int _ _,PV.int _ _,PV.str _,PV.str _,PV.int _ _,PV.int _ _,PV.str _,PV.ls _ _ _,PV.ls _ _ _,PV.str _,PV.int _ _,PV.int _ _,PV.int _ _,PV.int _ _,PV.int _ _,PV.int _ _,PV.int _ _,PV.int _ _,PV.ls _ _ _]) ts22 (isl_c (gx r hc)) (gx r hc) (gd_some hx18 hc) r))<|d_gg r r r (fun hc=>qv_p r (p_fae tf45x2 (gx r hc)))<|d_gg r r r (fun hc=>qv_p r (p_loade (p:=PV.int _ _) tv3 (gx r hc) r))<|d_gg r r r (fun hc=>qv_p r (p_move (v:=aL) r))<|d_gg r r r (fun hc=>qv_p r (p_move (v:=aI) r))<|d_gg r r r (fun hc=>qv_p r (p_sub (gx r hc) r)) ?_
     obtain ⟨x20,hx20,h21⟩:=bind_s h19
     refine d_gg r r r (fun hc=>qv_p r (p_ia (cs:=[PV.int _ _,PV.int _ _,PV.int _ _,PV.int _ _,PV.int _ _,PV.int _ _,PV.int _ _,PV.str _,PV.str _,PV.int _ _,PV.int _ _,PV.str _,PV.ls _ _ _,PV.ls _ _ _,PV.str _,PV.int _ _,PV.int _ _,PV.int _ _,PV.int _ _,PV.int _ _,PV.int _ _,PV.int _ _,PV.int _ _,PV.ls _ _ _]) ts22 (isl_c (gx r hc)) (gx r hc) (gd_some hx20 hc) r))<|d_gg r r r (fun hc=>qv_p r (p_fae tf45x2 (gx r hc)))<|d_gg r r r (fun hc=>qv_p r (p_loade (p:=PV.int _ _) tv3 (gx r hc) r))<|d_gg r r r (fun hc=>qv_p r (p_lss (gx r hc) (gx r hc)))<|d_g r r r (fun hc=>qv_p r (p_picky (gx r hc) r r (fun e=>band hc (keq e))))<|dq r r (p_pickz r r r (fun e=>keq e))<|d_ek (fr':=[(0,aL),(3,aI),(44,aB)]) r r<|w_ch h21 r (fun hb22 h22=>?_) (fun hb22 h22=>?_)
     ·
      refine w_sr<|sI r<|o_ek (fr':=[(2,aI)]) r r<|w_ret<|e_seq_r<|e_blk_r<|e_seq_r<|e_seq_r<|e_blk_r<|e_seq_r<|e_seq_r ?_
      have h23:=un_out h22 ho6
      have h24:=un_done h23 h4
      obtain rfl:=sy h24
      exact e_ret (rs':=[.tmp 2]) r<|r_tmp (v:=aI) r<|r_nil<|fin_gen [] r r r lr st_nil
     ·
      refine w_skip<|e_kw<|w_sr<|mL r<|mI r ?_
      obtain ⟨x26,hx26,h27⟩:=bind_s h22
      refine o_v (ov_call (v:=aB) r (w_ref24xallowed hx26) ⟨lr,lr,trivial⟩ r r r)<|o_p r (p_not r)<|o_ek (fr':=[(0,aL),(3,aI),(48,aB)]) r r<|w_ch h27 r (fun hb28 h28=>?_) (fun hb28 h28=>?_)
      ·
       refine w_sr<|sI r<|o_ek (fr':=[(2,aI)]) r r<|w_ret<|e_blk_r<|e_seq_r<|e_seq_r<|e_blk_r<|e_seq_r<|e_seq_r ?_
       have h29:=un_out h28 ho6
       have h30:=un_done h29 h4
       obtain rfl:=sy h30
       exact e_ret (rs':=[.tmp 2]) r<|r_tmp (v:=aI) r<|r_nil<|fin_gen [] r r r lr st_nil
      ·
       exact w_skip<|e_blk_n<|e_kw<|w_region<|mI r<|o_p r (p_add r r)<|sI r<|o_end (fr':=[(0,aL),(3,aI),(48,aB)]) r<|e_l _ (sy h28) (w_weak [] 0 r r r r ⟨lr,lr,trivial⟩ st_nil)
   ·
    refine w_exit<|e_seq_x<|e_seq_x<|e_blk_h ?_
    have h32:=un_out h7 ho6
    exact e_j _ (sy h32) (w_weak [] 0 r r r r trivial st_nil)
  ·
   intro j5 hj33
   have h33:=un_go hj33 h4
   refine e_kw<|w_sr<|sI r<|o_ek (fr':=[(2,aI)]) r r<|w_ret ?_
   obtain rfl:=sy h33
   exact e_ret (rs':=[.tmp 2]) r<|r_tmp (v:=aI) r<|r_nil<|fin_gen [] r r r lr st_nil
noncomputable def ref24xAppend (p0l:(List ApiEvent)) (p1more:(List ApiEvent)):Option ((List ApiEvent) × Int) :=
 (app 272 ([]:List ApiEvent) p0l).bind fun x1=>(app 272 x1 p1more).bind fun x3=>(ref24xCheck x3).bind fun x5=>cond (!decide (x5=(0:Int))) (some (([]:(List ApiEvent)),x5)) (some (x3,(0:Int)))
theorem w_ref24xAppend {p0l:(List ApiEvent)}{p1more:(List ApiEvent)}{res:((List ApiEvent) × Int)} (h:ref24xAppend p0l p1more=some res):ACalls Tryz.prog 6 [.c (PV.ls 24 rowApiEvent p0l),.c (PV.ls 24 rowApiEvent p1more)] [] (.tup [AV.os 0 24 rowApiEvent res.1,.c (.int .i64 res.2)]) []:=by
 unfold ref24xAppend at h
 refine acalls (fn:=Tryz.f6) [0,1,4,5,6,7,17] (by kernel_rfl) Tryz.func6 r (by kernel_rfl) (by kernel_rfl)<|w_sr<|sV (v:=AV.nil) r<|sI r<|o_ek (fr':=[(0,aL),(1,aL)]) r r<|w_sr<|sV (v:=AV.nil) r<|o_ek (fr':=[(0,aL),(1,aL),(6,AV.nil)]) r r<|w_sr<|mV (v:=AV.nil) r ?_
 refine mL r ?_
 obtain ⟨x1,hx1,h2⟩:=bind_s h
 refine o_appn (row:=rowApiEvent) ts22 r ti22 r (isl_c r) (fun _=>r) hx1<|sV (v:=aO) r<|o_ek (fr':=[(1,aL),(6,aO)]) r r<|w_sr<|mV (v:=aO) r<|mL r ?_
 obtain ⟨x3,hx3,h4⟩:=bind_s h2
 refine o_app (row:=rowApiEvent) ts22 r ti22 r (isl_c r) (fun _=>r) hx3<|sV (v:=aO) r<|o_ek (fr':=[(6,aO)]) r r<|w_sr<|mV (v:=aO) r ?_
 obtain ⟨x5,hx5,h6⟩:=bind_s h4
 refine o_v (ov_call (v:=aI) r (w_ref24xCheck hx5) ⟨lr,trivial⟩ r r r)<|sI r<|o_ek (fr':=[(6,aO),(7,aI)]) r r<|w_seqw<|w_sr<|mI r<|o_p r (p_neq r r)<|o_ek (fr':=[(6,aO),(7,aI),(17,aB)]) r r<|w_ch h6 r (fun hb7 h7=>?_) (fun hb7 h7=>?_)
 ·
  refine w_sr<|mI r<|sV (v:=AV.nil) r<|sI r<|o_ek (fr':=[(4,AV.nil),(5,aI)]) r r<|w_ret<|e_seq_r ?_
  obtain rfl:=sy h7
  exact e_ret (rs':=[.tmp 4,.tmp 5]) r<|r_tmp (v:=AV.nil) r<|r_tmp (v:=aI) r<|r_nil<|fin_gen [1000000] r r r (le_tupp r ⟨(le_nos r),lr,trivial⟩) st_nil
 ·
  refine w_skip<|e_kw<|w_sr<|mV (v:=aO) r<|sV (v:=aO) r<|sI r<|o_ek (fr':=[(4,aO),(5,aI)]) r r<|w_ret ?_
  obtain rfl:=sy h7
  exact e_ret (rs':=[.tmp 4,.tmp 5]) r<|r_tmp (v:=aO) r<|r_tmp (v:=aI) r<|r_nil<|fin_gen [208] r r r (le_tupp r ⟨lr,lr,trivial⟩) st_nil
noncomputable def ref22xSame (p0a:ApiEvent) (p1b:ApiEvent):Option Bool :=
 (gd ((cond (cond (cond (cond (cond (cond (cond (cond (decide (p0a.ID=p1b.ID)) (decide (p0a.Kind=p1b.Kind)) false) (decide (p0a.Time=p1b.Time)) false) (decide (p0a.Seq=p1b.Seq)) false) (decide (p0a.Ref=p1b.Ref)) false) (decide (p0a.N=p1b.N)) false) (decide (p0a.Code=p1b.Code)) false) (decide (p0a.Name=p1b.Name)) false) (decide (p0a.Key=p1b.Key)) false)==true) (ref02xSame p0a.Data p1b.Data)).bind fun x1=>(gd ((cond (cond (cond (cond (cond (cond (cond (cond (cond (decide (p0a.ID=p1b.ID)) (decide (p0a.Kind=p1b.Kind)) false) (decide (p0a.Time=p1b.Time)) false) (decide (p0a.Seq=p1b.Seq)) false) (decide (p0a.Ref=p1b.Ref)) false) (decide (p0a.N=p1b.N)) false) (decide (p0a.Code=p1b.Code)) false) (decide (p0a.Name=p1b.Name)) false) (decide (p0a.Key=p1b.Key)) false) x1 false)==true) (ref20xSamePolicy p0a.Opts p1b.Opts)).bind fun x3=>some (cond (cond (cond (cond (cond (cond (cond (cond (cond (cond (decide (p0a.ID=p1b.ID)) (decide (p0a.Kind=p1b.Kind)) false) (decide (p0a.Time=p1b.Time)) false) (decide (p0a.Seq=p1b.Seq)) false) (decide (p0a.Ref=p1b.Ref)) false) (decide (p0a.N=p1b.N)) false) (decide (p0a.Code=p1b.Code)) false) (decide (p0a.Name=p1b.Name)) false) (decide (p0a.Key=p1b.Key)) false) x1 false) x3 false)
theorem w_ref22xSame {p0a:ApiEvent}{p1b:ApiEvent}{res:Bool} (h:ref22xSame p0a p1b=some res):ACalls Tryz.prog 14 [.agg (AV.cs (rowApiEvent p0a)),.agg (AV.cs (rowApiEvent p1b))] [] (.c (.bool res)) []:=by
 unfold ref22xSame at h
 refine acalls (fn:=Tryz.f14) [0,1,2,3,4] (by kernel_rfl) Tryz.func14 r (by kernel_rfl) (by kernel_rfl)<|w_sr<|o_box (v:=.agg aIIIIIIISSIISLLSIIIIIIIIL) (n:=0) (cs:=aIIIIIIISSIISLLSIIIIIIIIL) (σ':=[aIIIIIIISSIISLLSIIIIIIIIL]) r r r r r<|o_box (v:=.agg aIIIIIIISSIISLLSIIIIIIIIL) (n:=1) (cs:=aIIIIIIISSIISLLSIIIIIIIIL) (σ':=[aIIIIIIISSIISLLSIIIIIIIIL,aIIIIIIISSIISLLSIIIIIIIIL]) r r r r r<|sB r<|o_ek (fr':=[(2,.box 0 0),(3,.box 1 0)]) r r<|w_sr<|o_p r (p_fa tf45x0 r)<|o_p r (p_load (v:=aI) tv3 r r r)<|o_p r (p_fa tf45x0 r)<|o_p r (p_load (v:=aI) tv3 r r r) ?_
 refine o_p r (p_eql r r)<|mB r<|og r r r (fun hc=>(p_fa tf45x1 r))<|og r r r (fun hc=>(p_load (v:=aI) tv3 (gx r hc) r r))<|og r r r (fun hc=>(p_fa tf45x1 r))<|og r r r (fun hc=>(p_load (v:=aI) tv3 (gx r hc) r r))<|og r r r (fun hc=>(p_eql (gx r hc) (gx r hc)))<|o_p r (p_picky r r r (fun e=>keq e))<|mB r<|og r r r (fun hc=>(p_fa tf45x2 r))<|og r r r (fun hc=>(p_load (v:=aI) tv3 (gx r hc) r r))<|og r r r (fun hc=>(p_fa tf45x2 r))<|og r r r (fun hc=>(p_load (v:=aI) tv3 (gx r hc) r r)) ?_
 refine og r r r (fun hc=>(p_eql (gx r hc) (gx r hc)))<|o_p r (p_picky r r r (fun e=>keq e))<|mB r<|og r r r (fun hc=>(p_fa tf45x3 r))<|og r r r (fun hc=>(p_load (v:=aI) tv3 (gx r hc) r r))<|og r r r (fun hc=>(p_fa tf45x3 r))<|og r r r (fun hc=>(p_load (v:=aI) tv3 (gx r hc) r r))<|og r r r (fun hc=>(p_eql (gx r hc) (gx r hc)))<|o_p r (p_picky r r r (fun e=>keq e))<|mB r<|og r r r (fun hc=>(p_fa tf45x4 r))<|og r r r (fun hc=>(p_load (v:=aI) tv3 (gx r hc) r r))<|og r r r (fun hc=>(p_fa tf45x4 r)) ?_
 refine og r r r (fun hc=>(p_load (v:=aI) tv3 (gx r hc) r r))<|og r r r (fun hc=>(p_eql (gx r hc) (gx r hc)))<|o_p r (p_picky r r r (fun e=>keq e))<|mB r<|og r r r (fun hc=>(p_fa tf45x5 r))<|og r r r (fun hc=>(p_load (v:=aI) tv3 (gx r hc) r r))<|og r r r (fun hc=>(p_fa tf45x5 r))<|og r r r (fun hc=>(p_load (v:=aI) tv3 (gx r hc) r r))<|og r r r (fun hc=>(p_eql (gx r hc) (gx r hc)))<|o_p r (p_picky r r r (fun e=>keq e))<|mB r<|og r r r (fun hc=>(p_fa tf45x6 r))<|og r r r (fun hc=>(p_load (v:=aI) tv3 (gx r hc) r r)) ?_
 refine og r r r (fun hc=>(p_fa tf45x6 r))<|og r r r (fun hc=>(p_load (v:=aI) tv3 (gx r hc) r r))<|og r r r (fun hc=>(p_eql (gx r hc) (gx r hc)))<|o_p r (p_picky r r r (fun e=>keq e))<|mB r<|og r r r (fun hc=>(p_fa tf45x7 r))<|og r r r (fun hc=>(p_load (v:=aS) tv9 (gx r hc) r r))<|og r r r (fun hc=>(p_fa tf45x7 r))<|og r r r (fun hc=>(p_load (v:=aS) tv9 (gx r hc) r r))<|og r r r (fun hc=>(p_seql (gx r hc) (gx r hc)))<|o_p r (p_picky r r r (fun e=>keq e))<|mB r<|og r r r (fun hc=>(p_fa tf45x8 r)) ?_
 refine og r r r (fun hc=>(p_load (v:=aS) tv9 (gx r hc) r r))<|og r r r (fun hc=>(p_fa tf45x8 r))<|og r r r (fun hc=>(p_load (v:=aS) tv9 (gx r hc) r r))<|og r r r (fun hc=>(p_seql (gx r hc) (gx r hc)))<|o_p r (p_picky r r r (fun e=>keq e))<|mB r<|og r r r (fun hc=>(p_fa tf45x9 r))<|og r r r (fun hc=>(p_loads (us:=aIISLL) tv41 (gx r hc) r r r))<|og r r r (fun hc=>(p_fa tf45x9 r))<|og r r r (fun hc=>(p_loads (us:=aIISLL) tv41 (gx r hc) r r r)) ?_
 obtain ⟨x1,hx1,h2⟩:=bind_s h
 refine o_g r r (fun hc=>ov_call (v:=aB) r (w_ref02xSame (gd_some hx1 hc)) ⟨(le_gv (gx r hc) (le_aggc r ⟨r,r,r,r,r,trivial⟩)),(le_gv (gx r hc) (le_aggc r ⟨r,r,r,r,r,trivial⟩)),trivial⟩ (ok_eq (by repeat (first | exact ok_nil | refine ok_cons r ?_ | refine ok_cons (dgv r) ?_ | refine ok_cons dar ?_))) r r) ?_
 refine o_p r (p_picky r r r (fun e=>keq e))<|mB r<|og r r r (fun hc=>(p_fa tf45x10 r))<|og r r r (fun hc=>(p_loads (us:=aSIIIIIIIIL) tv43 (gx r hc) r r r))<|og r r r (fun hc=>(p_fa tf45x10 r))<|og r r r (fun hc=>(p_loads (us:=aSIIIIIIIIL) tv43 (gx r hc) r r r)) ?_
 obtain ⟨x3,hx3,h4⟩:=bind_s h2
 refine o_g r r (fun hc=>ov_call (v:=aB) r (w_ref20xSamePolicy (gd_some hx3 hc)) ⟨(le_gv (gx r hc) (le_aggc r ⟨r,r,r,r,r,r,r,r,r,r,trivial⟩)),(le_gv (gx r hc) (le_aggc r ⟨r,r,r,r,r,r,r,r,r,r,trivial⟩)),trivial⟩ (ok_eq (by repeat (first | exact ok_nil | refine ok_cons r ?_ | refine ok_cons (dgv r) ?_ | refine ok_cons dar ?_))) r r) ?_
 refine o_p r (p_picky r r r (fun e=>keq e))<|sB r<|o_ek (fr':=[(4,aB)]) r r<|w_ret ?_
 obtain rfl:=sy h4
 exact e_ret (rs':=[.tmp 4]) r<|r_tmp (v:=aB) r<|r_nil<|fin_gen [] r r r lr st_nil
noncomputable def ref24xSameEvents_l1 (p0a:(List ApiEvent)) (p1b:(List ApiEvent)) (s6:Int):Option (Step Int (Fl Bool Unit)) :=
 cond (decide (s6<((p0a).length:Int))) ((idx p0a s6).bind fun x8=>(idx p1b s6).bind fun x10=>(ref22xSame x8 x10).bind fun x12=>cond (!x12) (some (Step.out (Fl.done false))) (some (Step.next (IntKind.wrap .i64 (s6+(1:Int)))))) (some (Step.out (Fl.go ())))
noncomputable def ref24xSameEvents (p0a:(List ApiEvent)) (p1b:(List ApiEvent)):Option Bool :=
 cond (!decide (((p0a).length:Int)=((p1b).length:Int))) (some false) (((loopO (ref24xSameEvents_l1 p0a p1b) ((0:Int))):Option (Fl Bool Unit)).bind fun x3=>Fl.next x3 (fun j5=>(some true)))
theorem w_ref24xSameEvents {p0a:(List ApiEvent)}{p1b:(List ApiEvent)}{res:Bool} (h:ref24xSameEvents p0a p1b=some res):ACalls Tryz.prog 7 [.c (PV.ls 24 rowApiEvent p0a),.c (PV.ls 24 rowApiEvent p1b)] [] (.c (.bool res)) []:=by
 unfold ref24xSameEvents at h
 refine acalls (fn:=Tryz.f7) [0,1,4,5,10,14,26] (by kernel_rfl) Tryz.func7 r (by kernel_rfl) (by kernel_rfl)<|w_sr<|sB r<|o_ek (fr':=[(0,aL),(1,aL)]) r r<|w_seqw<|w_sr<|mL r<|o_p r (p_len ti22 (isl_c r))<|mL r<|o_p r (p_len ti22 (isl_c r))<|o_p r (p_neq r r) ?_
 refine o_ek (fr':=[(0,aL),(1,aL),(10,aB)]) r r<|w_ch h r (fun hb1 h1=>?_) (fun hb1 h1=>?_)
 ·
  refine w_sr<|sB r<|o_ek (fr':=[(4,aB)]) r r<|w_ret<|e_seq_r ?_
  obtain rfl:=sy h1
  exact e_ret (rs':=[.tmp 4]) r<|r_tmp (v:=aB) r<|r_nil<|fin_gen [] r r r lr st_nil
 ·
  refine w_skip<|e_kw<|w_seqw<|w_sr<|sI r<|o_ek (fr':=[(0,aL),(1,aL),(5,aI)]) r r ?_
  obtain ⟨x3,hx3,h4⟩:=bind_s h1
  refine w_jtail cl_kw (fun j5=>x3=Fl.go j5) (fun (j5:Unit)=>([]:Fr)) (fun (j5:Unit)=>([]:St)) ?_ ?_
  ·
   refine w_block<|w_loopo _ (fun (s6:Int)=>([(0,.c (PV.ls 24 rowApiEvent p0a)),(1,.c (PV.ls 24 rowApiEvent p1b)),(5,.c (.int .i64 s6))]:Fr)) (fun (s6:Int)=>([]:St)) hx3 (w_weak [] 0 r r r r ⟨lr,lr,lr,trivial⟩ st_nil) ?_
   intro s6 st6 hs6 ho6
   unfold ref24xSameEvents_l1 at hs6
   refine w_seqw<|w_sr<|mI r<|mL r<|o_p r (p_len ti22 (isl_c r))<|o_p r (p_lss r r)<|o_ek (fr':=[(0,aL),(1,aL),(5,aI),(14,aB)]) r r<|w_ch hs6 r (fun hb7 h7=>?_) (fun hb7 h7=>?_)
   ·
    refine w_skip<|e_kw<|w_seqw<|w_block<|w_seqw<|w_planT [.q 0,.q 1,.q 2,.q 3,.q 4,.q 5,.q 6,.q 7,.q 8,.q 9] [(some 17,[0]),(some 18,[5]),(some 19,[17,18]),(some 20,[19]),(some 21,[1]),(some 22,[5]),(some 23,[21,22]),(some 24,[23]),(some 25,[20,24]),(some 26,[25])] [0,0,3,7,0,0,48,112,255,511] (by kernel_rfl)<|dq r r (p_move (v:=aL) r)<|dq r r (p_move (v:=aI) r) ?_
    obtain ⟨x8,hx8,h9⟩:=bind_s h7
    refine dq r r (p_ia (cs:=[PV.int _ _,PV.int _ _,PV.int _ _,PV.int _ _,PV.int _ _,PV.int _ _,PV.int _ _,PV.str _,PV.str _,PV.int _ _,PV.int _ _,PV.str _,PV.ls _ _ _,PV.ls _ _ _,PV.str _,PV.int _ _,PV.int _ _,PV.int _ _,PV.int _ _,PV.int _ _,PV.int _ _,PV.int _ _,PV.int _ _,PV.ls _ _ _]) ts22 (isl_c r) r hx8 r)<|dq r r (p_loades (us:=[PV.int _ _,PV.int _ _,PV.int _ _,PV.int _ _,PV.int _ _,PV.int _ _,PV.int _ _,PV.str _,PV.str _,PV.int _ _,PV.int _ _,PV.str _,PV.ls _ _ _,PV.ls _ _ _,PV.str _,PV.int _ _,PV.int _ _,PV.int _ _,PV.int _ _,PV.int _ _,PV.int _ _,PV.int _ _,PV.int _ _,PV.ls _ _ _]) tv45 r r r)<|dq r r (p_move (v:=aL) r)<|dq r r (p_move (v:=aI) r) ?_
    obtain ⟨x10,hx10,h11⟩:=bind_s h9
    refine dq r r (p_ia (cs:=[PV.int _ _,PV.int _ _,PV.int _ _,PV.int _ _,PV.int _ _,PV.int _ _,PV.int _ _,PV.str _,PV.str _,PV.int _ _,PV.int _ _,PV.str _,PV.ls _ _ _,PV.ls _ _ _,PV.str _,PV.int _ _,PV.int _ _,PV.int _ _,PV.int _ _,PV.int _ _,PV.int _ _,PV.int _ _,PV.int _ _,PV.ls _ _ _]) ts22 (isl_c r) r hx10 r)<|dq r r (p_loades (us:=[PV.int _ _,PV.int _ _,PV.int _ _,PV.int _ _,PV.int _ _,PV.int _ _,PV.int _ _,PV.str _,PV.str _,PV.int _ _,PV.int _ _,PV.str _,PV.ls _ _ _,PV.ls _ _ _,PV.str _,PV.int _ _,PV.int _ _,PV.int _ _,PV.int _ _,PV.int _ _,PV.int _ _,PV.int _ _,PV.int _ _,PV.ls _ _ _]) tv45 r r r) ?_
    obtain ⟨x12,hx12,h13⟩:=bind_s h11
    refine d_q r (qv_call (v:=aB) r (w_ref22xSame hx12) ⟨(le_aggc r ⟨r,r,r,r,r,r,r,r,r,r,r,r,r,r,r,r,r,r,r,r,r,r,r,r,trivial⟩),(le_aggc r ⟨r,r,r,r,r,r,r,r,r,r,r,r,r,r,r,r,r,r,r,r,r,r,r,r,trivial⟩),trivial⟩ r)<|dq r r (p_not r)<|d_ek (fr':=[(0,aL),(1,aL),(5,aI),(26,aB)]) r r<|w_ch h13 r (fun hb14 h14=>?_) (fun hb14 h14=>?_)
    ·
     refine w_sr<|sB r<|o_ek (fr':=[(4,aB)]) r r<|w_ret<|e_blk_r<|e_seq_r<|e_seq_r<|e_blk_r<|e_seq_r<|e_seq_r ?_
     have h15:=un_out h14 ho6
     have h16:=un_done h15 h4
     obtain rfl:=sy h16
     exact e_ret (rs':=[.tmp 4]) r<|r_tmp (v:=aB) r<|r_nil<|fin_gen [] r r r lr st_nil
    ·
     exact w_skip<|e_blk_n<|e_kw<|w_region<|mI r<|o_p r (p_add r r)<|sI r<|o_end (fr':=[(0,aL),(1,aL),(5,aI),(26,aB)]) r<|e_l _ (sy h14) (w_weak [] 0 r r r r ⟨lr,lr,lr,trivial⟩ st_nil)
   ·
    refine w_exit<|e_seq_x<|e_seq_x<|e_blk_h ?_
    have h18:=un_out h7 ho6
    exact e_j _ (sy h18) (w_weak [] 0 r r r r trivial st_nil)
  ·
   intro j5 hj19
   have h19:=un_go hj19 h4
   refine e_kw<|w_sr<|sB r<|o_ek (fr':=[(4,aB)]) r r<|w_ret ?_
   obtain rfl:=sy h19
   exact e_ret (rs':=[.tmp 4]) r<|r_tmp (v:=aB) r<|r_nil<|fin_gen [] r r r lr st_nil
noncomputable def law24xHistoryAppends (p0l:(List ApiEvent)) (p1more:(List ApiEvent)):Option Bool :=
 cond (cond (decide ((200:Int)<((p0l).length:Int))) true (decide ((200:Int)<((p1more).length:Int)))) ((law24xworks).bind fun x2=>some x2) ((history_Append p0l p1more).bind fun x5=>(ref24xAppend p0l p1more).bind fun x7=>(gd ((decide (x5.2=x7.2))==true) (ref24xSameEvents x5.1 x7.1)).bind fun x9=>(gd ((cond (decide (x5.2=x7.2)) x9 false)==true) (law24xworks)).bind fun x11=>some (cond (cond (decide (x5.2=x7.2)) x9 false) x11 false))
theorem w_law24xHistoryAppends {p0l:(List ApiEvent)}{p1more:(List ApiEvent)}{res:Bool} (h:law24xHistoryAppends p0l p1more=some res):ACalls Tryz.prog 3 [.c (PV.ls 24 rowApiEvent p0l),.c (PV.ls 24 rowApiEvent p1more)] [] (.c (.bool res)) []:=by
 unfold law24xHistoryAppends at h
 refine acalls (fn:=Tryz.f3) [0,1,4,5,6,7,8,16] (by kernel_rfl) Tryz.func3 r (by kernel_rfl) (by kernel_rfl)<|w_sr<|sB r<|o_ek (fr':=[(0,aL),(1,aL)]) r r<|w_seqw<|w_sr<|mL r<|o_p r (p_len ti22 (isl_c r))<|o_p r (p_gtr r r)<|mB r<|og r r r (fun hc=>(p_move (v:=aL) r)) ?_
 refine og r r r (fun hc=>(p_len ti22 (isl_c (gx r hc))))<|og r r r (fun hc=>(p_gtr (gx r hc) r))<|o_p r (p_pickz r r r (fun e=>keq e))<|o_ek (fr':=[(0,aL),(1,aL),(16,aB)]) r r<|w_ch h r (fun hb1 h1=>?_) (fun hb1 h1=>?_)
 ·
  refine w_seqw<|w_region ?_
  obtain ⟨x2,hx2,h3⟩:=bind_s h1
  refine o_v (ov_call (v:=aB) r (w_law24xworks hx2) trivial r r r)<|sB r<|o_ek (fr':=[(4,aB)]) r r<|w_ret<|e_seq_r ?_
  obtain rfl:=sy h3
  exact e_ret (rs':=[.tmp 4]) r<|r_tmp (v:=aB) r<|r_nil<|fin_gen [] r r r lr st_nil
 ·
  refine w_skip<|e_kw<|w_sr<|mL r<|mL r ?_
  obtain ⟨x5,hx5,h6⟩:=bind_s h1
  refine o_v (ov_call (v:=.tup [aO,aI]) r (w_history_Append hx5) ⟨lr,lr,trivial⟩ r r r)<|mV (v:=.tup [aO,aI]) r<|o_p r (p_ex (v:=aO) r r)<|o_p r (p_ex (v:=aI) r r)<|sV (v:=aO) r<|sI r<|o_ek (fr':=[(0,aL),(1,aL),(5,aO),(6,aI)]) r r<|w_sr<|mL r<|mL r ?_
  obtain ⟨x7,hx7,h8⟩:=bind_s h6
  refine o_v (ov_call (v:=.tup [aO,aI]) r (w_ref24xAppend hx7) ⟨lr,lr,trivial⟩ r r r)<|mV (v:=.tup [aO,aI]) r<|o_p r (p_ex (v:=aO) r r)<|o_p r (p_ex (v:=aI) r r)<|sV (v:=aO) r<|sI r<|o_ek (fr':=[(5,aO),(6,aI),(7,aO),(8,aI)]) r r<|w_sr<|mI r<|mI r<|o_p r (p_eql r r)<|mB r ?_
  refine og r r r (fun hc=>(p_move (v:=aO) r))<|og r r r (fun hc=>(p_move (v:=aO) r)) ?_
  obtain ⟨x9,hx9,h10⟩:=bind_s h8
  refine o_g r r (fun hc=>ov_call (v:=aB) r (w_ref24xSameEvents (gd_some hx9 hc)) ⟨(le_gv (gx r hc) lr),(le_gv (gx r hc) lr),trivial⟩ (ok_eq (by repeat (first | exact ok_nil | refine ok_cons r ?_ | refine ok_cons (dgv r) ?_ | refine ok_cons dar ?_))) r r) ?_
  refine o_p r (p_picky r r r (fun e=>keq e))<|mB r ?_
  obtain ⟨x11,hx11,h12⟩:=bind_s h10
  refine o_g r r (fun hc=>ov_call (v:=aB) r (w_law24xworks (gd_some hx11 hc)) trivial (ok_eq (by repeat (first | exact ok_nil | refine ok_cons r ?_ | refine ok_cons (dgv r) ?_ | refine ok_cons dar ?_))) r r) ?_
  refine o_p r (p_picky r r r (fun e=>keq e))<|sB r<|o_ek (fr':=[(4,aB)]) r r<|w_ret ?_
  obtain rfl:=sy h12
  exact e_ret (rs':=[.tmp 4]) r<|r_tmp (v:=aB) r<|r_nil<|fin_gen [] r r r lr st_nil
end Go.Proofs.YtmbdbdhdcbdcpaaGreatDoor

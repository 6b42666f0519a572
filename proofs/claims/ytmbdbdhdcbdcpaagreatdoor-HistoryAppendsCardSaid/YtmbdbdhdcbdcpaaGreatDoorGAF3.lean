import Derived.Test.YtmbdbdhdcbdcpaaGreatDoorGATy
import Derived.Test.YtmbdbdhdcbdcpaaGreatDoorGAF0
import Derived.Test.YtmbdbdhdcbdcpaaGreatDoorGAF1
import Derived.Test.YtmbdbdhdcbdcpaaGreatDoorGAF2
namespace Go.Proofs.YtmbdbdhdcbdcpaaGreatDoor
open Go Abs
set_option maxRecDepth 100000
set_option linter.unusedVariables false
set_option linter.unusedSimpArgs false
noncomputable def event_input_l1 (x5:ApiValue) (s10:Int):Option (Step Int (Fl Bool Unit)) :=
 cond (decide (s10<((x5.Items).length:Int))) ((idx x5.Items s10).bind fun x12=>(gd ((cond (!decide (x12.Kind=(4:Int))) true (!decide (((x12.Items).length:Int)=(2:Int))))==false) (idx x12.Items (0:Int))).bind fun x14=>(gd ((cond (cond (!decide (x12.Kind=(4:Int))) true (!decide (((x12.Items).length:Int)=(2:Int)))) true (!decide (x14.Kind=(3:Int))))==false) (idx x12.Items (0:Int))).bind fun x16=>(gd ((cond (cond (!decide (x12.Kind=(4:Int))) true (!decide (((x12.Items).length:Int)=(2:Int)))) true (!decide (x14.Kind=(3:Int))))==false) (name_Right x16.Text)).bind fun x18=>cond (cond (cond (cond (!decide (x12.Kind=(4:Int))) true (!decide (((x12.Items).length:Int)=(2:Int)))) true (!decide (x14.Kind=(3:Int)))) true (!x18)) (some (Step.out (Fl.done false))) (some (Step.next (IntKind.wrap .i64 (s10+(1:Int)))))) (some (Step.out (Fl.go ())))
noncomputable def event_input (p0v:ApiValue):Option Bool :=
 (gd ((cond (!decide (p0v.Kind=(4:Int))) true (!decide (((p0v.Items).length:Int)=(2:Int))))==false) (idx p0v.Items (1:Int))).bind fun x1=>cond (cond (cond (!decide (p0v.Kind=(4:Int))) true (!decide (((p0v.Items).length:Int)=(2:Int)))) true (!decide (x1.Kind=(4:Int)))) (some false) ((idx p0v.Items (1:Int)).bind fun x5=>((loopO (event_input_l1 x5) ((0:Int))):Option (Fl Bool Unit)).bind fun x7=>Fl.next x7 (fun j9=>(some true)))
theorem w_event_input {p0v:ApiValue}{res:Bool} (h:event_input p0v=some res):ACalls Tryz.prog 57 [.agg (AV.cs (exApiValue p0v))] [] (.c (.bool res)) []:=by
 unfold event_input at h
 refine acalls (fn:=Tryz.f57) [0,1,2,4,21,26,27,28,29,57] (by kernel_rfl) Tryz.func57 r (by kernel_rfl) (by kernel_rfl)<|w_sr<|o_box (v:=.agg aIISLL) (n:=0) (cs:=aIISLL) (σ':=[aIISLL]) r r r r r<|sB r<|o_ek (fr':=[(1,.box 0 0)]) r r<|w_seqw<|w_sr<|o_p r (p_fa tf41x0 r)<|o_p r (p_load (v:=aI) tv3 r r r)<|o_p r (p_neq r r)<|mB r ?_
 refine og r r r (fun hc=>(p_fa tf41x3 r))<|og r r r (fun hc=>(p_load (v:=aL) tv38 (gx r hc) r r))<|og r r r (fun hc=>(p_len ti38 (isl_c (gx r hc))))<|og r r r (fun hc=>(p_neq (gx r hc) r))<|o_p r (p_pickz r r r (fun e=>keq e))<|mB r<|og r r r (fun hc=>(p_fa tf41x3 r))<|og r r r (fun hc=>(p_load (v:=aL) tv38 (gx r hc) r r)) ?_
 obtain ⟨x1,hx1,h2⟩:=bind_s h
 refine og r r r (fun hc=>(p_ia (cs:=[PV.int _ _,PV.int _ _,PV.str _,PV.ls _ _ _,PV.ls _ _ _]) ts38 (isl_c (gx r hc)) r (gd_some hx1 hc) (rowApiValue_eq _)))<|og r r r (fun hc=>(p_fae tf41x0 (gx r hc)))<|og r r r (fun hc=>(p_loade (p:=PV.int _ _) tv3 (gx r hc) r))<|og r r r (fun hc=>(p_neq (gx r hc) r))<|o_p r (p_pickz r r r (fun e=>keq e))<|o_ek (fr':=[(1,.box 0 0),(21,aB)]) r r<|w_ch h2 r (fun hb3 h3=>?_) (fun hb3 h3=>?_)
 ·
  refine w_sr<|sB r<|o_ek (fr':=[(2,aB)]) r r<|w_ret<|e_seq_r ?_
  obtain rfl:=sy h3
  exact e_ret (rs':=[.tmp 2]) r<|r_tmp (v:=aB) r<|r_nil<|fin_gen [] r r r lr st_nil
 ·
  refine w_skip<|e_kw<|w_seqw<|w_sr<|o_p r (p_fa tf41x3 r)<|o_p r (p_load (v:=aL) tv38 r r r) ?_
  obtain ⟨x5,hx5,h6⟩:=bind_s h3
  refine o_p r (p_ia (cs:=[PV.int _ _,PV.int _ _,PV.str _,PV.ls _ _ _,PV.ls _ _ _]) ts38 (isl_c r) r hx5 (rowApiValue_eq _))<|o_p r (p_fae tf41x3 r)<|o_p r (p_loade (p:=PV.ls _ _ _) tv38 r r)<|o_p r (p_len ti38 (isl_c r))<|mI r<|o_ek (fr':=[(26,aL),(27,aI),(28,aI)]) r r ?_
  obtain ⟨x7,hx7,h8⟩:=bind_s h6
  refine w_jtail cl_kw (fun j9=>x7=Fl.go j9) (fun (j9:Unit)=>([]:Fr)) (fun (j9:Unit)=>([[.c (.int .i64 p0v.Kind),.c (.int .i64 p0v.Int),.c (.str p0v.Text),.c (PV.ls 5 rowApiValue p0v.Items),.c (PV.ls 1 rowS p0v.Keys)]]:St)) ?_ ?_
  ·
   refine w_block<|w_loopo _ (fun (s10:Int)=>([(26,.c (PV.ls 5 rowApiValue x5.Items)),(27,.c (.int .i64 ((x5.Items).length:Int))),(28,.c (.int .i64 s10))]:Fr)) (fun (s10:Int)=>([[.c (.int .i64 p0v.Kind),.c (.int .i64 p0v.Int),.c (.str p0v.Text),.c (PV.ls 5 rowApiValue p0v.Items),.c (PV.ls 1 rowS p0v.Keys)]]:St)) hx7 (w_weak [] 1 r r r r ⟨lr,lr,lr,trivial⟩ (st_r r st_nil)) ?_
   intro s10 st10 hs10 ho10
   unfold event_input_l1 at hs10
   refine w_sr<|o_p r (p_lss r r)<|o_ek (fr':=[(26,aL),(27,aI),(28,aI),(29,aB)]) r r<|w_seqw<|w_ch hs10 r (fun hb11 h11=>?_) (fun hb11 h11=>?_)
   ·
    refine w_skip<|e_kw<|w_seqw<|w_block<|w_seqw<|w_region ?_
    obtain ⟨x12,hx12,h13⟩:=bind_s h11
    refine o_p r (p_ia (cs:=[PV.int _ _,PV.int _ _,PV.str _,PV.ls _ _ _,PV.ls _ _ _]) ts38 (isl_c r) r hx12 (rowApiValue_eq _))<|o_p r (p_loades (us:=[PV.int _ _,PV.int _ _,PV.str _,PV.ls _ _ _,PV.ls _ _ _]) tv41 r r r)<|o_alloc (n:=1) (cs:=[aI,aI,aS,AV.nil,AV.nil]) (σ':=[aIISLL,[aI,aI,aS,AV.nil,AV.nil]]) tz41 r r r<|o_store (v:=.agg aIISLL) (us:=aIISLL) (cs:=[aI,aI,aS,AV.nil,AV.nil]) (σ':=[aIISLL,aIISLL]) r tv41 r r r r r r r r<|o_ek (fr':=[(4,.box 1 0),(26,aL),(27,aI),(28,aI)]) r r<|w_sr<|o_p r (p_fa tf41x0 r)<|o_p r (p_load (v:=aI) tv3 r r r)<|o_p r (p_neq r r)<|mB r<|og r r r (fun hc=>(p_fa tf41x3 r))<|og r r r (fun hc=>(p_load (v:=aL) tv38 (gx r hc) r r)) ?_
    refine og r r r (fun hc=>(p_len ti38 (isl_c (gx r hc))))<|og r r r (fun hc=>(p_neq (gx r hc) r))<|o_p r (p_pickz r r r (fun e=>keq e))<|mB r<|og r r r (fun hc=>(p_fa tf41x3 r))<|og r r r (fun hc=>(p_load (v:=aL) tv38 (gx r hc) r r)) ?_
    obtain ⟨x14,hx14,h15⟩:=bind_s h13
    refine og r r r (fun hc=>(p_ia (cs:=[PV.int _ _,PV.int _ _,PV.str _,PV.ls _ _ _,PV.ls _ _ _]) ts38 (isl_c (gx r hc)) r (gd_some hx14 hc) (rowApiValue_eq _)))<|og r r r (fun hc=>(p_fae tf41x0 (gx r hc)))<|og r r r (fun hc=>(p_loade (p:=PV.int _ _) tv3 (gx r hc) r))<|og r r r (fun hc=>(p_neq (gx r hc) r))<|o_p r (p_pickz r r r (fun e=>keq e))<|mB r<|og r r r (fun hc=>(p_fa tf41x3 r))<|og r r r (fun hc=>(p_load (v:=aL) tv38 (gx r hc) r r)) ?_
    obtain ⟨x16,hx16,h17⟩:=bind_s h15
    refine og r r r (fun hc=>(p_ia (cs:=[PV.int _ _,PV.int _ _,PV.str _,PV.ls _ _ _,PV.ls _ _ _]) ts38 (isl_c (gx r hc)) r (gd_some hx16 hc) (rowApiValue_eq _)))<|og r r r (fun hc=>(p_fae tf41x2 (gx r hc)))<|og r r r (fun hc=>(p_loade (p:=PV.str _) tv9 (gx r hc) r)) ?_
    obtain ⟨x18,hx18,h19⟩:=bind_s h17
    refine o_g r r (fun hc=>ov_call (v:=aB) r (w_name_Right (gd_some hx18 hc)) ⟨(le_gv (gx r hc) lr),trivial⟩ (ok_eq (by repeat (first | exact ok_nil | refine ok_cons r ?_ | refine ok_cons (dgv r) ?_ | refine ok_cons dar ?_))) r r) ?_
    refine og r r r (fun hc=>(p_not (gx r hc)))<|o_p r (p_pickz r r r (fun e=>keq e))<|o_ek (fr':=[(26,aL),(27,aI),(28,aI),(57,aB)]) r r<|w_ch h19 r (fun hb20 h20=>?_) (fun hb20 h20=>?_)
    ·
     refine w_sr<|sB r<|o_ek (fr':=[(2,aB)]) r r<|w_ret<|e_blk_r<|e_seq_r<|e_seq_r<|e_blk_r<|e_seq_r<|e_seq_r ?_
     have h21:=un_out h20 ho10
     have h22:=un_done h21 h8
     obtain rfl:=sy h22
     exact e_ret (rs':=[.tmp 2]) r<|r_tmp (v:=aB) r<|r_nil<|fin_gen [] r r r lr st_nil
    ·
     exact w_skip<|e_blk_n<|e_kw<|w_region<|o_p r (p_add r r)<|mI r<|o_end (fr':=[(26,aL),(27,aI),(28,aI),(57,aB)]) r<|e_l _ (sy h20) (w_weak [] 1 r r r r ⟨lr,lr,lr,trivial⟩ (st_r r st_nil))
   ·
    refine w_exit<|e_seq_x<|e_seq_x<|e_blk_h ?_
    have h24:=un_out h11 ho10
    exact e_j _ (sy h24) (w_weak [] 1 r r r r trivial (st_r r st_nil))
  ·
   intro j9 hj25
   have h25:=un_go hj25 h8
   refine e_kw<|w_sr<|sB r<|o_ek (fr':=[(2,aB)]) r r<|w_ret ?_
   obtain rfl:=sy h25
   exact e_ret (rs':=[.tmp 2]) r<|r_tmp (v:=aB) r<|r_nil<|fin_gen [] r r r lr st_nil
noncomputable def name_Number (p0run:(List UInt8)):Option (Int × Bool) :=
 if p0run.length≤140737488355328 then some (numberS p0run) else none
theorem w_name_Number {p0run:(List UInt8)}{res:(Int × Bool)} (h:name_Number p0run=some res):ACalls Tryz.prog 58 [.c (.str p0run)] [] (.tup [.c (.int .i64 res.1),.c (.bool res.2)]) []:=by
 unfold name_Number at h
 obtain ⟨hl,rfl⟩:=ite_some h
 refine acalls_lib (by kernel_rfl) fun g w vs hv hI hg=>?_
 rw [rc_str hv]
 refine (number_calls hl w hI hg).mono fun e w'=>?_
 rintro ⟨rfl,hb⟩
 exact ⟨_,r,hb,fun g'=>rav_pair (.c (.int _ _)) (.c (.bool _))⟩
noncomputable def event_particular (p0e:ApiEvent):Option Bool :=
 cond (decide (p0e.Kind=(1:Int))) ((name_Right p0e.Name).bind fun x2=>(gd (x2==true) (event_identifier p0e.Key)).bind fun x4=>(gd ((cond x2 x4 false)==true) (event_within p0e.N (0:Int) (4294967295:Int))).bind fun x6=>(gd ((cond (cond x2 x4 false) x6 false)==true) (event_input p0e.Data)).bind fun x8=>some (cond (cond (cond x2 x4 false) x6 false) x8 false)) (cond (decide (p0e.Kind=(2:Int))) (some (decide ((1:Int)≤p0e.N))) (cond (decide (p0e.Kind=(5:Int))) ((event_within p0e.Code (1:Int) (30:Int)).bind fun x14=>some x14) (cond (decide (p0e.Kind=(8:Int))) ((event_within p0e.N (1:Int) (1000:Int)).bind fun x18=>some x18) (cond (decide (p0e.Kind=(11:Int))) ((event_within p0e.Code (1:Int) (4:Int)).bind fun x22=>some x22) (((cond (decide (p0e.Kind=(10:Int))) (some (decide (p0e.Kind=(10:Int)))) (cond (decide (p0e.Kind=(22:Int))) (some (decide (p0e.Kind=(22:Int)))) (some (decide (p0e.Kind=(25:Int)))))):Option Bool).bind fun x25=>(cond x25 (some (decide (((p0e.Name).length:Int)≤(4096:Int)))) (cond (decide (p0e.Kind=(33:Int))) (some (decide (((p0e.Name).length:Int)≤(64:Int)))) (cond (decide (p0e.Kind=(17:Int))) ((name_Right p0e.Name).bind fun x36=>(gd (x36==true) (event_identifier p0e.Key)).bind fun x38=>some (cond x36 x38 false)) (cond (decide (p0e.Kind=(26:Int))) ((event_identifier p0e.Key).bind fun x42=>some x42) (cond (decide (p0e.Kind=(20:Int))) ((name_Number p0e.Key).bind fun x46=>some x46.2) (some true)))))))))))
theorem w_event_particular {p0e:ApiEvent}{res:Bool} (h:event_particular p0e=some res):ACalls Tryz.prog 33 [.agg (AV.cs (rowApiEvent p0e))] [] (.c (.bool res)) []:=by
 unfold event_particular at h
 refine acalls (fn:=Tryz.f33) [0,1,2,4,6,7,27,32,37,42,47,55,61,71,76] (by kernel_rfl) Tryz.func33 r (by kernel_rfl) (by kernel_rfl)<|w_sr<|o_box (v:=.agg aIIIIIIISSIISLLSIIIIIIIIL) (n:=0) (cs:=aIIIIIIISSIISLLSIIIIIIIIL) (σ':=[aIIIIIIISSIISLLSIIIIIIIIL]) r r r r r<|sB r<|o_ek (fr':=[(1,.box 0 0)]) r r<|w_seqw<|w_sr<|o_p r (p_fa tf45x1 r)<|o_p r (p_load (v:=aI) tv3 r r r)<|o_ek (fr':=[(1,.box 0 0),(6,aI)]) r r<|w_block ?_
 refine w_sr<|o_p r (p_eql r r)<|sB r<|o_ek (fr':=[(1,.box 0 0),(6,aI),(7,aB)]) r r<|w_ch h r (fun hb1 h1=>?_) (fun hb1 h1=>?_)
 ·
  refine w_sr<|o_p r (p_fa tf45x7 r)<|o_p r (p_load (v:=aS) tv9 r r r) ?_
  obtain ⟨x2,hx2,h3⟩:=bind_s h1
  refine o_v (ov_call (v:=aB) r (w_name_Right hx2) ⟨lr,trivial⟩ r r r)<|mB r<|og r r r (fun hc=>(p_fa tf45x8 r))<|og r r r (fun hc=>(p_load (v:=aS) tv9 (gx r hc) r r)) ?_
  obtain ⟨x4,hx4,h5⟩:=bind_s h3
  refine o_g r r (fun hc=>ov_call (v:=aB) r (w_event_identifier (gd_some hx4 hc)) ⟨(le_gv (gx r hc) lr),trivial⟩ (ok_eq (by repeat (first | exact ok_nil | refine ok_cons r ?_ | refine ok_cons (dgv r) ?_ | refine ok_cons dar ?_))) r r) ?_
  refine o_p r (p_picky r r r (fun e=>keq e))<|mB r<|og r r r (fun hc=>(p_fa tf45x5 r))<|og r r r (fun hc=>(p_load (v:=aI) tv3 (gx r hc) r r)) ?_
  obtain ⟨x6,hx6,h7⟩:=bind_s h5
  refine o_g r r (fun hc=>ov_call (v:=aB) r (w_event_within (gd_some hx6 hc)) ⟨(le_gv (gx r hc) lr),lr,lr,trivial⟩ (ok_eq (by repeat (first | exact ok_nil | refine ok_cons r ?_ | refine ok_cons (dgv r) ?_ | refine ok_cons dar ?_))) r r) ?_
  refine o_p r (p_picky r r r (fun e=>keq e))<|mB r<|og r r r (fun hc=>(p_fa tf45x9 r))<|og r r r (fun hc=>(p_loads (us:=aIISLL) tv41 (gx r hc) r r r)) ?_
  obtain ⟨x8,hx8,h9⟩:=bind_s h7
  refine o_g r r (fun hc=>ov_call (v:=aB) r (w_event_input (gd_some hx8 hc)) ⟨(le_gv (gx r hc) (le_aggc r ⟨r,r,r,r,r,trivial⟩)),trivial⟩ (ok_eq (by repeat (first | exact ok_nil | refine ok_cons r ?_ | refine ok_cons (dgv r) ?_ | refine ok_cons dar ?_))) r r) ?_
  refine o_p r (p_picky r r r (fun e=>keq e))<|sB r<|o_ek (fr':=[(2,aB)]) r r<|w_ret<|e_blk_r<|e_seq_r ?_
  obtain rfl:=sy h9
  exact e_ret (rs':=[.tmp 2]) r<|r_tmp (v:=aB) r<|r_nil<|fin_gen [] r r r lr st_nil
 ·
  refine w_sr<|o_p r (p_eql r r)<|sB r<|o_ek (fr':=[(1,.box 0 0),(6,aI),(27,aB)]) r r<|w_ch h1 r (fun hb11 h11=>?_) (fun hb11 h11=>?_)
  ·
   refine w_sr<|o_p r (p_fa tf45x5 r)<|o_p r (p_load (v:=aI) tv3 r r r)<|o_p r (p_geq r r)<|sB r<|o_ek (fr':=[(2,aB)]) r r<|w_ret<|e_blk_r<|e_seq_r ?_
   obtain rfl:=sy h11
   exact e_ret (rs':=[.tmp 2]) r<|r_tmp (v:=aB) r<|r_nil<|fin_gen [] r r r lr st_nil
  ·
   refine w_sr<|o_p r (p_eql r r)<|sB r<|o_ek (fr':=[(1,.box 0 0),(6,aI),(32,aB)]) r r<|w_ch h11 r (fun hb13 h13=>?_) (fun hb13 h13=>?_)
   ·
    refine w_sr<|o_p r (p_fa tf45x6 r)<|o_p r (p_load (v:=aI) tv3 r r r) ?_
    obtain ⟨x14,hx14,h15⟩:=bind_s h13
    refine o_v (ov_call (v:=aB) r (w_event_within hx14) ⟨lr,lr,lr,trivial⟩ r r r)<|sB r<|o_ek (fr':=[(2,aB)]) r r<|w_ret<|e_blk_r<|e_seq_r ?_
    obtain rfl:=sy h15
    exact e_ret (rs':=[.tmp 2]) r<|r_tmp (v:=aB) r<|r_nil<|fin_gen [] r r r lr st_nil
   ·
    refine w_sr<|o_p r (p_eql r r)<|sB r<|o_ek (fr':=[(1,.box 0 0),(6,aI),(37,aB)]) r r<|w_ch h13 r (fun hb17 h17=>?_) (fun hb17 h17=>?_)
    ·
     refine w_sr<|o_p r (p_fa tf45x5 r)<|o_p r (p_load (v:=aI) tv3 r r r) ?_
     obtain ⟨x18,hx18,h19⟩:=bind_s h17
     refine o_v (ov_call (v:=aB) r (w_event_within hx18) ⟨lr,lr,lr,trivial⟩ r r r)<|sB r<|o_ek (fr':=[(2,aB)]) r r<|w_ret<|e_blk_r<|e_seq_r ?_
     obtain rfl:=sy h19
     exact e_ret (rs':=[.tmp 2]) r<|r_tmp (v:=aB) r<|r_nil<|fin_gen [] r r r lr st_nil
    ·
     refine w_sr<|o_p r (p_eql r r)<|sB r<|o_ek (fr':=[(1,.box 0 0),(6,aI),(42,aB)]) r r<|w_ch h17 r (fun hb21 h21=>?_) (fun hb21 h21=>?_)
     ·
      refine w_sr<|o_p r (p_fa tf45x6 r)<|o_p r (p_load (v:=aI) tv3 r r r) ?_
      obtain ⟨x22,hx22,h23⟩:=bind_s h21
      refine o_v (ov_call (v:=aB) r (w_event_within hx22) ⟨lr,lr,lr,trivial⟩ r r r)<|sB r<|o_ek (fr':=[(2,aB)]) r r<|w_ret<|e_blk_r<|e_seq_r ?_
      obtain rfl:=sy h23
      exact e_ret (rs':=[.tmp 2]) r<|r_tmp (v:=aB) r<|r_nil<|fin_gen [] r r r lr st_nil
     ·
      obtain ⟨x25,hx25,h26⟩:=bind_s h21
      refine w_join (fun j27=>x25=j27) (fun (j27:Bool)=>([(1,.box 0 0),(6,.c (.int .i64 p0e.Kind)),(47,.c (.bool j27))]:Fr)) (fun (j27:Bool)=>([[.c (.int .i64 p0e.ID),.c (.int .i64 p0e.Kind),.c (.int .i64 p0e.Time),.c (.int .i64 p0e.Seq),.c (.int .i64 p0e.Ref),.c (.int .i64 p0e.N),.c (.int .i64 p0e.Code),.c (.str p0e.Name),.c (.str p0e.Key),.c (.int .i64 p0e.Data.Kind),.c (.int .i64 p0e.Data.Int),.c (.str p0e.Data.Text),.c (PV.ls 5 rowApiValue p0e.Data.Items),.c (PV.ls 1 rowS p0e.Data.Keys),.c (.str p0e.Opts.Queue),.c (.int .i64 p0e.Opts.ToStart),.c (.int .i64 p0e.Opts.ToClose),.c (.int .i64 p0e.Opts.Total),.c (.int .i64 p0e.Opts.Beat),.c (.int .i64 p0e.Opts.First),.c (.int .i64 p0e.Opts.Coef),.c (.int .i64 p0e.Opts.Most),.c (.int .i64 p0e.Opts.Attempts),.c (PV.ls 1 rowS p0e.Opts.Fatal)]]:St)) ?_ ?_
      ·
       refine w_sr<|o_p r (p_eql r r)<|sB r<|o_ek (fr':=[(1,.box 0 0),(6,aI),(47,aB)]) r r<|w_ch hx25 r (fun hb28 h28=>?_) (fun hb28 h28=>?_)
       ·
        exact w_skip<|e_j _ (sy h28) (w_weak [] 1 r r r r ⟨lr,lr,lr,trivial⟩ (st_r r st_nil))
       ·
        refine w_sr<|o_p r (p_eql r r)<|sB r<|o_ek (fr':=[(1,.box 0 0),(6,aI),(47,aB)]) r r<|w_ch h28 r (fun hb29 h29=>?_) (fun hb29 h29=>?_)
        ·
         exact w_skip<|e_j _ (sy h29) (w_weak [] 1 r r r r ⟨lr,lr,lr,trivial⟩ (st_r r st_nil))
        ·
         exact w_region<|o_p r (p_eql r r)<|sB r<|o_end (fr':=[(1,.box 0 0),(6,aI),(47,aB)]) r<|e_j _ (sy h29) (w_weak [] 1 r r r r ⟨lr,lr,lr,trivial⟩ (st_r r st_nil))
      ·
       intro j27 hj30
       subst hj30
       refine w_ch h26 r (fun hb31 h31=>?_) (fun hb31 h31=>?_)
       ·
        refine w_sr<|o_p r (p_fa tf45x7 r)<|o_p r (p_load (v:=aS) tv9 r r r)<|o_p r (p_lens ti9 r)<|o_p r (p_leq r r)<|sB r<|o_ek (fr':=[(2,aB)]) r r<|w_ret<|e_blk_r<|e_seq_r ?_
        obtain rfl:=sy h31
        exact e_ret (rs':=[.tmp 2]) r<|r_tmp (v:=aB) r<|r_nil<|fin_gen [] r r r lr st_nil
       ·
        refine w_sr<|o_p r (p_eql r r)<|sB r<|o_ek (fr':=[(1,.box 0 0),(6,aI),(55,aB)]) r r<|w_ch h31 r (fun hb33 h33=>?_) (fun hb33 h33=>?_)
        ·
         refine w_sr<|o_p r (p_fa tf45x7 r)<|o_p r (p_load (v:=aS) tv9 r r r)<|o_p r (p_lens ti9 r)<|o_p r (p_leq r r)<|sB r<|o_ek (fr':=[(2,aB)]) r r<|w_ret<|e_blk_r<|e_seq_r ?_
         obtain rfl:=sy h33
         exact e_ret (rs':=[.tmp 2]) r<|r_tmp (v:=aB) r<|r_nil<|fin_gen [] r r r lr st_nil
        ·
         refine w_sr<|o_p r (p_eql r r)<|sB r<|o_ek (fr':=[(1,.box 0 0),(6,aI),(61,aB)]) r r<|w_ch h33 r (fun hb35 h35=>?_) (fun hb35 h35=>?_)
         ·
          refine w_sr<|o_p r (p_fa tf45x7 r)<|o_p r (p_load (v:=aS) tv9 r r r) ?_
          obtain ⟨x36,hx36,h37⟩:=bind_s h35
          refine o_v (ov_call (v:=aB) r (w_name_Right hx36) ⟨lr,trivial⟩ r r r)<|mB r<|og r r r (fun hc=>(p_fa tf45x8 r))<|og r r r (fun hc=>(p_load (v:=aS) tv9 (gx r hc) r r)) ?_
          obtain ⟨x38,hx38,h39⟩:=bind_s h37
          refine o_g r r (fun hc=>ov_call (v:=aB) r (w_event_identifier (gd_some hx38 hc)) ⟨(le_gv (gx r hc) lr),trivial⟩ (ok_eq (by repeat (first | exact ok_nil | refine ok_cons r ?_ | refine ok_cons (dgv r) ?_ | refine ok_cons dar ?_))) r r) ?_
          refine o_p r (p_picky r r r (fun e=>keq e))<|sB r<|o_ek (fr':=[(2,aB)]) r r<|w_ret<|e_blk_r<|e_seq_r ?_
          obtain rfl:=sy h39
          exact e_ret (rs':=[.tmp 2]) r<|r_tmp (v:=aB) r<|r_nil<|fin_gen [] r r r lr st_nil
         ·
          refine w_sr<|o_p r (p_eql r r)<|sB r<|o_ek (fr':=[(1,.box 0 0),(6,aI),(71,aB)]) r r<|w_ch h35 r (fun hb41 h41=>?_) (fun hb41 h41=>?_)
          ·
           refine w_sr<|o_p r (p_fa tf45x8 r)<|o_p r (p_load (v:=aS) tv9 r r r) ?_
           obtain ⟨x42,hx42,h43⟩:=bind_s h41
           refine o_v (ov_call (v:=aB) r (w_event_identifier hx42) ⟨lr,trivial⟩ r r r)<|sB r<|o_ek (fr':=[(2,aB)]) r r<|w_ret<|e_blk_r<|e_seq_r ?_
           obtain rfl:=sy h43
           exact e_ret (rs':=[.tmp 2]) r<|r_tmp (v:=aB) r<|r_nil<|fin_gen [] r r r lr st_nil
          ·
           refine w_sr<|o_p r (p_eql r r)<|sB r<|o_ek (fr':=[(1,.box 0 0),(76,aB)]) r r<|w_ch h41 r (fun hb45 h45=>?_) (fun hb45 h45=>?_)
           ·
            refine w_sr<|o_p r (p_fa tf45x8 r)<|o_p r (p_load (v:=aS) tv9 r r r) ?_
            obtain ⟨x46,hx46,h47⟩:=bind_s h45
            refine o_v (ov_call (v:=.tup [aI,aB]) r (w_name_Number hx46) ⟨lr,trivial⟩ r r r)<|mV (v:=.tup [aI,aB]) r<|o_p r (p_ex (v:=aI) r r)<|o_p r (p_ex (v:=aB) r r)<|sI r<|sB r<|o_ek (fr':=[(4,aB)]) r r<|w_sr<|mB r<|sB r<|o_ek (fr':=[(2,aB)]) r r<|w_ret ?_
            refine e_blk_r<|e_seq_r ?_
            obtain rfl:=sy h47
            exact e_ret (rs':=[.tmp 2]) r<|r_tmp (v:=aB) r<|r_nil<|fin_gen [] r r r lr st_nil
           ·
            refine w_skip<|e_blk_n<|e_kw<|w_sr<|sB r<|o_ek (fr':=[(2,aB)]) r r<|w_ret ?_
            obtain rfl:=sy h45
            exact e_ret (rs':=[.tmp 2]) r<|r_tmp (v:=aB) r<|r_nil<|fin_gen [] r r r lr st_nil
noncomputable def event_Right (p0e:ApiEvent):Option Bool :=
 (event_within p0e.Kind (1:Int) (35:Int)).bind fun x1=>(gd ((!x1)==false) (event_within p0e.ID (0:Int) (2000:Int))).bind fun x3=>(gd ((cond (!x1) true (!x3))==false) (event_within p0e.Time (0:Int) (1099511627776:Int))).bind fun x5=>(gd ((cond (cond (!x1) true (!x3)) true (!x5))==false) (value_Right p0e.Data)).bind fun x7=>cond (cond (cond (cond (!x1) true (!x3)) true (!x5)) true (!x7)) (some false) ((event_commandOf p0e.Kind).bind fun x11=>cond (!decide (x11=(0:Int))) ((event_commanded p0e x11).bind fun x14=>some x14) ((event_used p0e.Kind).bind fun x17=>(event_uses_empty x17 p0e).bind fun x19=>(gd (((!x19)==false)&&(x17.seq_==true)) (event_within p0e.Seq (1:Int) (2000:Int))).bind fun x21=>(gd (((cond (!x19) true (cond x17.seq_ (!x21) false))==false)&&(x17.ref_==true)) (event_within p0e.Ref (1:Int) (2000:Int))).bind fun x23=>cond (cond (cond (!x19) true (cond x17.seq_ (!x21) false)) true (cond x17.ref_ (!x23) false)) (some false) ((event_particular p0e).bind fun x27=>some x27)))
theorem w_event_Right {p0e:ApiEvent}{res:Bool} (h:event_Right p0e=some res):ACalls Tryz.prog 17 [.agg (AV.cs (rowApiEvent p0e))] [] (.c (.bool res)) []:=by
 unfold event_Right at h
 refine acalls (fn:=Tryz.f17) [0,1,2,3,4,26,31,61] (by kernel_rfl) Tryz.func17 r (by kernel_rfl) (by kernel_rfl)<|w_sr<|o_box (v:=.agg aIIIIIIISSIISLLSIIIIIIIIL) (n:=0) (cs:=aIIIIIIISSIISLLSIIIIIIIIL) (σ':=[aIIIIIIISSIISLLSIIIIIIIIL]) r r r r r<|sB r<|o_ek (fr':=[(1,.box 0 0)]) r r<|w_seqw<|w_sr<|o_p r (p_fa tf45x1 r)<|o_p r (p_load (v:=aI) tv3 r r r) ?_
 obtain ⟨x1,hx1,h2⟩:=bind_s h
 refine o_v (ov_call (v:=aB) r (w_event_within hx1) ⟨lr,lr,lr,trivial⟩ r r r)<|o_p r (p_not r)<|mB r<|og r r r (fun hc=>(p_fa tf45x0 r))<|og r r r (fun hc=>(p_load (v:=aI) tv3 (gx r hc) r r)) ?_
 obtain ⟨x3,hx3,h4⟩:=bind_s h2
 refine o_g r r (fun hc=>ov_call (v:=aB) r (w_event_within (gd_some hx3 hc)) ⟨(le_gv (gx r hc) lr),lr,lr,trivial⟩ (ok_eq (by repeat (first | exact ok_nil | refine ok_cons r ?_ | refine ok_cons (dgv r) ?_ | refine ok_cons dar ?_))) r r) ?_
 refine og r r r (fun hc=>(p_not (gx r hc)))<|o_p r (p_pickz r r r (fun e=>keq e))<|mB r<|og r r r (fun hc=>(p_fa tf45x2 r))<|og r r r (fun hc=>(p_load (v:=aI) tv3 (gx r hc) r r)) ?_
 obtain ⟨x5,hx5,h6⟩:=bind_s h4
 refine o_g r r (fun hc=>ov_call (v:=aB) r (w_event_within (gd_some hx5 hc)) ⟨(le_gv (gx r hc) lr),lr,lr,trivial⟩ (ok_eq (by repeat (first | exact ok_nil | refine ok_cons r ?_ | refine ok_cons (dgv r) ?_ | refine ok_cons dar ?_))) r r) ?_
 refine og r r r (fun hc=>(p_not (gx r hc)))<|o_p r (p_pickz r r r (fun e=>keq e))<|mB r<|og r r r (fun hc=>(p_fa tf45x9 r))<|og r r r (fun hc=>(p_loads (us:=aIISLL) tv41 (gx r hc) r r r)) ?_
 obtain ⟨x7,hx7,h8⟩:=bind_s h6
 refine o_g r r (fun hc=>ov_call (v:=aB) r (w_value_Right (gd_some hx7 hc)) ⟨(le_gv (gx r hc) (le_aggc r ⟨r,r,r,r,r,trivial⟩)),trivial⟩ (ok_eq (by repeat (first | exact ok_nil | refine ok_cons r ?_ | refine ok_cons (dgv r) ?_ | refine ok_cons dar ?_))) r r) ?_
 refine og r r r (fun hc=>(p_not (gx r hc)))<|o_p r (p_pickz r r r (fun e=>keq e))<|o_ek (fr':=[(1,.box 0 0),(26,aB)]) r r<|w_ch h8 r (fun hb9 h9=>?_) (fun hb9 h9=>?_)
 ·
  refine w_sr<|sB r<|o_ek (fr':=[(2,aB)]) r r<|w_ret<|e_seq_r ?_
  obtain rfl:=sy h9
  exact e_ret (rs':=[.tmp 2]) r<|r_tmp (v:=aB) r<|r_nil<|fin_gen [] r r r lr st_nil
 ·
  refine w_skip<|e_kw<|w_seqw<|w_sr<|o_p r (p_fa tf45x1 r)<|o_p r (p_load (v:=aI) tv3 r r r) ?_
  obtain ⟨x11,hx11,h12⟩:=bind_s h9
  refine o_v (ov_call (v:=aI) r (w_event_commandOf hx11) ⟨lr,trivial⟩ r r r)<|sI r<|o_ek (fr':=[(1,.box 0 0),(3,aI)]) r r<|w_sr<|mI r<|o_p r (p_neq r r)<|o_ek (fr':=[(1,.box 0 0),(3,aI),(31,aB)]) r r<|w_ch h12 r (fun hb13 h13=>?_) (fun hb13 h13=>?_)
  ·
   refine w_sr<|o_p r (p_loads (us:=aIIIIIIISSIISLLSIIIIIIIIL) tv45 r r r r)<|mI r ?_
   obtain ⟨x14,hx14,h15⟩:=bind_s h13
   refine o_v (ov_call (v:=aB) r (w_event_commanded hx14) ⟨(le_aggc r ⟨r,r,r,r,r,r,r,r,r,r,r,r,r,r,r,r,r,r,r,r,r,r,r,r,trivial⟩),lr,trivial⟩ r r r)<|sB r<|o_ek (fr':=[(2,aB)]) r r<|w_ret<|e_seq_r ?_
   obtain rfl:=sy h15
   exact e_ret (rs':=[.tmp 2]) r<|r_tmp (v:=aB) r<|r_nil<|fin_gen [] r r r lr st_nil
  ·
   refine w_skip<|e_kw<|w_sr<|o_p r (p_fa tf45x1 r)<|o_p r (p_load (v:=aI) tv3 r r r) ?_
   obtain ⟨x17,hx17,h18⟩:=bind_s h13
   refine o_v (ov_call (v:=.agg aBBBBBBB) r (w_event_used hx17) ⟨lr,trivial⟩ r r r)<|o_alloc (n:=1) (cs:=aBBBBBBB) (σ':=[aIIIIIIISSIISLLSIIIIIIIIL,aBBBBBBB]) tz63 r r r<|o_store (v:=.agg aBBBBBBB) (us:=aBBBBBBB) (cs:=aBBBBBBB) (σ':=[aIIIIIIISSIISLLSIIIIIIIIL,aBBBBBBB]) r tv63 r r r r r r r r<|o_ek (fr':=[(1,.box 0 0),(4,.box 1 0)]) r r<|w_seqw<|w_sr<|o_p r (p_loads (us:=aBBBBBBB) tv63 r r r r)<|o_p r (p_loads (us:=aIIIIIIISSIISLLSIIIIIIIIL) tv45 r r r r) ?_
   obtain ⟨x19,hx19,h20⟩:=bind_s h18
   refine o_v (ov_call (v:=aB) r (w_event_uses_empty hx19) ⟨(le_aggc r ⟨r,r,r,r,r,r,r,trivial⟩),(le_aggc r ⟨r,r,r,r,r,r,r,r,r,r,r,r,r,r,r,r,r,r,r,r,r,r,r,r,trivial⟩),trivial⟩ r r r)<|o_p r (p_not r)<|mB r<|og r r r (fun hc=>(p_fa tf63x0 r))<|og r r r (fun hc=>(p_load (v:=aB) tv4 (gx r hc) r r))<|og r r r (fun hc=>(p_move (v:=aB) (gx r hc)))<|o_gg r r (fun hc=>ov_p r (p_fa tf45x3 r))<|o_gg r r (fun hc=>ov_p r (p_load (v:=aI) tv3 (gx r hc) r r)) ?_
   obtain ⟨x21,hx21,h22⟩:=bind_s h20
   refine o_gg r r (fun hc=>ov_call (v:=aB) r (w_event_within (gd_some hx21 hc)) ⟨(le_gv (gx r hc) lr),lr,lr,trivial⟩ (ok_eq (by repeat (first | exact ok_nil | refine ok_cons r ?_ | refine ok_cons (dgv r) ?_ | refine ok_cons dar ?_))) r r) ?_
   refine o_gg r r (fun hc=>ov_p r (p_not (gx r hc)))<|og r r r (fun hc=>(p_picky (gx r hc) r r (fun e=>band hc (keq e))))<|o_p r (p_pickz r r r (fun e=>keq e))<|mB r<|og r r r (fun hc=>(p_fa tf63x1 r))<|og r r r (fun hc=>(p_load (v:=aB) tv4 (gx r hc) r r))<|og r r r (fun hc=>(p_move (v:=aB) (gx r hc)))<|o_gg r r (fun hc=>ov_p r (p_fa tf45x4 r))<|o_gg r r (fun hc=>ov_p r (p_load (v:=aI) tv3 (gx r hc) r r)) ?_
   obtain ⟨x23,hx23,h24⟩:=bind_s h22
   refine o_gg r r (fun hc=>ov_call (v:=aB) r (w_event_within (gd_some hx23 hc)) ⟨(le_gv (gx r hc) lr),lr,lr,trivial⟩ (ok_eq (by repeat (first | exact ok_nil | refine ok_cons r ?_ | refine ok_cons (dgv r) ?_ | refine ok_cons dar ?_))) r r) ?_
   refine o_gg r r (fun hc=>ov_p r (p_not (gx r hc)))<|og r r r (fun hc=>(p_picky (gx r hc) r r (fun e=>band hc (keq e))))<|o_p r (p_pickz r r r (fun e=>keq e))<|o_ek (fr':=[(1,.box 0 0),(61,aB)]) r r<|w_ch h24 r (fun hb25 h25=>?_) (fun hb25 h25=>?_)
   ·
    refine w_sr<|sB r<|o_ek (fr':=[(2,aB)]) r r<|w_ret<|e_seq_r ?_
    obtain rfl:=sy h25
    exact e_ret (rs':=[.tmp 2]) r<|r_tmp (v:=aB) r<|r_nil<|fin_gen [] r r r lr st_nil
   ·
    refine w_skip<|e_kw<|w_sr<|o_p r (p_loads (us:=aIIIIIIISSIISLLSIIIIIIIIL) tv45 r r r r) ?_
    obtain ⟨x27,hx27,h28⟩:=bind_s h25
    refine o_v (ov_call (v:=aB) r (w_event_particular hx27) ⟨(le_aggc r ⟨r,r,r,r,r,r,r,r,r,r,r,r,r,r,r,r,r,r,r,r,r,r,r,r,trivial⟩),trivial⟩ r r r)<|sB r<|o_ek (fr':=[(2,aB)]) r r<|w_ret ?_
    obtain rfl:=sy h28
    exact e_ret (rs':=[.tmp 2]) r<|r_tmp (v:=aB) r<|r_nil<|fin_gen [] r r r lr st_nil
noncomputable def event_IsCommand (p0kind:Int):Option Bool :=
 (event_commandOf p0kind).bind fun x1=>some (!decide (x1=(0:Int)))
theorem w_event_IsCommand {p0kind:Int}{res:Bool} (h:event_IsCommand p0kind=some res):ACalls Tryz.prog 15 [.c (.int .i64 p0kind)] [] (.c (.bool res)) []:=by
 unfold event_IsCommand at h
 refine acalls (fn:=Tryz.f15) [0,2] (by kernel_rfl) Tryz.func15 r (by kernel_rfl) (by kernel_rfl)<|w_sr<|sB r<|o_ek (fr':=[(0,aI)]) r r<|w_sr<|mI r ?_
 obtain ⟨x1,hx1,h2⟩:=bind_s h
 refine o_v (ov_call (v:=aI) r (w_event_commandOf hx1) ⟨lr,trivial⟩ r r r)<|o_p r (p_neq r r)<|sB r<|o_ek (fr':=[(2,aB)]) r r<|w_ret ?_
 obtain rfl:=sy h2
 exact e_ret (rs':=[.tmp 2]) r<|r_tmp (v:=aB) r<|r_nil<|fin_gen [] r r r lr st_nil
noncomputable def history_closesActivity (p0kind:Int):Option Bool :=
 some (cond (cond (cond (decide (p0kind=(9:Int))) true (decide (p0kind=(10:Int)))) true (decide (p0kind=(11:Int)))) true (decide (p0kind=(13:Int))))
theorem w_history_closesActivity {p0kind:Int}{res:Bool} (h:history_closesActivity p0kind=some res):ACalls Tryz.prog 34 [.c (.int .i64 p0kind)] [] (.c (.bool res)) []:=by
 unfold history_closesActivity at h
 refine acalls (fn:=Tryz.f34) [0,2] (by kernel_rfl) Tryz.func34 r (by kernel_rfl) (by kernel_rfl)<|w_sr<|sB r<|o_ek (fr':=[(0,aI)]) r r<|w_sr<|mI r<|o_p r (p_eql r r)<|mB r<|og r r r (fun hc=>(p_move (v:=aI) r))<|og r r r (fun hc=>(p_eql (gx r hc) r))<|o_p r (p_pickz r r r (fun e=>keq e)) ?_
 refine mB r<|og r r r (fun hc=>(p_move (v:=aI) r))<|og r r r (fun hc=>(p_eql (gx r hc) r))<|o_p r (p_pickz r r r (fun e=>keq e))<|mB r<|og r r r (fun hc=>(p_move (v:=aI) r))<|og r r r (fun hc=>(p_eql (gx r hc) r))<|o_p r (p_pickz r r r (fun e=>keq e))<|sB r<|o_ek (fr':=[(2,aB)]) r r<|w_ret ?_
 obtain rfl:=sy h
 exact e_ret (rs':=[.tmp 2]) r<|r_tmp (v:=aB) r<|r_nil<|fin_gen [] r r r lr st_nil
noncomputable def history_checker_step_v2 (p1e:ApiEvent) (p100v:HistoryChecker):Option (Bool × Bool × HistoryChecker) :=
 ((cond (decide (p1e.Kind=(2:Int))) (some (Fl.go ((decide (p100v.task_=(0:Int))),(HistoryChecker.mk (1:Int) p1e.ID p100v.before_ p100v.closed_)))) (cond (decide (p1e.Kind=(3:Int))) (some (Fl.go ((cond (decide (p100v.task_=(1:Int))) (decide (p1e.Ref=p100v.ref_)) false),(HistoryChecker.mk (2:Int) p1e.ID p100v.before_ p100v.closed_)))) (((cond (decide (p1e.Kind=(4:Int))) (some (decide (p1e.Kind=(4:Int)))) (cond (decide (p1e.Kind=(5:Int))) (some (decide (p1e.Kind=(5:Int)))) (some (decide (p1e.Kind=(6:Int)))))):Option Bool).bind fun x6=>(cond x6 (some (Fl.go ((cond (decide (p100v.task_=(2:Int))) (decide (p1e.Ref=p100v.ref_)) false),(HistoryChecker.mk (0:Int) p100v.ref_ p100v.before_ p100v.closed_)))) (some (Fl.done (false,false,p100v))))))):Option (Fl (Bool × Bool × HistoryChecker) (Bool × HistoryChecker))).bind fun x1=>Fl.next x1 (fun j3=>(some (j3.1,true,j3.2)))
theorem w_history_checker_step_v2 {p1e:ApiEvent}{p100v:HistoryChecker}{res:(Bool × Bool × HistoryChecker)} (h:history_checker_step_v2 p1e p100v=some res):ACalls Tryz.prog 35 [.box 0 0,.agg (AV.cs (rowApiEvent p1e))] [AV.cs (rowHistoryChecker p100v)] (.tup [.c (.bool res.1),.c (.bool res.2.1)]) [AV.cs (rowHistoryChecker res.2.2)]:=by
 unfold history_checker_step_v2 at h
 refine acalls (fn:=Tryz.f35) [0,1,3,4,5,7,8,23,47] (by kernel_rfl) Tryz.func35 r (by kernel_rfl) (by kernel_rfl)<|w_sr<|o_box (v:=.agg aIIIIIIISSIISLLSIIIIIIIIL) (n:=1) (cs:=aIIIIIIISSIISLLSIIIIIIIIL) (σ':=[aIIIIIIIIISSIISLLSIIIIIIIILB,aIIIIIIISSIISLLSIIIIIIIIL]) r r r r r<|sB r<|sB r<|o_ek (fr':=[(0,.box 0 0),(3,.box 1 0)]) r r ?_
 obtain ⟨x1,hx1,h2⟩:=bind_s h
 refine w_join (fun j3=>x1=Fl.go j3) (fun (j3:(Bool × HistoryChecker))=>([(4,.c (.bool j3.1))]:Fr)) (fun (j3:(Bool × HistoryChecker))=>([[.c (.int .i64 j3.2.task_),.c (.int .i64 j3.2.ref_),.c (.int .i64 j3.2.before_.ID),.c (.int .i64 j3.2.before_.Kind),.c (.int .i64 j3.2.before_.Time),.c (.int .i64 j3.2.before_.Seq),.c (.int .i64 j3.2.before_.Ref),.c (.int .i64 j3.2.before_.N),.c (.int .i64 j3.2.before_.Code),.c (.str j3.2.before_.Name),.c (.str j3.2.before_.Key),.c (.int .i64 j3.2.before_.Data.Kind),.c (.int .i64 j3.2.before_.Data.Int),.c (.str j3.2.before_.Data.Text),.c (PV.ls 5 rowApiValue j3.2.before_.Data.Items),.c (PV.ls 1 rowS j3.2.before_.Data.Keys),.c (.str j3.2.before_.Opts.Queue),.c (.int .i64 j3.2.before_.Opts.ToStart),.c (.int .i64 j3.2.before_.Opts.ToClose),.c (.int .i64 j3.2.before_.Opts.Total),.c (.int .i64 j3.2.before_.Opts.Beat),.c (.int .i64 j3.2.before_.Opts.First),.c (.int .i64 j3.2.before_.Opts.Coef),.c (.int .i64 j3.2.before_.Opts.Most),.c (.int .i64 j3.2.before_.Opts.Attempts),.c (PV.ls 1 rowS j3.2.before_.Opts.Fatal),.c (.bool j3.2.closed_)],[.c (.int .i64 p1e.ID),.c (.int .i64 p1e.Kind),.c (.int .i64 p1e.Time),.c (.int .i64 p1e.Seq),.c (.int .i64 p1e.Ref),.c (.int .i64 p1e.N),.c (.int .i64 p1e.Code),.c (.str p1e.Name),.c (.str p1e.Key),.c (.int .i64 p1e.Data.Kind),.c (.int .i64 p1e.Data.Int),.c (.str p1e.Data.Text),.c (PV.ls 5 rowApiValue p1e.Data.Items),.c (PV.ls 1 rowS p1e.Data.Keys),.c (.str p1e.Opts.Queue),.c (.int .i64 p1e.Opts.ToStart),.c (.int .i64 p1e.Opts.ToClose),.c (.int .i64 p1e.Opts.Total),.c (.int .i64 p1e.Opts.Beat),.c (.int .i64 p1e.Opts.First),.c (.int .i64 p1e.Opts.Coef),.c (.int .i64 p1e.Opts.Most),.c (.int .i64 p1e.Opts.Attempts),.c (PV.ls 1 rowS p1e.Opts.Fatal)]]:St)) ?_ ?_
 ·
  refine w_sr<|o_p r (p_fa tf45x1 r)<|o_p r (p_load (v:=aI) tv3 r r r)<|o_ek (fr':=[(0,.box 0 0),(3,.box 1 0),(7,aI)]) r r<|w_block<|w_sr<|o_p r (p_eql r r)<|sB r<|o_ek (fr':=[(0,.box 0 0),(3,.box 1 0),(7,aI),(8,aB)]) r r<|w_ch hx1 r (fun hb4 h4=>?_) (fun hb4 h4=>?_)
  ·
   refine w_sr<|mV (v:=.box 0 0) r<|o_p r (p_nc r)<|o_p r (p_fa tf50x0 r)<|o_p r (p_load (v:=aI) tv3 r r r)<|o_p r (p_eql r r)<|sB r<|o_ek (fr':=[(0,.box 0 0),(3,.box 1 0),(4,aB)]) r r<|w_planT [.q 0,.q 1,.q 2,.q 3,.q 4,.q 5,.n 6 [1,2,3],.q 7,.q 8,.n 9 []] [(some 15,[0]),(some 16,[0]),(some 17,[3]),(some 18,[17]),(some 19,[15]),(some 20,[19]),(none,[20]),(some 21,[16]),(some 22,[21]),(none,[22,18])] [0,0,0,4,1,17,49,127,255,511] (by kernel_rfl)<|dq r r (p_move (v:=.box 0 0) r)<|dq r r (p_move (v:=.box 0 0) r)<|dq r r (p_fa tf45x0 r) ?_
   refine dq r r (p_load (v:=aI) tv3 r r r)<|dq r r (p_nc r)<|dq r r (p_fa tf50x0 r)<|d_n r ?_ r
   refine o_store (v:=aI) (us:=[aI]) (cs:=aIIIIIIIIISSIISLLSIIIIIIIILB) (σ':=[aIIIIIIIIISSIISLLSIIIIIIIILB,aIIIIIIISSIISLLSIIIIIIIIL]) r tv3 r r r r r r r r<|o_rc<|⟨(rc_q (v:=.box 0 0) r r (qv_p r (p_move (v:=.box 0 0) r)) (rc_q (v:=.box 1 0) r r (qv_p r (p_fa tf45x0 r)) (rc_q (v:=aI) r r (qv_p r (p_load (v:=aI) tv3 r r r)) rc_nil))),?_⟩
   refine dq r r (p_nc r)<|dq r r (p_fa tf50x1 r)<|d_n r ?_ r
   refine o_store (v:=aI) (us:=[aI]) (cs:=aIIIIIIIIISSIISLLSIIIIIIIILB) (σ':=[aIIIIIIIIISSIISLLSIIIIIIIILB,aIIIIIIISSIISLLSIIIIIIIIL]) r tv3 r r r r r r r r<|o_rc<|⟨rc_nil,?_⟩
   exact d_end (fr':=[(0,.box 0 0),(3,.box 1 0),(4,aB)]) r<|e_blk_n<|e_j _ (sy h4) (w_weak [] 2 r r r r ⟨lr,trivial⟩ (st_r r (st_r r st_nil)))
  ·
   refine w_sr<|o_p r (p_eql r r)<|sB r<|o_ek (fr':=[(0,.box 0 0),(3,.box 1 0),(7,aI),(23,aB)]) r r<|w_ch h4 r (fun hb5 h5=>?_) (fun hb5 h5=>?_)
   ·
    refine w_seqw<|w_planT [.q 0,.q 1,.q 2,.q 3,.q 4,.q 5,.q 6,.q 7,.q 8,.q 9,.q 10,.q 11,.q 12,.q 13,.n 14 []] [(some 25,[0]),(some 26,[25]),(some 27,[26]),(some 28,[27]),(some 29,[28]),(some 30,[29]),(some 31,[3,30]),(some 32,[31,30]),(some 33,[0,30]),(some 34,[33,30]),(some 35,[34,30]),(some 36,[35,30]),(some 37,[32,36,30]),(some 38,[30,37]),(some 4,[38])] [0,1,3,7,15,31,63,127,63,319,831,1855,4095,8191,16383] (by kernel_rfl)<|dq r r (p_move (v:=.box 0 0) r)<|dq r r (p_nc r)<|dq r r (p_fa tf50x0 r)<|dq r r (p_load (v:=aI) tv3 r r r)<|dq r r (p_eql r r)<|dq r r (p_move (v:=aB) r)<|d_g r r r (fun hc=>qv_p r (p_fa tf45x4 r))<|d_g r r r (fun hc=>qv_p r (p_load (v:=aI) tv3 (gx r hc) r r))<|d_g r r r (fun hc=>qv_p r (p_move (v:=.box 0 0) r))<|d_g r r r (fun hc=>qv_p r (p_nc (gx r hc)))<|d_g r r r (fun hc=>qv_p r (p_fa tf50x1 (gx r hc))) ?_
    refine d_g r r r (fun hc=>qv_p r (p_load (v:=aI) tv3 (gx r hc) r r))<|d_g r r r (fun hc=>qv_p r (p_eql (gx r hc) (gx r hc)))<|dq r r (p_picky r r r (fun e=>keq e))<|d_n r ?_ r
    refine sB r<|o_rc<|⟨rc_nil,?_⟩
    refine d_ek (fr':=[(0,.box 0 0),(3,.box 1 0),(4,aB)]) r r<|w_planT [.q 0,.q 1,.q 2,.q 3,.q 4,.q 5,.n 6 [1,2,3],.q 7,.q 8,.n 9 []] [(some 39,[0]),(some 40,[0]),(some 41,[3]),(some 42,[41]),(some 43,[39]),(some 44,[43]),(none,[44]),(some 45,[40]),(some 46,[45]),(none,[46,42])] [0,0,0,4,1,17,49,127,255,511] (by kernel_rfl)<|dq r r (p_move (v:=.box 0 0) r)<|dq r r (p_move (v:=.box 0 0) r)<|dq r r (p_fa tf45x0 r)<|dq r r (p_load (v:=aI) tv3 r r r)<|dq r r (p_nc r)<|dq r r (p_fa tf50x0 r)<|d_n r ?_ r
    refine o_store (v:=aI) (us:=[aI]) (cs:=aIIIIIIIIISSIISLLSIIIIIIIILB) (σ':=[aIIIIIIIIISSIISLLSIIIIIIIILB,aIIIIIIISSIISLLSIIIIIIIIL]) r tv3 r r r r r r r r<|o_rc<|⟨(rc_q (v:=.box 0 0) r r (qv_p r (p_move (v:=.box 0 0) r)) (rc_q (v:=.box 1 0) r r (qv_p r (p_fa tf45x0 r)) (rc_q (v:=aI) r r (qv_p r (p_load (v:=aI) tv3 r r r)) rc_nil))),?_⟩
    refine dq r r (p_nc r)<|dq r r (p_fa tf50x1 r)<|d_n r ?_ r
    refine o_store (v:=aI) (us:=[aI]) (cs:=aIIIIIIIIISSIISLLSIIIIIIIILB) (σ':=[aIIIIIIIIISSIISLLSIIIIIIIILB,aIIIIIIISSIISLLSIIIIIIIIL]) r tv3 r r r r r r r r<|o_rc<|⟨rc_nil,?_⟩
    exact d_end (fr':=[(0,.box 0 0),(3,.box 1 0),(4,aB)]) r<|e_blk_n<|e_j _ (sy h5) (w_weak [] 2 r r r r ⟨lr,trivial⟩ (st_r r (st_r r st_nil)))
   ·
    obtain ⟨x6,hx6,h7⟩:=bind_s h5
    refine w_join (fun j8=>x6=j8) (fun (j8:Bool)=>([(0,.box 0 0),(3,.box 1 0),(47,.c (.bool j8))]:Fr)) (fun (j8:Bool)=>([[.c (.int .i64 p100v.task_),.c (.int .i64 p100v.ref_),.c (.int .i64 p100v.before_.ID),.c (.int .i64 p100v.before_.Kind),.c (.int .i64 p100v.before_.Time),.c (.int .i64 p100v.before_.Seq),.c (.int .i64 p100v.before_.Ref),.c (.int .i64 p100v.before_.N),.c (.int .i64 p100v.before_.Code),.c (.str p100v.before_.Name),.c (.str p100v.before_.Key),.c (.int .i64 p100v.before_.Data.Kind),.c (.int .i64 p100v.before_.Data.Int),.c (.str p100v.before_.Data.Text),.c (PV.ls 5 rowApiValue p100v.before_.Data.Items),.c (PV.ls 1 rowS p100v.before_.Data.Keys),.c (.str p100v.before_.Opts.Queue),.c (.int .i64 p100v.before_.Opts.ToStart),.c (.int .i64 p100v.before_.Opts.ToClose),.c (.int .i64 p100v.before_.Opts.Total),.c (.int .i64 p100v.before_.Opts.Beat),.c (.int .i64 p100v.before_.Opts.First),.c (.int .i64 p100v.before_.Opts.Coef),.c (.int .i64 p100v.before_.Opts.Most),.c (.int .i64 p100v.before_.Opts.Attempts),.c (PV.ls 1 rowS p100v.before_.Opts.Fatal),.c (.bool p100v.closed_)],[.c (.int .i64 p1e.ID),.c (.int .i64 p1e.Kind),.c (.int .i64 p1e.Time),.c (.int .i64 p1e.Seq),.c (.int .i64 p1e.Ref),.c (.int .i64 p1e.N),.c (.int .i64 p1e.Code),.c (.str p1e.Name),.c (.str p1e.Key),.c (.int .i64 p1e.Data.Kind),.c (.int .i64 p1e.Data.Int),.c (.str p1e.Data.Text),.c (PV.ls 5 rowApiValue p1e.Data.Items),.c (PV.ls 1 rowS p1e.Data.Keys),.c (.str p1e.Opts.Queue),.c (.int .i64 p1e.Opts.ToStart),.c (.int .i64 p1e.Opts.ToClose),.c (.int .i64 p1e.Opts.Total),.c (.int .i64 p1e.Opts.Beat),.c (.int .i64 p1e.Opts.First),.c (.int .i64 p1e.Opts.Coef),.c (.int .i64 p1e.Opts.Most),.c (.int .i64 p1e.Opts.Attempts),.c (PV.ls 1 rowS p1e.Opts.Fatal)]]:St)) ?_ ?_
    ·
     refine w_sr<|o_p r (p_eql r r)<|sB r<|o_ek (fr':=[(0,.box 0 0),(3,.box 1 0),(7,aI),(47,aB)]) r r<|w_ch hx6 r (fun hb9 h9=>?_) (fun hb9 h9=>?_)
     ·
      exact w_skip<|e_j _ (sy h9) (w_weak [] 2 r r r r ⟨lr,lr,lr,trivial⟩ (st_r r (st_r r st_nil)))
     ·
      refine w_sr<|o_p r (p_eql r r)<|sB r<|o_ek (fr':=[(0,.box 0 0),(3,.box 1 0),(7,aI),(47,aB)]) r r<|w_ch h9 r (fun hb10 h10=>?_) (fun hb10 h10=>?_)
      ·
       exact w_skip<|e_j _ (sy h10) (w_weak [] 2 r r r r ⟨lr,lr,lr,trivial⟩ (st_r r (st_r r st_nil)))
      ·
       exact w_region<|o_p r (p_eql r r)<|sB r<|o_end (fr':=[(0,.box 0 0),(3,.box 1 0),(7,aI),(47,aB)]) r<|e_j _ (sy h10) (w_weak [] 2 r r r r ⟨lr,lr,lr,trivial⟩ (st_r r (st_r r st_nil)))
    ·
     intro j8 hj11
     subst hj11
     refine w_ch h7 r (fun hb12 h12=>?_) (fun hb12 h12=>?_)
     ·
      refine w_seqw<|w_planT [.q 0,.q 1,.q 2,.q 3,.q 4,.q 5,.q 6,.q 7,.q 8,.q 9,.q 10,.q 11,.q 12,.q 13,.n 14 []] [(some 51,[0]),(some 52,[51]),(some 53,[52]),(some 54,[53]),(some 55,[54]),(some 56,[55]),(some 57,[3,56]),(some 58,[57,56]),(some 59,[0,56]),(some 60,[59,56]),(some 61,[60,56]),(some 62,[61,56]),(some 63,[58,62,56]),(some 64,[56,63]),(some 4,[64])] [0,1,3,7,15,31,63,127,63,319,831,1855,4095,8191,16383] (by kernel_rfl)<|dq r r (p_move (v:=.box 0 0) r)<|dq r r (p_nc r)<|dq r r (p_fa tf50x0 r)<|dq r r (p_load (v:=aI) tv3 r r r)<|dq r r (p_eql r r)<|dq r r (p_move (v:=aB) r)<|d_g r r r (fun hc=>qv_p r (p_fa tf45x4 r))<|d_g r r r (fun hc=>qv_p r (p_load (v:=aI) tv3 (gx r hc) r r))<|d_g r r r (fun hc=>qv_p r (p_move (v:=.box 0 0) r))<|d_g r r r (fun hc=>qv_p r (p_nc (gx r hc)))<|d_g r r r (fun hc=>qv_p r (p_fa tf50x1 (gx r hc))) ?_
      refine d_g r r r (fun hc=>qv_p r (p_load (v:=aI) tv3 (gx r hc) r r))<|d_g r r r (fun hc=>qv_p r (p_eql (gx r hc) (gx r hc)))<|dq r r (p_picky r r r (fun e=>keq e))<|d_n r ?_ r
      refine sB r<|o_rc<|⟨rc_nil,?_⟩
      exact d_ek (fr':=[(0,.box 0 0),(4,aB)]) r r<|w_region<|mV (v:=.box 0 0) r<|o_p r (p_nc r)<|o_p r (p_fa tf50x0 r)<|o_store (v:=aI) (us:=[aI]) (cs:=aIIIIIIIIISSIISLLSIIIIIIIILB) (σ':=[aIIIIIIIIISSIISLLSIIIIIIIILB,aIIIIIIISSIISLLSIIIIIIIIL]) r tv3 r r r r r r r r<|o_end (fr':=[(0,.box 0 0),(4,aB)]) r<|e_blk_n<|e_j _ (sy h12) (w_weak [] 2 r r r r ⟨lr,trivial⟩ (st_r r (st_r r st_nil)))
     ·
      refine w_sr<|sB r<|sB r<|o_ek (fr':=[(4,aB),(5,aB)]) r r<|w_ret<|e_blk_r<|e_seq_r ?_
      have h13:=un_done h12 h2
      obtain rfl:=sy h13
      exact e_ret (rs':=[.tmp 4,.tmp 5]) r<|r_tmp (v:=aB) r<|r_tmp (v:=aB) r<|r_nil<|fin_gen [] r r r (le_tupp r ⟨lr,lr,trivial⟩) (st_c ⟨r,r,r,r,r,r,r,r,r,r,r,r,r,r,r,r,r,r,r,r,r,r,r,r,r,r,r,trivial⟩ st_nil)
 ·
  intro j3 hj15
  have h15:=un_go hj15 h2
  refine w_sr<|mB r<|sB r<|sB r<|o_ek (fr':=[(4,aB),(5,aB)]) r r<|w_ret ?_
  obtain rfl:=sy h15
  exact e_ret (rs':=[.tmp 4,.tmp 5]) r<|r_tmp (v:=aB) r<|r_tmp (v:=aB) r<|r_nil<|fin_gen [] r r r (le_tupp r ⟨lr,lr,trivial⟩) (st_c ⟨r,r,r,r,r,r,r,r,r,r,r,r,r,r,r,r,r,r,r,r,r,r,r,r,r,r,r,trivial⟩ st_nil)
noncomputable def history_checker_allows_v2 (p1at:Int) (p2e:ApiEvent) (p100v:HistoryChecker):Option (Bool × HistoryChecker) :=
 ((cond p100v.closed_ (some p100v.closed_) (cond (!((decide (p1at=(0:Int)))==(decide (p2e.Kind=(1:Int))))) (some (!((decide (p1at=(0:Int)))==(decide (p2e.Kind=(1:Int)))))) (some (cond (decide (p1at=(1:Int))) (!decide (p2e.Kind=(2:Int))) false)))):Option Bool).bind fun x1=>(cond x1 (some (false,p100v)) ((gd ((cond (decide ((0:Int)<p1at)) (decide (p100v.before_.Kind=(8:Int))) false)==true) (history_closesActivity p2e.Kind)).bind fun x9=>cond (cond (cond (decide ((0:Int)<p1at)) (decide (p100v.before_.Kind=(8:Int))) false) (cond (!x9) true (!decide (p2e.Seq=p100v.before_.Seq))) false) (some (false,p100v)) ((history_checker_step_v2 p2e p100v).bind fun x13=>cond x13.2.1 (some (x13.1,x13.2.2)) (cond (cond (cond (decide (p100v.task_=(2:Int))) (!decide (p2e.Kind=(33:Int))) false) (!decide (p2e.Kind=(34:Int))) false) (some (false,x13.2.2)) ((event_IsCommand p2e.Kind).bind fun x19=>cond x19 ((gd ((decide (p100v.before_.Kind=(4:Int)))==false) (event_IsCommand p100v.before_.Kind)).bind fun x22=>some ((cond (decide (p100v.before_.Kind=(4:Int))) true x22),x13.2.2)) (some (true,x13.2.2)))))))
theorem w_history_checker_allows_v2 {p1at:Int}{p2e:ApiEvent}{p100v:HistoryChecker}{res:(Bool × HistoryChecker)} (h:history_checker_allows_v2 p1at p2e p100v=some res):ACalls Tryz.prog 18 [.box 0 0,.c (.int .i64 p1at),.agg (AV.cs (rowApiEvent p2e))] [AV.cs (rowHistoryChecker p100v)] (.c (.bool res.1)) [AV.cs (rowHistoryChecker res.2)]:=by
 unfold history_checker_allows_v2 at h
 refine acalls (fn:=Tryz.f18) [0,1,2,5,6,7,8,9,10,15,33,65,68,80] (by kernel_rfl) Tryz.func18 r (by kernel_rfl) (by kernel_rfl)<|w_sr<|o_box (v:=.agg aIIIIIIISSIISLLSIIIIIIIIL) (n:=1) (cs:=aIIIIIIISSIISLLSIIIIIIIIL) (σ':=[aIIIIIIIIISSIISLLSIIIIIIIILB,aIIIIIIISSIISLLSIIIIIIIIL]) r r r r r<|sB r<|o_ek (fr':=[(0,.box 0 0),(1,aI),(5,.box 1 0)]) r r<|w_sr<|mV (v:=.box 0 0) r<|o_p r (p_nc r)<|o_p r (p_fa tf50x2 r)<|o_p r (p_loads (us:=aIIIIIIISSIISLLSIIIIIIIIL) tv45 r r r r)<|o_alloc (n:=2) (cs:=[aI,aI,aI,aI,aI,aI,aI,aS,aS,aI,aI,aS,AV.nil,AV.nil,aS,aI,aI,aI,aI,aI,aI,aI,aI,AV.nil]) (σ':=[aIIIIIIIIISSIISLLSIIIIIIIILB,aIIIIIIISSIISLLSIIIIIIIIL,[aI,aI,aI,aI,aI,aI,aI,aS,aS,aI,aI,aS,AV.nil,AV.nil,aS,aI,aI,aI,aI,aI,aI,aI,aI,AV.nil]]) tz45 r r r ?_
 refine o_store (v:=.agg aIIIIIIISSIISLLSIIIIIIIIL) (us:=aIIIIIIISSIISLLSIIIIIIIIL) (cs:=[aI,aI,aI,aI,aI,aI,aI,aS,aS,aI,aI,aS,AV.nil,AV.nil,aS,aI,aI,aI,aI,aI,aI,aI,aI,AV.nil]) (σ':=[aIIIIIIIIISSIISLLSIIIIIIIILB,aIIIIIIISSIISLLSIIIIIIIIL,aIIIIIIISSIISLLSIIIIIIIIL]) r tv45 r r r r r r r r<|o_ek (fr':=[(0,.box 0 0),(1,aI),(5,.box 1 0),(7,.box 2 0)]) r r<|w_seqw<|w_block ?_
 obtain ⟨x1,hx1,h2⟩:=bind_s h
 refine w_join (fun j3=>x1=j3) (fun (j3:Bool)=>([(0,.box 0 0),(1,.c (.int .i64 p1at)),(5,.box 1 0),(7,.box 2 0),(15,.c (.bool j3))]:Fr)) (fun (j3:Bool)=>([[.c (.int .i64 p100v.task_),.c (.int .i64 p100v.ref_),.c (.int .i64 p100v.before_.ID),.c (.int .i64 p100v.before_.Kind),.c (.int .i64 p100v.before_.Time),.c (.int .i64 p100v.before_.Seq),.c (.int .i64 p100v.before_.Ref),.c (.int .i64 p100v.before_.N),.c (.int .i64 p100v.before_.Code),.c (.str p100v.before_.Name),.c (.str p100v.before_.Key),.c (.int .i64 p100v.before_.Data.Kind),.c (.int .i64 p100v.before_.Data.Int),.c (.str p100v.before_.Data.Text),.c (PV.ls 5 rowApiValue p100v.before_.Data.Items),.c (PV.ls 1 rowS p100v.before_.Data.Keys),.c (.str p100v.before_.Opts.Queue),.c (.int .i64 p100v.before_.Opts.ToStart),.c (.int .i64 p100v.before_.Opts.ToClose),.c (.int .i64 p100v.before_.Opts.Total),.c (.int .i64 p100v.before_.Opts.Beat),.c (.int .i64 p100v.before_.Opts.First),.c (.int .i64 p100v.before_.Opts.Coef),.c (.int .i64 p100v.before_.Opts.Most),.c (.int .i64 p100v.before_.Opts.Attempts),.c (PV.ls 1 rowS p100v.before_.Opts.Fatal),.c (.bool p100v.closed_)],[.c (.int .i64 p2e.ID),.c (.int .i64 p2e.Kind),.c (.int .i64 p2e.Time),.c (.int .i64 p2e.Seq),.c (.int .i64 p2e.Ref),.c (.int .i64 p2e.N),.c (.int .i64 p2e.Code),.c (.str p2e.Name),.c (.str p2e.Key),.c (.int .i64 p2e.Data.Kind),.c (.int .i64 p2e.Data.Int),.c (.str p2e.Data.Text),.c (PV.ls 5 rowApiValue p2e.Data.Items),.c (PV.ls 1 rowS p2e.Data.Keys),.c (.str p2e.Opts.Queue),.c (.int .i64 p2e.Opts.ToStart),.c (.int .i64 p2e.Opts.ToClose),.c (.int .i64 p2e.Opts.Total),.c (.int .i64 p2e.Opts.Beat),.c (.int .i64 p2e.Opts.First),.c (.int .i64 p2e.Opts.Coef),.c (.int .i64 p2e.Opts.Most),.c (.int .i64 p2e.Opts.Attempts),.c (PV.ls 1 rowS p2e.Opts.Fatal)],[.c (.int .i64 p100v.before_.ID),.c (.int .i64 p100v.before_.Kind),.c (.int .i64 p100v.before_.Time),.c (.int .i64 p100v.before_.Seq),.c (.int .i64 p100v.before_.Ref),.c (.int .i64 p100v.before_.N),.c (.int .i64 p100v.before_.Code),.c (.str p100v.before_.Name),.c (.str p100v.before_.Key),.c (.int .i64 p100v.before_.Data.Kind),.c (.int .i64 p100v.before_.Data.Int),.c (.str p100v.before_.Data.Text),.c (PV.ls 5 rowApiValue p100v.before_.Data.Items),.c (PV.ls 1 rowS p100v.before_.Data.Keys),.c (.str p100v.before_.Opts.Queue),.c (.int .i64 p100v.before_.Opts.ToStart),.c (.int .i64 p100v.before_.Opts.ToClose),.c (.int .i64 p100v.before_.Opts.Total),.c (.int .i64 p100v.before_.Opts.Beat),.c (.int .i64 p100v.before_.Opts.First),.c (.int .i64 p100v.before_.Opts.Coef),.c (.int .i64 p100v.before_.Opts.Most),.c (.int .i64 p100v.before_.Opts.Attempts),.c (PV.ls 1 rowS p100v.before_.Opts.Fatal)]]:St)) ?_ ?_
 ·
  refine w_sr<|mV (v:=.box 0 0) r<|o_p r (p_nc r)<|o_p r (p_fa tf50x3 r)<|o_p r (p_load (v:=aB) tv4 r r r)<|sB r<|o_ek (fr':=[(0,.box 0 0),(1,aI),(5,.box 1 0),(7,.box 2 0),(15,aB)]) r r<|w_ch hx1 r (fun hb4 h4=>?_) (fun hb4 h4=>?_)
  ·
   exact w_skip<|e_j _ (sy h4) (w_weak [] 3 r r r r ⟨lr,lr,lr,lr,lr,trivial⟩ (st_r r (st_r r (st_r r st_nil))))
  ·
   refine w_sr<|mI r<|o_p r (p_eql r r)<|o_p r (p_fa tf45x1 r)<|o_p r (p_load (v:=aI) tv3 r r r)<|o_p r (p_eql r r)<|o_p r (p_bneq ti4 r r)<|sB r<|o_ek (fr':=[(0,.box 0 0),(1,aI),(5,.box 1 0),(7,.box 2 0),(15,aB)]) r r<|w_ch h4 r (fun hb5 h5=>?_) (fun hb5 h5=>?_)
   ·
    exact w_skip<|e_j _ (sy h5) (w_weak [] 3 r r r r ⟨lr,lr,lr,lr,lr,trivial⟩ (st_r r (st_r r (st_r r st_nil))))
   ·
    exact w_region<|mI r<|o_p r (p_eql r r)<|mB r<|og r r r (fun hc=>(p_fa tf45x1 r))<|og r r r (fun hc=>(p_load (v:=aI) tv3 (gx r hc) r r))<|og r r r (fun hc=>(p_neq (gx r hc) r))<|o_p r (p_picky r r r (fun e=>keq e))<|sB r<|o_end (fr':=[(0,.box 0 0),(1,aI),(5,.box 1 0),(7,.box 2 0),(15,aB)]) r<|e_j _ (sy h5) (w_weak [] 3 r r r r ⟨lr,lr,lr,lr,lr,trivial⟩ (st_r r (st_r r (st_r r st_nil))))
 ·
  intro j3 hj6
  subst hj6
  refine w_ch h2 r (fun hb7 h7=>?_) (fun hb7 h7=>?_)
  ·
   refine w_sr<|sB r<|o_ek (fr':=[(6,aB)]) r r<|w_ret<|e_blk_r<|e_seq_r ?_
   obtain rfl:=sy h7
   exact e_ret (rs':=[.tmp 6]) r<|r_tmp (v:=aB) r<|r_nil<|fin_gen [] r r r lr (st_c ⟨r,r,r,r,r,r,r,r,r,r,r,r,r,r,r,r,r,r,r,r,r,r,r,r,r,r,r,trivial⟩ st_nil)
  ·
   refine w_sr<|mI r<|o_p r (p_gtr r r)<|mB r<|og r r r (fun hc=>(p_fa tf45x1 r))<|og r r r (fun hc=>(p_load (v:=aI) tv3 (gx r hc) r r))<|og r r r (fun hc=>(p_eql (gx r hc) r))<|o_p r (p_picky r r r (fun e=>keq e))<|mB r<|og r r r (fun hc=>(p_fa tf45x1 r))<|og r r r (fun hc=>(p_load (v:=aI) tv3 (gx r hc) r r)) ?_
   obtain ⟨x9,hx9,h10⟩:=bind_s h7
   refine o_g r r (fun hc=>ov_call (v:=aB) r (w_history_closesActivity (gd_some hx9 hc)) ⟨(le_gv (gx r hc) lr),trivial⟩ (ok_eq (by repeat (first | exact ok_nil | refine ok_cons r ?_ | refine ok_cons (dgv r) ?_ | refine ok_cons dar ?_))) r r) ?_
   refine og r r r (fun hc=>(p_not (gx r hc)))<|og r r r (fun hc=>(p_move (v:=aB) (gx r hc)))<|o_gg r r (fun hc=>ov_p r (p_fa tf45x3 r))<|o_gg r r (fun hc=>ov_p r (p_load (v:=aI) tv3 (gx r hc) r r))<|o_gg r r (fun hc=>ov_p r (p_fa tf45x3 r))<|o_gg r r (fun hc=>ov_p r (p_load (v:=aI) tv3 (gx r hc) r r))<|o_gg r r (fun hc=>ov_p r (p_neq (gx r hc) (gx r hc)))<|og r r r (fun hc=>(p_pickz (gx r hc) r r (fun e=>band hc (keq e))))<|o_p r (p_picky r r r (fun e=>keq e))<|sB r<|o_ek (fr':=[(0,.box 0 0),(5,.box 1 0),(7,.box 2 0),(33,aB)]) r r<|w_ch h10 r (fun hb11 h11=>?_) (fun hb11 h11=>?_)
   ·
    refine w_sr<|sB r<|o_ek (fr':=[(6,aB)]) r r<|w_ret<|e_blk_r<|e_seq_r ?_
    obtain rfl:=sy h11
    exact e_ret (rs':=[.tmp 6]) r<|r_tmp (v:=aB) r<|r_nil<|fin_gen [] r r r lr (st_c ⟨r,r,r,r,r,r,r,r,r,r,r,r,r,r,r,r,r,r,r,r,r,r,r,r,r,r,r,trivial⟩ st_nil)
   ·
    refine w_skip<|e_blk_n<|e_kw<|w_sr<|mV (v:=.box 0 0) r<|o_p r (p_nc r)<|o_p r (p_fa tf50x0 r)<|o_p r (p_load (v:=aI) tv3 r r r)<|o_p r (p_eql r r)<|sB r<|o_ek (fr':=[(0,.box 0 0),(5,.box 1 0),(7,.box 2 0),(8,aB)]) r r<|w_seqw ?_
    refine w_region<|mV (v:=.box 0 0) r<|o_p r (p_loads (us:=aIIIIIIISSIISLLSIIIIIIIIL) tv45 r r r r) ?_
    obtain ⟨x13,hx13,h14⟩:=bind_s h11
    refine o_call (v:=.tup [aB,aB]) (σ':=[aIIIIIIIIISSIISLLSIIIIIIIILB,aIIIIIIISSIISLLSIIIIIIIIL,aIIIIIIISSIISLLSIIIIIIIIL]) [0] r (w_history_checker_step_v2 hx13) r r ⟨lr,(le_aggc r ⟨r,r,r,r,r,r,r,r,r,r,r,r,r,r,r,r,r,r,r,r,r,r,r,r,trivial⟩),trivial⟩ (st_c ⟨r,r,r,r,r,r,r,r,r,r,r,r,r,r,r,r,r,r,r,r,r,r,r,r,r,r,r,trivial⟩ st_nil) r r r<|mV (v:=.tup [aB,aB]) r<|o_p r (p_ex (v:=aB) r r)<|o_p r (p_ex (v:=aB) r r)<|sB r<|sB r<|o_ek (fr':=[(5,.box 1 0),(7,.box 2 0),(8,aB),(9,aB),(10,aB)]) r r<|w_seqw<|w_block<|w_sr<|mB r<|sB r ?_
    refine o_ek (fr':=[(5,.box 1 0),(7,.box 2 0),(8,aB),(9,aB),(65,aB)]) r r<|w_ch h14 r (fun hb15 h15=>?_) (fun hb15 h15=>?_)
    ·
     refine w_sr<|mB r<|sB r<|o_ek (fr':=[(6,aB)]) r r<|w_ret<|e_blk_r<|e_seq_r ?_
     obtain rfl:=sy h15
     exact e_ret (rs':=[.tmp 6]) r<|r_tmp (v:=aB) r<|r_nil<|fin_gen [] r r r lr (st_c ⟨r,r,r,r,r,r,r,r,r,r,r,r,r,r,r,r,r,r,r,r,r,r,r,r,r,r,r,trivial⟩ st_nil)
    ·
     refine w_sr<|mB r<|mB r<|og r r r (fun hc=>(p_fa tf45x1 r))<|og r r r (fun hc=>(p_load (v:=aI) tv3 (gx r hc) r r))<|og r r r (fun hc=>(p_neq (gx r hc) r))<|o_p r (p_picky r r r (fun e=>keq e))<|mB r<|og r r r (fun hc=>(p_fa tf45x1 r))<|og r r r (fun hc=>(p_load (v:=aI) tv3 (gx r hc) r r))<|og r r r (fun hc=>(p_neq (gx r hc) r))<|o_p r (p_picky r r r (fun e=>keq e)) ?_
     refine sB r<|o_ek (fr':=[(5,.box 1 0),(7,.box 2 0),(68,aB)]) r r<|w_ch h15 r (fun hb17 h17=>?_) (fun hb17 h17=>?_)
     ·
      refine w_sr<|sB r<|o_ek (fr':=[(6,aB)]) r r<|w_ret<|e_blk_r<|e_seq_r ?_
      obtain rfl:=sy h17
      exact e_ret (rs':=[.tmp 6]) r<|r_tmp (v:=aB) r<|r_nil<|fin_gen [] r r r lr (st_c ⟨r,r,r,r,r,r,r,r,r,r,r,r,r,r,r,r,r,r,r,r,r,r,r,r,r,r,r,trivial⟩ st_nil)
     ·
      refine w_sr<|o_p r (p_fa tf45x1 r)<|o_p r (p_load (v:=aI) tv3 r r r) ?_
      obtain ⟨x19,hx19,h20⟩:=bind_s h17
      refine o_v (ov_call (v:=aB) r (w_event_IsCommand hx19) ⟨lr,trivial⟩ r r r)<|sB r<|o_ek (fr':=[(7,.box 2 0),(80,aB)]) r r<|w_ch h20 r (fun hb21 h21=>?_) (fun hb21 h21=>?_)
      ·
       refine w_sr<|o_p r (p_fa tf45x1 r)<|o_p r (p_load (v:=aI) tv3 r r r)<|o_p r (p_eql r r)<|mB r<|og r r r (fun hc=>(p_fa tf45x1 r))<|og r r r (fun hc=>(p_load (v:=aI) tv3 (gx r hc) r r)) ?_
       obtain ⟨x22,hx22,h23⟩:=bind_s h21
       refine o_g r r (fun hc=>ov_call (v:=aB) r (w_event_IsCommand (gd_some hx22 hc)) ⟨(le_gv (gx r hc) lr),trivial⟩ (ok_eq (by repeat (first | exact ok_nil | refine ok_cons r ?_ | refine ok_cons (dgv r) ?_ | refine ok_cons dar ?_))) r r) ?_
       refine o_p r (p_pickz r r r (fun e=>keq e))<|sB r<|o_ek (fr':=[(6,aB)]) r r<|w_ret<|e_blk_r<|e_seq_r ?_
       obtain rfl:=sy h23
       exact e_ret (rs':=[.tmp 6]) r<|r_tmp (v:=aB) r<|r_nil<|fin_gen [] r r r lr (st_c ⟨r,r,r,r,r,r,r,r,r,r,r,r,r,r,r,r,r,r,r,r,r,r,r,r,r,r,r,trivial⟩ st_nil)
      ·
       refine w_skip<|e_blk_n<|e_kw<|w_sr<|sB r<|o_ek (fr':=[(6,aB)]) r r<|w_ret ?_
       obtain rfl:=sy h21
       exact e_ret (rs':=[.tmp 6]) r<|r_tmp (v:=aB) r<|r_nil<|fin_gen [] r r r lr (st_c ⟨r,r,r,r,r,r,r,r,r,r,r,r,r,r,r,r,r,r,r,r,r,r,r,r,r,r,r,trivial⟩ st_nil)
end Go.Proofs.YtmbdbdhdcbdcpaaGreatDoor

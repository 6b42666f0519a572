import Derived.Test.YtmbdbdhdcbdcpaaGreatDoorGATy
import Derived.Test.YtmbdbdhdcbdcpaaGreatDoorGAF0
import Derived.Test.YtmbdbdhdcbdcpaaGreatDoorGAF1
namespace Go.Proofs.YtmbdbdhdcbdcpaaGreatDoor
open Go Abs
set_option maxRecDepth 100000
set_option linter.unusedVariables false
set_option linter.unusedSimpArgs false
noncomputable def command_RightPolicy_l1 (p0o:ApiPolicy) (s8:Int):Option (Step Int (Fl Bool Unit)) :=
 cond (decide (s8<((([p0o.ToStart,p0o.ToClose,p0o.Total,p0o.Beat,p0o.First,p0o.Most]:List Int)).length:Int))) ((idx ([p0o.ToStart,p0o.ToClose,p0o.Total,p0o.Beat,p0o.First,p0o.Most]:List Int) s8).bind fun x10=>(command_in x10 (0:Int) (1099511627776:Int)).bind fun x12=>cond (!x12) (some (Step.out (Fl.done false))) (some (Step.next (IntKind.wrap .i64 (s8+(1:Int)))))) (some (Step.out (Fl.go ())))
noncomputable def command_RightPolicy (p0o:ApiPolicy):Option Bool :=
 (gd ((!decide (p0o.Queue=([]:List UInt8)))==true) (name_Right p0o.Queue)).bind fun x1=>cond (cond (cond (!decide (p0o.Queue=([]:List UInt8))) (!x1) false) true (decide ((64:Int)<((p0o.Fatal).length:Int)))) (some false) (((loopO (command_RightPolicy_l1 p0o) ((0:Int))):Option (Fl Bool Unit)).bind fun x5=>Fl.next x5 (fun j7=>((command_in p0o.Coef (0:Int) (10000:Int)).bind fun x20=>(gd (x20==true) (command_in p0o.Attempts (0:Int) (1000:Int))).bind fun x22=>(gd ((cond x20 x22 false)==true) (slices_ContainsFunc_string_string_command_RightPolicy_1 p0o.Fatal)).bind fun x24=>some (cond (cond x20 x22 false) (!x24) false))))
theorem w_command_RightPolicy {p0o:ApiPolicy}{res:Bool} (h:command_RightPolicy p0o=some res):ACalls Tryz.prog 80 [.agg (AV.cs (rowApiPolicy p0o))] [] (.c (.bool res)) []:=by
 unfold command_RightPolicy at h
 refine acalls (fn:=Tryz.f80) [0,1,2,4,19,32,33,34,35,40] (by kernel_rfl) Tryz.func80 r (by kernel_rfl) (by kernel_rfl)<|w_sr<|o_box (v:=.agg aSIIIIIIIIL) (n:=0) (cs:=aSIIIIIIIIL) (σ':=[aSIIIIIIIIL]) r r r r r<|sB r<|o_ek (fr':=[(1,.box 0 0)]) r r<|w_seqw<|w_sr<|o_p r (p_fa tf43x0 r)<|o_p r (p_load (v:=aS) tv9 r r r)<|o_p r (p_sneq r r)<|mB r ?_
 refine og r r r (fun hc=>(p_fa tf43x0 r))<|og r r r (fun hc=>(p_load (v:=aS) tv9 (gx r hc) r r)) ?_
 obtain ⟨x1,hx1,h2⟩:=bind_s h
 refine o_g r r (fun hc=>ov_call (v:=aB) r (w_name_Right (gd_some hx1 hc)) ⟨(le_gv (gx r hc) lr),trivial⟩ (ok_eq (by repeat (first | exact ok_nil | refine ok_cons r ?_ | refine ok_cons (dgv r) ?_ | refine ok_cons dar ?_))) r r) ?_
 refine og r r r (fun hc=>(p_not (gx r hc)))<|o_p r (p_picky r r r (fun e=>keq e))<|mB r<|og r r r (fun hc=>(p_fa tf43x9 r))<|og r r r (fun hc=>(p_load (v:=aL) tv39 (gx r hc) r r))<|og r r r (fun hc=>(p_len ti39 (isl_c (gx r hc))))<|og r r r (fun hc=>(p_gtr (gx r hc) r))<|o_p r (p_pickz r r r (fun e=>keq e))<|o_ek (fr':=[(1,.box 0 0),(19,aB)]) r r<|w_ch h2 r (fun hb3 h3=>?_) (fun hb3 h3=>?_)
 ·
  refine w_sr<|sB r<|o_ek (fr':=[(2,aB)]) r r<|w_ret<|e_seq_r ?_
  obtain rfl:=sy h3
  exact e_ret (rs':=[.tmp 2]) r<|r_tmp (v:=aB) r<|r_nil<|fin_gen [] r r r lr st_nil
 ·
  refine w_skip<|e_kw<|w_seqw<|w_sr<|o_p r (p_fa tf43x1 r)<|o_p r (p_load (v:=aI) tv3 r r r)<|o_p r (p_fa tf43x2 r)<|o_p r (p_load (v:=aI) tv3 r r r)<|o_p r (p_fa tf43x3 r)<|o_p r (p_load (v:=aI) tv3 r r r)<|o_p r (p_fa tf43x4 r)<|o_p r (p_load (v:=aI) tv3 r r r) ?_
  refine o_p r (p_fa tf43x5 r)<|o_p r (p_load (v:=aI) tv3 r r r)<|o_p r (p_fa tf43x7 r)<|o_p r (p_load (v:=aI) tv3 r r r)<|o_rows (row:=(rowI .i64)) (xs:=([p0o.ToStart,p0o.ToClose,p0o.Total,p0o.Beat,p0o.First,p0o.Most]:List Int)) (rows:=[[_],[_],[_],[_],[_],[_]]) (σ':=[aSIIIIIIIIL]) [0] ts103 r r r (arow_cons r (arow_cons r (arow_cons r (arow_cons r (arow_cons r (arow_cons r arow_nil)))))) r r<|o_p r (p_len ti103 (isl_o r))<|mI r<|o_ek (fr':=[(1,.box 0 0),(32,aO),(33,aI),(34,aI)]) r r ?_
  obtain ⟨x5,hx5,h6⟩:=bind_s h3
  refine w_jtail cl_kw (fun j7=>x5=Fl.go j7) (fun (j7:Unit)=>([(1,.box 0 0)]:Fr)) (fun (j7:Unit)=>([[.c (.str p0o.Queue),.c (.int .i64 p0o.ToStart),.c (.int .i64 p0o.ToClose),.c (.int .i64 p0o.Total),.c (.int .i64 p0o.Beat),.c (.int .i64 p0o.First),.c (.int .i64 p0o.Coef),.c (.int .i64 p0o.Most),.c (.int .i64 p0o.Attempts),.c (PV.ls 1 rowS p0o.Fatal)]]:St)) ?_ ?_
  ·
   refine w_block<|w_loopo _ (fun (s8:Int)=>([(1,.box 0 0),(32,AV.os 0 1 (rowI .i64) ([p0o.ToStart,p0o.ToClose,p0o.Total,p0o.Beat,p0o.First,p0o.Most]:List Int)),(33,.c (.int .i64 ((([p0o.ToStart,p0o.ToClose,p0o.Total,p0o.Beat,p0o.First,p0o.Most]:List Int)).length:Int))),(34,.c (.int .i64 s8))]:Fr)) (fun (s8:Int)=>([[.c (.str p0o.Queue),.c (.int .i64 p0o.ToStart),.c (.int .i64 p0o.ToClose),.c (.int .i64 p0o.Total),.c (.int .i64 p0o.Beat),.c (.int .i64 p0o.First),.c (.int .i64 p0o.Coef),.c (.int .i64 p0o.Most),.c (.int .i64 p0o.Attempts),.c (PV.ls 1 rowS p0o.Fatal)]]:St)) hx5 (w_weak [512] 1 r r r r ⟨lr,lr,lr,lr,trivial⟩ (st_r r st_nil)) ?_
   intro s8 st8 hs8 ho8
   unfold command_RightPolicy_l1 at hs8
   refine w_sr<|o_p r (p_lss r r)<|o_ek (fr':=[(1,.box 0 0),(32,aO),(33,aI),(34,aI),(35,aB)]) r r<|w_seqw<|w_ch hs8 r (fun hb9 h9=>?_) (fun hb9 h9=>?_)
   ·
    refine w_skip<|e_kw<|w_seqw<|w_block<|w_seqw<|w_region ?_
    obtain ⟨x10,hx10,h11⟩:=bind_s h9
    refine o_p r (p_ia (cs:=[PV.int _ _]) ts103 (isl_o r) r hx10 r)<|o_p r (p_loade (p:=PV.int _ _) tv3 r r)<|sI r<|o_ek (fr':=[(1,.box 0 0),(4,aI),(32,aO),(33,aI),(34,aI)]) r r<|w_sr<|mI r ?_
    obtain ⟨x12,hx12,h13⟩:=bind_s h11
    refine o_v (ov_call (v:=aB) r (w_command_in hx12) ⟨lr,lr,lr,trivial⟩ r r r)<|o_p r (p_not r)<|o_ek (fr':=[(1,.box 0 0),(32,aO),(33,aI),(34,aI),(40,aB)]) r r<|w_ch h13 r (fun hb14 h14=>?_) (fun hb14 h14=>?_)
    ·
     refine w_sr<|sB r<|o_ek (fr':=[(2,aB)]) r r<|w_ret<|e_blk_r<|e_seq_r<|e_seq_r<|e_blk_r<|e_seq_r<|e_seq_r ?_
     have h15:=un_out h14 ho8
     have h16:=un_done h15 h6
     obtain rfl:=sy h16
     exact e_ret (rs':=[.tmp 2]) r<|r_tmp (v:=aB) r<|r_nil<|fin_gen [] r r r lr st_nil
    ·
     exact w_skip<|e_blk_n<|e_kw<|w_region<|o_p r (p_add r r)<|mI r<|o_end (fr':=[(1,.box 0 0),(32,aO),(33,aI),(34,aI),(40,aB)]) r<|e_l _ (sy h14) (w_weak [0] 1 r r r r ⟨lr,lr,lr,lr,trivial⟩ (st_r r st_nil))
   ·
    refine w_exit<|e_seq_x<|e_seq_x<|e_blk_h ?_
    have h18:=un_out h9 ho8
    exact e_j _ (sy h18) (w_weak [] 1 r r r r ⟨lr,trivial⟩ (st_r r st_nil))
  ·
   intro j7 hj19
   have h19:=un_go hj19 h6
   refine e_kw<|w_sr<|o_p r (p_fa tf43x6 r)<|o_p r (p_load (v:=aI) tv3 r r r) ?_
   obtain ⟨x20,hx20,h21⟩:=bind_s h19
   refine o_v (ov_call (v:=aB) r (w_command_in hx20) ⟨lr,lr,lr,trivial⟩ r r r)<|mB r<|og r r r (fun hc=>(p_fa tf43x8 r))<|og r r r (fun hc=>(p_load (v:=aI) tv3 (gx r hc) r r)) ?_
   obtain ⟨x22,hx22,h23⟩:=bind_s h21
   refine o_g r r (fun hc=>ov_call (v:=aB) r (w_command_in (gd_some hx22 hc)) ⟨(le_gv (gx r hc) lr),lr,lr,trivial⟩ (ok_eq (by repeat (first | exact ok_nil | refine ok_cons r ?_ | refine ok_cons (dgv r) ?_ | refine ok_cons dar ?_))) r r) ?_
   refine o_p r (p_picky r r r (fun e=>keq e))<|mB r<|og r r r (fun hc=>(p_fa tf43x9 r))<|og r r r (fun hc=>(p_load (v:=aL) tv39 (gx r hc) r r)) ?_
   obtain ⟨x24,hx24,h25⟩:=bind_s h23
   refine o_g r r (fun hc=>ov_call (v:=aB) r (w_slices_ContainsFunc_string_string_command_RightPolicy_1 (gd_some hx24 hc)) ⟨(le_gv (gx r hc) lr),lr,trivial⟩ (ok_eq (by repeat (first | exact ok_nil | refine ok_cons r ?_ | refine ok_cons (dgv r) ?_ | refine ok_cons dar ?_))) r r) ?_
   refine og r r r (fun hc=>(p_not (gx r hc)))<|o_p r (p_picky r r r (fun e=>keq e))<|sB r<|o_ek (fr':=[(2,aB)]) r r<|w_ret ?_
   obtain rfl:=sy h25
   exact e_ret (rs':=[.tmp 2]) r<|r_tmp (v:=aB) r<|r_nil<|fin_gen [] r r r lr st_nil
noncomputable def command_ident_l1 (p0s:(List UInt8)) (s4:Int):Option (Step Int (Fl Bool Unit)) :=
 cond (decide (s4<((p0s).length:Int))) ((idx p0s s4).bind fun x6=>(gd ((decide (((x6).toNat:Int)<(33:Int)))==false) (idx p0s s4)).bind fun x8=>(gd ((cond (decide (((x6).toNat:Int)<(33:Int))) true (decide ((126:Int)<((x8).toNat:Int))))==false) (idx p0s s4)).bind fun x10=>(gd ((cond (cond (decide (((x6).toNat:Int)<(33:Int))) true (decide ((126:Int)<((x8).toNat:Int)))) true (decide (((x10).toNat:Int)=(47:Int))))==false) (idx p0s s4)).bind fun x12=>cond (cond (cond (cond (decide (((x6).toNat:Int)<(33:Int))) true (decide ((126:Int)<((x8).toNat:Int)))) true (decide (((x10).toNat:Int)=(47:Int)))) true (decide (((x12).toNat:Int)=(34:Int)))) (some (Step.out (Fl.done false))) (some (Step.next (IntKind.wrap .i64 (s4+(1:Int)))))) (some (Step.out (Fl.go ())))
noncomputable def command_ident (p0s:(List UInt8)):Option Bool :=
 ((loopO (command_ident_l1 p0s) ((0:Int))):Option (Fl Bool Unit)).bind fun x1=>Fl.next x1 (fun j3=>((command_in ((p0s).length:Int) (1:Int) (64:Int)).bind fun x20=>some x20))
theorem w_command_ident {p0s:(List UInt8)}{res:Bool} (h:command_ident p0s=some res):ACalls Tryz.prog 81 [.c (.str p0s)] [] (.c (.bool res)) []:=by
 unfold command_ident at h
 refine acalls (fn:=Tryz.f81) [0,2,3,5,6,7,30] (by kernel_rfl) Tryz.func81 r (by kernel_rfl) (by kernel_rfl)<|w_sr<|sB r<|o_ek (fr':=[(0,aS)]) r r<|w_seqw<|w_sr<|mS r<|o_p r (p_lens ti9 r)<|mI r<|o_ek (fr':=[(0,aS),(5,aI),(6,aI)]) r r ?_
 obtain ⟨x1,hx1,h2⟩:=bind_s h
 refine w_jtail cl_kw (fun j3=>x1=Fl.go j3) (fun (j3:Unit)=>([(0,.c (.str p0s))]:Fr)) (fun (j3:Unit)=>([]:St)) ?_ ?_
 ·
  refine w_block<|w_loopo _ (fun (s4:Int)=>([(0,.c (.str p0s)),(5,.c (.int .i64 ((p0s).length:Int))),(6,.c (.int .i64 s4))]:Fr)) (fun (s4:Int)=>([]:St)) hx1 (w_weak [] 0 r r r r ⟨lr,lr,lr,trivial⟩ st_nil) ?_
  intro s4 st4 hs4 ho4
  unfold command_ident_l1 at hs4
  refine w_sr<|o_p r (p_lss r r)<|o_ek (fr':=[(0,aS),(5,aI),(6,aI),(7,aB)]) r r<|w_seqw<|w_ch hs4 r (fun hb5 h5=>?_) (fun hb5 h5=>?_)
  ·
   refine w_skip<|e_kw<|w_seqw<|w_block<|w_sr<|mI r<|sI r<|o_ek (fr':=[(0,aS),(3,aI),(5,aI),(6,aI)]) r r<|w_sr<|mS r<|mI r ?_
   obtain ⟨x6,hx6,h7⟩:=bind_s h5
   refine o_p r (p_is ti9 r r hx6)<|o_p r (p_lss r r)<|mB r<|og r r r (fun hc=>(p_move (v:=aS) r))<|og r r r (fun hc=>(p_move (v:=aI) r)) ?_
   obtain ⟨x8,hx8,h9⟩:=bind_s h7
   refine og r r r (fun hc=>(p_is ti9 (gx r hc) (gx r hc) (gd_some hx8 hc)))<|og r r r (fun hc=>(p_gtr (gx r hc) r))<|o_p r (p_pickz r r r (fun e=>keq e))<|mB r<|og r r r (fun hc=>(p_move (v:=aS) r))<|og r r r (fun hc=>(p_move (v:=aI) r)) ?_
   obtain ⟨x10,hx10,h11⟩:=bind_s h9
   refine og r r r (fun hc=>(p_is ti9 (gx r hc) (gx r hc) (gd_some hx10 hc)))<|og r r r (fun hc=>(p_eql (gx r hc) r))<|o_p r (p_pickz r r r (fun e=>keq e))<|mB r<|og r r r (fun hc=>(p_move (v:=aS) r))<|og r r r (fun hc=>(p_move (v:=aI) r)) ?_
   obtain ⟨x12,hx12,h13⟩:=bind_s h11
   refine og r r r (fun hc=>(p_is ti9 (gx r hc) (gx r hc) (gd_some hx12 hc)))<|og r r r (fun hc=>(p_eql (gx r hc) r))<|o_p r (p_pickz r r r (fun e=>keq e))<|o_ek (fr':=[(0,aS),(5,aI),(6,aI),(30,aB)]) r r<|w_ch h13 r (fun hb14 h14=>?_) (fun hb14 h14=>?_)
   ·
    refine w_sr<|sB r<|o_ek (fr':=[(2,aB)]) r r<|w_ret<|e_blk_r<|e_seq_r<|e_seq_r<|e_blk_r<|e_seq_r<|e_seq_r ?_
    have h15:=un_out h14 ho4
    have h16:=un_done h15 h2
    obtain rfl:=sy h16
    exact e_ret (rs':=[.tmp 2]) r<|r_tmp (v:=aB) r<|r_nil<|fin_gen [] r r r lr st_nil
   ·
    exact w_skip<|e_blk_n<|e_kw<|w_region<|o_p r (p_add r r)<|mI r<|o_end (fr':=[(0,aS),(5,aI),(6,aI),(30,aB)]) r<|e_l _ (sy h14) (w_weak [] 0 r r r r ⟨lr,lr,lr,trivial⟩ st_nil)
  ·
   refine w_exit<|e_seq_x<|e_seq_x<|e_blk_h ?_
   have h18:=un_out h5 ho4
   exact e_j _ (sy h18) (w_weak [] 0 r r r r ⟨lr,trivial⟩ st_nil)
 ·
  intro j3 hj19
  have h19:=un_go hj19 h2
  refine e_kw<|w_sr<|mS r<|o_p r (p_lens ti9 r) ?_
  obtain ⟨x20,hx20,h21⟩:=bind_s h19
  refine o_v (ov_call (v:=aB) r (w_command_in hx20) ⟨lr,lr,lr,trivial⟩ r r r)<|sB r<|o_ek (fr':=[(2,aB)]) r r<|w_ret ?_
  obtain rfl:=sy h21
  exact e_ret (rs':=[.tmp 2]) r<|r_tmp (v:=aB) r<|r_nil<|fin_gen [] r r r lr st_nil
noncomputable def command_input_1 (p0x:ApiValue):Option Bool :=
 (gd ((cond (!decide (p0x.Kind=(4:Int))) true (!decide (((p0x.Items).length:Int)=(2:Int))))==false) (idx p0x.Items (0:Int))).bind fun x1=>(gd ((cond (cond (!decide (p0x.Kind=(4:Int))) true (!decide (((p0x.Items).length:Int)=(2:Int)))) true (!decide (x1.Kind=(3:Int))))==false) (idx p0x.Items (0:Int))).bind fun x3=>(gd ((cond (cond (!decide (p0x.Kind=(4:Int))) true (!decide (((p0x.Items).length:Int)=(2:Int)))) true (!decide (x1.Kind=(3:Int))))==false) (name_Right x3.Text)).bind fun x5=>some (cond (cond (cond (!decide (p0x.Kind=(4:Int))) true (!decide (((p0x.Items).length:Int)=(2:Int)))) true (!decide (x1.Kind=(3:Int)))) true (!x5))
theorem w_command_input_1 {p0x:ApiValue}{res:Bool} (h:command_input_1 p0x=some res):ACalls Tryz.prog 111 [.agg (AV.cs (exApiValue p0x))] [] (.c (.bool res)) []:=by
 unfold command_input_1 at h
 refine acalls (fn:=Tryz.f111) [0,1,2] (by kernel_rfl) Tryz.func111 r (by kernel_rfl) (by kernel_rfl)<|w_sr<|o_box (v:=.agg aIISLL) (n:=0) (cs:=aIISLL) (σ':=[aIISLL]) r r r r r<|sB r<|o_ek (fr':=[(1,.box 0 0)]) r r<|w_sr<|o_p r (p_fa tf41x0 r)<|o_p r (p_load (v:=aI) tv3 r r r)<|o_p r (p_neq r r)<|mB r<|og r r r (fun hc=>(p_fa tf41x3 r)) ?_
 refine og r r r (fun hc=>(p_load (v:=aL) tv38 (gx r hc) r r))<|og r r r (fun hc=>(p_len ti38 (isl_c (gx r hc))))<|og r r r (fun hc=>(p_neq (gx r hc) r))<|o_p r (p_pickz r r r (fun e=>keq e))<|mB r<|og r r r (fun hc=>(p_fa tf41x3 r))<|og r r r (fun hc=>(p_load (v:=aL) tv38 (gx r hc) r r)) ?_
 obtain ⟨x1,hx1,h2⟩:=bind_s h
 refine og r r r (fun hc=>(p_ia (cs:=[PV.int _ _,PV.int _ _,PV.str _,PV.ls _ _ _,PV.ls _ _ _]) ts38 (isl_c (gx r hc)) r (gd_some hx1 hc) (rowApiValue_eq _)))<|og r r r (fun hc=>(p_fae tf41x0 (gx r hc)))<|og r r r (fun hc=>(p_loade (p:=PV.int _ _) tv3 (gx r hc) r))<|og r r r (fun hc=>(p_neq (gx r hc) r))<|o_p r (p_pickz r r r (fun e=>keq e))<|mB r<|og r r r (fun hc=>(p_fa tf41x3 r))<|og r r r (fun hc=>(p_load (v:=aL) tv38 (gx r hc) r r)) ?_
 obtain ⟨x3,hx3,h4⟩:=bind_s h2
 refine og r r r (fun hc=>(p_ia (cs:=[PV.int _ _,PV.int _ _,PV.str _,PV.ls _ _ _,PV.ls _ _ _]) ts38 (isl_c (gx r hc)) r (gd_some hx3 hc) (rowApiValue_eq _)))<|og r r r (fun hc=>(p_fae tf41x2 (gx r hc)))<|og r r r (fun hc=>(p_loade (p:=PV.str _) tv9 (gx r hc) r)) ?_
 obtain ⟨x5,hx5,h6⟩:=bind_s h4
 refine o_g r r (fun hc=>ov_call (v:=aB) r (w_name_Right (gd_some hx5 hc)) ⟨(le_gv (gx r hc) lr),trivial⟩ (ok_eq (by repeat (first | exact ok_nil | refine ok_cons r ?_ | refine ok_cons (dgv r) ?_ | refine ok_cons dar ?_))) r r) ?_
 refine og r r r (fun hc=>(p_not (gx r hc)))<|o_p r (p_pickz r r r (fun e=>keq e))<|sB r<|o_ek (fr':=[(2,aB)]) r r<|w_ret ?_
 obtain rfl:=sy h6
 exact e_ret (rs':=[.tmp 2]) r<|r_tmp (v:=aB) r<|r_nil<|fin_gen [] r r r lr st_nil
noncomputable def slices_IndexFunc_api_Value_api_Value_command_input_1_l1 (p0s:(List ApiValue)) (s4:Int):Option (Step Int (Fl Int Unit)) :=
 cond (decide (s4<((p0s).length:Int))) ((idx p0s s4).bind fun x6=>(command_input_1 x6).bind fun x8=>cond x8 (some (Step.out (Fl.done s4))) (some (Step.next (IntKind.wrap .i64 (s4+(1:Int)))))) (some (Step.out (Fl.go ())))
noncomputable def slices_IndexFunc_api_Value_api_Value_command_input_1 (p0s:(List ApiValue)):Option Int :=
 ((loopO (slices_IndexFunc_api_Value_api_Value_command_input_1_l1 p0s) ((0:Int))):Option (Fl Int Unit)).bind fun x1=>Fl.next x1 (fun j3=>(some (-1:Int)))
theorem w_slices_IndexFunc_api_Value_api_Value_command_input_1 {p0s:(List ApiValue)}{res:Int} (h:slices_IndexFunc_api_Value_api_Value_command_input_1 p0s=some res):ACalls Tryz.prog 98 [.c (PV.ls 5 rowApiValue p0s),.fn 111 []] [] (.c (.int .i64 res)) []:=by
 unfold slices_IndexFunc_api_Value_api_Value_command_input_1 at h
 refine acalls (fn:=Tryz.f98) [0,1,4,5,7,8,9,16] (by kernel_rfl) Tryz.func98 r (by kernel_rfl) (by kernel_rfl)<|w_sr<|sI r<|o_ek (fr':=[(0,aL),(1,.fn _ [])]) r r<|w_seqw<|w_sr<|mL r<|o_p r (p_len ti38 (isl_c r))<|mI r<|o_ek (fr':=[(0,aL),(1,.fn _ []),(7,aI),(8,aI)]) r r ?_
 obtain ⟨x1,hx1,h2⟩:=bind_s h
 refine w_jtail cl_kw (fun j3=>x1=Fl.go j3) (fun (j3:Unit)=>([]:Fr)) (fun (j3:Unit)=>([]:St)) ?_ ?_
 ·
  refine w_block<|w_loopo _ (fun (s4:Int)=>([(0,.c (PV.ls 5 rowApiValue p0s)),(1,.fn 111 []),(7,.c (.int .i64 ((p0s).length:Int))),(8,.c (.int .i64 s4))]:Fr)) (fun (s4:Int)=>([]:St)) hx1 (w_weak [] 0 r r r r ⟨lr,lr,lr,lr,trivial⟩ st_nil) ?_
  intro s4 st4 hs4 ho4
  unfold slices_IndexFunc_api_Value_api_Value_command_input_1_l1 at hs4
  refine w_sr<|o_p r (p_lss r r)<|o_ek (fr':=[(0,aL),(1,.fn _ []),(7,aI),(8,aI),(9,aB)]) r r<|w_seqw<|w_ch hs4 r (fun hb5 h5=>?_) (fun hb5 h5=>?_)
  ·
   refine w_skip<|e_kw<|w_seqw<|w_block<|w_sr<|mI r<|sI r<|o_ek (fr':=[(0,aL),(1,.fn _ []),(5,aI),(7,aI),(8,aI)]) r r<|w_sr<|mV (v:=.fn _ []) r<|mL r ?_
   refine mI r ?_
   obtain ⟨x6,hx6,h7⟩:=bind_s h5
   refine o_p r (p_ia (cs:=[PV.int _ _,PV.int _ _,PV.str _,PV.ls _ _ _,PV.ls _ _ _]) ts38 (isl_c r) r hx6 (rowApiValue_eq _))<|o_p r (p_loades (us:=[PV.int _ _,PV.int _ _,PV.str _,PV.ls _ _ _,PV.ls _ _ _]) tv41 r r r) ?_
   obtain ⟨x8,hx8,h9⟩:=bind_s h7
   refine o_v (ov_call (v:=aB) r (w_command_input_1 hx8) ⟨(le_aggc r ⟨r,r,r,r,r,trivial⟩),trivial⟩ r r r)<|o_ek (fr':=[(0,aL),(1,.fn _ []),(5,aI),(7,aI),(8,aI),(16,aB)]) r r<|w_ch h9 r (fun hb10 h10=>?_) (fun hb10 h10=>?_)
   ·
    refine w_sr<|mI r<|sI r<|o_ek (fr':=[(4,aI)]) r r<|w_ret<|e_blk_r<|e_seq_r<|e_seq_r<|e_blk_r<|e_seq_r<|e_seq_r ?_
    have h11:=un_out h10 ho4
    have h12:=un_done h11 h2
    obtain rfl:=sy h12
    exact e_ret (rs':=[.tmp 4]) r<|r_tmp (v:=aI) r<|r_nil<|fin_gen [] r r r lr st_nil
   ·
    exact w_skip<|e_blk_n<|e_kw<|w_region<|o_p r (p_add r r)<|mI r<|o_end (fr':=[(0,aL),(1,.fn _ []),(5,aI),(7,aI),(8,aI),(16,aB)]) r<|e_l _ (sy h10) (w_weak [] 0 r r r r ⟨lr,lr,lr,lr,trivial⟩ st_nil)
  ·
   refine w_exit<|e_seq_x<|e_seq_x<|e_blk_h ?_
   have h14:=un_out h5 ho4
   exact e_j _ (sy h14) (w_weak [] 0 r r r r trivial st_nil)
 ·
  intro j3 hj15
  have h15:=un_go hj15 h2
  refine e_kw<|w_sr<|sI r<|o_ek (fr':=[(4,aI)]) r r<|w_ret ?_
  obtain rfl:=sy h15
  exact e_ret (rs':=[.tmp 4]) r<|r_tmp (v:=aI) r<|r_nil<|fin_gen [] r r r lr st_nil
noncomputable def slices_ContainsFunc_api_Value_api_Value_command_input_1 (p0s:(List ApiValue)):Option Bool :=
 (slices_IndexFunc_api_Value_api_Value_command_input_1 p0s).bind fun x1=>some (decide ((0:Int)≤x1))
theorem w_slices_ContainsFunc_api_Value_api_Value_command_input_1 {p0s:(List ApiValue)}{res:Bool} (h:slices_ContainsFunc_api_Value_api_Value_command_input_1 p0s=some res):ACalls Tryz.prog 75 [.c (PV.ls 5 rowApiValue p0s),.fn 111 []] [] (.c (.bool res)) []:=by
 unfold slices_ContainsFunc_api_Value_api_Value_command_input_1 at h
 refine acalls (fn:=Tryz.f75) [0,1,4] (by kernel_rfl) Tryz.func75 r (by kernel_rfl) (by kernel_rfl)<|w_sr<|sB r<|o_ek (fr':=[(0,aL),(1,.fn _ [])]) r r<|w_sr<|mL r<|mV (v:=.fn _ []) r ?_
 obtain ⟨x1,hx1,h2⟩:=bind_s h
 refine o_v (ov_call (v:=aI) r (w_slices_IndexFunc_api_Value_api_Value_command_input_1 hx1) ⟨lr,lr,trivial⟩ r r r)<|o_p r (p_geq r r)<|sB r<|o_ek (fr':=[(4,aB)]) r r<|w_ret ?_
 obtain rfl:=sy h2
 exact e_ret (rs':=[.tmp 4]) r<|r_tmp (v:=aB) r<|r_nil<|fin_gen [] r r r lr st_nil
noncomputable def command_input (p0v:ApiValue):Option Bool :=
 (gd ((cond (!decide (p0v.Kind=(4:Int))) true (!decide (((p0v.Items).length:Int)=(2:Int))))==false) (idx p0v.Items (1:Int))).bind fun x1=>cond (cond (cond (!decide (p0v.Kind=(4:Int))) true (!decide (((p0v.Items).length:Int)=(2:Int)))) true (!decide (x1.Kind=(4:Int)))) (some false) ((idx p0v.Items (1:Int)).bind fun x5=>(slices_ContainsFunc_api_Value_api_Value_command_input_1 x5.Items).bind fun x7=>some (!x7))
theorem w_command_input {p0v:ApiValue}{res:Bool} (h:command_input p0v=some res):ACalls Tryz.prog 100 [.agg (AV.cs (exApiValue p0v))] [] (.c (.bool res)) []:=by
 unfold command_input at h
 refine acalls (fn:=Tryz.f100) [0,1,2,19] (by kernel_rfl) Tryz.func100 r (by kernel_rfl) (by kernel_rfl)<|w_sr<|o_box (v:=.agg aIISLL) (n:=0) (cs:=aIISLL) (σ':=[aIISLL]) r r r r r<|sB r<|o_ek (fr':=[(1,.box 0 0)]) r r<|w_seqw<|w_sr<|o_p r (p_fa tf41x0 r)<|o_p r (p_load (v:=aI) tv3 r r r)<|o_p r (p_neq r r)<|mB r ?_
 refine og r r r (fun hc=>(p_fa tf41x3 r))<|og r r r (fun hc=>(p_load (v:=aL) tv38 (gx r hc) r r))<|og r r r (fun hc=>(p_len ti38 (isl_c (gx r hc))))<|og r r r (fun hc=>(p_neq (gx r hc) r))<|o_p r (p_pickz r r r (fun e=>keq e))<|mB r<|og r r r (fun hc=>(p_fa tf41x3 r))<|og r r r (fun hc=>(p_load (v:=aL) tv38 (gx r hc) r r)) ?_
 obtain ⟨x1,hx1,h2⟩:=bind_s h
 refine og r r r (fun hc=>(p_ia (cs:=[PV.int _ _,PV.int _ _,PV.str _,PV.ls _ _ _,PV.ls _ _ _]) ts38 (isl_c (gx r hc)) r (gd_some hx1 hc) (rowApiValue_eq _)))<|og r r r (fun hc=>(p_fae tf41x0 (gx r hc)))<|og r r r (fun hc=>(p_loade (p:=PV.int _ _) tv3 (gx r hc) r))<|og r r r (fun hc=>(p_neq (gx r hc) r))<|o_p r (p_pickz r r r (fun e=>keq e))<|o_ek (fr':=[(1,.box 0 0),(19,aB)]) r r<|w_ch h2 r (fun hb3 h3=>?_) (fun hb3 h3=>?_)
 ·
  refine w_sr<|sB r<|o_ek (fr':=[(2,aB)]) r r<|w_ret<|e_seq_r ?_
  obtain rfl:=sy h3
  exact e_ret (rs':=[.tmp 2]) r<|r_tmp (v:=aB) r<|r_nil<|fin_gen [] r r r lr st_nil
 ·
  refine w_skip<|e_kw<|w_sr<|o_p r (p_fa tf41x3 r)<|o_p r (p_load (v:=aL) tv38 r r r) ?_
  obtain ⟨x5,hx5,h6⟩:=bind_s h3
  refine o_p r (p_ia (cs:=[PV.int _ _,PV.int _ _,PV.str _,PV.ls _ _ _,PV.ls _ _ _]) ts38 (isl_c r) r hx5 (rowApiValue_eq _))<|o_p r (p_fae tf41x3 r)<|o_p r (p_loade (p:=PV.ls _ _ _) tv38 r r) ?_
  obtain ⟨x7,hx7,h8⟩:=bind_s h6
  refine o_v (ov_call (v:=aB) r (w_slices_ContainsFunc_api_Value_api_Value_command_input_1 hx7) ⟨lr,lr,trivial⟩ r r r)<|o_p r (p_not r)<|sB r<|o_ek (fr':=[(2,aB)]) r r<|w_ret ?_
  obtain rfl:=sy h8
  exact e_ret (rs':=[.tmp 2]) r<|r_tmp (v:=aB) r<|r_nil<|fin_gen [] r r r lr st_nil
noncomputable def command_number (p0c:ApiCommand):Option Bool :=
 cond (decide (p0c.Kind=(3:Int))) ((command_in p0c.N (1:Int) (1099511627776:Int)).bind fun x2=>some x2) (cond (decide (p0c.Kind=(5:Int))) ((command_in p0c.N (0:Int) (2:Int)).bind fun x6=>some x6) (cond (decide (p0c.Kind=(9:Int))) ((command_in p0c.N (0:Int) (1:Int)).bind fun x10=>some x10) (cond (decide (p0c.Kind=(7:Int))) ((gd ((decide (p0c.N=(-1:Int)))==false) (command_in p0c.N (0:Int) (2147483647:Int))).bind fun x14=>some (cond (decide (p0c.N=(-1:Int))) true (cond x14 (decide (p0c.Data.Kind=(0:Int))) false))) (cond (decide (p0c.Kind=(10:Int))) (some (decide (p0c.Data.Kind=(5:Int)))) (cond (decide (p0c.Kind=(14:Int))) ((command_input p0c.Data).bind fun x20=>some x20) (some true))))))
theorem w_command_number {p0c:ApiCommand}{res:Bool} (h:command_number p0c=some res):ACalls Tryz.prog 82 [.agg (AV.cs (rowApiCommand p0c))] [] (.c (.bool res)) []:=by
 unfold command_number at h
 refine acalls (fn:=Tryz.f82) [0,1,2,4,5,10,15,20,36,42] (by kernel_rfl) Tryz.func82 r (by kernel_rfl) (by kernel_rfl)<|w_sr<|o_box (v:=.agg aIISSIIISLLSIIIIIIIIL) (n:=0) (cs:=aIISSIIISLLSIIIIIIIIL) (σ':=[aIISSIIISLLSIIIIIIIIL]) r r r r r<|sB r<|o_ek (fr':=[(1,.box 0 0)]) r r<|w_seqw<|w_sr<|o_p r (p_fa tf70x0 r)<|o_p r (p_load (v:=aI) tv3 r r r)<|o_ek (fr':=[(1,.box 0 0),(4,aI)]) r r<|w_block ?_
 refine w_sr<|o_p r (p_eql r r)<|sB r<|o_ek (fr':=[(1,.box 0 0),(4,aI),(5,aB)]) r r<|w_ch h r (fun hb1 h1=>?_) (fun hb1 h1=>?_)
 ·
  refine w_sr<|o_p r (p_fa tf70x4 r)<|o_p r (p_load (v:=aI) tv3 r r r) ?_
  obtain ⟨x2,hx2,h3⟩:=bind_s h1
  refine o_v (ov_call (v:=aB) r (w_command_in hx2) ⟨lr,lr,lr,trivial⟩ r r r)<|sB r<|o_ek (fr':=[(2,aB)]) r r<|w_ret<|e_blk_r<|e_seq_r ?_
  obtain rfl:=sy h3
  exact e_ret (rs':=[.tmp 2]) r<|r_tmp (v:=aB) r<|r_nil<|fin_gen [] r r r lr st_nil
 ·
  refine w_sr<|o_p r (p_eql r r)<|sB r<|o_ek (fr':=[(1,.box 0 0),(4,aI),(10,aB)]) r r<|w_ch h1 r (fun hb5 h5=>?_) (fun hb5 h5=>?_)
  ·
   refine w_sr<|o_p r (p_fa tf70x4 r)<|o_p r (p_load (v:=aI) tv3 r r r) ?_
   obtain ⟨x6,hx6,h7⟩:=bind_s h5
   refine o_v (ov_call (v:=aB) r (w_command_in hx6) ⟨lr,lr,lr,trivial⟩ r r r)<|sB r<|o_ek (fr':=[(2,aB)]) r r<|w_ret<|e_blk_r<|e_seq_r ?_
   obtain rfl:=sy h7
   exact e_ret (rs':=[.tmp 2]) r<|r_tmp (v:=aB) r<|r_nil<|fin_gen [] r r r lr st_nil
  ·
   refine w_sr<|o_p r (p_eql r r)<|sB r<|o_ek (fr':=[(1,.box 0 0),(4,aI),(15,aB)]) r r<|w_ch h5 r (fun hb9 h9=>?_) (fun hb9 h9=>?_)
   ·
    refine w_sr<|o_p r (p_fa tf70x4 r)<|o_p r (p_load (v:=aI) tv3 r r r) ?_
    obtain ⟨x10,hx10,h11⟩:=bind_s h9
    refine o_v (ov_call (v:=aB) r (w_command_in hx10) ⟨lr,lr,lr,trivial⟩ r r r)<|sB r<|o_ek (fr':=[(2,aB)]) r r<|w_ret<|e_blk_r<|e_seq_r ?_
    obtain rfl:=sy h11
    exact e_ret (rs':=[.tmp 2]) r<|r_tmp (v:=aB) r<|r_nil<|fin_gen [] r r r lr st_nil
   ·
    refine w_sr<|o_p r (p_eql r r)<|sB r<|o_ek (fr':=[(1,.box 0 0),(4,aI),(20,aB)]) r r<|w_ch h9 r (fun hb13 h13=>?_) (fun hb13 h13=>?_)
    ·
     refine w_sr<|o_p r (p_fa tf70x4 r)<|o_p r (p_load (v:=aI) tv3 r r r)<|o_p r (p_eql r r)<|mB r<|og r r r (fun hc=>(p_fa tf70x4 r))<|og r r r (fun hc=>(p_load (v:=aI) tv3 (gx r hc) r r)) ?_
     obtain ⟨x14,hx14,h15⟩:=bind_s h13
     refine o_g r r (fun hc=>ov_call (v:=aB) r (w_command_in (gd_some hx14 hc)) ⟨(le_gv (gx r hc) lr),lr,lr,trivial⟩ (ok_eq (by repeat (first | exact ok_nil | refine ok_cons r ?_ | refine ok_cons (dgv r) ?_ | refine ok_cons dar ?_))) r r) ?_
     refine og r r r (fun hc=>(p_move (v:=aB) (gx r hc)))<|o_gg r r (fun hc=>ov_p r (p_fa tf70x5 r))<|o_gg r r (fun hc=>ov_p r (p_fa tf41x0 (gx r hc)))<|o_gg r r (fun hc=>ov_p r (p_load (v:=aI) tv3 (gx r hc) r r))<|o_gg r r (fun hc=>ov_p r (p_eql (gx r hc) r))<|og r r r (fun hc=>(p_picky (gx r hc) r r (fun e=>band hc (keq e))))<|o_p r (p_pickz r r r (fun e=>keq e))<|sB r<|o_ek (fr':=[(2,aB)]) r r<|w_ret<|e_blk_r<|e_seq_r ?_
     obtain rfl:=sy h15
     exact e_ret (rs':=[.tmp 2]) r<|r_tmp (v:=aB) r<|r_nil<|fin_gen [] r r r lr st_nil
    ·
     refine w_sr<|o_p r (p_eql r r)<|sB r<|o_ek (fr':=[(1,.box 0 0),(4,aI),(36,aB)]) r r<|w_ch h13 r (fun hb17 h17=>?_) (fun hb17 h17=>?_)
     ·
      refine w_sr<|o_p r (p_fa tf70x5 r)<|o_p r (p_fa tf41x0 r)<|o_p r (p_load (v:=aI) tv3 r r r)<|o_p r (p_eql r r)<|sB r<|o_ek (fr':=[(2,aB)]) r r<|w_ret<|e_blk_r<|e_seq_r ?_
      obtain rfl:=sy h17
      exact e_ret (rs':=[.tmp 2]) r<|r_tmp (v:=aB) r<|r_nil<|fin_gen [] r r r lr st_nil
     ·
      refine w_sr<|o_p r (p_eql r r)<|sB r<|o_ek (fr':=[(1,.box 0 0),(42,aB)]) r r<|w_ch h17 r (fun hb19 h19=>?_) (fun hb19 h19=>?_)
      ·
       refine w_sr<|o_p r (p_fa tf70x5 r)<|o_p r (p_loads (us:=aIISLL) tv41 r r r r) ?_
       obtain ⟨x20,hx20,h21⟩:=bind_s h19
       refine o_v (ov_call (v:=aB) r (w_command_input hx20) ⟨(le_aggc r ⟨r,r,r,r,r,trivial⟩),trivial⟩ r r r)<|sB r<|o_ek (fr':=[(2,aB)]) r r<|w_ret<|e_blk_r<|e_seq_r ?_
       obtain rfl:=sy h21
       exact e_ret (rs':=[.tmp 2]) r<|r_tmp (v:=aB) r<|r_nil<|fin_gen [] r r r lr st_nil
      ·
       refine w_skip<|e_blk_n<|e_kw<|w_sr<|sB r<|o_ek (fr':=[(2,aB)]) r r<|w_ret ?_
       obtain rfl:=sy h19
       exact e_ret (rs':=[.tmp 2]) r<|r_tmp (v:=aB) r<|r_nil<|fin_gen [] r r r lr st_nil
noncomputable def command_Right (p0c:ApiCommand):Option Bool :=
 (command_fields p0c.Kind).bind fun x1=>(command_in p0c.Kind (1:Int) (14:Int)).bind fun x3=>(gd ((!x3)==false) (command_bare p0c x1)).bind fun x5=>(gd ((cond (!x3) true (!x5))==false) (value_Right p0c.Data)).bind fun x7=>(gd ((cond (cond (!x3) true (!x5)) true (!x7))==false) (command_RightPolicy p0c.Opts)).bind fun x9=>cond (cond (cond (cond (!x3) true (!x5)) true (!x7)) true (!x9)) (some false) ((gd (x1.seq_==true) (command_in p0c.Seq (1:Int) (2000:Int))).bind fun x13=>(gd (((cond x1.seq_ (!x13) false)==false)&&(x1.key_==true)) (command_ident p0c.Key)).bind fun x15=>cond (cond (cond x1.seq_ (!x13) false) true (cond x1.key_ (!x15) false)) (some false) ((gd (((x1.name_==true)&&((cond (decide (p0c.Kind=(12:Int))) (decide ((4096:Int)<((p0c.Name).length:Int))) false)==false))&&((!decide (p0c.Kind=(12:Int)))==true)) (name_Right p0c.Name)).bind fun x19=>cond (cond x1.name_ (cond (cond (decide (p0c.Kind=(12:Int))) (decide ((4096:Int)<((p0c.Name).length:Int))) false) true (cond (!decide (p0c.Kind=(12:Int))) (!x19) false)) false) (some false) ((command_number p0c).bind fun x23=>some x23)))
theorem w_command_Right {p0c:ApiCommand}{res:Bool} (h:command_Right p0c=some res):ACalls Tryz.prog 52 [.agg (AV.cs (rowApiCommand p0c))] [] (.c (.bool res)) []:=by
 unfold command_Right at h
 refine acalls (fn:=Tryz.f52) [0,1,2,3,28,46,70] (by kernel_rfl) Tryz.func52 r (by kernel_rfl) (by kernel_rfl)<|w_sr<|o_box (v:=.agg aIISSIIISLLSIIIIIIIIL) (n:=0) (cs:=aIISSIIISLLSIIIIIIIIL) (σ':=[aIISSIIISLLSIIIIIIIIL]) r r r r r<|sB r<|o_ek (fr':=[(1,.box 0 0)]) r r<|w_sr<|o_p r (p_fa tf70x0 r)<|o_p r (p_load (v:=aI) tv3 r r r) ?_
 obtain ⟨x1,hx1,h2⟩:=bind_s h
 refine o_v (ov_call (v:=.agg aBBBBBB) r (w_command_fields hx1) ⟨lr,trivial⟩ r r r)<|o_alloc (n:=1) (cs:=aBBBBBB) (σ':=[aIISSIIISLLSIIIIIIIIL,aBBBBBB]) tz88 r r r<|o_store (v:=.agg aBBBBBB) (us:=aBBBBBB) (cs:=aBBBBBB) (σ':=[aIISSIIISLLSIIIIIIIIL,aBBBBBB]) r tv88 r r r r r r r r<|o_ek (fr':=[(1,.box 0 0),(3,.box 1 0)]) r r<|w_seqw<|w_sr<|o_p r (p_fa tf70x0 r)<|o_p r (p_load (v:=aI) tv3 r r r) ?_
 obtain ⟨x3,hx3,h4⟩:=bind_s h2
 refine o_v (ov_call (v:=aB) r (w_command_in hx3) ⟨lr,lr,lr,trivial⟩ r r r)<|o_p r (p_not r)<|mB r<|og r r r (fun hc=>(p_loads (us:=aIISSIIISLLSIIIIIIIIL) tv70 r r r r))<|og r r r (fun hc=>(p_loads (us:=aBBBBBB) tv88 r r r r)) ?_
 obtain ⟨x5,hx5,h6⟩:=bind_s h4
 refine o_g r r (fun hc=>ov_call (v:=aB) r (w_command_bare (gd_some hx5 hc)) ⟨(le_gv (gx r hc) (le_aggc r ⟨r,r,r,r,r,r,r,r,r,r,r,r,r,r,r,r,r,r,r,r,trivial⟩)),(le_gv (gx r hc) (le_aggc r ⟨r,r,r,r,r,r,trivial⟩)),trivial⟩ (ok_eq (by repeat (first | exact ok_nil | refine ok_cons r ?_ | refine ok_cons (dgv r) ?_ | refine ok_cons dar ?_))) r r) ?_
 refine og r r r (fun hc=>(p_not (gx r hc)))<|o_p r (p_pickz r r r (fun e=>keq e))<|mB r<|og r r r (fun hc=>(p_fa tf70x5 r))<|og r r r (fun hc=>(p_loads (us:=aIISLL) tv41 (gx r hc) r r r)) ?_
 obtain ⟨x7,hx7,h8⟩:=bind_s h6
 refine o_g r r (fun hc=>ov_call (v:=aB) r (w_value_Right (gd_some hx7 hc)) ⟨(le_gv (gx r hc) (le_aggc r ⟨r,r,r,r,r,trivial⟩)),trivial⟩ (ok_eq (by repeat (first | exact ok_nil | refine ok_cons r ?_ | refine ok_cons (dgv r) ?_ | refine ok_cons dar ?_))) r r) ?_
 refine og r r r (fun hc=>(p_not (gx r hc)))<|o_p r (p_pickz r r r (fun e=>keq e))<|mB r<|og r r r (fun hc=>(p_fa tf70x6 r))<|og r r r (fun hc=>(p_loads (us:=aSIIIIIIIIL) tv43 (gx r hc) r r r)) ?_
 obtain ⟨x9,hx9,h10⟩:=bind_s h8
 refine o_g r r (fun hc=>ov_call (v:=aB) r (w_command_RightPolicy (gd_some hx9 hc)) ⟨(le_gv (gx r hc) (le_aggc r ⟨r,r,r,r,r,r,r,r,r,r,trivial⟩)),trivial⟩ (ok_eq (by repeat (first | exact ok_nil | refine ok_cons r ?_ | refine ok_cons (dgv r) ?_ | refine ok_cons dar ?_))) r r) ?_
 refine og r r r (fun hc=>(p_not (gx r hc)))<|o_p r (p_pickz r r r (fun e=>keq e))<|o_ek (fr':=[(1,.box 0 0),(3,.box 1 0),(28,aB)]) r r<|w_ch h10 r (fun hb11 h11=>?_) (fun hb11 h11=>?_)
 ·
  refine w_sr<|sB r<|o_ek (fr':=[(2,aB)]) r r<|w_ret<|e_seq_r ?_
  obtain rfl:=sy h11
  exact e_ret (rs':=[.tmp 2]) r<|r_tmp (v:=aB) r<|r_nil<|fin_gen [] r r r lr st_nil
 ·
  refine w_skip<|e_kw<|w_seqw<|w_sr<|o_p r (p_fa tf88x0 r)<|o_p r (p_load (v:=aB) tv4 r r r)<|mB r<|og r r r (fun hc=>(p_fa tf70x1 r))<|og r r r (fun hc=>(p_load (v:=aI) tv3 (gx r hc) r r)) ?_
  obtain ⟨x13,hx13,h14⟩:=bind_s h11
  refine o_g r r (fun hc=>ov_call (v:=aB) r (w_command_in (gd_some hx13 hc)) ⟨(le_gv (gx r hc) lr),lr,lr,trivial⟩ (ok_eq (by repeat (first | exact ok_nil | refine ok_cons r ?_ | refine ok_cons (dgv r) ?_ | refine ok_cons dar ?_))) r r) ?_
  refine og r r r (fun hc=>(p_not (gx r hc)))<|o_p r (p_picky r r r (fun e=>keq e))<|mB r<|og r r r (fun hc=>(p_fa tf88x2 r))<|og r r r (fun hc=>(p_load (v:=aB) tv4 (gx r hc) r r))<|og r r r (fun hc=>(p_move (v:=aB) (gx r hc)))<|o_gg r r (fun hc=>ov_p r (p_fa tf70x3 r))<|o_gg r r (fun hc=>ov_p r (p_load (v:=aS) tv9 (gx r hc) r r)) ?_
  obtain ⟨x15,hx15,h16⟩:=bind_s h14
  refine o_gg r r (fun hc=>ov_call (v:=aB) r (w_command_ident (gd_some hx15 hc)) ⟨(le_gv (gx r hc) lr),trivial⟩ (ok_eq (by repeat (first | exact ok_nil | refine ok_cons r ?_ | refine ok_cons (dgv r) ?_ | refine ok_cons dar ?_))) r r) ?_
  refine o_gg r r (fun hc=>ov_p r (p_not (gx r hc)))<|og r r r (fun hc=>(p_picky (gx r hc) r r (fun e=>band hc (keq e))))<|o_p r (p_pickz r r r (fun e=>keq e))<|o_ek (fr':=[(1,.box 0 0),(3,.box 1 0),(46,aB)]) r r<|w_ch h16 r (fun hb17 h17=>?_) (fun hb17 h17=>?_)
  ·
   refine w_sr<|sB r<|o_ek (fr':=[(2,aB)]) r r<|w_ret<|e_seq_r ?_
   obtain rfl:=sy h17
   exact e_ret (rs':=[.tmp 2]) r<|r_tmp (v:=aB) r<|r_nil<|fin_gen [] r r r lr st_nil
  ·
   refine w_skip<|e_kw<|w_seqw<|w_sr<|o_p r (p_fa tf88x1 r)<|o_p r (p_load (v:=aB) tv4 r r r)<|mB r<|og r r r (fun hc=>(p_fa tf70x0 r))<|og r r r (fun hc=>(p_load (v:=aI) tv3 (gx r hc) r r))<|og r r r (fun hc=>(p_eql (gx r hc) r))<|og r r r (fun hc=>(p_move (v:=aB) (gx r hc)))<|o_gg r r (fun hc=>ov_p r (p_fa tf70x2 r)) ?_
   refine o_gg r r (fun hc=>ov_p r (p_load (v:=aS) tv9 (gx r hc) r r))<|o_gg r r (fun hc=>ov_p r (p_lens ti9 (gx r hc)))<|o_gg r r (fun hc=>ov_p r (p_gtr (gx r hc) r))<|og r r r (fun hc=>(p_picky (gx r hc) r r (fun e=>band hc (keq e))))<|og r r r (fun hc=>(p_move (v:=aB) (gx r hc)))<|o_gg r r (fun hc=>ov_p r (p_fa tf70x0 r))<|o_gg r r (fun hc=>ov_p r (p_load (v:=aI) tv3 (gx r hc) r r))<|o_gg r r (fun hc=>ov_p r (p_neq (gx r hc) r))<|o_gg r r (fun hc=>ov_p r (p_move (v:=aB) (gx r hc)))<|o_gg r r (fun hc=>ov_p r (p_fa tf70x2 r))<|o_gg r r (fun hc=>ov_p r (p_load (v:=aS) tv9 (gx r hc) r r)) ?_
   obtain ⟨x19,hx19,h20⟩:=bind_s h17
   refine o_gg r r (fun hc=>ov_call (v:=aB) r (w_name_Right (gd_some hx19 hc)) ⟨(le_gv (gx r hc) lr),trivial⟩ (ok_eq (by repeat (first | exact ok_nil | refine ok_cons r ?_ | refine ok_cons (dgv r) ?_ | refine ok_cons dar ?_))) r r) ?_
   refine o_gg r r (fun hc=>ov_p r (p_not (gx r hc)))<|o_gg r r (fun hc=>ov_p r (p_picky (gx r hc) r r (fun e=>band hc (keq e))))<|og r r r (fun hc=>(p_pickz (gx r hc) r r (fun e=>band hc (keq e))))<|o_p r (p_picky r r r (fun e=>keq e))<|o_ek (fr':=[(1,.box 0 0),(70,aB)]) r r<|w_ch h20 r (fun hb21 h21=>?_) (fun hb21 h21=>?_)
   ·
    refine w_sr<|sB r<|o_ek (fr':=[(2,aB)]) r r<|w_ret<|e_seq_r ?_
    obtain rfl:=sy h21
    exact e_ret (rs':=[.tmp 2]) r<|r_tmp (v:=aB) r<|r_nil<|fin_gen [] r r r lr st_nil
   ·
    refine w_skip<|e_kw<|w_sr<|o_p r (p_loads (us:=aIISSIIISLLSIIIIIIIIL) tv70 r r r r) ?_
    obtain ⟨x23,hx23,h24⟩:=bind_s h21
    refine o_v (ov_call (v:=aB) r (w_command_number hx23) ⟨(le_aggc r ⟨r,r,r,r,r,r,r,r,r,r,r,r,r,r,r,r,r,r,r,r,trivial⟩),trivial⟩ r r r)<|sB r<|o_ek (fr':=[(2,aB)]) r r<|w_ret ?_
    obtain rfl:=sy h24
    exact e_ret (rs':=[.tmp 2]) r<|r_tmp (v:=aB) r<|r_nil<|fin_gen [] r r r lr st_nil
noncomputable def event_commanded (p0e:ApiEvent) (p1kind:Int):Option Bool :=
 (gd (((decide (p0e.Code=(0:Int)))==true)&&((cond (decide (p1kind=(2:Int))) true (decide (p1kind=(4:Int))))==true)) (event_within p0e.Ref (1:Int) (2000:Int))).bind fun x1=>(gd ((cond (decide (p0e.Code=(0:Int))) (cond (cond (cond (decide (p1kind=(2:Int))) true (decide (p1kind=(4:Int)))) x1 false) true (cond (!(cond (decide (p1kind=(2:Int))) true (decide (p1kind=(4:Int))))) (decide (p0e.Ref=(0:Int))) false)) false)==true) (command_Right (ApiCommand.mk p1kind p0e.Seq p0e.Name p0e.Key p0e.N p0e.Data p0e.Opts))).bind fun x3=>some (cond (cond (decide (p0e.Code=(0:Int))) (cond (cond (cond (decide (p1kind=(2:Int))) true (decide (p1kind=(4:Int)))) x1 false) true (cond (!(cond (decide (p1kind=(2:Int))) true (decide (p1kind=(4:Int))))) (decide (p0e.Ref=(0:Int))) false)) false) x3 false)
theorem w_event_commanded {p0e:ApiEvent}{p1kind:Int}{res:Bool} (h:event_commanded p0e p1kind=some res):ACalls Tryz.prog 30 [.agg (AV.cs (rowApiEvent p0e)),.c (.int .i64 p1kind)] [] (.c (.bool res)) []:=by
 unfold event_commanded at h
 refine acalls (fn:=Tryz.f30) [0,1,2,4,5,6] (by kernel_rfl) Tryz.func30 r (by kernel_rfl) (by kernel_rfl)<|w_sr<|o_box (v:=.agg aIIIIIIISSIISLLSIIIIIIIIL) (n:=0) (cs:=aIIIIIIISSIISLLSIIIIIIIIL) (σ':=[aIIIIIIISSIISLLSIIIIIIIIL]) r r r r r<|sB r<|o_ek (fr':=[(1,aI),(2,.box 0 0)]) r r<|w_sr<|mI r<|o_p r (p_fa tf45x3 r)<|o_p r (p_load (v:=aI) tv3 r r r)<|o_p r (p_fa tf45x7 r)<|o_p r (p_load (v:=aS) tv9 r r r) ?_
 refine o_p r (p_fa tf45x8 r)<|o_p r (p_load (v:=aS) tv9 r r r)<|o_p r (p_fa tf45x5 r)<|o_p r (p_load (v:=aI) tv3 r r r)<|o_p r (p_fa tf45x9 r)<|o_p r (p_loads (us:=aIISLL) tv41 r r r r)<|o_p r (p_fa tf45x10 r)<|o_p r (p_loads (us:=aSIIIIIIIIL) tv43 r r r r)<|o_p r (p_buildc (c0:=[aI,aI,aS,aS,aI,aI,aI,aS,AV.nil,AV.nil,aS,aI,aI,aI,aI,aI,aI,aI,aI,AV.nil]) (cs:=aIISSIIISLLSIIIIIIIIL) tb70 r (fill_cons (v:=aI) (us:=[_]) (cs':=u20) r r r r r r (fill_cons (v:=aI) (us:=[_]) (cs':=u20) r r r r r r (fill_cons (v:=aS) (us:=[_]) (cs':=u20) r r r r r r (fill_cons (v:=aS) (us:=[_]) (cs':=u20) r r r r r r (fill_cons (v:=aI) (us:=[_]) (cs':=u20) r r r r r r (fill_cons (v:=.agg aIISLL) (us:=u5) (cs':=u20) r r r r r r (fill_cons (v:=.agg aSIIIIIIIIL) (us:=u10) (cs':=u20) r r r r r r fill_nil))))))))<|o_alloc (n:=1) (cs:=[aI,aI,aS,aS,aI,aI,aI,aS,AV.nil,AV.nil,aS,aI,aI,aI,aI,aI,aI,aI,aI,AV.nil]) (σ':=[aIIIIIIISSIISLLSIIIIIIIIL,[aI,aI,aS,aS,aI,aI,aI,aS,AV.nil,AV.nil,aS,aI,aI,aI,aI,aI,aI,aI,aI,AV.nil]]) tz70 r r r<|o_store (v:=.agg aIISSIIISLLSIIIIIIIIL) (us:=aIISSIIISLLSIIIIIIIIL) (cs:=[aI,aI,aS,aS,aI,aI,aI,aS,AV.nil,AV.nil,aS,aI,aI,aI,aI,aI,aI,aI,aI,AV.nil]) (σ':=[aIIIIIIISSIISLLSIIIIIIIIL,aIISSIIISLLSIIIIIIIIL]) r tv70 r r r r r r r r<|o_ek (fr':=[(1,aI),(2,.box 0 0),(5,.box 1 0)]) r r<|w_seqw ?_
 refine w_region<|mI r<|o_p r (p_eql r r)<|mB r<|og r r r (fun hc=>(p_move (v:=aI) r))<|og r r r (fun hc=>(p_eql (gx r hc) r))<|o_p r (p_pickz r r r (fun e=>keq e))<|sB r<|o_ek (fr':=[(2,.box 0 0),(5,.box 1 0),(6,aB)]) r r<|w_sr<|o_p r (p_fa tf45x6 r)<|o_p r (p_load (v:=aI) tv3 r r r) ?_
 refine o_p r (p_eql r r)<|mB r<|og r r r (fun hc=>(p_move (v:=aB) r))<|og r r r (fun hc=>(p_move (v:=aB) (gx r hc)))<|o_gg r r (fun hc=>ov_p r (p_fa tf45x4 r))<|o_gg r r (fun hc=>ov_p r (p_load (v:=aI) tv3 (gx r hc) r r)) ?_
 obtain ⟨x1,hx1,h2⟩:=bind_s h
 refine o_gg r r (fun hc=>ov_call (v:=aB) r (w_event_within (gd_some hx1 hc)) ⟨(le_gv (gx r hc) lr),lr,lr,trivial⟩ (ok_eq (by repeat (first | exact ok_nil | refine ok_cons r ?_ | refine ok_cons (dgv r) ?_ | refine ok_cons dar ?_))) r r) ?_
 refine og r r r (fun hc=>(p_picky (gx r hc) r r (fun e=>band hc (keq e))))<|og r r r (fun hc=>(p_move (v:=aB) (gx r hc)))<|o_gg r r (fun hc=>ov_p r (p_move (v:=aB) r))<|o_gg r r (fun hc=>ov_p r (p_not (gx r hc)))<|o_gg r r (fun hc=>ov_p r (p_move (v:=aB) (gx r hc)))<|o_gg r r (fun hc=>ov_p r (p_fa tf45x4 r))<|o_gg r r (fun hc=>ov_p r (p_load (v:=aI) tv3 (gx r hc) r r))<|o_gg r r (fun hc=>ov_p r (p_eql (gx r hc) r))<|o_gg r r (fun hc=>ov_p r (p_picky (gx r hc) r r (fun e=>band hc (keq e))))<|og r r r (fun hc=>(p_pickz (gx r hc) r r (fun e=>band hc (keq e))))<|o_p r (p_picky r r r (fun e=>keq e))<|mB r<|og r r r (fun hc=>(p_loads (us:=aIISSIIISLLSIIIIIIIIL) tv70 r r r r)) ?_
 obtain ⟨x3,hx3,h4⟩:=bind_s h2
 refine o_g r r (fun hc=>ov_call (v:=aB) r (w_command_Right (gd_some hx3 hc)) ⟨(le_gv (gx r hc) (le_aggc r ⟨r,r,r,r,r,r,r,r,r,r,r,r,r,r,r,r,r,r,r,r,trivial⟩)),trivial⟩ (ok_eq (by repeat (first | exact ok_nil | refine ok_cons r ?_ | refine ok_cons (dgv r) ?_ | refine ok_cons dar ?_))) r r) ?_
 refine o_p r (p_picky r r r (fun e=>keq e))<|sB r<|o_ek (fr':=[(4,aB)]) r r<|w_ret ?_
 obtain rfl:=sy h4
 exact e_ret (rs':=[.tmp 4]) r<|r_tmp (v:=aB) r<|r_nil<|fin_gen [] r r r lr st_nil
noncomputable def event_used (p0kind:Int):Option EventUses :=
 cond (decide (p0kind=(1:Int))) (some (EventUses.mk false false true false true true true)) (cond (decide (p0kind=(2:Int))) (some (EventUses.mk false false true false false false false)) (((cond (decide (p0kind=(3:Int))) (some (decide (p0kind=(3:Int)))) (cond (decide (p0kind=(4:Int))) (some (decide (p0kind=(4:Int)))) (some (decide (p0kind=(6:Int)))))):Option Bool).bind fun x5=>(cond x5 (some (EventUses.mk false true false false false false false)) (cond (decide (p0kind=(5:Int))) (some (EventUses.mk false true false true false false false)) (cond (decide (p0kind=(8:Int))) (some (EventUses.mk true true true false false false false)) (((cond (decide (p0kind=(9:Int))) (some (decide (p0kind=(9:Int)))) (cond (decide (p0kind=(13:Int))) (some (decide (p0kind=(13:Int)))) (some (decide (p0kind=(21:Int)))))):Option Bool).bind fun x17=>(cond x17 (some (EventUses.mk true true false false false false true)) (((cond (decide (p0kind=(10:Int))) (some (decide (p0kind=(10:Int)))) (some (decide (p0kind=(22:Int))))):Option Bool).bind fun x25=>(cond x25 (some (EventUses.mk true true false false true false true)) (cond (decide (p0kind=(11:Int))) (some (EventUses.mk true true false true false false false)) (((cond (decide (p0kind=(15:Int))) (some (decide (p0kind=(15:Int)))) (some (decide (p0kind=(24:Int))))):Option Bool).bind fun x34=>(cond x34 (some (EventUses.mk true true false false false false false)) (cond (decide (p0kind=(17:Int))) (some (EventUses.mk false false false false true true true)) (cond (decide (p0kind=(20:Int))) (some (EventUses.mk true true false false false true false)) (cond (decide (p0kind=(25:Int))) (some (EventUses.mk true true false false true false false)) (cond (decide (p0kind=(26:Int))) (some (EventUses.mk false false false false false true false)) (cond (decide (p0kind=(33:Int))) (some (EventUses.mk false false false false true false false)) (some (EventUses.mk false false false false false false false)))))))))))))))))))
theorem w_event_used {p0kind:Int}{res:EventUses} (h:event_used p0kind=some res):ACalls Tryz.prog 31 [.c (.int .i64 p0kind)] [] (.agg (AV.cs (rowEventUses res))) []:=by
 unfold event_used at h
 refine acalls (fn:=Tryz.f31) [0,2,3,4,7,10,15,18,21,26,30,33,37,40,43,46,49] (by kernel_rfl) Tryz.func31 r (by kernel_rfl) (by kernel_rfl)<|w_sr<|o_alloc (n:=0) (cs:=aBBBBBBB) (σ':=[aBBBBBBB]) tz63 r r r<|o_ek (fr':=[(0,aI),(2,.box 0 0)]) r r<|w_seqw<|w_sr<|mI r<|o_ek (fr':=[(2,.box 0 0),(3,aI)]) r r<|w_block<|w_seqw<|w_region ?_
 refine o_p r (p_eql r r)<|sB r<|o_ek (fr':=[(2,.box 0 0),(3,aI),(4,aB)]) r r<|w_ch h r (fun hb1 h1=>?_) (fun hb1 h1=>?_)
 ·
  refine w_sr<|o_p r (p_build (cs:=aBBBBBBB) tb63 r)<|o_store (v:=.agg aBBBBBBB) (us:=aBBBBBBB) (cs:=aBBBBBBB) (σ':=[aBBBBBBB]) r tv63 r r r r r r r r<|o_ek (fr':=[(2,.box 0 0)]) r r<|w_ret<|e_blk_r<|e_seq_r ?_
  obtain rfl:=sy h1
  exact e_ret (rs':=[.cell 2 63]) r<|r_cells (us:=aBBBBBBB) (cs:=aBBBBBBB) tv63 r r r r<|r_nil<|fin_gen [] r r r (le_aggc r ⟨r,r,r,r,r,r,r,trivial⟩) st_nil
 ·
  refine w_sr<|o_p r (p_eql r r)<|sB r<|o_ek (fr':=[(2,.box 0 0),(3,aI),(7,aB)]) r r<|w_ch h1 r (fun hb3 h3=>?_) (fun hb3 h3=>?_)
  ·
   refine w_sr<|o_p r (p_build (cs:=aBBBBBBB) tb63 r)<|o_store (v:=.agg aBBBBBBB) (us:=aBBBBBBB) (cs:=aBBBBBBB) (σ':=[aBBBBBBB]) r tv63 r r r r r r r r<|o_ek (fr':=[(2,.box 0 0)]) r r<|w_ret<|e_blk_r<|e_seq_r ?_
   obtain rfl:=sy h3
   exact e_ret (rs':=[.cell 2 63]) r<|r_cells (us:=aBBBBBBB) (cs:=aBBBBBBB) tv63 r r r r<|r_nil<|fin_gen [] r r r (le_aggc r ⟨r,r,r,r,r,r,r,trivial⟩) st_nil
  ·
   obtain ⟨x5,hx5,h6⟩:=bind_s h3
   refine w_join (fun j7=>x5=j7) (fun (j7:Bool)=>([(2,.box 0 0),(3,.c (.int .i64 p0kind)),(10,.c (.bool j7))]:Fr)) (fun (j7:Bool)=>([[.c (.bool false),.c (.bool false),.c (.bool false),.c (.bool false),.c (.bool false),.c (.bool false),.c (.bool false)]]:St)) ?_ ?_
   ·
    refine w_sr<|o_p r (p_eql r r)<|sB r<|o_ek (fr':=[(2,.box 0 0),(3,aI),(10,aB)]) r r<|w_ch hx5 r (fun hb8 h8=>?_) (fun hb8 h8=>?_)
    ·
     exact w_skip<|e_j _ (sy h8) (w_weak [] 1 r r r r ⟨lr,lr,lr,trivial⟩ (st_r r st_nil))
    ·
     refine w_sr<|o_p r (p_eql r r)<|sB r<|o_ek (fr':=[(2,.box 0 0),(3,aI),(10,aB)]) r r<|w_ch h8 r (fun hb9 h9=>?_) (fun hb9 h9=>?_)
     ·
      exact w_skip<|e_j _ (sy h9) (w_weak [] 1 r r r r ⟨lr,lr,lr,trivial⟩ (st_r r st_nil))
     ·
      exact w_region<|o_p r (p_eql r r)<|sB r<|o_end (fr':=[(2,.box 0 0),(3,aI),(10,aB)]) r<|e_j _ (sy h9) (w_weak [] 1 r r r r ⟨lr,lr,lr,trivial⟩ (st_r r st_nil))
   ·
    intro j7 hj10
    subst hj10
    refine w_ch h6 r (fun hb11 h11=>?_) (fun hb11 h11=>?_)
    ·
     refine w_sr<|o_p r (p_build (cs:=aBBBBBBB) tb63 r)<|o_store (v:=.agg aBBBBBBB) (us:=aBBBBBBB) (cs:=aBBBBBBB) (σ':=[aBBBBBBB]) r tv63 r r r r r r r r<|o_ek (fr':=[(2,.box 0 0)]) r r<|w_ret<|e_blk_r<|e_seq_r ?_
     obtain rfl:=sy h11
     exact e_ret (rs':=[.cell 2 63]) r<|r_cells (us:=aBBBBBBB) (cs:=aBBBBBBB) tv63 r r r r<|r_nil<|fin_gen [] r r r (le_aggc r ⟨r,r,r,r,r,r,r,trivial⟩) st_nil
    ·
     refine w_sr<|o_p r (p_eql r r)<|sB r<|o_ek (fr':=[(2,.box 0 0),(3,aI),(15,aB)]) r r<|w_ch h11 r (fun hb13 h13=>?_) (fun hb13 h13=>?_)
     ·
      refine w_sr<|o_p r (p_build (cs:=aBBBBBBB) tb63 r)<|o_store (v:=.agg aBBBBBBB) (us:=aBBBBBBB) (cs:=aBBBBBBB) (σ':=[aBBBBBBB]) r tv63 r r r r r r r r<|o_ek (fr':=[(2,.box 0 0)]) r r<|w_ret<|e_blk_r<|e_seq_r ?_
      obtain rfl:=sy h13
      exact e_ret (rs':=[.cell 2 63]) r<|r_cells (us:=aBBBBBBB) (cs:=aBBBBBBB) tv63 r r r r<|r_nil<|fin_gen [] r r r (le_aggc r ⟨r,r,r,r,r,r,r,trivial⟩) st_nil
     ·
      refine w_sr<|o_p r (p_eql r r)<|sB r<|o_ek (fr':=[(2,.box 0 0),(3,aI),(18,aB)]) r r<|w_ch h13 r (fun hb15 h15=>?_) (fun hb15 h15=>?_)
      ·
       refine w_sr<|o_p r (p_build (cs:=aBBBBBBB) tb63 r)<|o_store (v:=.agg aBBBBBBB) (us:=aBBBBBBB) (cs:=aBBBBBBB) (σ':=[aBBBBBBB]) r tv63 r r r r r r r r<|o_ek (fr':=[(2,.box 0 0)]) r r<|w_ret<|e_blk_r<|e_seq_r ?_
       obtain rfl:=sy h15
       exact e_ret (rs':=[.cell 2 63]) r<|r_cells (us:=aBBBBBBB) (cs:=aBBBBBBB) tv63 r r r r<|r_nil<|fin_gen [] r r r (le_aggc r ⟨r,r,r,r,r,r,r,trivial⟩) st_nil
      ·
       obtain ⟨x17,hx17,h18⟩:=bind_s h15
       refine w_join (fun j19=>x17=j19) (fun (j19:Bool)=>([(2,.box 0 0),(3,.c (.int .i64 p0kind)),(21,.c (.bool j19))]:Fr)) (fun (j19:Bool)=>([[.c (.bool false),.c (.bool false),.c (.bool false),.c (.bool false),.c (.bool false),.c (.bool false),.c (.bool false)]]:St)) ?_ ?_
       ·
        refine w_sr<|o_p r (p_eql r r)<|sB r<|o_ek (fr':=[(2,.box 0 0),(3,aI),(21,aB)]) r r<|w_ch hx17 r (fun hb20 h20=>?_) (fun hb20 h20=>?_)
        ·
         exact w_skip<|e_j _ (sy h20) (w_weak [] 1 r r r r ⟨lr,lr,lr,trivial⟩ (st_r r st_nil))
        ·
         refine w_sr<|o_p r (p_eql r r)<|sB r<|o_ek (fr':=[(2,.box 0 0),(3,aI),(21,aB)]) r r<|w_ch h20 r (fun hb21 h21=>?_) (fun hb21 h21=>?_)
         ·
          exact w_skip<|e_j _ (sy h21) (w_weak [] 1 r r r r ⟨lr,lr,lr,trivial⟩ (st_r r st_nil))
         ·
          exact w_region<|o_p r (p_eql r r)<|sB r<|o_end (fr':=[(2,.box 0 0),(3,aI),(21,aB)]) r<|e_j _ (sy h21) (w_weak [] 1 r r r r ⟨lr,lr,lr,trivial⟩ (st_r r st_nil))
       ·
        intro j19 hj22
        subst hj22
        refine w_ch h18 r (fun hb23 h23=>?_) (fun hb23 h23=>?_)
        ·
         refine w_sr<|o_p r (p_build (cs:=aBBBBBBB) tb63 r)<|o_store (v:=.agg aBBBBBBB) (us:=aBBBBBBB) (cs:=aBBBBBBB) (σ':=[aBBBBBBB]) r tv63 r r r r r r r r<|o_ek (fr':=[(2,.box 0 0)]) r r<|w_ret<|e_blk_r<|e_seq_r ?_
         obtain rfl:=sy h23
         exact e_ret (rs':=[.cell 2 63]) r<|r_cells (us:=aBBBBBBB) (cs:=aBBBBBBB) tv63 r r r r<|r_nil<|fin_gen [] r r r (le_aggc r ⟨r,r,r,r,r,r,r,trivial⟩) st_nil
        ·
         obtain ⟨x25,hx25,h26⟩:=bind_s h23
         refine w_join (fun j27=>x25=j27) (fun (j27:Bool)=>([(2,.box 0 0),(3,.c (.int .i64 p0kind)),(26,.c (.bool j27))]:Fr)) (fun (j27:Bool)=>([[.c (.bool false),.c (.bool false),.c (.bool false),.c (.bool false),.c (.bool false),.c (.bool false),.c (.bool false)]]:St)) ?_ ?_
         ·
          refine w_sr<|o_p r (p_eql r r)<|sB r<|o_ek (fr':=[(2,.box 0 0),(3,aI),(26,aB)]) r r<|w_ch hx25 r (fun hb28 h28=>?_) (fun hb28 h28=>?_)
          ·
           exact w_skip<|e_j _ (sy h28) (w_weak [] 1 r r r r ⟨lr,lr,lr,trivial⟩ (st_r r st_nil))
          ·
           exact w_region<|o_p r (p_eql r r)<|sB r<|o_end (fr':=[(2,.box 0 0),(3,aI),(26,aB)]) r<|e_j _ (sy h28) (w_weak [] 1 r r r r ⟨lr,lr,lr,trivial⟩ (st_r r st_nil))
         ·
          intro j27 hj29
          subst hj29
          refine w_ch h26 r (fun hb30 h30=>?_) (fun hb30 h30=>?_)
          ·
           refine w_sr<|o_p r (p_build (cs:=aBBBBBBB) tb63 r)<|o_store (v:=.agg aBBBBBBB) (us:=aBBBBBBB) (cs:=aBBBBBBB) (σ':=[aBBBBBBB]) r tv63 r r r r r r r r<|o_ek (fr':=[(2,.box 0 0)]) r r<|w_ret<|e_blk_r<|e_seq_r ?_
           obtain rfl:=sy h30
           exact e_ret (rs':=[.cell 2 63]) r<|r_cells (us:=aBBBBBBB) (cs:=aBBBBBBB) tv63 r r r r<|r_nil<|fin_gen [] r r r (le_aggc r ⟨r,r,r,r,r,r,r,trivial⟩) st_nil
          ·
           refine w_sr<|o_p r (p_eql r r)<|sB r<|o_ek (fr':=[(2,.box 0 0),(3,aI),(30,aB)]) r r<|w_ch h30 r (fun hb32 h32=>?_) (fun hb32 h32=>?_)
           ·
            refine w_sr<|o_p r (p_build (cs:=aBBBBBBB) tb63 r)<|o_store (v:=.agg aBBBBBBB) (us:=aBBBBBBB) (cs:=aBBBBBBB) (σ':=[aBBBBBBB]) r tv63 r r r r r r r r<|o_ek (fr':=[(2,.box 0 0)]) r r<|w_ret<|e_blk_r<|e_seq_r ?_
            obtain rfl:=sy h32
            exact e_ret (rs':=[.cell 2 63]) r<|r_cells (us:=aBBBBBBB) (cs:=aBBBBBBB) tv63 r r r r<|r_nil<|fin_gen [] r r r (le_aggc r ⟨r,r,r,r,r,r,r,trivial⟩) st_nil
           ·
            obtain ⟨x34,hx34,h35⟩:=bind_s h32
            refine w_join (fun j36=>x34=j36) (fun (j36:Bool)=>([(2,.box 0 0),(3,.c (.int .i64 p0kind)),(33,.c (.bool j36))]:Fr)) (fun (j36:Bool)=>([[.c (.bool false),.c (.bool false),.c (.bool false),.c (.bool false),.c (.bool false),.c (.bool false),.c (.bool false)]]:St)) ?_ ?_
            ·
             refine w_sr<|o_p r (p_eql r r)<|sB r<|o_ek (fr':=[(2,.box 0 0),(3,aI),(33,aB)]) r r<|w_ch hx34 r (fun hb37 h37=>?_) (fun hb37 h37=>?_)
             ·
              exact w_skip<|e_j _ (sy h37) (w_weak [] 1 r r r r ⟨lr,lr,lr,trivial⟩ (st_r r st_nil))
             ·
              exact w_region<|o_p r (p_eql r r)<|sB r<|o_end (fr':=[(2,.box 0 0),(3,aI),(33,aB)]) r<|e_j _ (sy h37) (w_weak [] 1 r r r r ⟨lr,lr,lr,trivial⟩ (st_r r st_nil))
            ·
             intro j36 hj38
             subst hj38
             refine w_ch h35 r (fun hb39 h39=>?_) (fun hb39 h39=>?_)
             ·
              refine w_sr<|o_p r (p_build (cs:=aBBBBBBB) tb63 r)<|o_store (v:=.agg aBBBBBBB) (us:=aBBBBBBB) (cs:=aBBBBBBB) (σ':=[aBBBBBBB]) r tv63 r r r r r r r r<|o_ek (fr':=[(2,.box 0 0)]) r r<|w_ret<|e_blk_r<|e_seq_r ?_
              obtain rfl:=sy h39
              exact e_ret (rs':=[.cell 2 63]) r<|r_cells (us:=aBBBBBBB) (cs:=aBBBBBBB) tv63 r r r r<|r_nil<|fin_gen [] r r r (le_aggc r ⟨r,r,r,r,r,r,r,trivial⟩) st_nil
             ·
              refine w_sr<|o_p r (p_eql r r)<|sB r<|o_ek (fr':=[(2,.box 0 0),(3,aI),(37,aB)]) r r<|w_ch h39 r (fun hb41 h41=>?_) (fun hb41 h41=>?_)
              ·
               refine w_sr<|o_p r (p_build (cs:=aBBBBBBB) tb63 r)<|o_store (v:=.agg aBBBBBBB) (us:=aBBBBBBB) (cs:=aBBBBBBB) (σ':=[aBBBBBBB]) r tv63 r r r r r r r r<|o_ek (fr':=[(2,.box 0 0)]) r r<|w_ret<|e_blk_r<|e_seq_r ?_
               obtain rfl:=sy h41
               exact e_ret (rs':=[.cell 2 63]) r<|r_cells (us:=aBBBBBBB) (cs:=aBBBBBBB) tv63 r r r r<|r_nil<|fin_gen [] r r r (le_aggc r ⟨r,r,r,r,r,r,r,trivial⟩) st_nil
              ·
               refine w_sr<|o_p r (p_eql r r)<|sB r<|o_ek (fr':=[(2,.box 0 0),(3,aI),(40,aB)]) r r<|w_ch h41 r (fun hb43 h43=>?_) (fun hb43 h43=>?_)
               ·
                refine w_sr<|o_p r (p_build (cs:=aBBBBBBB) tb63 r)<|o_store (v:=.agg aBBBBBBB) (us:=aBBBBBBB) (cs:=aBBBBBBB) (σ':=[aBBBBBBB]) r tv63 r r r r r r r r<|o_ek (fr':=[(2,.box 0 0)]) r r<|w_ret<|e_blk_r<|e_seq_r ?_
                obtain rfl:=sy h43
                exact e_ret (rs':=[.cell 2 63]) r<|r_cells (us:=aBBBBBBB) (cs:=aBBBBBBB) tv63 r r r r<|r_nil<|fin_gen [] r r r (le_aggc r ⟨r,r,r,r,r,r,r,trivial⟩) st_nil
               ·
                refine w_sr<|o_p r (p_eql r r)<|sB r<|o_ek (fr':=[(2,.box 0 0),(3,aI),(43,aB)]) r r<|w_ch h43 r (fun hb45 h45=>?_) (fun hb45 h45=>?_)
                ·
                 refine w_sr<|o_p r (p_build (cs:=aBBBBBBB) tb63 r)<|o_store (v:=.agg aBBBBBBB) (us:=aBBBBBBB) (cs:=aBBBBBBB) (σ':=[aBBBBBBB]) r tv63 r r r r r r r r<|o_ek (fr':=[(2,.box 0 0)]) r r<|w_ret<|e_blk_r<|e_seq_r ?_
                 obtain rfl:=sy h45
                 exact e_ret (rs':=[.cell 2 63]) r<|r_cells (us:=aBBBBBBB) (cs:=aBBBBBBB) tv63 r r r r<|r_nil<|fin_gen [] r r r (le_aggc r ⟨r,r,r,r,r,r,r,trivial⟩) st_nil
                ·
                 refine w_sr<|o_p r (p_eql r r)<|sB r<|o_ek (fr':=[(2,.box 0 0),(3,aI),(46,aB)]) r r<|w_ch h45 r (fun hb47 h47=>?_) (fun hb47 h47=>?_)
                 ·
                  refine w_sr<|o_p r (p_build (cs:=aBBBBBBB) tb63 r)<|o_store (v:=.agg aBBBBBBB) (us:=aBBBBBBB) (cs:=aBBBBBBB) (σ':=[aBBBBBBB]) r tv63 r r r r r r r r<|o_ek (fr':=[(2,.box 0 0)]) r r<|w_ret<|e_blk_r<|e_seq_r ?_
                  obtain rfl:=sy h47
                  exact e_ret (rs':=[.cell 2 63]) r<|r_cells (us:=aBBBBBBB) (cs:=aBBBBBBB) tv63 r r r r<|r_nil<|fin_gen [] r r r (le_aggc r ⟨r,r,r,r,r,r,r,trivial⟩) st_nil
                 ·
                  refine w_sr<|o_p r (p_eql r r)<|sB r<|o_ek (fr':=[(2,.box 0 0),(49,aB)]) r r<|w_ch h47 r (fun hb49 h49=>?_) (fun hb49 h49=>?_)
                  ·
                   refine w_sr<|o_p r (p_build (cs:=aBBBBBBB) tb63 r)<|o_store (v:=.agg aBBBBBBB) (us:=aBBBBBBB) (cs:=aBBBBBBB) (σ':=[aBBBBBBB]) r tv63 r r r r r r r r<|o_ek (fr':=[(2,.box 0 0)]) r r<|w_ret<|e_blk_r<|e_seq_r ?_
                   obtain rfl:=sy h49
                   exact e_ret (rs':=[.cell 2 63]) r<|r_cells (us:=aBBBBBBB) (cs:=aBBBBBBB) tv63 r r r r<|r_nil<|fin_gen [] r r r (le_aggc r ⟨r,r,r,r,r,r,r,trivial⟩) st_nil
                  ·
                   refine w_skip<|e_blk_n<|e_kw<|w_sr<|o_p r (p_build (cs:=aBBBBBBB) tb63 r)<|o_store (v:=.agg aBBBBBBB) (us:=aBBBBBBB) (cs:=aBBBBBBB) (σ':=[aBBBBBBB]) r tv63 r r r r r r r r<|o_ek (fr':=[(2,.box 0 0)]) r r<|w_ret ?_
                   obtain rfl:=sy h49
                   exact e_ret (rs':=[.cell 2 63]) r<|r_cells (us:=aBBBBBBB) (cs:=aBBBBBBB) tv63 r r r r<|r_nil<|fin_gen [] r r r (le_aggc r ⟨r,r,r,r,r,r,r,trivial⟩) st_nil
noncomputable def event_uses_empty (p0u:EventUses) (p1e:ApiEvent):Option Bool :=
 (gd (((cond (cond (cond (cond (cond (cond p0u.seq_ true (decide (p1e.Seq=(0:Int)))) (cond p0u.ref_ true (decide (p1e.Ref=(0:Int)))) false) (cond p0u.n_ true (decide (p1e.N=(0:Int)))) false) (cond p0u.code_ true (decide (p1e.Code=(0:Int)))) false) (cond p0u.name_ true (decide (p1e.Name=([]:List UInt8)))) false) (cond p0u.key_ true (decide (p1e.Key=([]:List UInt8)))) false)==true)&&(p0u.data_==false)) (value_Same p1e.Data (ApiValue.mk (0:Int) (0:Int) ([]:List UInt8) ([]:(List ApiValue)) ([]:(List (List UInt8)))))).bind fun x1=>(gd ((cond (cond (cond (cond (cond (cond (cond p0u.seq_ true (decide (p1e.Seq=(0:Int)))) (cond p0u.ref_ true (decide (p1e.Ref=(0:Int)))) false) (cond p0u.n_ true (decide (p1e.N=(0:Int)))) false) (cond p0u.code_ true (decide (p1e.Code=(0:Int)))) false) (cond p0u.name_ true (decide (p1e.Name=([]:List UInt8)))) false) (cond p0u.key_ true (decide (p1e.Key=([]:List UInt8)))) false) (cond p0u.data_ true x1) false)==true) (command_SamePolicy p1e.Opts (ApiPolicy.mk ([]:List UInt8) (0:Int) (0:Int) (0:Int) (0:Int) (0:Int) (0:Int) (0:Int) (0:Int) ([]:(List (List UInt8)))))).bind fun x3=>some (cond (cond (cond (cond (cond (cond (cond (cond p0u.seq_ true (decide (p1e.Seq=(0:Int)))) (cond p0u.ref_ true (decide (p1e.Ref=(0:Int)))) false) (cond p0u.n_ true (decide (p1e.N=(0:Int)))) false) (cond p0u.code_ true (decide (p1e.Code=(0:Int)))) false) (cond p0u.name_ true (decide (p1e.Name=([]:List UInt8)))) false) (cond p0u.key_ true (decide (p1e.Key=([]:List UInt8)))) false) (cond p0u.data_ true x1) false) x3 false)
theorem w_event_uses_empty {p0u:EventUses}{p1e:ApiEvent}{res:Bool} (h:event_uses_empty p0u p1e=some res):ACalls Tryz.prog 32 [.agg (AV.cs (rowEventUses p0u)),.agg (AV.cs (rowApiEvent p1e))] [] (.c (.bool res)) []:=by
 unfold event_uses_empty at h
 refine acalls (fn:=Tryz.f32) [0,1,2,3,4] (by kernel_rfl) Tryz.func32 r (by kernel_rfl) (by kernel_rfl)<|w_sr<|o_box (v:=.agg aBBBBBBB) (n:=0) (cs:=aBBBBBBB) (σ':=[aBBBBBBB]) r r r r r<|o_box (v:=.agg aIIIIIIISSIISLLSIIIIIIIIL) (n:=1) (cs:=aIIIIIIISSIISLLSIIIIIIIIL) (σ':=[aBBBBBBB,aIIIIIIISSIISLLSIIIIIIIIL]) r r r r r<|sB r<|o_ek (fr':=[(2,.box 0 0),(3,.box 1 0)]) r r<|w_sr<|o_p r (p_fa tf63x0 r)<|o_p r (p_load (v:=aB) tv4 r r r)<|mB r<|og r r r (fun hc=>(p_fa tf45x3 r)) ?_
 refine og r r r (fun hc=>(p_load (v:=aI) tv3 (gx r hc) r r))<|og r r r (fun hc=>(p_eql (gx r hc) r))<|o_p r (p_pickz r r r (fun e=>keq e))<|mB r<|og r r r (fun hc=>(p_fa tf63x1 r))<|og r r r (fun hc=>(p_load (v:=aB) tv4 (gx r hc) r r))<|og r r r (fun hc=>(p_move (v:=aB) (gx r hc)))<|o_gg r r (fun hc=>ov_p r (p_fa tf45x4 r))<|o_gg r r (fun hc=>ov_p r (p_load (v:=aI) tv3 (gx r hc) r r))<|o_gg r r (fun hc=>ov_p r (p_eql (gx r hc) r))<|og r r r (fun hc=>(p_pickz (gx r hc) r r (fun e=>band hc (keq e))))<|o_p r (p_picky r r r (fun e=>keq e))<|mB r ?_
 refine og r r r (fun hc=>(p_fa tf63x2 r))<|og r r r (fun hc=>(p_load (v:=aB) tv4 (gx r hc) r r))<|og r r r (fun hc=>(p_move (v:=aB) (gx r hc)))<|o_gg r r (fun hc=>ov_p r (p_fa tf45x5 r))<|o_gg r r (fun hc=>ov_p r (p_load (v:=aI) tv3 (gx r hc) r r))<|o_gg r r (fun hc=>ov_p r (p_eql (gx r hc) r))<|og r r r (fun hc=>(p_pickz (gx r hc) r r (fun e=>band hc (keq e))))<|o_p r (p_picky r r r (fun e=>keq e))<|mB r<|og r r r (fun hc=>(p_fa tf63x3 r))<|og r r r (fun hc=>(p_load (v:=aB) tv4 (gx r hc) r r))<|og r r r (fun hc=>(p_move (v:=aB) (gx r hc)))<|o_gg r r (fun hc=>ov_p r (p_fa tf45x6 r)) ?_
 refine o_gg r r (fun hc=>ov_p r (p_load (v:=aI) tv3 (gx r hc) r r))<|o_gg r r (fun hc=>ov_p r (p_eql (gx r hc) r))<|og r r r (fun hc=>(p_pickz (gx r hc) r r (fun e=>band hc (keq e))))<|o_p r (p_picky r r r (fun e=>keq e))<|mB r<|og r r r (fun hc=>(p_fa tf63x4 r))<|og r r r (fun hc=>(p_load (v:=aB) tv4 (gx r hc) r r))<|og r r r (fun hc=>(p_move (v:=aB) (gx r hc)))<|o_gg r r (fun hc=>ov_p r (p_fa tf45x7 r))<|o_gg r r (fun hc=>ov_p r (p_load (v:=aS) tv9 (gx r hc) r r))<|o_gg r r (fun hc=>ov_p r (p_seql (gx r hc) r))<|og r r r (fun hc=>(p_pickz (gx r hc) r r (fun e=>band hc (keq e))))<|o_p r (p_picky r r r (fun e=>keq e)) ?_
 refine mB r<|og r r r (fun hc=>(p_fa tf63x5 r))<|og r r r (fun hc=>(p_load (v:=aB) tv4 (gx r hc) r r))<|og r r r (fun hc=>(p_move (v:=aB) (gx r hc)))<|o_gg r r (fun hc=>ov_p r (p_fa tf45x8 r))<|o_gg r r (fun hc=>ov_p r (p_load (v:=aS) tv9 (gx r hc) r r))<|o_gg r r (fun hc=>ov_p r (p_seql (gx r hc) r))<|og r r r (fun hc=>(p_pickz (gx r hc) r r (fun e=>band hc (keq e))))<|o_p r (p_picky r r r (fun e=>keq e))<|mB r<|og r r r (fun hc=>(p_fa tf63x6 r))<|og r r r (fun hc=>(p_load (v:=aB) tv4 (gx r hc) r r))<|og r r r (fun hc=>(p_move (v:=aB) (gx r hc))) ?_
 refine o_gg r r (fun hc=>ov_p r (p_fa tf45x9 r))<|o_gg r r (fun hc=>ov_p r (p_loads (us:=aIISLL) tv41 (gx r hc) r r r))<|o_gg r r (fun hc=>ov_p r (p_build (cs:=[aI,aI,aS,AV.nil,AV.nil]) tb41 r)) ?_
 obtain ⟨x1,hx1,h2⟩:=bind_s h
 refine o_gg r r (fun hc=>ov_call (v:=aB) r (w_value_Same (gd_some hx1 hc)) ⟨(le_gv (gx r hc) (le_aggc r ⟨r,r,r,r,r,trivial⟩)),(le_gv (gx r hc) (le_aggc r ⟨r,r,r,⟨_,r⟩,⟨_,r⟩,trivial⟩)),trivial⟩ (ok_eq (by repeat (first | exact ok_nil | refine ok_cons r ?_ | refine ok_cons (dgv r) ?_ | refine ok_cons dar ?_))) r r) ?_
 refine og r r r (fun hc=>(p_pickz (gx r hc) r r (fun e=>band hc (keq e))))<|o_p r (p_picky r r r (fun e=>keq e))<|mB r<|og r r r (fun hc=>(p_fa tf45x10 r))<|og r r r (fun hc=>(p_loads (us:=aSIIIIIIIIL) tv43 (gx r hc) r r r))<|og r r r (fun hc=>(p_buildc (c0:=[aS,aI,aI,aI,aI,aI,aI,aI,aI,AV.nil]) (cs:=[aS,aI,aI,aI,aI,aI,aI,aI,aI,AV.nil]) tb43 r fill_nil)) ?_
 obtain ⟨x3,hx3,h4⟩:=bind_s h2
 refine o_g r r (fun hc=>ov_call (v:=aB) r (w_command_SamePolicy (gd_some hx3 hc)) ⟨(le_gv (gx r hc) (le_aggc r ⟨r,r,r,r,r,r,r,r,r,r,trivial⟩)),(le_gv (gx r hc) (le_aggc r ⟨r,r,r,r,r,r,r,r,r,⟨_,r⟩,trivial⟩)),trivial⟩ (ok_eq (by repeat (first | exact ok_nil | refine ok_cons r ?_ | refine ok_cons (dgv r) ?_ | refine ok_cons dar ?_))) r r) ?_
 refine o_p r (p_picky r r r (fun e=>keq e))<|sB r<|o_ek (fr':=[(4,aB)]) r r<|w_ret ?_
 obtain rfl:=sy h4
 exact e_ret (rs':=[.tmp 4]) r<|r_tmp (v:=aB) r<|r_nil<|fin_gen [] r r r lr st_nil
noncomputable def event_identifier_l1 (p0s:(List UInt8)) (s4:Int):Option (Step Int (Fl Bool Unit)) :=
 cond (decide (s4<((p0s).length:Int))) ((idx p0s s4).bind fun x6=>(gd ((decide (((x6).toNat:Int)<(33:Int)))==false) (idx p0s s4)).bind fun x8=>(gd ((cond (decide (((x6).toNat:Int)<(33:Int))) true (decide ((126:Int)<((x8).toNat:Int))))==false) (idx p0s s4)).bind fun x10=>(gd ((cond (cond (decide (((x6).toNat:Int)<(33:Int))) true (decide ((126:Int)<((x8).toNat:Int)))) true (decide (((x10).toNat:Int)=(47:Int))))==false) (idx p0s s4)).bind fun x12=>cond (cond (cond (cond (decide (((x6).toNat:Int)<(33:Int))) true (decide ((126:Int)<((x8).toNat:Int)))) true (decide (((x10).toNat:Int)=(47:Int)))) true (decide (((x12).toNat:Int)=(34:Int)))) (some (Step.out (Fl.done false))) (some (Step.next (IntKind.wrap .i64 (s4+(1:Int)))))) (some (Step.out (Fl.go ())))
noncomputable def event_identifier (p0s:(List UInt8)):Option Bool :=
 ((loopO (event_identifier_l1 p0s) ((0:Int))):Option (Fl Bool Unit)).bind fun x1=>Fl.next x1 (fun j3=>((event_within ((p0s).length:Int) (1:Int) (64:Int)).bind fun x20=>some x20))
theorem w_event_identifier {p0s:(List UInt8)}{res:Bool} (h:event_identifier p0s=some res):ACalls Tryz.prog 56 [.c (.str p0s)] [] (.c (.bool res)) []:=by
 unfold event_identifier at h
 refine acalls (fn:=Tryz.f56) [0,2,3,5,6,7,30] (by kernel_rfl) Tryz.func56 r (by kernel_rfl) (by kernel_rfl)<|w_sr<|sB r<|o_ek (fr':=[(0,aS)]) r r<|w_seqw<|w_sr<|mS r<|o_p r (p_lens ti9 r)<|mI r<|o_ek (fr':=[(0,aS),(5,aI),(6,aI)]) r r ?_
 obtain ⟨x1,hx1,h2⟩:=bind_s h
 refine w_jtail cl_kw (fun j3=>x1=Fl.go j3) (fun (j3:Unit)=>([(0,.c (.str p0s))]:Fr)) (fun (j3:Unit)=>([]:St)) ?_ ?_
 ·
  refine w_block<|w_loopo _ (fun (s4:Int)=>([(0,.c (.str p0s)),(5,.c (.int .i64 ((p0s).length:Int))),(6,.c (.int .i64 s4))]:Fr)) (fun (s4:Int)=>([]:St)) hx1 (w_weak [] 0 r r r r ⟨lr,lr,lr,trivial⟩ st_nil) ?_
  intro s4 st4 hs4 ho4
  unfold event_identifier_l1 at hs4
  refine w_sr<|o_p r (p_lss r r)<|o_ek (fr':=[(0,aS),(5,aI),(6,aI),(7,aB)]) r r<|w_seqw<|w_ch hs4 r (fun hb5 h5=>?_) (fun hb5 h5=>?_)
  ·
   refine w_skip<|e_kw<|w_seqw<|w_block<|w_sr<|mI r<|sI r<|o_ek (fr':=[(0,aS),(3,aI),(5,aI),(6,aI)]) r r<|w_sr<|mS r<|mI r ?_
   obtain ⟨x6,hx6,h7⟩:=bind_s h5
   refine o_p r (p_is ti9 r r hx6)<|o_p r (p_lss r r)<|mB r<|og r r r (fun hc=>(p_move (v:=aS) r))<|og r r r (fun hc=>(p_move (v:=aI) r)) ?_
   obtain ⟨x8,hx8,h9⟩:=bind_s h7
   refine og r r r (fun hc=>(p_is ti9 (gx r hc) (gx r hc) (gd_some hx8 hc)))<|og r r r (fun hc=>(p_gtr (gx r hc) r))<|o_p r (p_pickz r r r (fun e=>keq e))<|mB r<|og r r r (fun hc=>(p_move (v:=aS) r))<|og r r r (fun hc=>(p_move (v:=aI) r)) ?_
   obtain ⟨x10,hx10,h11⟩:=bind_s h9
   refine og r r r (fun hc=>(p_is ti9 (gx r hc) (gx r hc) (gd_some hx10 hc)))<|og r r r (fun hc=>(p_eql (gx r hc) r))<|o_p r (p_pickz r r r (fun e=>keq e))<|mB r<|og r r r (fun hc=>(p_move (v:=aS) r))<|og r r r (fun hc=>(p_move (v:=aI) r)) ?_
   obtain ⟨x12,hx12,h13⟩:=bind_s h11
   refine og r r r (fun hc=>(p_is ti9 (gx r hc) (gx r hc) (gd_some hx12 hc)))<|og r r r (fun hc=>(p_eql (gx r hc) r))<|o_p r (p_pickz r r r (fun e=>keq e))<|o_ek (fr':=[(0,aS),(5,aI),(6,aI),(30,aB)]) r r<|w_ch h13 r (fun hb14 h14=>?_) (fun hb14 h14=>?_)
   ·
    refine w_sr<|sB r<|o_ek (fr':=[(2,aB)]) r r<|w_ret<|e_blk_r<|e_seq_r<|e_seq_r<|e_blk_r<|e_seq_r<|e_seq_r ?_
    have h15:=un_out h14 ho4
    have h16:=un_done h15 h2
    obtain rfl:=sy h16
    exact e_ret (rs':=[.tmp 2]) r<|r_tmp (v:=aB) r<|r_nil<|fin_gen [] r r r lr st_nil
   ·
    exact w_skip<|e_blk_n<|e_kw<|w_region<|o_p r (p_add r r)<|mI r<|o_end (fr':=[(0,aS),(5,aI),(6,aI),(30,aB)]) r<|e_l _ (sy h14) (w_weak [] 0 r r r r ⟨lr,lr,lr,trivial⟩ st_nil)
  ·
   refine w_exit<|e_seq_x<|e_seq_x<|e_blk_h ?_
   have h18:=un_out h5 ho4
   exact e_j _ (sy h18) (w_weak [] 0 r r r r ⟨lr,trivial⟩ st_nil)
 ·
  intro j3 hj19
  have h19:=un_go hj19 h2
  refine e_kw<|w_sr<|mS r<|o_p r (p_lens ti9 r) ?_
  obtain ⟨x20,hx20,h21⟩:=bind_s h19
  refine o_v (ov_call (v:=aB) r (w_event_within hx20) ⟨lr,lr,lr,trivial⟩ r r r)<|sB r<|o_ek (fr':=[(2,aB)]) r r<|w_ret ?_
  obtain rfl:=sy h21
  exact e_ret (rs':=[.tmp 2]) r<|r_tmp (v:=aB) r<|r_nil<|fin_gen [] r r r lr st_nil
end Go.Proofs.YtmbdbdhdcbdcpaaGreatDoor

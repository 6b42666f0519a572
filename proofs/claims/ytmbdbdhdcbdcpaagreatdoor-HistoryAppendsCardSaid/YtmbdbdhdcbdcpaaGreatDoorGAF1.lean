import Derived.Test.YtmbdbdhdcbdcpaaGreatDoorGATy
import Derived.Test.YtmbdbdhdcbdcpaaGreatDoorGAF0
namespace Go.Proofs.YtmbdbdhdcbdcpaaGreatDoor
open Go Abs
set_option maxRecDepth 100000
set_option linter.unusedVariables false
set_option linter.unusedSimpArgs false
noncomputable def value_Right (p0v:ApiValue):Option Bool :=
 (value_within p0v).bind fun x1=>(gd (x1==true) (value_formed p0v false)).bind fun x3=>some (cond x1 x3 false)
theorem w_value_Right {p0v:ApiValue}{res:Bool} (h:value_Right p0v=some res):ACalls Tryz.prog 29 [.agg (AV.cs (exApiValue p0v))] [] (.c (.bool res)) []:=by
 unfold value_Right at h
 refine acalls (fn:=Tryz.f29) [0,1,2] (by kernel_rfl) Tryz.func29 r (by kernel_rfl) (by kernel_rfl)<|w_sr<|o_box (v:=.agg aIISLL) (n:=0) (cs:=aIISLL) (σ':=[aIISLL]) r r r r r<|sB r<|o_ek (fr':=[(1,.box 0 0)]) r r<|w_sr<|o_p r (p_loads (us:=aIISLL) tv41 r r r r) ?_
 obtain ⟨x1,hx1,h2⟩:=bind_s h
 refine o_v (ov_call (v:=aB) r (w_value_within hx1) ⟨(le_aggc r ⟨r,r,r,r,r,trivial⟩),trivial⟩ r r r)<|mB r<|og r r r (fun hc=>(p_loads (us:=aIISLL) tv41 r r r r)) ?_
 obtain ⟨x3,hx3,h4⟩:=bind_s h2
 refine o_g r r (fun hc=>ov_call (v:=aB) r (w_value_formed (gd_some hx3 hc)) ⟨(le_gv (gx r hc) (le_aggc r ⟨r,r,r,r,r,trivial⟩)),lr,trivial⟩ (ok_eq (by repeat (first | exact ok_nil | refine ok_cons r ?_ | refine ok_cons (dgv r) ?_ | refine ok_cons dar ?_))) r r) ?_
 refine o_p r (p_picky r r r (fun e=>keq e))<|sB r<|o_ek (fr':=[(2,aB)]) r r<|w_ret ?_
 obtain rfl:=sy h4
 exact e_ret (rs':=[.tmp 2]) r<|r_tmp (v:=aB) r<|r_nil<|fin_gen [] r r r lr st_nil
noncomputable def name_letter (p0c:Int):Option Bool :=
 some (cond (cond (cond (decide ((97:Int)≤p0c)) (decide (p0c≤(122:Int))) false) true (cond (decide ((65:Int)≤p0c)) (decide (p0c≤(90:Int))) false)) true (decide (p0c=(95:Int))))
theorem w_name_letter {p0c:Int}{res:Bool} (h:name_letter p0c=some res):ACalls Tryz.prog 86 [.c (.int .u8 p0c)] [] (.c (.bool res)) []:=by
 unfold name_letter at h
 refine acalls (fn:=Tryz.f86) [0,2] (by kernel_rfl) Tryz.func86 r (by kernel_rfl) (by kernel_rfl)<|w_sr<|sB r<|o_ek (fr':=[(0,aI)]) r r<|w_sr<|mI r<|o_p r (p_geq r r)<|mB r<|og r r r (fun hc=>(p_move (v:=aI) r))<|og r r r (fun hc=>(p_leq (gx r hc) r))<|o_p r (p_picky r r r (fun e=>keq e)) ?_
 refine mB r<|og r r r (fun hc=>(p_move (v:=aI) r))<|og r r r (fun hc=>(p_geq (gx r hc) r))<|og r r r (fun hc=>(p_move (v:=aB) (gx r hc)))<|o_gg r r (fun hc=>ov_p r (p_move (v:=aI) r))<|o_gg r r (fun hc=>ov_p r (p_leq (gx r hc) r))<|og r r r (fun hc=>(p_picky (gx r hc) r r (fun e=>band hc (keq e))))<|o_p r (p_pickz r r r (fun e=>keq e))<|mB r<|og r r r (fun hc=>(p_move (v:=aI) r))<|og r r r (fun hc=>(p_eql (gx r hc) r))<|o_p r (p_pickz r r r (fun e=>keq e))<|sB r ?_
 refine o_ek (fr':=[(2,aB)]) r r<|w_ret ?_
 obtain rfl:=sy h
 exact e_ret (rs':=[.tmp 2]) r<|r_tmp (v:=aB) r<|r_nil<|fin_gen [] r r r lr st_nil
noncomputable def name_Right_l1 (p0s:(List UInt8)) (s6:Int):Option (Step Int (Fl Bool Unit)) :=
 cond (decide (s6<((p0s).length:Int))) ((idx p0s s6).bind fun x8=>(name_letter ((x8).toNat:Int)).bind fun x10=>(gd (((!x10)==true)&&((decide (s6=(0:Int)))==false)) (idx p0s s6)).bind fun x12=>(gd (((!x10)==true)&&((cond (decide (s6=(0:Int))) true (decide (((x12).toNat:Int)<(48:Int))))==false)) (idx p0s s6)).bind fun x14=>cond (cond (!x10) (cond (cond (decide (s6=(0:Int))) true (decide (((x12).toNat:Int)<(48:Int)))) true (decide ((57:Int)<((x14).toNat:Int)))) false) (some (Step.out (Fl.done false))) (some (Step.next (IntKind.wrap .i64 (s6+(1:Int)))))) (some (Step.out (Fl.go ())))
noncomputable def name_Right (p0s:(List UInt8)):Option Bool :=
 cond (cond (decide (p0s=([]:List UInt8))) true (decide ((64:Int)<((p0s).length:Int)))) (some false) (((loopO (name_Right_l1 p0s) ((0:Int))):Option (Fl Bool Unit)).bind fun x3=>Fl.next x3 (fun j5=>(some true)))
theorem w_name_Right {p0s:(List UInt8)}{res:Bool} (h:name_Right p0s=some res):ACalls Tryz.prog 55 [.c (.str p0s)] [] (.c (.bool res)) []:=by
 unfold name_Right at h
 refine acalls (fn:=Tryz.f55) [0,2,3,10,12,13,14,36] (by kernel_rfl) Tryz.func55 r (by kernel_rfl) (by kernel_rfl)<|w_sr<|sB r<|o_ek (fr':=[(0,aS)]) r r<|w_seqw<|w_sr<|mS r<|o_p r (p_seql r r)<|mB r<|og r r r (fun hc=>(p_move (v:=aS) r))<|og r r r (fun hc=>(p_lens ti9 (gx r hc))) ?_
 refine og r r r (fun hc=>(p_gtr (gx r hc) r))<|o_p r (p_pickz r r r (fun e=>keq e))<|o_ek (fr':=[(0,aS),(10,aB)]) r r<|w_ch h r (fun hb1 h1=>?_) (fun hb1 h1=>?_)
 ·
  refine w_sr<|sB r<|o_ek (fr':=[(2,aB)]) r r<|w_ret<|e_seq_r ?_
  obtain rfl:=sy h1
  exact e_ret (rs':=[.tmp 2]) r<|r_tmp (v:=aB) r<|r_nil<|fin_gen [] r r r lr st_nil
 ·
  refine w_skip<|e_kw<|w_seqw<|w_sr<|mS r<|o_p r (p_lens ti9 r)<|mI r<|o_ek (fr':=[(0,aS),(12,aI),(13,aI)]) r r ?_
  obtain ⟨x3,hx3,h4⟩:=bind_s h1
  refine w_jtail cl_kw (fun j5=>x3=Fl.go j5) (fun (j5:Unit)=>([]:Fr)) (fun (j5:Unit)=>([]:St)) ?_ ?_
  ·
   refine w_block<|w_loopo _ (fun (s6:Int)=>([(0,.c (.str p0s)),(12,.c (.int .i64 ((p0s).length:Int))),(13,.c (.int .i64 s6))]:Fr)) (fun (s6:Int)=>([]:St)) hx3 (w_weak [] 0 r r r r ⟨lr,lr,lr,trivial⟩ st_nil) ?_
   intro s6 st6 hs6 ho6
   unfold name_Right_l1 at hs6
   refine w_sr<|o_p r (p_lss r r)<|o_ek (fr':=[(0,aS),(12,aI),(13,aI),(14,aB)]) r r<|w_seqw<|w_ch hs6 r (fun hb7 h7=>?_) (fun hb7 h7=>?_)
   ·
    refine w_skip<|e_kw<|w_seqw<|w_block<|w_sr<|mI r<|sI r<|o_ek (fr':=[(0,aS),(3,aI),(12,aI),(13,aI)]) r r<|w_sr<|mS r<|mI r ?_
    obtain ⟨x8,hx8,h9⟩:=bind_s h7
    refine o_p r (p_is ti9 r r hx8) ?_
    obtain ⟨x10,hx10,h11⟩:=bind_s h9
    refine o_v (ov_call (v:=aB) r (w_name_letter hx10) ⟨lr,trivial⟩ r r r)<|o_p r (p_not r)<|mB r<|og r r r (fun hc=>(p_move (v:=aI) r))<|og r r r (fun hc=>(p_eql (gx r hc) r))<|og r r r (fun hc=>(p_move (v:=aB) (gx r hc)))<|o_gg r r (fun hc=>ov_p r (p_move (v:=aS) r))<|o_gg r r (fun hc=>ov_p r (p_move (v:=aI) r)) ?_
    obtain ⟨x12,hx12,h13⟩:=bind_s h11
    refine o_gg r r (fun hc=>ov_p r (p_is ti9 (gx r hc) (gx r hc) (gd_some hx12 hc)))<|o_gg r r (fun hc=>ov_p r (p_lss (gx r hc) r))<|og r r r (fun hc=>(p_pickz (gx r hc) r r (fun e=>band hc (keq e))))<|og r r r (fun hc=>(p_move (v:=aB) (gx r hc)))<|o_gg r r (fun hc=>ov_p r (p_move (v:=aS) r))<|o_gg r r (fun hc=>ov_p r (p_move (v:=aI) r)) ?_
    obtain ⟨x14,hx14,h15⟩:=bind_s h13
    refine o_gg r r (fun hc=>ov_p r (p_is ti9 (gx r hc) (gx r hc) (gd_some hx14 hc)))<|o_gg r r (fun hc=>ov_p r (p_gtr (gx r hc) r))<|og r r r (fun hc=>(p_pickz (gx r hc) r r (fun e=>band hc (keq e))))<|o_p r (p_picky r r r (fun e=>keq e))<|o_ek (fr':=[(0,aS),(12,aI),(13,aI),(36,aB)]) r r<|w_ch h15 r (fun hb16 h16=>?_) (fun hb16 h16=>?_)
    ·
     refine w_sr<|sB r<|o_ek (fr':=[(2,aB)]) r r<|w_ret<|e_blk_r<|e_seq_r<|e_seq_r<|e_blk_r<|e_seq_r<|e_seq_r ?_
     have h17:=un_out h16 ho6
     have h18:=un_done h17 h4
     obtain rfl:=sy h18
     exact e_ret (rs':=[.tmp 2]) r<|r_tmp (v:=aB) r<|r_nil<|fin_gen [] r r r lr st_nil
    ·
     exact w_skip<|e_blk_n<|e_kw<|w_region<|o_p r (p_add r r)<|mI r<|o_end (fr':=[(0,aS),(12,aI),(13,aI),(36,aB)]) r<|e_l _ (sy h16) (w_weak [] 0 r r r r ⟨lr,lr,lr,trivial⟩ st_nil)
   ·
    refine w_exit<|e_seq_x<|e_seq_x<|e_blk_h ?_
    have h20:=un_out h7 ho6
    exact e_j _ (sy h20) (w_weak [] 0 r r r r trivial st_nil)
  ·
   intro j5 hj21
   have h21:=un_go hj21 h4
   refine e_kw<|w_sr<|sB r<|o_ek (fr':=[(2,aB)]) r r<|w_ret ?_
   obtain rfl:=sy h21
   exact e_ret (rs':=[.tmp 2]) r<|r_tmp (v:=aB) r<|r_nil<|fin_gen [] r r r lr st_nil
noncomputable def command_fields (p0kind:Int):Option CommandUses :=
 cond (decide (p0kind=(1:Int))) (some (CommandUses.mk true true false false true true)) (((cond (decide (p0kind=(2:Int))) (some (decide (p0kind=(2:Int)))) (some (decide (p0kind=(4:Int))))):Option Bool).bind fun x3=>(cond x3 (some (CommandUses.mk true false false false false false)) (cond (decide (p0kind=(3:Int))) (some (CommandUses.mk true false false true false false)) (cond (decide (p0kind=(5:Int))) (some (CommandUses.mk true true true true true false)) (cond (decide (p0kind=(6:Int))) (some (CommandUses.mk true true true false true false)) (cond (decide (p0kind=(7:Int))) (some (CommandUses.mk false true false true true false)) (cond (decide (p0kind=(8:Int))) (some (CommandUses.mk false true true false true false)) (cond (decide (p0kind=(9:Int))) (some (CommandUses.mk false false true true true false)) (cond (decide (p0kind=(12:Int))) (some (CommandUses.mk false true false false true false)) (some (CommandUses.mk false false false false true false)))))))))))
theorem w_command_fields {p0kind:Int}{res:CommandUses} (h:command_fields p0kind=some res):ACalls Tryz.prog 77 [.c (.int .i64 p0kind)] [] (.agg (AV.cs (rowCommandUses res))) []:=by
 unfold command_fields at h
 refine acalls (fn:=Tryz.f77) [0,2,3,4,7,11,14,17,20,23,26,29] (by kernel_rfl) Tryz.func77 r (by kernel_rfl) (by kernel_rfl)<|w_sr<|o_alloc (n:=0) (cs:=aBBBBBB) (σ':=[aBBBBBB]) tz88 r r r<|o_ek (fr':=[(0,aI),(2,.box 0 0)]) r r<|w_seqw<|w_sr<|mI r<|o_ek (fr':=[(2,.box 0 0),(3,aI)]) r r<|w_block<|w_seqw<|w_region ?_
 refine o_p r (p_eql r r)<|sB r<|o_ek (fr':=[(2,.box 0 0),(3,aI),(4,aB)]) r r<|w_ch h r (fun hb1 h1=>?_) (fun hb1 h1=>?_)
 ·
  refine w_sr<|o_p r (p_build (cs:=aBBBBBB) tb88 r)<|o_store (v:=.agg aBBBBBB) (us:=aBBBBBB) (cs:=aBBBBBB) (σ':=[aBBBBBB]) r tv88 r r r r r r r r<|o_ek (fr':=[(2,.box 0 0)]) r r<|w_ret<|e_blk_r<|e_seq_r ?_
  obtain rfl:=sy h1
  exact e_ret (rs':=[.cell 2 88]) r<|r_cells (us:=aBBBBBB) (cs:=aBBBBBB) tv88 r r r r<|r_nil<|fin_gen [] r r r (le_aggc r ⟨r,r,r,r,r,r,trivial⟩) st_nil
 ·
  obtain ⟨x3,hx3,h4⟩:=bind_s h1
  refine w_join (fun j5=>x3=j5) (fun (j5:Bool)=>([(2,.box 0 0),(3,.c (.int .i64 p0kind)),(7,.c (.bool j5))]:Fr)) (fun (j5:Bool)=>([[.c (.bool false),.c (.bool false),.c (.bool false),.c (.bool false),.c (.bool false),.c (.bool false)]]:St)) ?_ ?_
  ·
   refine w_sr<|o_p r (p_eql r r)<|sB r<|o_ek (fr':=[(2,.box 0 0),(3,aI),(7,aB)]) r r<|w_ch hx3 r (fun hb6 h6=>?_) (fun hb6 h6=>?_)
   ·
    exact w_skip<|e_j _ (sy h6) (w_weak [] 1 r r r r ⟨lr,lr,lr,trivial⟩ (st_r r st_nil))
   ·
    exact w_region<|o_p r (p_eql r r)<|sB r<|o_end (fr':=[(2,.box 0 0),(3,aI),(7,aB)]) r<|e_j _ (sy h6) (w_weak [] 1 r r r r ⟨lr,lr,lr,trivial⟩ (st_r r st_nil))
  ·
   intro j5 hj7
   subst hj7
   refine w_ch h4 r (fun hb8 h8=>?_) (fun hb8 h8=>?_)
   ·
    refine w_sr<|o_p r (p_build (cs:=aBBBBBB) tb88 r)<|o_store (v:=.agg aBBBBBB) (us:=aBBBBBB) (cs:=aBBBBBB) (σ':=[aBBBBBB]) r tv88 r r r r r r r r<|o_ek (fr':=[(2,.box 0 0)]) r r<|w_ret<|e_blk_r<|e_seq_r ?_
    obtain rfl:=sy h8
    exact e_ret (rs':=[.cell 2 88]) r<|r_cells (us:=aBBBBBB) (cs:=aBBBBBB) tv88 r r r r<|r_nil<|fin_gen [] r r r (le_aggc r ⟨r,r,r,r,r,r,trivial⟩) st_nil
   ·
    refine w_sr<|o_p r (p_eql r r)<|sB r<|o_ek (fr':=[(2,.box 0 0),(3,aI),(11,aB)]) r r<|w_ch h8 r (fun hb10 h10=>?_) (fun hb10 h10=>?_)
    ·
     refine w_sr<|o_p r (p_build (cs:=aBBBBBB) tb88 r)<|o_store (v:=.agg aBBBBBB) (us:=aBBBBBB) (cs:=aBBBBBB) (σ':=[aBBBBBB]) r tv88 r r r r r r r r<|o_ek (fr':=[(2,.box 0 0)]) r r<|w_ret<|e_blk_r<|e_seq_r ?_
     obtain rfl:=sy h10
     exact e_ret (rs':=[.cell 2 88]) r<|r_cells (us:=aBBBBBB) (cs:=aBBBBBB) tv88 r r r r<|r_nil<|fin_gen [] r r r (le_aggc r ⟨r,r,r,r,r,r,trivial⟩) st_nil
    ·
     refine w_sr<|o_p r (p_eql r r)<|sB r<|o_ek (fr':=[(2,.box 0 0),(3,aI),(14,aB)]) r r<|w_ch h10 r (fun hb12 h12=>?_) (fun hb12 h12=>?_)
     ·
      refine w_sr<|o_p r (p_build (cs:=aBBBBBB) tb88 r)<|o_store (v:=.agg aBBBBBB) (us:=aBBBBBB) (cs:=aBBBBBB) (σ':=[aBBBBBB]) r tv88 r r r r r r r r<|o_ek (fr':=[(2,.box 0 0)]) r r<|w_ret<|e_blk_r<|e_seq_r ?_
      obtain rfl:=sy h12
      exact e_ret (rs':=[.cell 2 88]) r<|r_cells (us:=aBBBBBB) (cs:=aBBBBBB) tv88 r r r r<|r_nil<|fin_gen [] r r r (le_aggc r ⟨r,r,r,r,r,r,trivial⟩) st_nil
     ·
      refine w_sr<|o_p r (p_eql r r)<|sB r<|o_ek (fr':=[(2,.box 0 0),(3,aI),(17,aB)]) r r<|w_ch h12 r (fun hb14 h14=>?_) (fun hb14 h14=>?_)
      ·
       refine w_sr<|o_p r (p_build (cs:=aBBBBBB) tb88 r)<|o_store (v:=.agg aBBBBBB) (us:=aBBBBBB) (cs:=aBBBBBB) (σ':=[aBBBBBB]) r tv88 r r r r r r r r<|o_ek (fr':=[(2,.box 0 0)]) r r<|w_ret<|e_blk_r<|e_seq_r ?_
       obtain rfl:=sy h14
       exact e_ret (rs':=[.cell 2 88]) r<|r_cells (us:=aBBBBBB) (cs:=aBBBBBB) tv88 r r r r<|r_nil<|fin_gen [] r r r (le_aggc r ⟨r,r,r,r,r,r,trivial⟩) st_nil
      ·
       refine w_sr<|o_p r (p_eql r r)<|sB r<|o_ek (fr':=[(2,.box 0 0),(3,aI),(20,aB)]) r r<|w_ch h14 r (fun hb16 h16=>?_) (fun hb16 h16=>?_)
       ·
        refine w_sr<|o_p r (p_build (cs:=aBBBBBB) tb88 r)<|o_store (v:=.agg aBBBBBB) (us:=aBBBBBB) (cs:=aBBBBBB) (σ':=[aBBBBBB]) r tv88 r r r r r r r r<|o_ek (fr':=[(2,.box 0 0)]) r r<|w_ret<|e_blk_r<|e_seq_r ?_
        obtain rfl:=sy h16
        exact e_ret (rs':=[.cell 2 88]) r<|r_cells (us:=aBBBBBB) (cs:=aBBBBBB) tv88 r r r r<|r_nil<|fin_gen [] r r r (le_aggc r ⟨r,r,r,r,r,r,trivial⟩) st_nil
       ·
        refine w_sr<|o_p r (p_eql r r)<|sB r<|o_ek (fr':=[(2,.box 0 0),(3,aI),(23,aB)]) r r<|w_ch h16 r (fun hb18 h18=>?_) (fun hb18 h18=>?_)
        ·
         refine w_sr<|o_p r (p_build (cs:=aBBBBBB) tb88 r)<|o_store (v:=.agg aBBBBBB) (us:=aBBBBBB) (cs:=aBBBBBB) (σ':=[aBBBBBB]) r tv88 r r r r r r r r<|o_ek (fr':=[(2,.box 0 0)]) r r<|w_ret<|e_blk_r<|e_seq_r ?_
         obtain rfl:=sy h18
         exact e_ret (rs':=[.cell 2 88]) r<|r_cells (us:=aBBBBBB) (cs:=aBBBBBB) tv88 r r r r<|r_nil<|fin_gen [] r r r (le_aggc r ⟨r,r,r,r,r,r,trivial⟩) st_nil
        ·
         refine w_sr<|o_p r (p_eql r r)<|sB r<|o_ek (fr':=[(2,.box 0 0),(3,aI),(26,aB)]) r r<|w_ch h18 r (fun hb20 h20=>?_) (fun hb20 h20=>?_)
         ·
          refine w_sr<|o_p r (p_build (cs:=aBBBBBB) tb88 r)<|o_store (v:=.agg aBBBBBB) (us:=aBBBBBB) (cs:=aBBBBBB) (σ':=[aBBBBBB]) r tv88 r r r r r r r r<|o_ek (fr':=[(2,.box 0 0)]) r r<|w_ret<|e_blk_r<|e_seq_r ?_
          obtain rfl:=sy h20
          exact e_ret (rs':=[.cell 2 88]) r<|r_cells (us:=aBBBBBB) (cs:=aBBBBBB) tv88 r r r r<|r_nil<|fin_gen [] r r r (le_aggc r ⟨r,r,r,r,r,r,trivial⟩) st_nil
         ·
          refine w_sr<|o_p r (p_eql r r)<|sB r<|o_ek (fr':=[(2,.box 0 0),(29,aB)]) r r<|w_ch h20 r (fun hb22 h22=>?_) (fun hb22 h22=>?_)
          ·
           refine w_sr<|o_p r (p_build (cs:=aBBBBBB) tb88 r)<|o_store (v:=.agg aBBBBBB) (us:=aBBBBBB) (cs:=aBBBBBB) (σ':=[aBBBBBB]) r tv88 r r r r r r r r<|o_ek (fr':=[(2,.box 0 0)]) r r<|w_ret<|e_blk_r<|e_seq_r ?_
           obtain rfl:=sy h22
           exact e_ret (rs':=[.cell 2 88]) r<|r_cells (us:=aBBBBBB) (cs:=aBBBBBB) tv88 r r r r<|r_nil<|fin_gen [] r r r (le_aggc r ⟨r,r,r,r,r,r,trivial⟩) st_nil
          ·
           refine w_skip<|e_blk_n<|e_kw<|w_sr<|o_p r (p_build (cs:=aBBBBBB) tb88 r)<|o_store (v:=.agg aBBBBBB) (us:=aBBBBBB) (cs:=aBBBBBB) (σ':=[aBBBBBB]) r tv88 r r r r r r r r<|o_ek (fr':=[(2,.box 0 0)]) r r<|w_ret ?_
           obtain rfl:=sy h22
           exact e_ret (rs':=[.cell 2 88]) r<|r_cells (us:=aBBBBBB) (cs:=aBBBBBB) tv88 r r r r<|r_nil<|fin_gen [] r r r (le_aggc r ⟨r,r,r,r,r,r,trivial⟩) st_nil
noncomputable def command_in (p0n:Int) (p1low:Int) (p2high:Int):Option Bool :=
 some (cond (decide (p1low≤p0n)) (decide (p0n≤p2high)) false)
theorem w_command_in {p0n:Int}{p1low:Int}{p2high:Int}{res:Bool} (h:command_in p0n p1low p2high=some res):ACalls Tryz.prog 78 [.c (.int .i64 p0n),.c (.int .i64 p1low),.c (.int .i64 p2high)] [] (.c (.bool res)) []:=by
 unfold command_in at h
 refine acalls (fn:=Tryz.f78) [0,1,2,6] (by kernel_rfl) Tryz.func78 r (by kernel_rfl) (by kernel_rfl)<|w_sr<|sB r<|o_ek (fr':=[(0,aI),(1,aI),(2,aI)]) r r<|w_sr<|mI r<|mI r<|o_p r (p_geq r r)<|mB r<|og r r r (fun hc=>(p_move (v:=aI) r))<|og r r r (fun hc=>(p_move (v:=aI) r)) ?_
 refine og r r r (fun hc=>(p_leq (gx r hc) (gx r hc)))<|o_p r (p_picky r r r (fun e=>keq e))<|sB r<|o_ek (fr':=[(6,aB)]) r r<|w_ret ?_
 obtain rfl:=sy h
 exact e_ret (rs':=[.tmp 6]) r<|r_tmp (v:=aB) r<|r_nil<|fin_gen [] r r r lr st_nil
noncomputable def slices_Equal_string_string_l1 (p0s1:(List (List UInt8))) (p1s2:(List (List UInt8))) (s6:Int):Option (Step Int (Fl Bool Unit)) :=
 cond (decide (s6<((p0s1).length:Int))) ((idx p0s1 s6).bind fun x8=>(idx p1s2 s6).bind fun x10=>cond (!decide (x8=x10)) (some (Step.out (Fl.done false))) (some (Step.next (IntKind.wrap .i64 (s6+(1:Int)))))) (some (Step.out (Fl.go ())))
noncomputable def slices_Equal_string_string (p0s1:(List (List UInt8))) (p1s2:(List (List UInt8))):Option Bool :=
 cond (!decide (((p0s1).length:Int)=((p1s2).length:Int))) (some false) (((loopO (slices_Equal_string_string_l1 p0s1 p1s2) ((0:Int))):Option (Fl Bool Unit)).bind fun x3=>Fl.next x3 (fun j5=>(some true)))
theorem w_slices_Equal_string_string {p0s1:(List (List UInt8))}{p1s2:(List (List UInt8))}{res:Bool} (h:slices_Equal_string_string p0s1 p1s2=some res):ACalls Tryz.prog 83 [.c (PV.ls 1 rowS p0s1),.c (PV.ls 1 rowS p1s2)] [] (.c (.bool res)) []:=by
 unfold slices_Equal_string_string at h
 refine acalls (fn:=Tryz.f83) [0,1,4,5,10,12,13,14,24] (by kernel_rfl) Tryz.func83 r (by kernel_rfl) (by kernel_rfl)<|w_sr<|sB r<|o_ek (fr':=[(0,aL),(1,aL)]) r r<|w_seqw<|w_sr<|mL r<|o_p r (p_len ti39 (isl_c r))<|mL r<|o_p r (p_len ti39 (isl_c r))<|o_p r (p_neq r r) ?_
 refine o_ek (fr':=[(0,aL),(1,aL),(10,aB)]) r r<|w_ch h r (fun hb1 h1=>?_) (fun hb1 h1=>?_)
 ·
  refine w_sr<|sB r<|o_ek (fr':=[(4,aB)]) r r<|w_ret<|e_seq_r ?_
  obtain rfl:=sy h1
  exact e_ret (rs':=[.tmp 4]) r<|r_tmp (v:=aB) r<|r_nil<|fin_gen [] r r r lr st_nil
 ·
  refine w_skip<|e_kw<|w_seqw<|w_sr<|mL r<|o_p r (p_len ti39 (isl_c r))<|mI r<|o_ek (fr':=[(0,aL),(1,aL),(12,aI),(13,aI)]) r r ?_
  obtain ⟨x3,hx3,h4⟩:=bind_s h1
  refine w_jtail cl_kw (fun j5=>x3=Fl.go j5) (fun (j5:Unit)=>([]:Fr)) (fun (j5:Unit)=>([]:St)) ?_ ?_
  ·
   refine w_block<|w_loopo _ (fun (s6:Int)=>([(0,.c (PV.ls 1 rowS p0s1)),(1,.c (PV.ls 1 rowS p1s2)),(12,.c (.int .i64 ((p0s1).length:Int))),(13,.c (.int .i64 s6))]:Fr)) (fun (s6:Int)=>([]:St)) hx3 (w_weak [] 0 r r r r ⟨lr,lr,lr,lr,trivial⟩ st_nil) ?_
   intro s6 st6 hs6 ho6
   unfold slices_Equal_string_string_l1 at hs6
   refine w_sr<|o_p r (p_lss r r)<|o_ek (fr':=[(0,aL),(1,aL),(12,aI),(13,aI),(14,aB)]) r r<|w_seqw<|w_ch hs6 r (fun hb7 h7=>?_) (fun hb7 h7=>?_)
   ·
    refine w_skip<|e_kw<|w_seqw<|w_block<|w_sr<|mI r<|sI r<|o_ek (fr':=[(0,aL),(1,aL),(5,aI),(12,aI),(13,aI)]) r r<|w_seqw<|w_planT [.q 0,.q 1,.q 2,.q 3,.q 4,.q 5,.q 6,.q 7,.q 8] [(some 16,[0]),(some 17,[5]),(some 18,[16,17]),(some 19,[18]),(some 20,[1]),(some 21,[5]),(some 22,[20,21]),(some 23,[22]),(some 24,[19,23])] [0,0,3,7,0,0,48,112,255] (by kernel_rfl)<|dq r r (p_move (v:=aL) r)<|dq r r (p_move (v:=aI) r) ?_
    obtain ⟨x8,hx8,h9⟩:=bind_s h7
    refine dq r r (p_ia (cs:=[PV.str _]) ts39 (isl_c r) r hx8 r)<|dq r r (p_loade (p:=PV.str _) tv9 r r)<|dq r r (p_move (v:=aL) r)<|dq r r (p_move (v:=aI) r) ?_
    obtain ⟨x10,hx10,h11⟩:=bind_s h9
    refine dq r r (p_ia (cs:=[PV.str _]) ts39 (isl_c r) r hx10 r)<|dq r r (p_loade (p:=PV.str _) tv9 r r)<|dq r r (p_sneq r r)<|d_ek (fr':=[(0,aL),(1,aL),(12,aI),(13,aI),(24,aB)]) r r<|w_ch h11 r (fun hb12 h12=>?_) (fun hb12 h12=>?_)
    ·
     refine w_sr<|sB r<|o_ek (fr':=[(4,aB)]) r r<|w_ret<|e_blk_r<|e_seq_r<|e_seq_r<|e_blk_r<|e_seq_r<|e_seq_r ?_
     have h13:=un_out h12 ho6
     have h14:=un_done h13 h4
     obtain rfl:=sy h14
     exact e_ret (rs':=[.tmp 4]) r<|r_tmp (v:=aB) r<|r_nil<|fin_gen [] r r r lr st_nil
    ·
     exact w_skip<|e_blk_n<|e_kw<|w_region<|o_p r (p_add r r)<|mI r<|o_end (fr':=[(0,aL),(1,aL),(12,aI),(13,aI),(24,aB)]) r<|e_l _ (sy h12) (w_weak [] 0 r r r r ⟨lr,lr,lr,lr,trivial⟩ st_nil)
   ·
    refine w_exit<|e_seq_x<|e_seq_x<|e_blk_h ?_
    have h16:=un_out h7 ho6
    exact e_j _ (sy h16) (w_weak [] 0 r r r r trivial st_nil)
  ·
   intro j5 hj17
   have h17:=un_go hj17 h4
   refine e_kw<|w_sr<|sB r<|o_ek (fr':=[(4,aB)]) r r<|w_ret ?_
   obtain rfl:=sy h17
   exact e_ret (rs':=[.tmp 4]) r<|r_tmp (v:=aB) r<|r_nil<|fin_gen [] r r r lr st_nil
noncomputable def slices_EqualFunc_api_Value_api_Value_api_Value_api_Value_value_Same_l1 (rec_value_Same:ApiValue→ApiValue→Option Bool) (p0s1:(List ApiValue)) (p1s2:(List ApiValue)) (s6:Int):Option (Step Int (Fl Bool Unit)) :=
 cond (decide (s6<((p0s1).length:Int))) ((idx p0s1 s6).bind fun x8=>(idx p1s2 s6).bind fun x10=>(rec_value_Same x8 x10).bind fun x12=>cond (!x12) (some (Step.out (Fl.done false))) (some (Step.next (IntKind.wrap .i64 (s6+(1:Int)))))) (some (Step.out (Fl.go ())))
mutual
noncomputable def slices_EqualFunc_api_Value_api_Value_api_Value_api_Value_value_SameF:Nat→(List ApiValue)→(List ApiValue)→Option Bool
 | 0,_,_=>none
 | n+1,p0s1,p1s2 =>
  cond (!decide (((p0s1).length:Int)=((p1s2).length:Int))) (some false) (((loopO (slices_EqualFunc_api_Value_api_Value_api_Value_api_Value_value_Same_l1 (value_SameF n) p0s1 p1s2) ((0:Int))):Option (Fl Bool Unit)).bind fun x3=>Fl.next x3 (fun j5=>(some true)))
noncomputable def value_SameF:Nat→ApiValue→ApiValue→Option Bool
 | 0,_,_=>none
 | n+1,p0a,p1b =>
  (gd ((cond (cond (decide (p0a.Kind=p1b.Kind)) (decide (p0a.Int=p1b.Int)) false) (decide (p0a.Text=p1b.Text)) false)==true) (slices_Equal_string_string p0a.Keys p1b.Keys)).bind fun x1=>(gd ((cond (cond (cond (decide (p0a.Kind=p1b.Kind)) (decide (p0a.Int=p1b.Int)) false) (decide (p0a.Text=p1b.Text)) false) x1 false)==true) ((slices_EqualFunc_api_Value_api_Value_api_Value_api_Value_value_SameF n) p0a.Items p1b.Items)).bind fun x3=>some (cond (cond (cond (cond (decide (p0a.Kind=p1b.Kind)) (decide (p0a.Int=p1b.Int)) false) (decide (p0a.Text=p1b.Text)) false) x1 false) x3 false)
end
theorem wF_slices_EqualFunc_api_Value_api_Value_api_Value_api_Value_value_Same:∀ n:Nat,(∀ {p0s1:(List ApiValue)}{p1s2:(List ApiValue)}{res:Bool},slices_EqualFunc_api_Value_api_Value_api_Value_api_Value_value_SameF n p0s1 p1s2=some res→ACalls Tryz.prog 84 [.c (PV.ls 5 rowApiValue p0s1),.c (PV.ls 5 rowApiValue p1s2),.fn 53 []] [] (.c (.bool res)) [])∧(∀ {p0a:ApiValue}{p1b:ApiValue}{res:Bool},value_SameF n p0a p1b=some res→ACalls Tryz.prog 53 [.agg (AV.cs (exApiValue p0a)),.agg (AV.cs (exApiValue p1b))] [] (.c (.bool res)) []):=by
 intro n
 induction n with
 | zero=>exact ⟨fun {p0s1 p1s2 res} h=>absurd h (by simp [slices_EqualFunc_api_Value_api_Value_api_Value_api_Value_value_SameF]),fun {p0a p1b res} h=>absurd h (by simp [value_SameF])⟩
 | succ n ih =>
  obtain ⟨ih_slices_EqualFunc_api_Value_api_Value_api_Value_api_Value_value_Same,ih_value_Same⟩:=ih
  refine ⟨?_,?_⟩
  ·
   intro p0s1 p1s2 res h
   rw [slices_EqualFunc_api_Value_api_Value_api_Value_api_Value_value_SameF] at h
   refine acalls (fn:=Tryz.f84) [0,1,2,6,7,8,9,14,15,16,17,18,30] (by kernel_rfl) Tryz.func84 r (by kernel_rfl) (by kernel_rfl)<|w_sr<|sB r<|o_ek (fr':=[(0,aL),(1,aL),(2,.fn _ [])]) r r<|w_seqw<|w_sr<|mL r<|o_p r (p_len ti38 (isl_c r))<|mL r<|o_p r (p_len ti38 (isl_c r))<|o_p r (p_neq r r) ?_
   refine o_ek (fr':=[(0,aL),(1,aL),(2,.fn _ []),(14,aB)]) r r<|w_ch h r (fun hb1 h1=>?_) (fun hb1 h1=>?_)
   ·
    refine w_sr<|sB r<|o_ek (fr':=[(6,aB)]) r r<|w_ret<|e_seq_r ?_
    obtain rfl:=sy h1
    exact e_ret (rs':=[.tmp 6]) r<|r_tmp (v:=aB) r<|r_nil<|fin_gen [] r r r lr st_nil
   ·
    refine w_skip<|e_kw<|w_seqw<|w_sr<|mL r<|o_p r (p_len ti38 (isl_c r))<|mI r<|o_ek (fr':=[(1,aL),(2,.fn _ []),(15,aL),(16,aI),(17,aI)]) r r ?_
    obtain ⟨x3,hx3,h4⟩:=bind_s h1
    refine w_jtail cl_kw (fun j5=>x3=Fl.go j5) (fun (j5:Unit)=>([]:Fr)) (fun (j5:Unit)=>([]:St)) ?_ ?_
    ·
     refine w_block<|w_loopo _ (fun (s6:Int)=>([(1,.c (PV.ls 5 rowApiValue p1s2)),(2,.fn 53 []),(15,.c (PV.ls 5 rowApiValue p0s1)),(16,.c (.int .i64 ((p0s1).length:Int))),(17,.c (.int .i64 s6))]:Fr)) (fun (s6:Int)=>([]:St)) hx3 (w_weak [] 0 r r r r ⟨lr,lr,lr,lr,lr,trivial⟩ st_nil) ?_
     intro s6 st6 hs6 ho6
     unfold slices_EqualFunc_api_Value_api_Value_api_Value_api_Value_value_Same_l1 at hs6
     refine w_sr<|o_p r (p_lss r r)<|o_ek (fr':=[(1,aL),(2,.fn _ []),(15,aL),(16,aI),(17,aI),(18,aB)]) r r<|w_seqw<|w_ch hs6 r (fun hb7 h7=>?_) (fun hb7 h7=>?_)
     ·
      refine w_skip<|e_kw<|w_seqw<|w_block<|w_sr<|mI r ?_
      obtain ⟨x8,hx8,h9⟩:=bind_s h7
      refine o_p r (p_ia (cs:=[PV.int _ _,PV.int _ _,PV.str _,PV.ls _ _ _,PV.ls _ _ _]) ts38 (isl_c r) r hx8 (rowApiValue_eq _))<|o_p r (p_loades (us:=[PV.int _ _,PV.int _ _,PV.str _,PV.ls _ _ _,PV.ls _ _ _]) tv41 r r r)<|o_alloc (n:=0) (cs:=[aI,aI,aS,AV.nil,AV.nil]) (σ':=[[aI,aI,aS,AV.nil,AV.nil]]) tz41 r r r<|sI r<|o_store (v:=.agg aIISLL) (us:=aIISLL) (cs:=[aI,aI,aS,AV.nil,AV.nil]) (σ':=[aIISLL]) r tv41 r r r r r r r r<|o_ek (fr':=[(1,aL),(2,.fn _ []),(7,aI),(8,.box 0 0),(15,aL),(16,aI),(17,aI)]) r r<|w_sr<|mL r<|mI r ?_
      obtain ⟨x10,hx10,h11⟩:=bind_s h9
      refine o_p r (p_ia (cs:=[PV.int _ _,PV.int _ _,PV.str _,PV.ls _ _ _,PV.ls _ _ _]) ts38 (isl_c r) r hx10 (rowApiValue_eq _))<|o_p r (p_loades (us:=[PV.int _ _,PV.int _ _,PV.str _,PV.ls _ _ _,PV.ls _ _ _]) tv41 r r r)<|o_alloc (n:=1) (cs:=[aI,aI,aS,AV.nil,AV.nil]) (σ':=[aIISLL,[aI,aI,aS,AV.nil,AV.nil]]) tz41 r r r<|o_store (v:=.agg aIISLL) (us:=aIISLL) (cs:=[aI,aI,aS,AV.nil,AV.nil]) (σ':=[aIISLL,aIISLL]) r tv41 r r r r r r r r<|o_ek (fr':=[(1,aL),(2,.fn _ []),(8,.box 0 0),(9,.box 1 0),(15,aL),(16,aI),(17,aI)]) r r<|w_sr<|mV (v:=.fn _ []) r<|o_p r (p_loads (us:=aIISLL) tv41 r r r r)<|o_p r (p_loads (us:=aIISLL) tv41 r r r r) ?_
      obtain ⟨x12,hx12,h13⟩:=bind_s h11
      refine o_v (ov_call (v:=aB) r (ih_value_Same hx12) ⟨(le_aggc r ⟨r,r,r,r,r,trivial⟩),(le_aggc r ⟨r,r,r,r,r,trivial⟩),trivial⟩ r r r)<|o_p r (p_not r)<|o_ek (fr':=[(1,aL),(2,.fn _ []),(15,aL),(16,aI),(17,aI),(30,aB)]) r r<|w_ch h13 r (fun hb14 h14=>?_) (fun hb14 h14=>?_)
      ·
       refine w_sr<|sB r<|o_ek (fr':=[(6,aB)]) r r<|w_ret<|e_blk_r<|e_seq_r<|e_seq_r<|e_blk_r<|e_seq_r<|e_seq_r ?_
       have h15:=un_out h14 ho6
       have h16:=un_done h15 h4
       obtain rfl:=sy h16
       exact e_ret (rs':=[.tmp 6]) r<|r_tmp (v:=aB) r<|r_nil<|fin_gen [] r r r lr st_nil
      ·
       exact w_skip<|e_blk_n<|e_kw<|w_region<|o_p r (p_add r r)<|mI r<|o_end (fr':=[(1,aL),(2,.fn _ []),(15,aL),(16,aI),(17,aI),(30,aB)]) r<|e_l _ (sy h14) (w_weak [] 0 r r r r ⟨lr,lr,lr,lr,lr,trivial⟩ st_nil)
     ·
      refine w_exit<|e_seq_x<|e_seq_x<|e_blk_h ?_
      have h18:=un_out h7 ho6
      exact e_j _ (sy h18) (w_weak [] 0 r r r r trivial st_nil)
    ·
     intro j5 hj19
     have h19:=un_go hj19 h4
     refine e_kw<|w_sr<|sB r<|o_ek (fr':=[(6,aB)]) r r<|w_ret ?_
     obtain rfl:=sy h19
     exact e_ret (rs':=[.tmp 6]) r<|r_tmp (v:=aB) r<|r_nil<|fin_gen [] r r r lr st_nil
  ·
   intro p0a p1b res h
   rw [value_SameF] at h
   refine acalls (fn:=Tryz.f53) [0,1,2,3,4] (by kernel_rfl) Tryz.func53 r (by kernel_rfl) (by kernel_rfl)<|w_sr<|o_box (v:=.agg aIISLL) (n:=0) (cs:=aIISLL) (σ':=[aIISLL]) r r r r r<|o_box (v:=.agg aIISLL) (n:=1) (cs:=aIISLL) (σ':=[aIISLL,aIISLL]) r r r r r<|sB r<|o_ek (fr':=[(2,.box 0 0),(3,.box 1 0)]) r r<|w_sr<|o_p r (p_fa tf41x0 r)<|o_p r (p_load (v:=aI) tv3 r r r)<|o_p r (p_fa tf41x0 r)<|o_p r (p_load (v:=aI) tv3 r r r) ?_
   refine o_p r (p_eql r r)<|mB r<|og r r r (fun hc=>(p_fa tf41x1 r))<|og r r r (fun hc=>(p_load (v:=aI) tv3 (gx r hc) r r))<|og r r r (fun hc=>(p_fa tf41x1 r))<|og r r r (fun hc=>(p_load (v:=aI) tv3 (gx r hc) r r))<|og r r r (fun hc=>(p_eql (gx r hc) (gx r hc)))<|o_p r (p_picky r r r (fun e=>keq e))<|mB r<|og r r r (fun hc=>(p_fa tf41x2 r))<|og r r r (fun hc=>(p_load (v:=aS) tv9 (gx r hc) r r))<|og r r r (fun hc=>(p_fa tf41x2 r))<|og r r r (fun hc=>(p_load (v:=aS) tv9 (gx r hc) r r)) ?_
   refine og r r r (fun hc=>(p_seql (gx r hc) (gx r hc)))<|o_p r (p_picky r r r (fun e=>keq e))<|mB r<|og r r r (fun hc=>(p_fa tf41x4 r))<|og r r r (fun hc=>(p_load (v:=aL) tv39 (gx r hc) r r))<|og r r r (fun hc=>(p_fa tf41x4 r))<|og r r r (fun hc=>(p_load (v:=aL) tv39 (gx r hc) r r)) ?_
   obtain ⟨x1,hx1,h2⟩:=bind_s h
   refine o_g r r (fun hc=>ov_call (v:=aB) r (w_slices_Equal_string_string (gd_some hx1 hc)) ⟨(le_gv (gx r hc) lr),(le_gv (gx r hc) lr),trivial⟩ (ok_eq (by repeat (first | exact ok_nil | refine ok_cons r ?_ | refine ok_cons (dgv r) ?_ | refine ok_cons dar ?_))) r r) ?_
   refine o_p r (p_picky r r r (fun e=>keq e))<|mB r<|og r r r (fun hc=>(p_fa tf41x3 r))<|og r r r (fun hc=>(p_load (v:=aL) tv38 (gx r hc) r r))<|og r r r (fun hc=>(p_fa tf41x3 r))<|og r r r (fun hc=>(p_load (v:=aL) tv38 (gx r hc) r r)) ?_
   obtain ⟨x3,hx3,h4⟩:=bind_s h2
   refine o_g r r (fun hc=>ov_call (v:=aB) r (ih_slices_EqualFunc_api_Value_api_Value_api_Value_api_Value_value_Same (gd_some hx3 hc)) ⟨(le_gv (gx r hc) lr),(le_gv (gx r hc) lr),lr,trivial⟩ (ok_eq (by repeat (first | exact ok_nil | refine ok_cons r ?_ | refine ok_cons (dgv r) ?_ | refine ok_cons dar ?_))) r r) ?_
   refine o_p r (p_picky r r r (fun e=>keq e))<|sB r<|o_ek (fr':=[(4,aB)]) r r<|w_ret ?_
   obtain rfl:=sy h4
   exact e_ret (rs':=[.tmp 4]) r<|r_tmp (v:=aB) r<|r_nil<|fin_gen [] r r r lr st_nil
noncomputable def value_Same (p0a:ApiValue) (p1b:ApiValue):Option Bool:=lim fun n=>value_SameF n p0a p1b
theorem w_value_Same {p0a:ApiValue}{p1b:ApiValue}{res:Bool} (h:value_Same p0a p1b=some res):ACalls Tryz.prog 53 [.agg (AV.cs (exApiValue p0a)),.agg (AV.cs (exApiValue p1b))] [] (.c (.bool res)) []:=by
 obtain ⟨n,hn⟩:=lim_some h
 exact (wF_slices_EqualFunc_api_Value_api_Value_api_Value_api_Value_value_Same n).2 hn
noncomputable def command_numbers (p100v:ApiPolicy):Option Unit :=
 some ()
theorem w_command_numbers {p100v:ApiPolicy}{res:Unit} (h:command_numbers p100v=some res):ACalls Tryz.prog 85 [.box 0 0] [AV.cs (rowApiPolicy p100v)] (.ptrs [(0,1),(0,2),(0,3),(0,4),(0,5),(0,6),(0,7),(0,8)]) [AV.cs (rowApiPolicy p100v)]:=by
 unfold command_numbers at h
 refine acalls (fn:=Tryz.f85) [0,2] (by kernel_rfl) Tryz.func85 r (by kernel_rfl) (by kernel_rfl)<|w_sr<|sV (v:=AV.nil) r<|o_ek (fr':=[(0,.box 0 0)]) r r<|w_seqw<|w_planT [.q 0,.q 1,.q 2,.q 3,.q 4,.q 5,.q 6,.q 7,.q 8,.q 9,.q 10,.q 11,.q 12,.q 13,.q 14,.q 15,.q 16,.q 17,.q 18,.q 19,.q 20,.q 21,.q 22,.q 23,.n 24 [],.n 25 []] [(some 3,[0]),(some 4,[3]),(some 5,[4]),(some 6,[0]),(some 7,[6]),(some 8,[7]),(some 9,[0]),(some 10,[9]),(some 11,[10]),(some 12,[0]),(some 13,[12]),(some 14,[13]),(some 15,[0]),(some 16,[15]),(some 17,[16]),(some 18,[0]),(some 19,[18]),(some 20,[19]),(some 21,[0]),(some 22,[21]),(some 23,[22]),(some 24,[0]),(some 25,[24]),(some 26,[25]),(some 27,[5,8,11,14,17,20,23,26]),(some 2,[27])] [0,1,3,0,8,24,0,64,192,0,512,1536,0,4096,12288,0,32768,98304,0,262144,786432,0,2097152,6291456,16777215,33554431] (by kernel_rfl)<|dq r r (p_move (v:=.box 0 0) r)<|dq r r (p_nc r)<|dq r r (p_fa tf43x1 r)<|dq r r (p_move (v:=.box 0 0) r)<|dq r r (p_nc r)<|dq r r (p_fa tf43x2 r) ?_
 refine dq r r (p_move (v:=.box 0 0) r)<|dq r r (p_nc r)<|dq r r (p_fa tf43x3 r)<|dq r r (p_move (v:=.box 0 0) r)<|dq r r (p_nc r)<|dq r r (p_fa tf43x4 r)<|dq r r (p_move (v:=.box 0 0) r)<|dq r r (p_nc r)<|dq r r (p_fa tf43x5 r)<|dq r r (p_move (v:=.box 0 0) r)<|dq r r (p_nc r)<|dq r r (p_fa tf43x6 r)<|dq r r (p_move (v:=.box 0 0) r) ?_
 refine dq r r (p_nc r)<|dq r r (p_fa tf43x7 r)<|dq r r (p_move (v:=.box 0 0) r)<|dq r r (p_nc r)<|dq r r (p_fa tf43x8 r)<|d_n r ?_ r
 refine o_ptrs (l:=[(0,1),(0,2),(0,3),(0,4),(0,5),(0,6),(0,7),(0,8)]) ts93 r r r r<|o_rc<|⟨rc_nil,?_⟩
 refine d_n r ?_ r
 refine sV (v:=.ptrs [(0,1),(0,2),(0,3),(0,4),(0,5),(0,6),(0,7),(0,8)]) r<|o_rc<|⟨rc_nil,?_⟩
 refine d_ek (fr':=[(2,.ptrs [(0,1),(0,2),(0,3),(0,4),(0,5),(0,6),(0,7),(0,8)])]) r r<|w_ret ?_
 obtain rfl:=sy h
 exact e_ret (rs':=[.tmp 2]) r<|r_tmp (v:=.ptrs [(0,1),(0,2),(0,3),(0,4),(0,5),(0,6),(0,7),(0,8)]) r<|r_nil<|fin_tok [] r r r lr (st_r r st_nil)
noncomputable def command_SamePolicy (p0a:ApiPolicy) (p1b:ApiPolicy):Option Bool :=
 (command_numbers p0a).bind fun x1=>(command_numbers p1b).bind fun x4=>cond (!decide (p0a.ToStart=p1b.ToStart)) (some false) (cond (!decide (p0a.ToClose=p1b.ToClose)) (some false) (cond (!decide (p0a.Total=p1b.Total)) (some false) (cond (!decide (p0a.Beat=p1b.Beat)) (some false) (cond (!decide (p0a.First=p1b.First)) (some false) (cond (!decide (p0a.Coef=p1b.Coef)) (some false) (cond (!decide (p0a.Most=p1b.Most)) (some false) (cond (!decide (p0a.Attempts=p1b.Attempts)) (some false) ((gd ((decide (p0a.Queue=p1b.Queue))==true) (slices_Equal_string_string p0a.Fatal p1b.Fatal)).bind fun x23=>some (cond (decide (p0a.Queue=p1b.Queue)) x23 false)))))))))
theorem w_command_SamePolicy {p0a:ApiPolicy}{p1b:ApiPolicy}{res:Bool} (h:command_SamePolicy p0a p1b=some res):ACalls Tryz.prog 54 [.agg (AV.cs (rowApiPolicy p0a)),.agg (AV.cs (rowApiPolicy p1b))] [] (.c (.bool res)) []:=by
 unfold command_SamePolicy at h
 refine acalls (fn:=Tryz.f54) [0,1,2,3,4,5,6,7,11,12,13,27] (by kernel_rfl) Tryz.func54 r (by kernel_rfl) (by kernel_rfl)<|w_sr<|o_box (v:=.agg aSIIIIIIIIL) (n:=0) (cs:=aSIIIIIIIIL) (σ':=[aSIIIIIIIIL]) r r r r r<|o_box (v:=.agg aSIIIIIIIIL) (n:=1) (cs:=aSIIIIIIIIL) (σ':=[aSIIIIIIIIL,aSIIIIIIIIL]) r r r r r<|sB r<|o_ek (fr':=[(2,.box 0 0),(3,.box 1 0)]) r r<|w_seqw<|w_region ?_
 obtain ⟨x1,hx1,h2⟩:=bind_s h
 refine o_callT (v:=.ptrs [(0,1),(0,2),(0,3),(0,4),(0,5),(0,6),(0,7),(0,8)]) (σ':=[aSIIIIIIIIL,aSIIIIIIIIL]) 8 [0] [] r (w_command_numbers hx1) r r r ⟨lr,trivial⟩ (st_c ⟨r,r,r,r,r,r,r,r,r,r,trivial⟩ st_nil) r r r ?_
 obtain ⟨x4,hx4,h5⟩:=bind_s h2
 refine o_callT (v:=.ptrs [(1,1),(1,2),(1,3),(1,4),(1,5),(1,6),(1,7),(1,8)]) (σ':=[aSIIIIIIIIL,aSIIIIIIIIL]) 9 [1] [] r (w_command_numbers hx4) r r r ⟨lr,trivial⟩ (st_c ⟨r,r,r,r,r,r,r,r,r,r,trivial⟩ st_nil) r r r<|sV (v:=.ptrs [(0,1),(0,2),(0,3),(0,4),(0,5),(0,6),(0,7),(0,8)]) r<|sV (v:=.ptrs [(1,1),(1,2),(1,3),(1,4),(1,5),(1,6),(1,7),(1,8)]) r<|o_ek (fr':=[(2,.box 0 0),(3,.box 1 0),(5,.ptrs [(0,1),(0,2),(0,3),(0,4),(0,5),(0,6),(0,7),(0,8)]),(6,.ptrs [(1,1),(1,2),(1,3),(1,4),(1,5),(1,6),(1,7),(1,8)])]) r r<|w_seqw<|w_sr<|mV (v:=.ptrs [(0,1),(0,2),(0,3),(0,4),(0,5),(0,6),(0,7),(0,8)]) r<|o_p r (p_lenp ti93 r)<|mI r<|o_ek (fr':=[(2,.box 0 0),(3,.box 1 0),(5,.ptrs [(0,1),(0,2),(0,3),(0,4),(0,5),(0,6),(0,7),(0,8)]),(6,.ptrs [(1,1),(1,2),(1,3),(1,4),(1,5),(1,6),(1,7),(1,8)]),(11,aI),(12,aI)]) r r<|w_block<|w_unr 64 ?_
 refine lu_s<|w_sr<|o_p r (p_k (p_lss r r) (show _=.bool true from r))<|o_ek (fr':=[(2,.box 0 0),(3,.box 1 0),(5,.ptrs [(0,1),(0,2),(0,3),(0,4),(0,5),(0,6),(0,7),(0,8)]),(6,.ptrs [(1,1),(1,2),(1,3),(1,4),(1,5),(1,6),(1,7),(1,8)]),(11,aI),(12,aI),(13,aB)]) r r<|w_seqw<|w_cond_t r<|w_skip<|e_kw<|w_seqw<|w_block<|w_seqw<|w_region ?_
 refine mI r<|sI r<|o_ek (fr':=[(2,.box 0 0),(3,.box 1 0),(5,.ptrs [(0,1),(0,2),(0,3),(0,4),(0,5),(0,6),(0,7),(0,8)]),(6,.ptrs [(1,1),(1,2),(1,3),(1,4),(1,5),(1,6),(1,7),(1,8)]),(7,aI),(11,aI),(12,aI)]) r r<|w_seqw<|w_planT [.q 0,.q 1,.q 2,.q 3,.q 4,.q 5,.q 6,.q 7,.q 8,.q 9,.q 10,.q 11,.q 12] [(some 15,[5]),(some 16,[7]),(some 17,[15,16]),(some 18,[17]),(some 19,[18]),(some 20,[19]),(some 21,[6]),(some 22,[7]),(some 23,[21,22]),(some 24,[23]),(some 25,[24]),(some 26,[25]),(some 27,[20,26])] [0,0,3,7,15,31,0,0,192,448,960,1984,4095] (by kernel_rfl)<|dq r r (p_move (v:=.ptrs [(0,1),(0,2),(0,3),(0,4),(0,5),(0,6),(0,7),(0,8)]) r)<|dq r r (p_move (v:=aI) r)<|dq r r (p_iap (p:=(0,1)) ts93 r r r)<|dq r r (p_loadp tv96 r)<|dq r r (p_nc r)<|dq r r (p_load (v:=aI) tv3 r r r)<|dq r r (p_move (v:=.ptrs [(1,1),(1,2),(1,3),(1,4),(1,5),(1,6),(1,7),(1,8)]) r)<|dq r r (p_move (v:=aI) r) ?_
 refine dq r r (p_iap (p:=(1,1)) ts93 r r r)<|dq r r (p_loadp tv96 r)<|dq r r (p_nc r)<|dq r r (p_load (v:=aI) tv3 r r r)<|dq r r (p_neq r r)<|d_ek (fr':=[(2,.box 0 0),(3,.box 1 0),(5,.ptrs [(0,1),(0,2),(0,3),(0,4),(0,5),(0,6),(0,7),(0,8)]),(6,.ptrs [(1,1),(1,2),(1,3),(1,4),(1,5),(1,6),(1,7),(1,8)]),(11,aI),(12,aI),(27,aB)]) r r<|w_ch h5 r (fun hb7 h7=>?_) (fun hb7 h7=>?_)
 ·
  refine w_sr<|sB r<|o_ek (fr':=[(4,aB)]) r r<|w_ret<|e_blk_r<|e_seq_r<|e_seq_r<|e_blk_r<|e_seq_r ?_
  obtain rfl:=sy h7
  exact e_ret (rs':=[.tmp 4]) r<|r_tmp (v:=aB) r<|r_nil<|fin_gen [] r r r lr st_nil
 ·
  refine w_skip<|e_blk_n<|e_kw<|w_region<|o_p r (p_k (p_add r r) (show _=.int .i64 (1:Int) from r))<|mI r<|o_end (fr':=[(2,.box 0 0),(3,.box 1 0),(5,.ptrs [(0,1),(0,2),(0,3),(0,4),(0,5),(0,6),(0,7),(0,8)]),(6,.ptrs [(1,1),(1,2),(1,3),(1,4),(1,5),(1,6),(1,7),(1,8)]),(11,aI),(12,aI),(27,aB)]) r<|e_seq_n<|lu_s<|w_sr<|o_p r (p_k (p_lss r r) (show _=.bool true from r))<|o_ek (fr':=[(2,.box 0 0),(3,.box 1 0),(5,.ptrs [(0,1),(0,2),(0,3),(0,4),(0,5),(0,6),(0,7),(0,8)]),(6,.ptrs [(1,1),(1,2),(1,3),(1,4),(1,5),(1,6),(1,7),(1,8)]),(11,aI),(12,aI),(13,aB)]) r r ?_
  refine w_seqw<|w_cond_t r<|w_skip<|e_kw<|w_seqw<|w_block<|w_sr<|mI r<|sI r<|o_ek (fr':=[(2,.box 0 0),(3,.box 1 0),(5,.ptrs [(0,1),(0,2),(0,3),(0,4),(0,5),(0,6),(0,7),(0,8)]),(6,.ptrs [(1,1),(1,2),(1,3),(1,4),(1,5),(1,6),(1,7),(1,8)]),(7,aI),(11,aI),(12,aI)]) r r<|w_seqw<|w_planT [.q 0,.q 1,.q 2,.q 3,.q 4,.q 5,.q 6,.q 7,.q 8,.q 9,.q 10,.q 11,.q 12] [(some 15,[5]),(some 16,[7]),(some 17,[15,16]),(some 18,[17]),(some 19,[18]),(some 20,[19]),(some 21,[6]),(some 22,[7]),(some 23,[21,22]),(some 24,[23]),(some 25,[24]),(some 26,[25]),(some 27,[20,26])] [0,0,3,7,15,31,0,0,192,448,960,1984,4095] (by kernel_rfl) ?_
  refine dq r r (p_move (v:=.ptrs [(0,1),(0,2),(0,3),(0,4),(0,5),(0,6),(0,7),(0,8)]) r)<|dq r r (p_move (v:=aI) r)<|dq r r (p_iap (p:=(0,2)) ts93 r r r)<|dq r r (p_loadp tv96 r)<|dq r r (p_nc r)<|dq r r (p_load (v:=aI) tv3 r r r)<|dq r r (p_move (v:=.ptrs [(1,1),(1,2),(1,3),(1,4),(1,5),(1,6),(1,7),(1,8)]) r)<|dq r r (p_move (v:=aI) r)<|dq r r (p_iap (p:=(1,2)) ts93 r r r)<|dq r r (p_loadp tv96 r)<|dq r r (p_nc r)<|dq r r (p_load (v:=aI) tv3 r r r)<|dq r r (p_neq r r) ?_
  refine d_ek (fr':=[(2,.box 0 0),(3,.box 1 0),(5,.ptrs [(0,1),(0,2),(0,3),(0,4),(0,5),(0,6),(0,7),(0,8)]),(6,.ptrs [(1,1),(1,2),(1,3),(1,4),(1,5),(1,6),(1,7),(1,8)]),(11,aI),(12,aI),(27,aB)]) r r<|w_ch h7 r (fun hb9 h9=>?_) (fun hb9 h9=>?_)
  ·
   refine w_sr<|sB r<|o_ek (fr':=[(4,aB)]) r r<|w_ret<|e_blk_r<|e_seq_r<|e_seq_r<|e_blk_r<|e_seq_r ?_
   obtain rfl:=sy h9
   exact e_ret (rs':=[.tmp 4]) r<|r_tmp (v:=aB) r<|r_nil<|fin_gen [] r r r lr st_nil
  ·
   refine w_skip<|e_blk_n<|e_kw<|w_region<|o_p r (p_k (p_add r r) (show _=.int .i64 (2:Int) from r))<|mI r<|o_end (fr':=[(2,.box 0 0),(3,.box 1 0),(5,.ptrs [(0,1),(0,2),(0,3),(0,4),(0,5),(0,6),(0,7),(0,8)]),(6,.ptrs [(1,1),(1,2),(1,3),(1,4),(1,5),(1,6),(1,7),(1,8)]),(11,aI),(12,aI),(27,aB)]) r<|e_seq_n<|lu_s<|w_sr<|o_p r (p_k (p_lss r r) (show _=.bool true from r))<|o_ek (fr':=[(2,.box 0 0),(3,.box 1 0),(5,.ptrs [(0,1),(0,2),(0,3),(0,4),(0,5),(0,6),(0,7),(0,8)]),(6,.ptrs [(1,1),(1,2),(1,3),(1,4),(1,5),(1,6),(1,7),(1,8)]),(11,aI),(12,aI),(13,aB)]) r r ?_
   refine w_seqw<|w_cond_t r<|w_skip<|e_kw<|w_seqw<|w_block<|w_sr<|mI r<|sI r<|o_ek (fr':=[(2,.box 0 0),(3,.box 1 0),(5,.ptrs [(0,1),(0,2),(0,3),(0,4),(0,5),(0,6),(0,7),(0,8)]),(6,.ptrs [(1,1),(1,2),(1,3),(1,4),(1,5),(1,6),(1,7),(1,8)]),(7,aI),(11,aI),(12,aI)]) r r<|w_seqw<|w_planT [.q 0,.q 1,.q 2,.q 3,.q 4,.q 5,.q 6,.q 7,.q 8,.q 9,.q 10,.q 11,.q 12] [(some 15,[5]),(some 16,[7]),(some 17,[15,16]),(some 18,[17]),(some 19,[18]),(some 20,[19]),(some 21,[6]),(some 22,[7]),(some 23,[21,22]),(some 24,[23]),(some 25,[24]),(some 26,[25]),(some 27,[20,26])] [0,0,3,7,15,31,0,0,192,448,960,1984,4095] (by kernel_rfl) ?_
   refine dq r r (p_move (v:=.ptrs [(0,1),(0,2),(0,3),(0,4),(0,5),(0,6),(0,7),(0,8)]) r)<|dq r r (p_move (v:=aI) r)<|dq r r (p_iap (p:=(0,3)) ts93 r r r)<|dq r r (p_loadp tv96 r)<|dq r r (p_nc r)<|dq r r (p_load (v:=aI) tv3 r r r)<|dq r r (p_move (v:=.ptrs [(1,1),(1,2),(1,3),(1,4),(1,5),(1,6),(1,7),(1,8)]) r)<|dq r r (p_move (v:=aI) r)<|dq r r (p_iap (p:=(1,3)) ts93 r r r)<|dq r r (p_loadp tv96 r)<|dq r r (p_nc r)<|dq r r (p_load (v:=aI) tv3 r r r)<|dq r r (p_neq r r) ?_
   refine d_ek (fr':=[(2,.box 0 0),(3,.box 1 0),(5,.ptrs [(0,1),(0,2),(0,3),(0,4),(0,5),(0,6),(0,7),(0,8)]),(6,.ptrs [(1,1),(1,2),(1,3),(1,4),(1,5),(1,6),(1,7),(1,8)]),(11,aI),(12,aI),(27,aB)]) r r<|w_ch h9 r (fun hb11 h11=>?_) (fun hb11 h11=>?_)
   ·
    refine w_sr<|sB r<|o_ek (fr':=[(4,aB)]) r r<|w_ret<|e_blk_r<|e_seq_r<|e_seq_r<|e_blk_r<|e_seq_r ?_
    obtain rfl:=sy h11
    exact e_ret (rs':=[.tmp 4]) r<|r_tmp (v:=aB) r<|r_nil<|fin_gen [] r r r lr st_nil
   ·
    refine w_skip<|e_blk_n<|e_kw<|w_region<|o_p r (p_k (p_add r r) (show _=.int .i64 (3:Int) from r))<|mI r<|o_end (fr':=[(2,.box 0 0),(3,.box 1 0),(5,.ptrs [(0,1),(0,2),(0,3),(0,4),(0,5),(0,6),(0,7),(0,8)]),(6,.ptrs [(1,1),(1,2),(1,3),(1,4),(1,5),(1,6),(1,7),(1,8)]),(11,aI),(12,aI),(27,aB)]) r<|e_seq_n<|lu_s<|w_sr<|o_p r (p_k (p_lss r r) (show _=.bool true from r))<|o_ek (fr':=[(2,.box 0 0),(3,.box 1 0),(5,.ptrs [(0,1),(0,2),(0,3),(0,4),(0,5),(0,6),(0,7),(0,8)]),(6,.ptrs [(1,1),(1,2),(1,3),(1,4),(1,5),(1,6),(1,7),(1,8)]),(11,aI),(12,aI),(13,aB)]) r r ?_
    refine w_seqw<|w_cond_t r<|w_skip<|e_kw<|w_seqw<|w_block<|w_sr<|mI r<|sI r<|o_ek (fr':=[(2,.box 0 0),(3,.box 1 0),(5,.ptrs [(0,1),(0,2),(0,3),(0,4),(0,5),(0,6),(0,7),(0,8)]),(6,.ptrs [(1,1),(1,2),(1,3),(1,4),(1,5),(1,6),(1,7),(1,8)]),(7,aI),(11,aI),(12,aI)]) r r<|w_seqw<|w_planT [.q 0,.q 1,.q 2,.q 3,.q 4,.q 5,.q 6,.q 7,.q 8,.q 9,.q 10,.q 11,.q 12] [(some 15,[5]),(some 16,[7]),(some 17,[15,16]),(some 18,[17]),(some 19,[18]),(some 20,[19]),(some 21,[6]),(some 22,[7]),(some 23,[21,22]),(some 24,[23]),(some 25,[24]),(some 26,[25]),(some 27,[20,26])] [0,0,3,7,15,31,0,0,192,448,960,1984,4095] (by kernel_rfl) ?_
    refine dq r r (p_move (v:=.ptrs [(0,1),(0,2),(0,3),(0,4),(0,5),(0,6),(0,7),(0,8)]) r)<|dq r r (p_move (v:=aI) r)<|dq r r (p_iap (p:=(0,4)) ts93 r r r)<|dq r r (p_loadp tv96 r)<|dq r r (p_nc r)<|dq r r (p_load (v:=aI) tv3 r r r)<|dq r r (p_move (v:=.ptrs [(1,1),(1,2),(1,3),(1,4),(1,5),(1,6),(1,7),(1,8)]) r)<|dq r r (p_move (v:=aI) r)<|dq r r (p_iap (p:=(1,4)) ts93 r r r)<|dq r r (p_loadp tv96 r)<|dq r r (p_nc r)<|dq r r (p_load (v:=aI) tv3 r r r)<|dq r r (p_neq r r) ?_
    refine d_ek (fr':=[(2,.box 0 0),(3,.box 1 0),(5,.ptrs [(0,1),(0,2),(0,3),(0,4),(0,5),(0,6),(0,7),(0,8)]),(6,.ptrs [(1,1),(1,2),(1,3),(1,4),(1,5),(1,6),(1,7),(1,8)]),(11,aI),(12,aI),(27,aB)]) r r<|w_ch h11 r (fun hb13 h13=>?_) (fun hb13 h13=>?_)
    ·
     refine w_sr<|sB r<|o_ek (fr':=[(4,aB)]) r r<|w_ret<|e_blk_r<|e_seq_r<|e_seq_r<|e_blk_r<|e_seq_r ?_
     obtain rfl:=sy h13
     exact e_ret (rs':=[.tmp 4]) r<|r_tmp (v:=aB) r<|r_nil<|fin_gen [] r r r lr st_nil
    ·
     refine w_skip<|e_blk_n<|e_kw<|w_region<|o_p r (p_k (p_add r r) (show _=.int .i64 (4:Int) from r))<|mI r<|o_end (fr':=[(2,.box 0 0),(3,.box 1 0),(5,.ptrs [(0,1),(0,2),(0,3),(0,4),(0,5),(0,6),(0,7),(0,8)]),(6,.ptrs [(1,1),(1,2),(1,3),(1,4),(1,5),(1,6),(1,7),(1,8)]),(11,aI),(12,aI),(27,aB)]) r<|e_seq_n<|lu_s<|w_sr<|o_p r (p_k (p_lss r r) (show _=.bool true from r))<|o_ek (fr':=[(2,.box 0 0),(3,.box 1 0),(5,.ptrs [(0,1),(0,2),(0,3),(0,4),(0,5),(0,6),(0,7),(0,8)]),(6,.ptrs [(1,1),(1,2),(1,3),(1,4),(1,5),(1,6),(1,7),(1,8)]),(11,aI),(12,aI),(13,aB)]) r r ?_
     refine w_seqw<|w_cond_t r<|w_skip<|e_kw<|w_seqw<|w_block<|w_sr<|mI r<|sI r<|o_ek (fr':=[(2,.box 0 0),(3,.box 1 0),(5,.ptrs [(0,1),(0,2),(0,3),(0,4),(0,5),(0,6),(0,7),(0,8)]),(6,.ptrs [(1,1),(1,2),(1,3),(1,4),(1,5),(1,6),(1,7),(1,8)]),(7,aI),(11,aI),(12,aI)]) r r<|w_seqw<|w_planT [.q 0,.q 1,.q 2,.q 3,.q 4,.q 5,.q 6,.q 7,.q 8,.q 9,.q 10,.q 11,.q 12] [(some 15,[5]),(some 16,[7]),(some 17,[15,16]),(some 18,[17]),(some 19,[18]),(some 20,[19]),(some 21,[6]),(some 22,[7]),(some 23,[21,22]),(some 24,[23]),(some 25,[24]),(some 26,[25]),(some 27,[20,26])] [0,0,3,7,15,31,0,0,192,448,960,1984,4095] (by kernel_rfl) ?_
     refine dq r r (p_move (v:=.ptrs [(0,1),(0,2),(0,3),(0,4),(0,5),(0,6),(0,7),(0,8)]) r)<|dq r r (p_move (v:=aI) r)<|dq r r (p_iap (p:=(0,5)) ts93 r r r)<|dq r r (p_loadp tv96 r)<|dq r r (p_nc r)<|dq r r (p_load (v:=aI) tv3 r r r)<|dq r r (p_move (v:=.ptrs [(1,1),(1,2),(1,3),(1,4),(1,5),(1,6),(1,7),(1,8)]) r)<|dq r r (p_move (v:=aI) r)<|dq r r (p_iap (p:=(1,5)) ts93 r r r)<|dq r r (p_loadp tv96 r)<|dq r r (p_nc r)<|dq r r (p_load (v:=aI) tv3 r r r)<|dq r r (p_neq r r) ?_
     refine d_ek (fr':=[(2,.box 0 0),(3,.box 1 0),(5,.ptrs [(0,1),(0,2),(0,3),(0,4),(0,5),(0,6),(0,7),(0,8)]),(6,.ptrs [(1,1),(1,2),(1,3),(1,4),(1,5),(1,6),(1,7),(1,8)]),(11,aI),(12,aI),(27,aB)]) r r<|w_ch h13 r (fun hb15 h15=>?_) (fun hb15 h15=>?_)
     ·
      refine w_sr<|sB r<|o_ek (fr':=[(4,aB)]) r r<|w_ret<|e_blk_r<|e_seq_r<|e_seq_r<|e_blk_r<|e_seq_r ?_
      obtain rfl:=sy h15
      exact e_ret (rs':=[.tmp 4]) r<|r_tmp (v:=aB) r<|r_nil<|fin_gen [] r r r lr st_nil
     ·
      refine w_skip<|e_blk_n<|e_kw<|w_region<|o_p r (p_k (p_add r r) (show _=.int .i64 (5:Int) from r))<|mI r<|o_end (fr':=[(2,.box 0 0),(3,.box 1 0),(5,.ptrs [(0,1),(0,2),(0,3),(0,4),(0,5),(0,6),(0,7),(0,8)]),(6,.ptrs [(1,1),(1,2),(1,3),(1,4),(1,5),(1,6),(1,7),(1,8)]),(11,aI),(12,aI),(27,aB)]) r<|e_seq_n<|lu_s<|w_sr<|o_p r (p_k (p_lss r r) (show _=.bool true from r))<|o_ek (fr':=[(2,.box 0 0),(3,.box 1 0),(5,.ptrs [(0,1),(0,2),(0,3),(0,4),(0,5),(0,6),(0,7),(0,8)]),(6,.ptrs [(1,1),(1,2),(1,3),(1,4),(1,5),(1,6),(1,7),(1,8)]),(11,aI),(12,aI),(13,aB)]) r r ?_
      refine w_seqw<|w_cond_t r<|w_skip<|e_kw<|w_seqw<|w_block<|w_sr<|mI r<|sI r<|o_ek (fr':=[(2,.box 0 0),(3,.box 1 0),(5,.ptrs [(0,1),(0,2),(0,3),(0,4),(0,5),(0,6),(0,7),(0,8)]),(6,.ptrs [(1,1),(1,2),(1,3),(1,4),(1,5),(1,6),(1,7),(1,8)]),(7,aI),(11,aI),(12,aI)]) r r<|w_seqw<|w_planT [.q 0,.q 1,.q 2,.q 3,.q 4,.q 5,.q 6,.q 7,.q 8,.q 9,.q 10,.q 11,.q 12] [(some 15,[5]),(some 16,[7]),(some 17,[15,16]),(some 18,[17]),(some 19,[18]),(some 20,[19]),(some 21,[6]),(some 22,[7]),(some 23,[21,22]),(some 24,[23]),(some 25,[24]),(some 26,[25]),(some 27,[20,26])] [0,0,3,7,15,31,0,0,192,448,960,1984,4095] (by kernel_rfl) ?_
      refine dq r r (p_move (v:=.ptrs [(0,1),(0,2),(0,3),(0,4),(0,5),(0,6),(0,7),(0,8)]) r)<|dq r r (p_move (v:=aI) r)<|dq r r (p_iap (p:=(0,6)) ts93 r r r)<|dq r r (p_loadp tv96 r)<|dq r r (p_nc r)<|dq r r (p_load (v:=aI) tv3 r r r)<|dq r r (p_move (v:=.ptrs [(1,1),(1,2),(1,3),(1,4),(1,5),(1,6),(1,7),(1,8)]) r)<|dq r r (p_move (v:=aI) r)<|dq r r (p_iap (p:=(1,6)) ts93 r r r)<|dq r r (p_loadp tv96 r)<|dq r r (p_nc r)<|dq r r (p_load (v:=aI) tv3 r r r)<|dq r r (p_neq r r) ?_
      refine d_ek (fr':=[(2,.box 0 0),(3,.box 1 0),(5,.ptrs [(0,1),(0,2),(0,3),(0,4),(0,5),(0,6),(0,7),(0,8)]),(6,.ptrs [(1,1),(1,2),(1,3),(1,4),(1,5),(1,6),(1,7),(1,8)]),(11,aI),(12,aI),(27,aB)]) r r<|w_ch h15 r (fun hb17 h17=>?_) (fun hb17 h17=>?_)
      ·
       refine w_sr<|sB r<|o_ek (fr':=[(4,aB)]) r r<|w_ret<|e_blk_r<|e_seq_r<|e_seq_r<|e_blk_r<|e_seq_r ?_
       obtain rfl:=sy h17
       exact e_ret (rs':=[.tmp 4]) r<|r_tmp (v:=aB) r<|r_nil<|fin_gen [] r r r lr st_nil
      ·
       refine w_skip<|e_blk_n<|e_kw<|w_region<|o_p r (p_k (p_add r r) (show _=.int .i64 (6:Int) from r))<|mI r<|o_end (fr':=[(2,.box 0 0),(3,.box 1 0),(5,.ptrs [(0,1),(0,2),(0,3),(0,4),(0,5),(0,6),(0,7),(0,8)]),(6,.ptrs [(1,1),(1,2),(1,3),(1,4),(1,5),(1,6),(1,7),(1,8)]),(11,aI),(12,aI),(27,aB)]) r<|e_seq_n<|lu_s<|w_sr<|o_p r (p_k (p_lss r r) (show _=.bool true from r))<|o_ek (fr':=[(2,.box 0 0),(3,.box 1 0),(5,.ptrs [(0,1),(0,2),(0,3),(0,4),(0,5),(0,6),(0,7),(0,8)]),(6,.ptrs [(1,1),(1,2),(1,3),(1,4),(1,5),(1,6),(1,7),(1,8)]),(11,aI),(12,aI),(13,aB)]) r r ?_
       refine w_seqw<|w_cond_t r<|w_skip<|e_kw<|w_seqw<|w_block<|w_sr<|mI r<|sI r<|o_ek (fr':=[(2,.box 0 0),(3,.box 1 0),(5,.ptrs [(0,1),(0,2),(0,3),(0,4),(0,5),(0,6),(0,7),(0,8)]),(6,.ptrs [(1,1),(1,2),(1,3),(1,4),(1,5),(1,6),(1,7),(1,8)]),(7,aI),(11,aI),(12,aI)]) r r<|w_seqw<|w_planT [.q 0,.q 1,.q 2,.q 3,.q 4,.q 5,.q 6,.q 7,.q 8,.q 9,.q 10,.q 11,.q 12] [(some 15,[5]),(some 16,[7]),(some 17,[15,16]),(some 18,[17]),(some 19,[18]),(some 20,[19]),(some 21,[6]),(some 22,[7]),(some 23,[21,22]),(some 24,[23]),(some 25,[24]),(some 26,[25]),(some 27,[20,26])] [0,0,3,7,15,31,0,0,192,448,960,1984,4095] (by kernel_rfl) ?_
       refine dq r r (p_move (v:=.ptrs [(0,1),(0,2),(0,3),(0,4),(0,5),(0,6),(0,7),(0,8)]) r)<|dq r r (p_move (v:=aI) r)<|dq r r (p_iap (p:=(0,7)) ts93 r r r)<|dq r r (p_loadp tv96 r)<|dq r r (p_nc r)<|dq r r (p_load (v:=aI) tv3 r r r)<|dq r r (p_move (v:=.ptrs [(1,1),(1,2),(1,3),(1,4),(1,5),(1,6),(1,7),(1,8)]) r)<|dq r r (p_move (v:=aI) r)<|dq r r (p_iap (p:=(1,7)) ts93 r r r)<|dq r r (p_loadp tv96 r)<|dq r r (p_nc r)<|dq r r (p_load (v:=aI) tv3 r r r)<|dq r r (p_neq r r) ?_
       refine d_ek (fr':=[(2,.box 0 0),(3,.box 1 0),(5,.ptrs [(0,1),(0,2),(0,3),(0,4),(0,5),(0,6),(0,7),(0,8)]),(6,.ptrs [(1,1),(1,2),(1,3),(1,4),(1,5),(1,6),(1,7),(1,8)]),(11,aI),(12,aI),(27,aB)]) r r<|w_ch h17 r (fun hb19 h19=>?_) (fun hb19 h19=>?_)
       ·
        refine w_sr<|sB r<|o_ek (fr':=[(4,aB)]) r r<|w_ret<|e_blk_r<|e_seq_r<|e_seq_r<|e_blk_r<|e_seq_r ?_
        obtain rfl:=sy h19
        exact e_ret (rs':=[.tmp 4]) r<|r_tmp (v:=aB) r<|r_nil<|fin_gen [] r r r lr st_nil
       ·
        refine w_skip<|e_blk_n<|e_kw<|w_region<|o_p r (p_k (p_add r r) (show _=.int .i64 (7:Int) from r))<|mI r<|o_end (fr':=[(2,.box 0 0),(3,.box 1 0),(5,.ptrs [(0,1),(0,2),(0,3),(0,4),(0,5),(0,6),(0,7),(0,8)]),(6,.ptrs [(1,1),(1,2),(1,3),(1,4),(1,5),(1,6),(1,7),(1,8)]),(11,aI),(12,aI),(27,aB)]) r<|e_seq_n<|lu_s<|w_sr<|o_p r (p_k (p_lss r r) (show _=.bool true from r))<|o_ek (fr':=[(2,.box 0 0),(3,.box 1 0),(5,.ptrs [(0,1),(0,2),(0,3),(0,4),(0,5),(0,6),(0,7),(0,8)]),(6,.ptrs [(1,1),(1,2),(1,3),(1,4),(1,5),(1,6),(1,7),(1,8)]),(11,aI),(12,aI),(13,aB)]) r r ?_
        refine w_seqw<|w_cond_t r<|w_skip<|e_kw<|w_seqw<|w_block<|w_sr<|mI r<|sI r<|o_ek (fr':=[(2,.box 0 0),(3,.box 1 0),(5,.ptrs [(0,1),(0,2),(0,3),(0,4),(0,5),(0,6),(0,7),(0,8)]),(6,.ptrs [(1,1),(1,2),(1,3),(1,4),(1,5),(1,6),(1,7),(1,8)]),(7,aI),(11,aI),(12,aI)]) r r<|w_seqw<|w_planT [.q 0,.q 1,.q 2,.q 3,.q 4,.q 5,.q 6,.q 7,.q 8,.q 9,.q 10,.q 11,.q 12] [(some 15,[5]),(some 16,[7]),(some 17,[15,16]),(some 18,[17]),(some 19,[18]),(some 20,[19]),(some 21,[6]),(some 22,[7]),(some 23,[21,22]),(some 24,[23]),(some 25,[24]),(some 26,[25]),(some 27,[20,26])] [0,0,3,7,15,31,0,0,192,448,960,1984,4095] (by kernel_rfl) ?_
        refine dq r r (p_move (v:=.ptrs [(0,1),(0,2),(0,3),(0,4),(0,5),(0,6),(0,7),(0,8)]) r)<|dq r r (p_move (v:=aI) r)<|dq r r (p_iap (p:=(0,8)) ts93 r r r)<|dq r r (p_loadp tv96 r)<|dq r r (p_nc r)<|dq r r (p_load (v:=aI) tv3 r r r)<|dq r r (p_move (v:=.ptrs [(1,1),(1,2),(1,3),(1,4),(1,5),(1,6),(1,7),(1,8)]) r)<|dq r r (p_move (v:=aI) r)<|dq r r (p_iap (p:=(1,8)) ts93 r r r)<|dq r r (p_loadp tv96 r)<|dq r r (p_nc r)<|dq r r (p_load (v:=aI) tv3 r r r)<|dq r r (p_neq r r) ?_
        refine d_ek (fr':=[(2,.box 0 0),(3,.box 1 0),(5,.ptrs [(0,1),(0,2),(0,3),(0,4),(0,5),(0,6),(0,7),(0,8)]),(6,.ptrs [(1,1),(1,2),(1,3),(1,4),(1,5),(1,6),(1,7),(1,8)]),(11,aI),(12,aI),(27,aB)]) r r<|w_ch h19 r (fun hb21 h21=>?_) (fun hb21 h21=>?_)
        ·
         refine w_sr<|sB r<|o_ek (fr':=[(4,aB)]) r r<|w_ret<|e_blk_r<|e_seq_r<|e_seq_r<|e_blk_r<|e_seq_r ?_
         obtain rfl:=sy h21
         exact e_ret (rs':=[.tmp 4]) r<|r_tmp (v:=aB) r<|r_nil<|fin_gen [] r r r lr st_nil
        ·
         refine w_skip<|e_blk_n<|e_kw<|w_region<|o_p r (p_k (p_add r r) (show _=.int .i64 (8:Int) from r))<|mI r<|o_end (fr':=[(2,.box 0 0),(3,.box 1 0),(5,.ptrs [(0,1),(0,2),(0,3),(0,4),(0,5),(0,6),(0,7),(0,8)]),(6,.ptrs [(1,1),(1,2),(1,3),(1,4),(1,5),(1,6),(1,7),(1,8)]),(11,aI),(12,aI),(27,aB)]) r<|e_seq_n<|lu_s<|w_sr<|o_p r (p_k (p_lss r r) (show _=.bool false from r))<|o_ek (fr':=[(2,.box 0 0),(3,.box 1 0),(5,.ptrs [(0,1),(0,2),(0,3),(0,4),(0,5),(0,6),(0,7),(0,8)]),(6,.ptrs [(1,1),(1,2),(1,3),(1,4),(1,5),(1,6),(1,7),(1,8)]),(11,aI),(12,aI),(13,aB)]) r r ?_
         refine w_seqw<|w_cond_f r<|w_exit<|e_seq_x<|e_seq_x<|e_blk_h<|e_kw<|w_sr<|o_p r (p_fa tf43x0 r)<|o_p r (p_load (v:=aS) tv9 r r r)<|o_p r (p_fa tf43x0 r)<|o_p r (p_load (v:=aS) tv9 r r r) ?_
         refine o_p r (p_seql r r)<|mB r<|og r r r (fun hc=>(p_fa tf43x9 r))<|og r r r (fun hc=>(p_load (v:=aL) tv39 (gx r hc) r r))<|og r r r (fun hc=>(p_fa tf43x9 r))<|og r r r (fun hc=>(p_load (v:=aL) tv39 (gx r hc) r r)) ?_
         obtain ⟨x23,hx23,h24⟩:=bind_s h21
         refine o_g r r (fun hc=>ov_call (v:=aB) r (w_slices_Equal_string_string (gd_some hx23 hc)) ⟨(le_gv (gx r hc) lr),(le_gv (gx r hc) lr),trivial⟩ (ok_eq (by repeat (first | exact ok_nil | refine ok_cons r ?_ | refine ok_cons (dgv r) ?_ | refine ok_cons dar ?_))) r r) ?_
         refine o_p r (p_picky r r r (fun e=>keq e))<|sB r<|o_ek (fr':=[(4,aB)]) r r<|w_ret ?_
         obtain rfl:=sy h24
         exact e_ret (rs':=[.tmp 4]) r<|r_tmp (v:=aB) r<|r_nil<|fin_gen [] r r r lr st_nil
noncomputable def command_bare (p0c:ApiCommand) (p1u:CommandUses):Option Bool :=
 (gd (((cond (cond (cond (cond p1u.seq_ true (decide (p0c.Seq=(0:Int)))) (cond p1u.name_ true (decide (p0c.Name=([]:List UInt8)))) false) (cond p1u.key_ true (decide (p0c.Key=([]:List UInt8)))) false) (cond p1u.n_ true (decide (p0c.N=(0:Int)))) false)==true)&&(p1u.data_==false)) (value_Same p0c.Data (ApiValue.mk (0:Int) (0:Int) ([]:List UInt8) ([]:(List ApiValue)) ([]:(List (List UInt8)))))).bind fun x1=>(gd (((cond (cond (cond (cond (cond p1u.seq_ true (decide (p0c.Seq=(0:Int)))) (cond p1u.name_ true (decide (p0c.Name=([]:List UInt8)))) false) (cond p1u.key_ true (decide (p0c.Key=([]:List UInt8)))) false) (cond p1u.n_ true (decide (p0c.N=(0:Int)))) false) (cond p1u.data_ true x1) false)==true)&&(p1u.opts_==false)) (command_SamePolicy p0c.Opts (ApiPolicy.mk ([]:List UInt8) (0:Int) (0:Int) (0:Int) (0:Int) (0:Int) (0:Int) (0:Int) (0:Int) ([]:(List (List UInt8)))))).bind fun x3=>some (cond (cond (cond (cond (cond (cond p1u.seq_ true (decide (p0c.Seq=(0:Int)))) (cond p1u.name_ true (decide (p0c.Name=([]:List UInt8)))) false) (cond p1u.key_ true (decide (p0c.Key=([]:List UInt8)))) false) (cond p1u.n_ true (decide (p0c.N=(0:Int)))) false) (cond p1u.data_ true x1) false) (cond p1u.opts_ true x3) false)
theorem w_command_bare {p0c:ApiCommand}{p1u:CommandUses}{res:Bool} (h:command_bare p0c p1u=some res):ACalls Tryz.prog 79 [.agg (AV.cs (rowApiCommand p0c)),.agg (AV.cs (rowCommandUses p1u))] [] (.c (.bool res)) []:=by
 unfold command_bare at h
 refine acalls (fn:=Tryz.f79) [0,1,2,3,4] (by kernel_rfl) Tryz.func79 r (by kernel_rfl) (by kernel_rfl)<|w_sr<|o_box (v:=.agg aIISSIIISLLSIIIIIIIIL) (n:=0) (cs:=aIISSIIISLLSIIIIIIIIL) (σ':=[aIISSIIISLLSIIIIIIIIL]) r r r r r<|o_box (v:=.agg aBBBBBB) (n:=1) (cs:=aBBBBBB) (σ':=[aIISSIIISLLSIIIIIIIIL,aBBBBBB]) r r r r r<|sB r<|o_ek (fr':=[(2,.box 0 0),(3,.box 1 0)]) r r<|w_sr<|o_p r (p_fa tf88x0 r)<|o_p r (p_load (v:=aB) tv4 r r r)<|mB r<|og r r r (fun hc=>(p_fa tf70x1 r)) ?_
 refine og r r r (fun hc=>(p_load (v:=aI) tv3 (gx r hc) r r))<|og r r r (fun hc=>(p_eql (gx r hc) r))<|o_p r (p_pickz r r r (fun e=>keq e))<|mB r<|og r r r (fun hc=>(p_fa tf88x1 r))<|og r r r (fun hc=>(p_load (v:=aB) tv4 (gx r hc) r r))<|og r r r (fun hc=>(p_move (v:=aB) (gx r hc)))<|o_gg r r (fun hc=>ov_p r (p_fa tf70x2 r))<|o_gg r r (fun hc=>ov_p r (p_load (v:=aS) tv9 (gx r hc) r r))<|o_gg r r (fun hc=>ov_p r (p_seql (gx r hc) r))<|og r r r (fun hc=>(p_pickz (gx r hc) r r (fun e=>band hc (keq e))))<|o_p r (p_picky r r r (fun e=>keq e))<|mB r ?_
 refine og r r r (fun hc=>(p_fa tf88x2 r))<|og r r r (fun hc=>(p_load (v:=aB) tv4 (gx r hc) r r))<|og r r r (fun hc=>(p_move (v:=aB) (gx r hc)))<|o_gg r r (fun hc=>ov_p r (p_fa tf70x3 r))<|o_gg r r (fun hc=>ov_p r (p_load (v:=aS) tv9 (gx r hc) r r))<|o_gg r r (fun hc=>ov_p r (p_seql (gx r hc) r))<|og r r r (fun hc=>(p_pickz (gx r hc) r r (fun e=>band hc (keq e))))<|o_p r (p_picky r r r (fun e=>keq e))<|mB r<|og r r r (fun hc=>(p_fa tf88x3 r))<|og r r r (fun hc=>(p_load (v:=aB) tv4 (gx r hc) r r))<|og r r r (fun hc=>(p_move (v:=aB) (gx r hc)))<|o_gg r r (fun hc=>ov_p r (p_fa tf70x4 r)) ?_
 refine o_gg r r (fun hc=>ov_p r (p_load (v:=aI) tv3 (gx r hc) r r))<|o_gg r r (fun hc=>ov_p r (p_eql (gx r hc) r))<|og r r r (fun hc=>(p_pickz (gx r hc) r r (fun e=>band hc (keq e))))<|o_p r (p_picky r r r (fun e=>keq e))<|mB r<|og r r r (fun hc=>(p_fa tf88x4 r))<|og r r r (fun hc=>(p_load (v:=aB) tv4 (gx r hc) r r))<|og r r r (fun hc=>(p_move (v:=aB) (gx r hc)))<|o_gg r r (fun hc=>ov_p r (p_fa tf70x5 r))<|o_gg r r (fun hc=>ov_p r (p_loads (us:=aIISLL) tv41 (gx r hc) r r r))<|o_gg r r (fun hc=>ov_p r (p_build (cs:=[aI,aI,aS,AV.nil,AV.nil]) tb41 r)) ?_
 obtain ⟨x1,hx1,h2⟩:=bind_s h
 refine o_gg r r (fun hc=>ov_call (v:=aB) r (w_value_Same (gd_some hx1 hc)) ⟨(le_gv (gx r hc) (le_aggc r ⟨r,r,r,r,r,trivial⟩)),(le_gv (gx r hc) (le_aggc r ⟨r,r,r,⟨_,r⟩,⟨_,r⟩,trivial⟩)),trivial⟩ (ok_eq (by repeat (first | exact ok_nil | refine ok_cons r ?_ | refine ok_cons (dgv r) ?_ | refine ok_cons dar ?_))) r r) ?_
 refine og r r r (fun hc=>(p_pickz (gx r hc) r r (fun e=>band hc (keq e))))<|o_p r (p_picky r r r (fun e=>keq e))<|mB r<|og r r r (fun hc=>(p_fa tf88x5 r))<|og r r r (fun hc=>(p_load (v:=aB) tv4 (gx r hc) r r))<|og r r r (fun hc=>(p_move (v:=aB) (gx r hc)))<|o_gg r r (fun hc=>ov_p r (p_fa tf70x6 r))<|o_gg r r (fun hc=>ov_p r (p_loads (us:=aSIIIIIIIIL) tv43 (gx r hc) r r r))<|o_gg r r (fun hc=>ov_p r (p_buildc (c0:=[aS,aI,aI,aI,aI,aI,aI,aI,aI,AV.nil]) (cs:=[aS,aI,aI,aI,aI,aI,aI,aI,aI,AV.nil]) tb43 r fill_nil)) ?_
 obtain ⟨x3,hx3,h4⟩:=bind_s h2
 refine o_gg r r (fun hc=>ov_call (v:=aB) r (w_command_SamePolicy (gd_some hx3 hc)) ⟨(le_gv (gx r hc) (le_aggc r ⟨r,r,r,r,r,r,r,r,r,r,trivial⟩)),(le_gv (gx r hc) (le_aggc r ⟨r,r,r,r,r,r,r,r,r,⟨_,r⟩,trivial⟩)),trivial⟩ (ok_eq (by repeat (first | exact ok_nil | refine ok_cons r ?_ | refine ok_cons (dgv r) ?_ | refine ok_cons dar ?_))) r r) ?_
 refine og r r r (fun hc=>(p_pickz (gx r hc) r r (fun e=>band hc (keq e))))<|o_p r (p_picky r r r (fun e=>keq e))<|sB r<|o_ek (fr':=[(4,aB)]) r r<|w_ret ?_
 obtain rfl:=sy h4
 exact e_ret (rs':=[.tmp 4]) r<|r_tmp (v:=aB) r<|r_nil<|fin_gen [] r r r lr st_nil
noncomputable def command_RightPolicy_1 (p0s:(List UInt8)):Option Bool :=
 some (decide ((4096:Int)<((p0s).length:Int)))
theorem w_command_RightPolicy_1 {p0s:(List UInt8)}{res:Bool} (h:command_RightPolicy_1 p0s=some res):ACalls Tryz.prog 99 [.c (.str p0s)] [] (.c (.bool res)) []:=by
 unfold command_RightPolicy_1 at h
 refine acalls (fn:=Tryz.f99) [0,2] (by kernel_rfl) Tryz.func99 r (by kernel_rfl) (by kernel_rfl)<|w_sr<|sB r<|o_ek (fr':=[(0,aS)]) r r<|w_sr<|mS r<|o_p r (p_lens ti9 r)<|o_p r (p_gtr r r)<|sB r<|o_ek (fr':=[(2,aB)]) r r<|w_ret ?_
 obtain rfl:=sy h
 exact e_ret (rs':=[.tmp 2]) r<|r_tmp (v:=aB) r<|r_nil<|fin_gen [] r r r lr st_nil
noncomputable def slices_IndexFunc_string_string_command_RightPolicy_1_l1 (p0s:(List (List UInt8))) (s4:Int):Option (Step Int (Fl Int Unit)) :=
 cond (decide (s4<((p0s).length:Int))) ((idx p0s s4).bind fun x6=>(command_RightPolicy_1 x6).bind fun x8=>cond x8 (some (Step.out (Fl.done s4))) (some (Step.next (IntKind.wrap .i64 (s4+(1:Int)))))) (some (Step.out (Fl.go ())))
noncomputable def slices_IndexFunc_string_string_command_RightPolicy_1 (p0s:(List (List UInt8))):Option Int :=
 ((loopO (slices_IndexFunc_string_string_command_RightPolicy_1_l1 p0s) ((0:Int))):Option (Fl Int Unit)).bind fun x1=>Fl.next x1 (fun j3=>(some (-1:Int)))
theorem w_slices_IndexFunc_string_string_command_RightPolicy_1 {p0s:(List (List UInt8))}{res:Int} (h:slices_IndexFunc_string_string_command_RightPolicy_1 p0s=some res):ACalls Tryz.prog 110 [.c (PV.ls 1 rowS p0s),.fn 99 []] [] (.c (.int .i64 res)) []:=by
 unfold slices_IndexFunc_string_string_command_RightPolicy_1 at h
 refine acalls (fn:=Tryz.f110) [0,1,4,5,7,8,9,16] (by kernel_rfl) Tryz.func110 r (by kernel_rfl) (by kernel_rfl)<|w_sr<|sI r<|o_ek (fr':=[(0,aL),(1,.fn _ [])]) r r<|w_seqw<|w_sr<|mL r<|o_p r (p_len ti39 (isl_c r))<|mI r<|o_ek (fr':=[(0,aL),(1,.fn _ []),(7,aI),(8,aI)]) r r ?_
 obtain ⟨x1,hx1,h2⟩:=bind_s h
 refine w_jtail cl_kw (fun j3=>x1=Fl.go j3) (fun (j3:Unit)=>([]:Fr)) (fun (j3:Unit)=>([]:St)) ?_ ?_
 ·
  refine w_block<|w_loopo _ (fun (s4:Int)=>([(0,.c (PV.ls 1 rowS p0s)),(1,.fn 99 []),(7,.c (.int .i64 ((p0s).length:Int))),(8,.c (.int .i64 s4))]:Fr)) (fun (s4:Int)=>([]:St)) hx1 (w_weak [] 0 r r r r ⟨lr,lr,lr,lr,trivial⟩ st_nil) ?_
  intro s4 st4 hs4 ho4
  unfold slices_IndexFunc_string_string_command_RightPolicy_1_l1 at hs4
  refine w_sr<|o_p r (p_lss r r)<|o_ek (fr':=[(0,aL),(1,.fn _ []),(7,aI),(8,aI),(9,aB)]) r r<|w_seqw<|w_ch hs4 r (fun hb5 h5=>?_) (fun hb5 h5=>?_)
  ·
   refine w_skip<|e_kw<|w_seqw<|w_block<|w_sr<|mI r<|sI r<|o_ek (fr':=[(0,aL),(1,.fn _ []),(5,aI),(7,aI),(8,aI)]) r r<|w_sr<|mV (v:=.fn _ []) r<|mL r ?_
   refine mI r ?_
   obtain ⟨x6,hx6,h7⟩:=bind_s h5
   refine o_p r (p_ia (cs:=[PV.str _]) ts39 (isl_c r) r hx6 r)<|o_p r (p_loade (p:=PV.str _) tv9 r r) ?_
   obtain ⟨x8,hx8,h9⟩:=bind_s h7
   refine o_v (ov_call (v:=aB) r (w_command_RightPolicy_1 hx8) ⟨lr,trivial⟩ r r r)<|o_ek (fr':=[(0,aL),(1,.fn _ []),(5,aI),(7,aI),(8,aI),(16,aB)]) r r<|w_ch h9 r (fun hb10 h10=>?_) (fun hb10 h10=>?_)
   ·
    refine w_sr<|mI r<|sI r<|o_ek (fr':=[(4,aI)]) r r<|w_ret<|e_blk_r<|e_seq_r<|e_seq_r<|e_blk_r<|e_seq_r<|e_seq_r ?_
    have h11:=un_out h10 ho4
    have h12:=un_done h11 h2
    obtain rfl:=sy h12
    exact e_ret (rs':=[.tmp 4]) r<|r_tmp (v:=aI) r<|r_nil<|fin_gen [] r r r lr st_nil
   ·
    exact w_skip<|e_blk_n<|e_kw<|w_region<|o_p r (p_add r r)<|mI r<|o_end (fr':=[(0,aL),(1,.fn _ []),(5,aI),(7,aI),(8,aI),(16,aB)]) r<|e_l _ (sy h10) (w_weak [] 0 r r r r ⟨lr,lr,lr,lr,trivial⟩ st_nil)
  ·
   refine w_exit<|e_seq_x<|e_seq_x<|e_blk_h ?_
   have h14:=un_out h5 ho4
   exact e_j _ (sy h14) (w_weak [] 0 r r r r trivial st_nil)
 ·
  intro j3 hj15
  have h15:=un_go hj15 h2
  refine e_kw<|w_sr<|sI r<|o_ek (fr':=[(4,aI)]) r r<|w_ret ?_
  obtain rfl:=sy h15
  exact e_ret (rs':=[.tmp 4]) r<|r_tmp (v:=aI) r<|r_nil<|fin_gen [] r r r lr st_nil
noncomputable def slices_ContainsFunc_string_string_command_RightPolicy_1 (p0s:(List (List UInt8))):Option Bool :=
 (slices_IndexFunc_string_string_command_RightPolicy_1 p0s).bind fun x1=>some (decide ((0:Int)≤x1))
theorem w_slices_ContainsFunc_string_string_command_RightPolicy_1 {p0s:(List (List UInt8))}{res:Bool} (h:slices_ContainsFunc_string_string_command_RightPolicy_1 p0s=some res):ACalls Tryz.prog 95 [.c (PV.ls 1 rowS p0s),.fn 99 []] [] (.c (.bool res)) []:=by
 unfold slices_ContainsFunc_string_string_command_RightPolicy_1 at h
 refine acalls (fn:=Tryz.f95) [0,1,4] (by kernel_rfl) Tryz.func95 r (by kernel_rfl) (by kernel_rfl)<|w_sr<|sB r<|o_ek (fr':=[(0,aL),(1,.fn _ [])]) r r<|w_sr<|mL r<|mV (v:=.fn _ []) r ?_
 obtain ⟨x1,hx1,h2⟩:=bind_s h
 refine o_v (ov_call (v:=aI) r (w_slices_IndexFunc_string_string_command_RightPolicy_1 hx1) ⟨lr,lr,trivial⟩ r r r)<|o_p r (p_geq r r)<|sB r<|o_ek (fr':=[(4,aB)]) r r<|w_ret ?_
 obtain rfl:=sy h2
 exact e_ret (rs':=[.tmp 4]) r<|r_tmp (v:=aB) r<|r_nil<|fin_gen [] r r r lr st_nil
end Go.Proofs.YtmbdbdhdcbdcpaaGreatDoor

import Derived.Test.YtngcjjhbimanlaaGreatDoorGCTy
import Derived.Test.YtngcjjhbimanlaaGreatDoorGCF2
import Derived.Test.YtngcjjhbimanlaaGreatDoorGCF4
import Derived.Test.YtngcjjhbimanlaaGreatDoorGCF5
namespace Go.Proofs.YtngcjjhbimanlaaGreatDoor
open Go Abs
set_option maxRecDepth 100000
set_option linter.unusedVariables false
set_option linter.unusedSimpArgs false
noncomputable def ref20xInput_l1 (p0v : ApiValue) (s8 : Int) : Option (Step Int (Fl Bool Unit)) :=
 (idx p0v.Items (1 : Int)).bind fun (x9 : ApiValue) => cond (decide (s8 < ((x9.Items).length : Int))) ((idx p0v.Items (1 : Int)).bind fun (x12 : ApiValue) => (idx x12.Items s8).bind fun (x14 : ApiValue) => (gd ((cond (!decide (x14.Kind = (4 : Int))) true (!decide (((x14.Items).length : Int) = (2 : Int)))) == false) (idx x14.Items (0 : Int))).bind fun (x16 : ApiValue) => (gd ((cond (cond (!decide (x14.Kind = (4 : Int))) true (!decide (((x14.Items).length : Int) = (2 : Int)))) true (!decide (x16.Kind = (3 : Int)))) == false) (idx x14.Items (0 : Int))).bind fun (x18 : ApiValue) => (gd ((cond (cond (!decide (x14.Kind = (4 : Int))) true (!decide (((x14.Items).length : Int) = (2 : Int)))) true (!decide (x16.Kind = (3 : Int)))) == false) (ref06xRight x18.Text)).bind fun (x20 : Bool) => cond (cond (cond (cond (!decide (x14.Kind = (4 : Int))) true (!decide (((x14.Items).length : Int) = (2 : Int)))) true (!decide (x16.Kind = (3 : Int)))) true (!x20)) (some (Step.out (Fl.done false))) (some (Step.next (IntKind.wrap .i64 (s8 + (1 : Int)))))) (some (Step.out (Fl.go ())))
noncomputable def ref20xInput (p0v : ApiValue) : Option Bool :=
 (gd ((cond (!decide (p0v.Kind = (4 : Int))) true (!decide (((p0v.Items).length : Int) = (2 : Int)))) == false) (idx p0v.Items (1 : Int))).bind fun (x1 : ApiValue) => cond (cond (cond (!decide (p0v.Kind = (4 : Int))) true (!decide (((p0v.Items).length : Int) = (2 : Int)))) true (!decide (x1.Kind = (4 : Int)))) (some false) (((loopO (ref20xInput_l1 p0v) ((0 : Int))) : Option (Fl Bool Unit)).bind fun (x5 : (Fl Bool Unit)) => Fl.next x5 (fun (j7 : Unit) => (some true)))
theorem w_ref20xInput {p0v : ApiValue} {res : Bool} (h : ref20xInput p0v = some res) : ACalls Tryz.prog 74 [.agg (AV.cs (exApiValue p0v))] [] (.c (.bool res)) [] := by
 unfold ref20xInput at h
 refine acalls (fn := Tryz.f74) [0, 1, 2, 3, 4, 21, 29, 65] (by kernel_rfl) Tryz.func74 rfl (by kernel_rfl) (by kernel_rfl) <| w_sr <| o_box (v := .agg aIISLL) (n := 0) (cs := aIISLL) (σ' := [aIISLL]) rfl rfl rfl rfl rfl <| sB rfl <| o_ek (fr' := [(1, .box 0 0)]) rfl rfl <| w_seqw <| w_sr <| o_p rfl (p_fa tf25x0 rfl) <| o_p rfl (p_load (v := aI) tv3 rfl rfl rfl) <| o_p rfl (p_neq rfl rfl) <| mB rfl ?_
 refine og rfl rfl rfl (fun hc => (p_fa tf25x3 rfl)) <| og rfl rfl rfl (fun hc => (p_load (v := aL) tv22 (gx rfl hc) rfl rfl)) <| og rfl rfl rfl (fun hc => (p_len ti22 (isl_c (gx rfl hc)))) <| og rfl rfl rfl (fun hc => (p_neq (gx rfl hc) rfl)) <| o_p rfl (p_pickz rfl rfl rfl (fun e => keq e)) <| mB rfl <| og rfl rfl rfl (fun hc => (p_fa tf25x3 rfl)) <| og rfl rfl rfl (fun hc => (p_load (v := aL) tv22 (gx rfl hc) rfl rfl)) ?_
 obtain ⟨x1, hx1, h2⟩ := bind_s h
 refine og rfl rfl rfl (fun hc => (p_ia (cs := [PV.int _ _, PV.int _ _, PV.str _, PV.ls _ _ _, PV.ls _ _ _]) ts22 (isl_c (gx rfl hc)) rfl (gd_some hx1 hc) (rowApiValue_eq _))) <| og rfl rfl rfl (fun hc => (p_fae tf25x0 (gx rfl hc))) <| og rfl rfl rfl (fun hc => (p_loade (p := PV.int _ _) tv3 (gx rfl hc) rfl)) <| og rfl rfl rfl (fun hc => (p_neq (gx rfl hc) rfl)) <| o_p rfl (p_pickz rfl rfl rfl (fun e => keq e)) <| o_ek (fr' := [(1, .box 0 0), (21, aB)]) rfl rfl <| w_ch h2 rfl (fun hb3 h3 => ?_) (fun hb3 h3 => ?_)
 ·
  refine w_sr <| sB rfl <| o_ek (fr' := [(2, aB)]) rfl rfl <| w_ret <| e_seq_r ?_
  obtain rfl := sy h3
  exact e_ret (rs' := [.tmp 2]) rfl <| r_tmp (v := aB) rfl <| r_nil <| fin_gen [] rfl rfl rfl lr st_nil
 ·
  refine w_skip <| e_kw <| w_seqw <| w_sr <| sI rfl <| o_ek (fr' := [(1, .box 0 0), (3, aI)]) rfl rfl ?_
  obtain ⟨x5, hx5, h6⟩ := bind_s h3
  refine w_jtail cl_kw (fun j7 => x5 = Fl.go j7) (fun (j7 : Unit) => ([] : Fr)) (fun (j7 : Unit) => ([[.c (.int .i64 p0v.Kind), .c (.int .i64 p0v.Int), .c (.str p0v.Text), .c (PV.ls 5 rowApiValue p0v.Items), .c (PV.ls 1 rowS p0v.Keys)]] : St)) ?_ ?_
  ·
   refine w_block <| w_loopo _ (fun (s8 : Int) => ([(1, .box 0 0), (3, .c (.int .i64 s8))] : Fr)) (fun (s8 : Int) => ([[.c (.int .i64 p0v.Kind), .c (.int .i64 p0v.Int), .c (.str p0v.Text), .c (PV.ls 5 rowApiValue p0v.Items), .c (PV.ls 1 rowS p0v.Keys)]] : St)) hx5 (w_weak [] 1 rfl rfl rfl rfl ⟨lr, lr, trivial⟩ (st_r rfl st_nil)) ?_
   intro s8 st8 hs8 ho8
   unfold ref20xInput_l1 at hs8
   refine w_seqw <| w_sr <| mI rfl <| o_p rfl (p_fa tf25x3 rfl) <| o_p rfl (p_load (v := aL) tv22 rfl rfl rfl) ?_
   obtain ⟨x9, hx9, h10⟩ := bind_s hs8
   refine o_p rfl (p_ia (cs := [PV.int _ _, PV.int _ _, PV.str _, PV.ls _ _ _, PV.ls _ _ _]) ts22 (isl_c rfl) rfl hx9 (rowApiValue_eq _)) <| o_p rfl (p_fae tf25x3 rfl) <| o_p rfl (p_loade (p := PV.ls _ _ _) tv22 rfl rfl) <| o_p rfl (p_len ti22 (isl_c rfl)) <| o_p rfl (p_lss rfl rfl) <| o_ek (fr' := [(1, .box 0 0), (3, aI), (29, aB)]) rfl rfl <| w_ch h10 rfl (fun hb11 h11 => ?_) (fun hb11 h11 => ?_)
   ·
    refine w_skip <| e_kw <| w_seqw <| w_block <| w_sr <| o_p rfl (p_fa tf25x3 rfl) <| o_p rfl (p_load (v := aL) tv22 rfl rfl rfl) ?_
    obtain ⟨x12, hx12, h13⟩ := bind_s h11
    refine o_p rfl (p_ia (cs := [PV.int _ _, PV.int _ _, PV.str _, PV.ls _ _ _, PV.ls _ _ _]) ts22 (isl_c rfl) rfl hx12 (rowApiValue_eq _)) <| o_p rfl (p_fae tf25x3 rfl) <| o_p rfl (p_loade (p := PV.ls _ _ _) tv22 rfl rfl) <| mI rfl ?_
    obtain ⟨x14, hx14, h15⟩ := bind_s h13
    refine o_p rfl (p_ia (cs := [PV.int _ _, PV.int _ _, PV.str _, PV.ls _ _ _, PV.ls _ _ _]) ts22 (isl_c rfl) rfl hx14 (rowApiValue_eq _)) <| o_p rfl (p_loades (us := [PV.int _ _, PV.int _ _, PV.str _, PV.ls _ _ _, PV.ls _ _ _]) tv25 rfl rfl rfl) <| o_alloc (n := 1) (cs := [aI, aI, aS, AV.nil, AV.nil]) (σ' := [aIISLL, [aI, aI, aS, AV.nil, AV.nil]]) tz25 rfl rfl rfl <| o_store (v := .agg aIISLL) (us := aIISLL) (cs := [aI, aI, aS, AV.nil, AV.nil]) (σ' := [aIISLL, aIISLL]) rfl tv25 rfl rfl rfl rfl rfl rfl rfl rfl <| o_ek (fr' := [(1, .box 0 0), (3, aI), (4, .box 1 0)]) rfl rfl <| w_sr <| o_p rfl (p_fa tf25x0 rfl) <| o_p rfl (p_load (v := aI) tv3 rfl rfl rfl) <| o_p rfl (p_neq rfl rfl) <| mB rfl <| og rfl rfl rfl (fun hc => (p_fa tf25x3 rfl)) <| og rfl rfl rfl (fun hc => (p_load (v := aL) tv22 (gx rfl hc) rfl rfl)) ?_
    refine og rfl rfl rfl (fun hc => (p_len ti22 (isl_c (gx rfl hc)))) <| og rfl rfl rfl (fun hc => (p_neq (gx rfl hc) rfl)) <| o_p rfl (p_pickz rfl rfl rfl (fun e => keq e)) <| mB rfl <| og rfl rfl rfl (fun hc => (p_fa tf25x3 rfl)) <| og rfl rfl rfl (fun hc => (p_load (v := aL) tv22 (gx rfl hc) rfl rfl)) ?_
    obtain ⟨x16, hx16, h17⟩ := bind_s h15
    refine og rfl rfl rfl (fun hc => (p_ia (cs := [PV.int _ _, PV.int _ _, PV.str _, PV.ls _ _ _, PV.ls _ _ _]) ts22 (isl_c (gx rfl hc)) rfl (gd_some hx16 hc) (rowApiValue_eq _))) <| og rfl rfl rfl (fun hc => (p_fae tf25x0 (gx rfl hc))) <| og rfl rfl rfl (fun hc => (p_loade (p := PV.int _ _) tv3 (gx rfl hc) rfl)) <| og rfl rfl rfl (fun hc => (p_neq (gx rfl hc) rfl)) <| o_p rfl (p_pickz rfl rfl rfl (fun e => keq e)) <| mB rfl <| og rfl rfl rfl (fun hc => (p_fa tf25x3 rfl)) <| og rfl rfl rfl (fun hc => (p_load (v := aL) tv22 (gx rfl hc) rfl rfl)) ?_
    obtain ⟨x18, hx18, h19⟩ := bind_s h17
    refine og rfl rfl rfl (fun hc => (p_ia (cs := [PV.int _ _, PV.int _ _, PV.str _, PV.ls _ _ _, PV.ls _ _ _]) ts22 (isl_c (gx rfl hc)) rfl (gd_some hx18 hc) (rowApiValue_eq _))) <| og rfl rfl rfl (fun hc => (p_fae tf25x2 (gx rfl hc))) <| og rfl rfl rfl (fun hc => (p_loade (p := PV.str _) tv9 (gx rfl hc) rfl)) ?_
    obtain ⟨x20, hx20, h21⟩ := bind_s h19
    refine o_g rfl rfl (fun hc => ov_call (v := aB) rfl (w_ref06xRight (gd_some hx20 hc)) ⟨(le_gv (gx rfl hc) lr), trivial⟩ (ok_eq (by repeat (first | exact ok_nil | refine ok_cons rfl ?_ | refine ok_cons (dgv rfl) ?_ | refine ok_cons dar ?_))) rfl rfl) ?_
    refine og rfl rfl rfl (fun hc => (p_not (gx rfl hc))) <| o_p rfl (p_pickz rfl rfl rfl (fun e => keq e)) <| o_ek (fr' := [(1, .box 0 0), (3, aI), (65, aB)]) rfl rfl <| w_ch h21 rfl (fun hb22 h22 => ?_) (fun hb22 h22 => ?_)
    ·
     refine w_sr <| sB rfl <| o_ek (fr' := [(2, aB)]) rfl rfl <| w_ret <| e_blk_r <| e_seq_r <| e_seq_r <| e_blk_r <| e_seq_r <| e_seq_r ?_
     have h23 := un_out h22 ho8
     have h24 := un_done h23 h6
     obtain rfl := sy h24
     exact e_ret (rs' := [.tmp 2]) rfl <| r_tmp (v := aB) rfl <| r_nil <| fin_gen [] rfl rfl rfl lr st_nil
    ·
     exact w_skip <| e_blk_n <| e_kw <| w_region <| mI rfl <| o_p rfl (p_add rfl rfl) <| sI rfl <| o_end (fr' := [(1, .box 0 0), (3, aI), (65, aB)]) rfl <| e_l _ (sy h22) (w_weak [] 1 rfl rfl rfl rfl ⟨lr, lr, trivial⟩ (st_r rfl st_nil))
   ·
    refine w_exit <| e_seq_x <| e_seq_x <| e_blk_h ?_
    have h26 := un_out h11 ho8
    exact e_j _ (sy h26) (w_weak [] 1 rfl rfl rfl rfl trivial (st_r rfl st_nil))
  ·
   intro j7 hj27
   have h27 := un_go hj27 h6
   refine e_kw <| w_sr <| sB rfl <| o_ek (fr' := [(2, aB)]) rfl rfl <| w_ret ?_
   obtain rfl := sy h27
   exact e_ret (rs' := [.tmp 2]) rfl <| r_tmp (v := aB) rfl <| r_nil <| fin_gen [] rfl rfl rfl lr st_nil
noncomputable def ref20xRight (p0C : ApiCommand) : Option Bool :=
 (ref20xin p0C.Kind (1 : Int) (14 : Int)).bind fun (x1 : Bool) => (gd ((!x1) == false) (ref20xbare p0C)).bind fun (x3 : ApiCommand) => (gd ((!x1) == false) (ref20xSame x3 (ApiCommand.mk p0C.Kind (0 : Int) ([] : List UInt8) ([] : List UInt8) (0 : Int) (ApiValue.mk (0 : Int) (0 : Int) ([] : List UInt8) ([] : (List ApiValue)) ([] : (List (List UInt8)))) (ApiPolicy.mk ([] : List UInt8) (0 : Int) (0 : Int) (0 : Int) (0 : Int) (0 : Int) (0 : Int) (0 : Int) (0 : Int) ([] : (List (List UInt8))))))).bind fun (x5 : Bool) => (gd ((cond (!x1) true (!x5)) == false) (ref02xRight p0C.Data)).bind fun (x7 : Bool) => cond (cond (cond (!x1) true (!x5)) true (!x7)) (some false) ((ref20xin p0C.Seq (1 : Int) (2000 : Int)).bind fun (x11 : Bool) => (ref06xRight p0C.Name).bind fun (x13 : Bool) => (ref20xIdent p0C.Key).bind fun (x15 : Bool) => cond (decide (p0C.Kind = (1 : Int))) ((gd ((cond x11 x13 false) == true) (ref20xRightPolicy p0C.Opts)).bind fun (x18 : Bool) => some (cond (cond x11 x13 false) x18 false)) (((cond (decide (p0C.Kind = (2 : Int))) (some (decide (p0C.Kind = (2 : Int)))) (some (decide (p0C.Kind = (4 : Int))))) : Option Bool).bind fun (x21 : Bool) => (cond x21 (some x11) (cond (decide (p0C.Kind = (3 : Int))) ((gd (x11 == true) (ref20xin p0C.N (1 : Int) (1099511627776 : Int))).bind fun (x29 : Bool) => some (cond x11 x29 false)) (cond (decide (p0C.Kind = (5 : Int))) ((gd ((cond (cond x11 x13 false) x15 false) == true) (ref20xin p0C.N (0 : Int) (2 : Int))).bind fun (x33 : Bool) => some (cond (cond (cond x11 x13 false) x15 false) x33 false)) (cond (decide (p0C.Kind = (6 : Int))) (some (cond (cond x11 x13 false) x15 false)) (cond (decide (p0C.Kind = (7 : Int))) ((gd ((x13 == true) && ((decide (p0C.N = (-1 : Int))) == false)) (ref20xin p0C.N (0 : Int) (2147483647 : Int))).bind fun (x39 : Bool) => some (cond x13 (cond (decide (p0C.N = (-1 : Int))) true (cond x39 (decide (p0C.Data.Kind = (0 : Int))) false)) false)) (cond (decide (p0C.Kind = (8 : Int))) (some (cond x15 x13 false)) (cond (decide (p0C.Kind = (9 : Int))) ((gd (x15 == true) (ref20xin p0C.N (0 : Int) (1 : Int))).bind fun (x45 : Bool) => some (cond x15 x45 false)) (cond (decide (p0C.Kind = (10 : Int))) (some (decide (p0C.Data.Kind = (5 : Int)))) (cond (decide (p0C.Kind = (12 : Int))) (some (decide (((p0C.Name).length : Int) ≤ (4096 : Int)))) (cond (decide (p0C.Kind = (14 : Int))) ((ref20xInput p0C.Data).bind fun (x53 : Bool) => some x53) (some true)))))))))))))
theorem w_ref20xRight {p0C : ApiCommand} {res : Bool} (h : ref20xRight p0C = some res) : ACalls Tryz.prog 37 [.agg (AV.cs (rowApiCommand p0C))] [] (.c (.bool res)) [] := by
 unfold ref20xRight at h
 refine acalls (fn := Tryz.f37) [0, 1, 2, 3, 4, 5, 24, 35, 36, 47, 51, 59, 73, 82, 101, 107, 115, 121, 127] (by kernel_rfl) Tryz.func37 rfl (by kernel_rfl) (by kernel_rfl) <| w_sr <| o_box (v := .agg aIISSIIISLLSIIIIIIIIL) (n := 0) (cs := aIISSIIISLLSIIIIIIIIL) (σ' := [aIISSIIISLLSIIIIIIIIL]) rfl rfl rfl rfl rfl <| sB rfl <| o_ek (fr' := [(1, .box 0 0)]) rfl rfl <| w_seqw <| w_seqw <| w_planT [.q 0, .q 1, .q 2, .q 3, .q 4, .q 5, .q 6, .q 7, .q 8, .q 9, .q 10, .q 11, .q 12, .q 13, .q 14, .q 15, .q 16, .q 17, .q 18] [(some 6, [1]), (some 7, [6]), (some 8, [7]), (some 9, [8]), (some 10, [9]), (some 11, [1, 10]), (some 12, [11, 10]), (some 13, [1, 10]), (some 14, [13, 10]), (some 15, [14, 10]), (some 16, [12, 15, 10]), (some 17, [16, 10]), (some 18, [10, 17]), (some 19, [18]), (some 20, [1, 19]), (some 21, [20, 19]), (some 22, [21, 19]), (some 23, [22, 19]), (some 24, [19, 23])] [0, 1, 3, 7, 15, 31, 63, 31, 159, 415, 1023, 2047, 4095, 8191, 16383, 32767, 65535, 131071, 262143] (by kernel_rfl) <| dq rfl rfl (p_fa tf33x0 rfl) <| dq rfl rfl (p_load (v := aI) tv3 rfl rfl rfl) ?_
 obtain ⟨x1, hx1, h2⟩ := bind_s h
 refine d_q rfl (qv_call (v := aB) rfl (w_ref20xin hx1) ⟨lr, lr, lr, trivial⟩ rfl) <| dq rfl rfl (p_not rfl) <| dq rfl rfl (p_move (v := aB) rfl) <| d_g rfl rfl rfl (fun hc => qv_p rfl (p_loads (us := aIISSIIISLLSIIIIIIIIL) tv33 rfl rfl rfl rfl)) ?_
 obtain ⟨x3, hx3, h4⟩ := bind_s h2
 refine d_g rfl rfl rfl (fun hc => qv_call (v := .agg aIISSIIISLLSIIIIIIIIL) rfl (w_ref20xbare (gd_some hx3 hc)) ⟨(le_gv (gx rfl hc) (le_aggc rfl ⟨rfl, rfl, rfl, rfl, rfl, rfl, rfl, rfl, rfl, rfl, rfl, rfl, rfl, rfl, rfl, rfl, rfl, rfl, rfl, rfl, trivial⟩)), trivial⟩ rfl) <| d_g rfl rfl rfl (fun hc => qv_p rfl (p_fa tf33x0 rfl)) <| d_g rfl rfl rfl (fun hc => qv_p rfl (p_load (v := aI) tv3 (gx rfl hc) rfl rfl)) <| d_g rfl rfl rfl (fun hc => qv_p rfl (p_buildc (c0 := [aI, aI, aS, aS, aI, aI, aI, aS, AV.nil, AV.nil, aS, aI, aI, aI, aI, aI, aI, aI, aI, AV.nil]) (cs := [aI, aI, aS, aS, aI, aI, aI, aS, AV.nil, AV.nil, aS, aI, aI, aI, aI, aI, aI, aI, aI, AV.nil]) tb33 rfl (fill_cons (v := aI) (us := [_]) (cs' := u20) rfl (gx rfl hc) rfl rfl rfl rfl fill_nil))) ?_
 obtain ⟨x5, hx5, h6⟩ := bind_s h4
 refine d_g rfl rfl rfl (fun hc => qv_call (v := aB) rfl (w_ref20xSame (gd_some hx5 hc)) ⟨(le_gv (gx rfl hc) (le_aggc rfl ⟨rfl, rfl, rfl, rfl, rfl, rfl, rfl, rfl, rfl, rfl, rfl, rfl, rfl, rfl, rfl, rfl, rfl, rfl, rfl, rfl, trivial⟩)), (le_gv (gx rfl hc) (le_aggc rfl ⟨rfl, rfl, rfl, rfl, rfl, rfl, rfl, rfl, ⟨_, rfl⟩, ⟨_, rfl⟩, rfl, rfl, rfl, rfl, rfl, rfl, rfl, rfl, rfl, ⟨_, rfl⟩, trivial⟩)), trivial⟩ rfl) <| d_g rfl rfl rfl (fun hc => qv_p rfl (p_not (gx rfl hc))) <| dq rfl rfl (p_pickz rfl rfl rfl (fun e => keq e)) <| dq rfl rfl (p_move (v := aB) rfl) <| d_g rfl rfl rfl (fun hc => qv_p rfl (p_fa tf33x5 rfl)) <| d_g rfl rfl rfl (fun hc => qv_p rfl (p_loads (us := aIISLL) tv25 (gx rfl hc) rfl rfl rfl)) ?_
 obtain ⟨x7, hx7, h8⟩ := bind_s h6
 refine d_g rfl rfl rfl (fun hc => qv_call (v := aB) rfl (w_ref02xRight (gd_some hx7 hc)) ⟨(le_gv (gx rfl hc) (le_aggc rfl ⟨rfl, rfl, rfl, rfl, rfl, trivial⟩)), trivial⟩ rfl) <| d_g rfl rfl rfl (fun hc => qv_p rfl (p_not (gx rfl hc))) <| dq rfl rfl (p_pickz rfl rfl rfl (fun e => keq e)) <| d_ek (fr' := [(1, .box 0 0), (24, aB)]) rfl rfl <| w_ch h8 rfl (fun hb9 h9 => ?_) (fun hb9 h9 => ?_)
 ·
  refine w_sr <| sB rfl <| o_ek (fr' := [(2, aB)]) rfl rfl <| w_ret <| e_seq_r ?_
  obtain rfl := sy h9
  exact e_ret (rs' := [.tmp 2]) rfl <| r_tmp (v := aB) rfl <| r_nil <| fin_gen [] rfl rfl rfl lr st_nil
 ·
  refine w_skip <| e_kw <| w_sr <| o_p rfl (p_fa tf33x1 rfl) <| o_p rfl (p_load (v := aI) tv3 rfl rfl rfl) ?_
  obtain ⟨x11, hx11, h12⟩ := bind_s h9
  refine o_v (ov_call (v := aB) rfl (w_ref20xin hx11) ⟨lr, lr, lr, trivial⟩ rfl rfl rfl) <| sB rfl <| o_ek (fr' := [(1, .box 0 0), (3, aB)]) rfl rfl <| w_sr <| o_p rfl (p_fa tf33x2 rfl) <| o_p rfl (p_load (v := aS) tv9 rfl rfl rfl) ?_
  obtain ⟨x13, hx13, h14⟩ := bind_s h12
  refine o_v (ov_call (v := aB) rfl (w_ref06xRight hx13) ⟨lr, trivial⟩ rfl rfl rfl) <| sB rfl <| o_ek (fr' := [(1, .box 0 0), (3, aB), (4, aB)]) rfl rfl <| w_sr <| o_p rfl (p_fa tf33x3 rfl) <| o_p rfl (p_load (v := aS) tv9 rfl rfl rfl) ?_
  obtain ⟨x15, hx15, h16⟩ := bind_s h14
  refine o_v (ov_call (v := aB) rfl (w_ref20xIdent hx15) ⟨lr, trivial⟩ rfl rfl rfl) <| sB rfl <| o_ek (fr' := [(1, .box 0 0), (3, aB), (4, aB), (5, aB)]) rfl rfl <| w_seqw <| w_sr <| o_p rfl (p_fa tf33x0 rfl) <| o_p rfl (p_load (v := aI) tv3 rfl rfl rfl) <| o_ek (fr' := [(1, .box 0 0), (3, aB), (4, aB), (5, aB), (35, aI)]) rfl rfl <| w_block <| w_sr <| o_p rfl (p_eql rfl rfl) ?_
  refine sB rfl <| o_ek (fr' := [(1, .box 0 0), (3, aB), (4, aB), (5, aB), (35, aI), (36, aB)]) rfl rfl <| w_ch h16 rfl (fun hb17 h17 => ?_) (fun hb17 h17 => ?_)
  ·
   refine w_sr <| mB rfl <| mB rfl <| og rfl rfl rfl (fun hc => (p_move (v := aB) rfl)) <| o_p rfl (p_picky rfl rfl rfl (fun e => keq e)) <| mB rfl <| og rfl rfl rfl (fun hc => (p_fa tf33x6 rfl)) <| og rfl rfl rfl (fun hc => (p_loads (us := aSIIIIIIIIL) tv27 (gx rfl hc) rfl rfl rfl)) ?_
   obtain ⟨x18, hx18, h19⟩ := bind_s h17
   refine o_g rfl rfl (fun hc => ov_call (v := aB) rfl (w_ref20xRightPolicy (gd_some hx18 hc)) ⟨(le_gv (gx rfl hc) (le_aggc rfl ⟨rfl, rfl, rfl, rfl, rfl, rfl, rfl, rfl, rfl, rfl, trivial⟩)), trivial⟩ (ok_eq (by repeat (first | exact ok_nil | refine ok_cons rfl ?_ | refine ok_cons (dgv rfl) ?_ | refine ok_cons dar ?_))) rfl rfl) ?_
   refine o_p rfl (p_picky rfl rfl rfl (fun e => keq e)) <| sB rfl <| o_ek (fr' := [(2, aB)]) rfl rfl <| w_ret <| e_blk_r <| e_seq_r ?_
   obtain rfl := sy h19
   exact e_ret (rs' := [.tmp 2]) rfl <| r_tmp (v := aB) rfl <| r_nil <| fin_gen [] rfl rfl rfl lr st_nil
  ·
   obtain ⟨x21, hx21, h22⟩ := bind_s h17
   refine w_join (fun j23 => x21 = j23) (fun (j23 : Bool) => ([(1, .box 0 0), (3, .c (.bool x11)), (4, .c (.bool x13)), (5, .c (.bool x15)), (35, .c (.int .i64 p0C.Kind)), (47, .c (.bool j23))] : Fr)) (fun (j23 : Bool) => ([[.c (.int .i64 p0C.Kind), .c (.int .i64 p0C.Seq), .c (.str p0C.Name), .c (.str p0C.Key), .c (.int .i64 p0C.N), .c (.int .i64 p0C.Data.Kind), .c (.int .i64 p0C.Data.Int), .c (.str p0C.Data.Text), .c (PV.ls 5 rowApiValue p0C.Data.Items), .c (PV.ls 1 rowS p0C.Data.Keys), .c (.str p0C.Opts.Queue), .c (.int .i64 p0C.Opts.ToStart), .c (.int .i64 p0C.Opts.ToClose), .c (.int .i64 p0C.Opts.Total), .c (.int .i64 p0C.Opts.Beat), .c (.int .i64 p0C.Opts.First), .c (.int .i64 p0C.Opts.Coef), .c (.int .i64 p0C.Opts.Most), .c (.int .i64 p0C.Opts.Attempts), .c (PV.ls 1 rowS p0C.Opts.Fatal)]] : St)) ?_ ?_
   ·
    refine w_sr <| o_p rfl (p_eql rfl rfl) <| sB rfl <| o_ek (fr' := [(1, .box 0 0), (3, aB), (4, aB), (5, aB), (35, aI), (47, aB)]) rfl rfl <| w_ch hx21 rfl (fun hb24 h24 => ?_) (fun hb24 h24 => ?_)
    ·
     exact w_skip <| e_j _ (sy h24) (w_weak [] 1 rfl rfl rfl rfl ⟨lr, lr, lr, lr, lr, lr, trivial⟩ (st_r rfl st_nil))
    ·
     exact w_region <| o_p rfl (p_eql rfl rfl) <| sB rfl <| o_end (fr' := [(1, .box 0 0), (3, aB), (4, aB), (5, aB), (35, aI), (47, aB)]) rfl <| e_j _ (sy h24) (w_weak [] 1 rfl rfl rfl rfl ⟨lr, lr, lr, lr, lr, lr, trivial⟩ (st_r rfl st_nil))
   ·
    intro j23 hj25
    subst hj25
    refine w_ch h22 rfl (fun hb26 h26 => ?_) (fun hb26 h26 => ?_)
    ·
     refine w_sr <| mB rfl <| sB rfl <| o_ek (fr' := [(2, aB)]) rfl rfl <| w_ret <| e_blk_r <| e_seq_r ?_
     obtain rfl := sy h26
     exact e_ret (rs' := [.tmp 2]) rfl <| r_tmp (v := aB) rfl <| r_nil <| fin_gen [] rfl rfl rfl lr st_nil
    ·
     refine w_sr <| o_p rfl (p_eql rfl rfl) <| sB rfl <| o_ek (fr' := [(1, .box 0 0), (3, aB), (4, aB), (5, aB), (35, aI), (51, aB)]) rfl rfl <| w_ch h26 rfl (fun hb28 h28 => ?_) (fun hb28 h28 => ?_)
     ·
      refine w_sr <| mB rfl <| mB rfl <| og rfl rfl rfl (fun hc => (p_fa tf33x4 rfl)) <| og rfl rfl rfl (fun hc => (p_load (v := aI) tv3 (gx rfl hc) rfl rfl)) ?_
      obtain ⟨x29, hx29, h30⟩ := bind_s h28
      refine o_g rfl rfl (fun hc => ov_call (v := aB) rfl (w_ref20xin (gd_some hx29 hc)) ⟨(le_gv (gx rfl hc) lr), lr, lr, trivial⟩ (ok_eq (by repeat (first | exact ok_nil | refine ok_cons rfl ?_ | refine ok_cons (dgv rfl) ?_ | refine ok_cons dar ?_))) rfl rfl) ?_
      refine o_p rfl (p_picky rfl rfl rfl (fun e => keq e)) <| sB rfl <| o_ek (fr' := [(2, aB)]) rfl rfl <| w_ret <| e_blk_r <| e_seq_r ?_
      obtain rfl := sy h30
      exact e_ret (rs' := [.tmp 2]) rfl <| r_tmp (v := aB) rfl <| r_nil <| fin_gen [] rfl rfl rfl lr st_nil
     ·
      refine w_sr <| o_p rfl (p_eql rfl rfl) <| sB rfl <| o_ek (fr' := [(1, .box 0 0), (3, aB), (4, aB), (5, aB), (35, aI), (59, aB)]) rfl rfl <| w_ch h28 rfl (fun hb32 h32 => ?_) (fun hb32 h32 => ?_)
      ·
       refine w_sr <| mB rfl <| mB rfl <| og rfl rfl rfl (fun hc => (p_move (v := aB) rfl)) <| o_p rfl (p_picky rfl rfl rfl (fun e => keq e)) <| mB rfl <| og rfl rfl rfl (fun hc => (p_move (v := aB) rfl)) <| o_p rfl (p_picky rfl rfl rfl (fun e => keq e)) <| mB rfl <| og rfl rfl rfl (fun hc => (p_fa tf33x4 rfl)) <| og rfl rfl rfl (fun hc => (p_load (v := aI) tv3 (gx rfl hc) rfl rfl)) ?_
       obtain ⟨x33, hx33, h34⟩ := bind_s h32
       refine o_g rfl rfl (fun hc => ov_call (v := aB) rfl (w_ref20xin (gd_some hx33 hc)) ⟨(le_gv (gx rfl hc) lr), lr, lr, trivial⟩ (ok_eq (by repeat (first | exact ok_nil | refine ok_cons rfl ?_ | refine ok_cons (dgv rfl) ?_ | refine ok_cons dar ?_))) rfl rfl) ?_
       refine o_p rfl (p_picky rfl rfl rfl (fun e => keq e)) <| sB rfl <| o_ek (fr' := [(2, aB)]) rfl rfl <| w_ret <| e_blk_r <| e_seq_r ?_
       obtain rfl := sy h34
       exact e_ret (rs' := [.tmp 2]) rfl <| r_tmp (v := aB) rfl <| r_nil <| fin_gen [] rfl rfl rfl lr st_nil
      ·
       refine w_sr <| o_p rfl (p_eql rfl rfl) <| sB rfl <| o_ek (fr' := [(1, .box 0 0), (3, aB), (4, aB), (5, aB), (35, aI), (73, aB)]) rfl rfl <| w_ch h32 rfl (fun hb36 h36 => ?_) (fun hb36 h36 => ?_)
       ·
        refine w_sr <| mB rfl <| mB rfl <| og rfl rfl rfl (fun hc => (p_move (v := aB) rfl)) <| o_p rfl (p_picky rfl rfl rfl (fun e => keq e)) <| mB rfl <| og rfl rfl rfl (fun hc => (p_move (v := aB) rfl)) <| o_p rfl (p_picky rfl rfl rfl (fun e => keq e)) <| sB rfl <| o_ek (fr' := [(2, aB)]) rfl rfl <| w_ret <| e_blk_r ?_
        refine e_seq_r ?_
        obtain rfl := sy h36
        exact e_ret (rs' := [.tmp 2]) rfl <| r_tmp (v := aB) rfl <| r_nil <| fin_gen [] rfl rfl rfl lr st_nil
       ·
        refine w_sr <| o_p rfl (p_eql rfl rfl) <| sB rfl <| o_ek (fr' := [(1, .box 0 0), (4, aB), (5, aB), (35, aI), (82, aB)]) rfl rfl <| w_ch h36 rfl (fun hb38 h38 => ?_) (fun hb38 h38 => ?_)
        ·
         refine w_sr <| mB rfl <| mB rfl <| og rfl rfl rfl (fun hc => (p_fa tf33x4 rfl)) <| og rfl rfl rfl (fun hc => (p_load (v := aI) tv3 (gx rfl hc) rfl rfl)) <| og rfl rfl rfl (fun hc => (p_eql (gx rfl hc) rfl)) <| og rfl rfl rfl (fun hc => (p_move (v := aB) (gx rfl hc))) <| o_gg rfl rfl (fun hc => ov_p rfl (p_fa tf33x4 rfl)) <| o_gg rfl rfl (fun hc => ov_p rfl (p_load (v := aI) tv3 (gx rfl hc) rfl rfl)) ?_
         obtain ⟨x39, hx39, h40⟩ := bind_s h38
         refine o_gg rfl rfl (fun hc => ov_call (v := aB) rfl (w_ref20xin (gd_some hx39 hc)) ⟨(le_gv (gx rfl hc) lr), lr, lr, trivial⟩ (ok_eq (by repeat (first | exact ok_nil | refine ok_cons rfl ?_ | refine ok_cons (dgv rfl) ?_ | refine ok_cons dar ?_))) rfl rfl) ?_
         refine o_gg rfl rfl (fun hc => ov_p rfl (p_move (v := aB) (gx rfl hc))) <| o_gg rfl rfl (fun hc => ov_p rfl (p_fa tf33x5 rfl)) <| o_gg rfl rfl (fun hc => ov_p rfl (p_fa tf25x0 (gx rfl hc))) <| o_gg rfl rfl (fun hc => ov_p rfl (p_load (v := aI) tv3 (gx rfl hc) rfl rfl)) <| o_gg rfl rfl (fun hc => ov_p rfl (p_eql (gx rfl hc) rfl)) <| o_gg rfl rfl (fun hc => ov_p rfl (p_picky (gx rfl hc) rfl rfl (fun e => band hc (keq e)))) <| og rfl rfl rfl (fun hc => (p_pickz (gx rfl hc) rfl rfl (fun e => band hc (keq e)))) <| o_p rfl (p_picky rfl rfl rfl (fun e => keq e)) <| sB rfl <| o_ek (fr' := [(2, aB)]) rfl rfl <| w_ret <| e_blk_r <| e_seq_r ?_
         obtain rfl := sy h40
         exact e_ret (rs' := [.tmp 2]) rfl <| r_tmp (v := aB) rfl <| r_nil <| fin_gen [] rfl rfl rfl lr st_nil
        ·
         refine w_sr <| o_p rfl (p_eql rfl rfl) <| sB rfl <| o_ek (fr' := [(1, .box 0 0), (4, aB), (5, aB), (35, aI), (101, aB)]) rfl rfl <| w_ch h38 rfl (fun hb42 h42 => ?_) (fun hb42 h42 => ?_)
         ·
          refine w_sr <| mB rfl <| mB rfl <| og rfl rfl rfl (fun hc => (p_move (v := aB) rfl)) <| o_p rfl (p_picky rfl rfl rfl (fun e => keq e)) <| sB rfl <| o_ek (fr' := [(2, aB)]) rfl rfl <| w_ret <| e_blk_r <| e_seq_r ?_
          obtain rfl := sy h42
          exact e_ret (rs' := [.tmp 2]) rfl <| r_tmp (v := aB) rfl <| r_nil <| fin_gen [] rfl rfl rfl lr st_nil
         ·
          refine w_sr <| o_p rfl (p_eql rfl rfl) <| sB rfl <| o_ek (fr' := [(1, .box 0 0), (5, aB), (35, aI), (107, aB)]) rfl rfl <| w_ch h42 rfl (fun hb44 h44 => ?_) (fun hb44 h44 => ?_)
          ·
           refine w_sr <| mB rfl <| mB rfl <| og rfl rfl rfl (fun hc => (p_fa tf33x4 rfl)) <| og rfl rfl rfl (fun hc => (p_load (v := aI) tv3 (gx rfl hc) rfl rfl)) ?_
           obtain ⟨x45, hx45, h46⟩ := bind_s h44
           refine o_g rfl rfl (fun hc => ov_call (v := aB) rfl (w_ref20xin (gd_some hx45 hc)) ⟨(le_gv (gx rfl hc) lr), lr, lr, trivial⟩ (ok_eq (by repeat (first | exact ok_nil | refine ok_cons rfl ?_ | refine ok_cons (dgv rfl) ?_ | refine ok_cons dar ?_))) rfl rfl) ?_
           refine o_p rfl (p_picky rfl rfl rfl (fun e => keq e)) <| sB rfl <| o_ek (fr' := [(2, aB)]) rfl rfl <| w_ret <| e_blk_r <| e_seq_r ?_
           obtain rfl := sy h46
           exact e_ret (rs' := [.tmp 2]) rfl <| r_tmp (v := aB) rfl <| r_nil <| fin_gen [] rfl rfl rfl lr st_nil
          ·
           refine w_sr <| o_p rfl (p_eql rfl rfl) <| sB rfl <| o_ek (fr' := [(1, .box 0 0), (35, aI), (115, aB)]) rfl rfl <| w_ch h44 rfl (fun hb48 h48 => ?_) (fun hb48 h48 => ?_)
           ·
            refine w_sr <| o_p rfl (p_fa tf33x5 rfl) <| o_p rfl (p_fa tf25x0 rfl) <| o_p rfl (p_load (v := aI) tv3 rfl rfl rfl) <| o_p rfl (p_eql rfl rfl) <| sB rfl <| o_ek (fr' := [(2, aB)]) rfl rfl <| w_ret <| e_blk_r <| e_seq_r ?_
            obtain rfl := sy h48
            exact e_ret (rs' := [.tmp 2]) rfl <| r_tmp (v := aB) rfl <| r_nil <| fin_gen [] rfl rfl rfl lr st_nil
           ·
            refine w_sr <| o_p rfl (p_eql rfl rfl) <| sB rfl <| o_ek (fr' := [(1, .box 0 0), (35, aI), (121, aB)]) rfl rfl <| w_ch h48 rfl (fun hb50 h50 => ?_) (fun hb50 h50 => ?_)
            ·
             refine w_sr <| o_p rfl (p_fa tf33x2 rfl) <| o_p rfl (p_load (v := aS) tv9 rfl rfl rfl) <| o_p rfl (p_lens ti9 rfl) <| o_p rfl (p_leq rfl rfl) <| sB rfl <| o_ek (fr' := [(2, aB)]) rfl rfl <| w_ret <| e_blk_r <| e_seq_r ?_
             obtain rfl := sy h50
             exact e_ret (rs' := [.tmp 2]) rfl <| r_tmp (v := aB) rfl <| r_nil <| fin_gen [] rfl rfl rfl lr st_nil
            ·
             refine w_sr <| o_p rfl (p_eql rfl rfl) <| sB rfl <| o_ek (fr' := [(1, .box 0 0), (127, aB)]) rfl rfl <| w_ch h50 rfl (fun hb52 h52 => ?_) (fun hb52 h52 => ?_)
             ·
              refine w_sr <| o_p rfl (p_fa tf33x5 rfl) <| o_p rfl (p_loads (us := aIISLL) tv25 rfl rfl rfl rfl) ?_
              obtain ⟨x53, hx53, h54⟩ := bind_s h52
              refine o_v (ov_call (v := aB) rfl (w_ref20xInput hx53) ⟨(le_aggc rfl ⟨rfl, rfl, rfl, rfl, rfl, trivial⟩), trivial⟩ rfl rfl rfl) <| sB rfl <| o_ek (fr' := [(2, aB)]) rfl rfl <| w_ret <| e_blk_r <| e_seq_r ?_
              obtain rfl := sy h54
              exact e_ret (rs' := [.tmp 2]) rfl <| r_tmp (v := aB) rfl <| r_nil <| fin_gen [] rfl rfl rfl lr st_nil
             ·
              refine w_skip <| e_blk_n <| e_kw <| w_sr <| sB rfl <| o_ek (fr' := [(2, aB)]) rfl rfl <| w_ret ?_
              obtain rfl := sy h52
              exact e_ret (rs' := [.tmp 2]) rfl <| r_tmp (v := aB) rfl <| r_nil <| fin_gen [] rfl rfl rfl lr st_nil
noncomputable def ref22xcommands  : Option (List Int) :=
 some ([(7 : Int), (12 : Int), (14 : Int), (16 : Int), (19 : Int), (23 : Int), (18 : Int), (27 : Int), (28 : Int), (29 : Int), (30 : Int), (31 : Int), (32 : Int), (35 : Int)] : List Int)
theorem w_ref22xcommands  {res : (List Int)} (h : ref22xcommands = some res) : ACalls Tryz.prog 49 [] [] (AV.os 0 1 (rowI .i64) res) [] := by
 unfold ref22xcommands at h
 refine acalls (fn := Tryz.f49) [0] (by kernel_rfl) Tryz.func49 rfl (by kernel_rfl) (by kernel_rfl) <| w_sr <| sV (v := AV.nil) rfl <| o_ek (fr' := []) rfl rfl <| w_sr <| o_rows (row := (rowI .i64)) (xs := ([(7 : Int), (12 : Int), (14 : Int), (16 : Int), (19 : Int), (23 : Int), (18 : Int), (27 : Int), (28 : Int), (29 : Int), (30 : Int), (31 : Int), (32 : Int), (35 : Int)] : List Int)) (rows := [[_], [_], [_], [_], [_], [_], [_], [_], [_], [_], [_], [_], [_], [_]]) (σ' := []) [0] ts70 rfl rfl rfl (arow_cons rfl (arow_cons rfl (arow_cons rfl (arow_cons rfl (arow_cons rfl (arow_cons rfl (arow_cons rfl (arow_cons rfl (arow_cons rfl (arow_cons rfl (arow_cons rfl (arow_cons rfl (arow_cons rfl (arow_cons rfl arow_nil)))))))))))))) rfl rfl <| sV (v := aO) rfl <| o_ek (fr' := [(0, aO)]) rfl rfl <| w_ret ?_
 obtain rfl := sy h
 exact e_ret (rs' := [.tmp 0]) rfl <| r_tmp (v := aO) rfl <| r_nil <| fin_gen [16] rfl rfl rfl lr st_nil
noncomputable def ref22xOfCommand (p0c : ApiCommand) (p1id : Int) (p2time : Int) : Option (ApiEvent × Bool) :=
 (ref20xRight p0c).bind fun (x1 : Bool) => cond (!x1) (some ((ApiEvent.mk (0 : Int) (0 : Int) (0 : Int) (0 : Int) (0 : Int) (0 : Int) (0 : Int) ([] : List UInt8) ([] : List UInt8) (ApiValue.mk (0 : Int) (0 : Int) ([] : List UInt8) ([] : (List ApiValue)) ([] : (List (List UInt8)))) (ApiPolicy.mk ([] : List UInt8) (0 : Int) (0 : Int) (0 : Int) (0 : Int) (0 : Int) (0 : Int) (0 : Int) (0 : Int) ([] : (List (List UInt8))))), false)) ((ref22xcommands).bind fun (x5 : (List Int)) => (idx x5 (IntKind.wrap .i64 (p0c.Kind - (1 : Int)))).bind fun (x7 : Int) => some ((ApiEvent.mk p1id x7 p2time p0c.Seq (0 : Int) p0c.N (0 : Int) p0c.Name p0c.Key p0c.Data p0c.Opts), true))
theorem w_ref22xOfCommand {p0c : ApiCommand} {p1id : Int} {p2time : Int} {res : (ApiEvent × Bool)} (h : ref22xOfCommand p0c p1id p2time = some res) : ACalls Tryz.prog 13 [.agg (AV.cs (rowApiCommand p0c)), .c (.int .i64 p1id), .c (.int .i64 p2time)] [] (.tup [.agg (AV.cs (rowApiEvent res.1)), .c (.bool res.2)]) [] := by
 unfold ref22xOfCommand at h
 refine acalls (fn := Tryz.f13) [0, 1, 2, 3, 6, 7, 10] (by kernel_rfl) Tryz.func13 rfl (by kernel_rfl) (by kernel_rfl) <| w_sr <| o_box (v := .agg aIISSIIISLLSIIIIIIIIL) (n := 0) (cs := aIISSIIISLLSIIIIIIIIL) (σ' := [aIISSIIISLLSIIIIIIIIL]) rfl rfl rfl rfl rfl <| o_alloc (n := 1) (cs := [aI, aI, aI, aI, aI, aI, aI, aS, aS, aI, aI, aS, AV.nil, AV.nil, aS, aI, aI, aI, aI, aI, aI, aI, aI, AV.nil]) (σ' := [aIISSIIISLLSIIIIIIIIL, [aI, aI, aI, aI, aI, aI, aI, aS, aS, aI, aI, aS, AV.nil, AV.nil, aS, aI, aI, aI, aI, aI, aI, aI, aI, AV.nil]]) tz29 rfl rfl rfl <| sB rfl <| o_ek (fr' := [(1, aI), (2, aI), (3, .box 0 0), (6, .box 1 0)]) rfl rfl <| w_seqw <| w_sr <| o_p rfl (p_loads (us := aIISSIIISLLSIIIIIIIIL) tv33 rfl rfl rfl rfl) ?_
 obtain ⟨x1, hx1, h2⟩ := bind_s h
 refine o_v (ov_call (v := aB) rfl (w_ref20xRight hx1) ⟨(le_aggc rfl ⟨rfl, rfl, rfl, rfl, rfl, rfl, rfl, rfl, rfl, rfl, rfl, rfl, rfl, rfl, rfl, rfl, rfl, rfl, rfl, rfl, trivial⟩), trivial⟩ rfl rfl rfl) <| o_p rfl (p_not rfl) <| o_ek (fr' := [(1, aI), (2, aI), (3, .box 0 0), (6, .box 1 0), (10, aB)]) rfl rfl <| w_ch h2 rfl (fun hb3 h3 => ?_) (fun hb3 h3 => ?_)
 ·
  refine w_sr <| o_p rfl (p_buildc (c0 := [aI, aI, aI, aI, aI, aI, aI, aS, aS, aI, aI, aS, AV.nil, AV.nil, aS, aI, aI, aI, aI, aI, aI, aI, aI, AV.nil]) (cs := [aI, aI, aI, aI, aI, aI, aI, aS, aS, aI, aI, aS, AV.nil, AV.nil, aS, aI, aI, aI, aI, aI, aI, aI, aI, AV.nil]) tb29 rfl fill_nil) <| o_store (v := .agg [aI, aI, aI, aI, aI, aI, aI, aS, aS, aI, aI, aS, AV.nil, AV.nil, aS, aI, aI, aI, aI, aI, aI, aI, aI, AV.nil]) (us := [aI, aI, aI, aI, aI, aI, aI, aS, aS, aI, aI, aS, AV.nil, AV.nil, aS, aI, aI, aI, aI, aI, aI, aI, aI, AV.nil]) (cs := [aI, aI, aI, aI, aI, aI, aI, aS, aS, aI, aI, aS, AV.nil, AV.nil, aS, aI, aI, aI, aI, aI, aI, aI, aI, AV.nil]) (σ' := [aIISSIIISLLSIIIIIIIIL, [aI, aI, aI, aI, aI, aI, aI, aS, aS, aI, aI, aS, AV.nil, AV.nil, aS, aI, aI, aI, aI, aI, aI, aI, aI, AV.nil]]) rfl tv29 rfl rfl rfl rfl rfl rfl rfl rfl <| sB rfl <| o_ek (fr' := [(6, .box 1 0), (7, aB)]) rfl rfl <| w_ret <| e_seq_r ?_
  obtain rfl := sy h3
  exact e_ret (rs' := [.cell 6 29, .tmp 7]) rfl <| r_cells (us := [aI, aI, aI, aI, aI, aI, aI, aS, aS, aI, aI, aS, AV.nil, AV.nil, aS, aI, aI, aI, aI, aI, aI, aI, aI, AV.nil]) (cs := [aI, aI, aI, aI, aI, aI, aI, aS, aS, aI, aI, aS, AV.nil, AV.nil, aS, aI, aI, aI, aI, aI, aI, aI, aI, AV.nil]) tv29 rfl rfl rfl rfl <| r_tmp (v := aB) rfl <| r_nil <| fin_gen [] rfl rfl rfl (le_tupp rfl ⟨(le_aggc rfl ⟨rfl, rfl, rfl, rfl, rfl, rfl, rfl, rfl, rfl, rfl, rfl, rfl, ⟨_, rfl⟩, ⟨_, rfl⟩, rfl, rfl, rfl, rfl, rfl, rfl, rfl, rfl, rfl, ⟨_, rfl⟩, trivial⟩), lr, trivial⟩) st_nil
 ·
  refine w_skip <| e_kw <| w_seqw <| w_planT [.q 0, .q 1, .q 2, .q 3, .q 4, .q 5, .q 6, .q 7, .q 8, .q 9, .q 10, .q 11, .q 12, .q 13, .q 14, .q 15, .q 16, .q 17, .q 18, .q 19, .q 20, .n 21 [], .n 22 []] [(some 12, [1]), (some 13, []), (some 14, [3]), (some 15, [14]), (some 16, [15]), (some 17, [13, 16]), (some 18, [17]), (some 19, [2]), (some 20, [3]), (some 21, [20]), (some 22, [3]), (some 23, [22]), (some 24, [3]), (some 25, [24]), (some 26, [3]), (some 27, [26]), (some 28, [3]), (some 29, [28]), (some 30, [3]), (some 31, [30]), (some 32, [12, 18, 19, 21, 23, 25, 27, 29, 31]), (none, [6, 32]), (some 7, [])] [0, 0, 0, 4, 12, 30, 62, 0, 0, 256, 0, 1024, 0, 4096, 0, 16384, 0, 65536, 0, 262144, 1048575, 2097151, 4194303] (by kernel_rfl) <| dq rfl rfl (p_move (v := aI) rfl) ?_
  obtain ⟨x5, hx5, h6⟩ := bind_s h3
  refine d_q rfl (qv_call (v := aL) rfl (w_ref22xcommands hx5) trivial rfl) <| dq rfl rfl (p_fa tf33x0 rfl) <| dq rfl rfl (p_load (v := aI) tv3 rfl rfl rfl) <| dq rfl rfl (p_sub rfl rfl) ?_
  obtain ⟨x7, hx7, h8⟩ := bind_s h6
  refine dq rfl rfl (p_ia (cs := [PV.int _ _]) ts70 (isl_c rfl) rfl hx7 rfl) <| dq rfl rfl (p_loade (p := PV.int _ _) tv3 rfl rfl) <| dq rfl rfl (p_move (v := aI) rfl) <| dq rfl rfl (p_fa tf33x1 rfl) <| dq rfl rfl (p_load (v := aI) tv3 rfl rfl rfl) <| dq rfl rfl (p_fa tf33x2 rfl) <| dq rfl rfl (p_load (v := aS) tv9 rfl rfl rfl) <| dq rfl rfl (p_fa tf33x3 rfl) <| dq rfl rfl (p_load (v := aS) tv9 rfl rfl rfl) <| dq rfl rfl (p_fa tf33x4 rfl) <| dq rfl rfl (p_load (v := aI) tv3 rfl rfl rfl) <| dq rfl rfl (p_fa tf33x5 rfl) <| dq rfl rfl (p_loads (us := aIISLL) tv25 rfl rfl rfl rfl) ?_
  refine dq rfl rfl (p_fa tf33x6 rfl) <| dq rfl rfl (p_loads (us := aSIIIIIIIIL) tv27 rfl rfl rfl rfl) <| dq rfl rfl (p_buildc (c0 := [aI, aI, aI, aI, aI, aI, aI, aS, aS, aI, aI, aS, AV.nil, AV.nil, aS, aI, aI, aI, aI, aI, aI, aI, aI, AV.nil]) (cs := aIIIIIIISSIISLLSIIIIIIIIL) tb29 rfl (fill_cons (v := aI) (us := [_]) (cs' := u24) rfl rfl rfl rfl rfl rfl (fill_cons (v := aI) (us := [_]) (cs' := u24) rfl rfl rfl rfl rfl rfl (fill_cons (v := aI) (us := [_]) (cs' := u24) rfl rfl rfl rfl rfl rfl (fill_cons (v := aI) (us := [_]) (cs' := u24) rfl rfl rfl rfl rfl rfl (fill_cons (v := aS) (us := [_]) (cs' := u24) rfl rfl rfl rfl rfl rfl (fill_cons (v := aS) (us := [_]) (cs' := u24) rfl rfl rfl rfl rfl rfl (fill_cons (v := aI) (us := [_]) (cs' := u24) rfl rfl rfl rfl rfl rfl (fill_cons (v := .agg aIISLL) (us := u5) (cs' := u24) rfl rfl rfl rfl rfl rfl (fill_cons (v := .agg aSIIIIIIIIL) (us := u10) (cs' := u24) rfl rfl rfl rfl rfl rfl fill_nil)))))))))) <| d_n rfl ?_ rfl
  refine o_store (v := .agg aIIIIIIISSIISLLSIIIIIIIIL) (us := aIIIIIIISSIISLLSIIIIIIIIL) (cs := [aI, aI, aI, aI, aI, aI, aI, aS, aS, aI, aI, aS, AV.nil, AV.nil, aS, aI, aI, aI, aI, aI, aI, aI, aI, AV.nil]) (σ' := [aIISSIIISLLSIIIIIIIIL, aIIIIIIISSIISLLSIIIIIIIIL]) rfl tv29 rfl rfl rfl rfl rfl rfl rfl rfl <| o_rc <| ⟨rc_nil, ?_⟩
  refine d_n rfl ?_ rfl
  refine sB rfl <| o_rc <| ⟨rc_nil, ?_⟩
  refine d_ek (fr' := [(6, .box 1 0), (7, aB)]) rfl rfl <| w_ret ?_
  obtain rfl := sy h8
  exact e_ret (rs' := [.cell 6 29, .tmp 7]) rfl <| r_cells (us := aIIIIIIISSIISLLSIIIIIIIIL) (cs := aIIIIIIISSIISLLSIIIIIIIIL) tv29 rfl rfl rfl rfl <| r_tmp (v := aB) rfl <| r_nil <| fin_gen [] rfl rfl rfl (le_tupp rfl ⟨(le_aggc rfl ⟨rfl, rfl, rfl, rfl, rfl, rfl, rfl, rfl, rfl, rfl, rfl, rfl, rfl, rfl, rfl, rfl, rfl, rfl, rfl, rfl, rfl, rfl, rfl, rfl, trivial⟩), lr, trivial⟩) st_nil
noncomputable def ref22xSame (p0a : ApiEvent) (p1b : ApiEvent) : Option Bool :=
 (gd ((cond (cond (cond (cond (cond (cond (cond (cond (decide (p0a.ID = p1b.ID)) (decide (p0a.Kind = p1b.Kind)) false) (decide (p0a.Time = p1b.Time)) false) (decide (p0a.Seq = p1b.Seq)) false) (decide (p0a.Ref = p1b.Ref)) false) (decide (p0a.N = p1b.N)) false) (decide (p0a.Code = p1b.Code)) false) (decide (p0a.Name = p1b.Name)) false) (decide (p0a.Key = p1b.Key)) false) == true) (ref02xSame p0a.Data p1b.Data)).bind fun (x1 : Bool) => (gd ((cond (cond (cond (cond (cond (cond (cond (cond (cond (decide (p0a.ID = p1b.ID)) (decide (p0a.Kind = p1b.Kind)) false) (decide (p0a.Time = p1b.Time)) false) (decide (p0a.Seq = p1b.Seq)) false) (decide (p0a.Ref = p1b.Ref)) false) (decide (p0a.N = p1b.N)) false) (decide (p0a.Code = p1b.Code)) false) (decide (p0a.Name = p1b.Name)) false) (decide (p0a.Key = p1b.Key)) false) x1 false) == true) (ref20xSamePolicy p0a.Opts p1b.Opts)).bind fun (x3 : Bool) => some (cond (cond (cond (cond (cond (cond (cond (cond (cond (cond (decide (p0a.ID = p1b.ID)) (decide (p0a.Kind = p1b.Kind)) false) (decide (p0a.Time = p1b.Time)) false) (decide (p0a.Seq = p1b.Seq)) false) (decide (p0a.Ref = p1b.Ref)) false) (decide (p0a.N = p1b.N)) false) (decide (p0a.Code = p1b.Code)) false) (decide (p0a.Name = p1b.Name)) false) (decide (p0a.Key = p1b.Key)) false) x1 false) x3 false)
theorem w_ref22xSame {p0a : ApiEvent} {p1b : ApiEvent} {res : Bool} (h : ref22xSame p0a p1b = some res) : ACalls Tryz.prog 14 [.agg (AV.cs (rowApiEvent p0a)), .agg (AV.cs (rowApiEvent p1b))] [] (.c (.bool res)) [] := by
 unfold ref22xSame at h
 refine acalls (fn := Tryz.f14) [0, 1, 2, 3, 4] (by kernel_rfl) Tryz.func14 rfl (by kernel_rfl) (by kernel_rfl) <| w_sr <| o_box (v := .agg aIIIIIIISSIISLLSIIIIIIIIL) (n := 0) (cs := aIIIIIIISSIISLLSIIIIIIIIL) (σ' := [aIIIIIIISSIISLLSIIIIIIIIL]) rfl rfl rfl rfl rfl <| o_box (v := .agg aIIIIIIISSIISLLSIIIIIIIIL) (n := 1) (cs := aIIIIIIISSIISLLSIIIIIIIIL) (σ' := [aIIIIIIISSIISLLSIIIIIIIIL, aIIIIIIISSIISLLSIIIIIIIIL]) rfl rfl rfl rfl rfl <| sB rfl <| o_ek (fr' := [(2, .box 0 0), (3, .box 1 0)]) rfl rfl <| w_sr <| o_p rfl (p_fa tf29x0 rfl) <| o_p rfl (p_load (v := aI) tv3 rfl rfl rfl) <| o_p rfl (p_fa tf29x0 rfl) <| o_p rfl (p_load (v := aI) tv3 rfl rfl rfl) ?_
 refine o_p rfl (p_eql rfl rfl) <| mB rfl <| og rfl rfl rfl (fun hc => (p_fa tf29x1 rfl)) <| og rfl rfl rfl (fun hc => (p_load (v := aI) tv3 (gx rfl hc) rfl rfl)) <| og rfl rfl rfl (fun hc => (p_fa tf29x1 rfl)) <| og rfl rfl rfl (fun hc => (p_load (v := aI) tv3 (gx rfl hc) rfl rfl)) <| og rfl rfl rfl (fun hc => (p_eql (gx rfl hc) (gx rfl hc))) <| o_p rfl (p_picky rfl rfl rfl (fun e => keq e)) <| mB rfl <| og rfl rfl rfl (fun hc => (p_fa tf29x2 rfl)) <| og rfl rfl rfl (fun hc => (p_load (v := aI) tv3 (gx rfl hc) rfl rfl)) <| og rfl rfl rfl (fun hc => (p_fa tf29x2 rfl)) <| og rfl rfl rfl (fun hc => (p_load (v := aI) tv3 (gx rfl hc) rfl rfl)) ?_
 refine og rfl rfl rfl (fun hc => (p_eql (gx rfl hc) (gx rfl hc))) <| o_p rfl (p_picky rfl rfl rfl (fun e => keq e)) <| mB rfl <| og rfl rfl rfl (fun hc => (p_fa tf29x3 rfl)) <| og rfl rfl rfl (fun hc => (p_load (v := aI) tv3 (gx rfl hc) rfl rfl)) <| og rfl rfl rfl (fun hc => (p_fa tf29x3 rfl)) <| og rfl rfl rfl (fun hc => (p_load (v := aI) tv3 (gx rfl hc) rfl rfl)) <| og rfl rfl rfl (fun hc => (p_eql (gx rfl hc) (gx rfl hc))) <| o_p rfl (p_picky rfl rfl rfl (fun e => keq e)) <| mB rfl <| og rfl rfl rfl (fun hc => (p_fa tf29x4 rfl)) <| og rfl rfl rfl (fun hc => (p_load (v := aI) tv3 (gx rfl hc) rfl rfl)) <| og rfl rfl rfl (fun hc => (p_fa tf29x4 rfl)) ?_
 refine og rfl rfl rfl (fun hc => (p_load (v := aI) tv3 (gx rfl hc) rfl rfl)) <| og rfl rfl rfl (fun hc => (p_eql (gx rfl hc) (gx rfl hc))) <| o_p rfl (p_picky rfl rfl rfl (fun e => keq e)) <| mB rfl <| og rfl rfl rfl (fun hc => (p_fa tf29x5 rfl)) <| og rfl rfl rfl (fun hc => (p_load (v := aI) tv3 (gx rfl hc) rfl rfl)) <| og rfl rfl rfl (fun hc => (p_fa tf29x5 rfl)) <| og rfl rfl rfl (fun hc => (p_load (v := aI) tv3 (gx rfl hc) rfl rfl)) <| og rfl rfl rfl (fun hc => (p_eql (gx rfl hc) (gx rfl hc))) <| o_p rfl (p_picky rfl rfl rfl (fun e => keq e)) <| mB rfl <| og rfl rfl rfl (fun hc => (p_fa tf29x6 rfl)) <| og rfl rfl rfl (fun hc => (p_load (v := aI) tv3 (gx rfl hc) rfl rfl)) ?_
 refine og rfl rfl rfl (fun hc => (p_fa tf29x6 rfl)) <| og rfl rfl rfl (fun hc => (p_load (v := aI) tv3 (gx rfl hc) rfl rfl)) <| og rfl rfl rfl (fun hc => (p_eql (gx rfl hc) (gx rfl hc))) <| o_p rfl (p_picky rfl rfl rfl (fun e => keq e)) <| mB rfl <| og rfl rfl rfl (fun hc => (p_fa tf29x7 rfl)) <| og rfl rfl rfl (fun hc => (p_load (v := aS) tv9 (gx rfl hc) rfl rfl)) <| og rfl rfl rfl (fun hc => (p_fa tf29x7 rfl)) <| og rfl rfl rfl (fun hc => (p_load (v := aS) tv9 (gx rfl hc) rfl rfl)) <| og rfl rfl rfl (fun hc => (p_seql (gx rfl hc) (gx rfl hc))) <| o_p rfl (p_picky rfl rfl rfl (fun e => keq e)) <| mB rfl <| og rfl rfl rfl (fun hc => (p_fa tf29x8 rfl)) ?_
 refine og rfl rfl rfl (fun hc => (p_load (v := aS) tv9 (gx rfl hc) rfl rfl)) <| og rfl rfl rfl (fun hc => (p_fa tf29x8 rfl)) <| og rfl rfl rfl (fun hc => (p_load (v := aS) tv9 (gx rfl hc) rfl rfl)) <| og rfl rfl rfl (fun hc => (p_seql (gx rfl hc) (gx rfl hc))) <| o_p rfl (p_picky rfl rfl rfl (fun e => keq e)) <| mB rfl <| og rfl rfl rfl (fun hc => (p_fa tf29x9 rfl)) <| og rfl rfl rfl (fun hc => (p_loads (us := aIISLL) tv25 (gx rfl hc) rfl rfl rfl)) <| og rfl rfl rfl (fun hc => (p_fa tf29x9 rfl)) <| og rfl rfl rfl (fun hc => (p_loads (us := aIISLL) tv25 (gx rfl hc) rfl rfl rfl)) ?_
 obtain ⟨x1, hx1, h2⟩ := bind_s h
 refine o_g rfl rfl (fun hc => ov_call (v := aB) rfl (w_ref02xSame (gd_some hx1 hc)) ⟨(le_gv (gx rfl hc) (le_aggc rfl ⟨rfl, rfl, rfl, rfl, rfl, trivial⟩)), (le_gv (gx rfl hc) (le_aggc rfl ⟨rfl, rfl, rfl, rfl, rfl, trivial⟩)), trivial⟩ (ok_eq (by repeat (first | exact ok_nil | refine ok_cons rfl ?_ | refine ok_cons (dgv rfl) ?_ | refine ok_cons dar ?_))) rfl rfl) ?_
 refine o_p rfl (p_picky rfl rfl rfl (fun e => keq e)) <| mB rfl <| og rfl rfl rfl (fun hc => (p_fa tf29x10 rfl)) <| og rfl rfl rfl (fun hc => (p_loads (us := aSIIIIIIIIL) tv27 (gx rfl hc) rfl rfl rfl)) <| og rfl rfl rfl (fun hc => (p_fa tf29x10 rfl)) <| og rfl rfl rfl (fun hc => (p_loads (us := aSIIIIIIIIL) tv27 (gx rfl hc) rfl rfl rfl)) ?_
 obtain ⟨x3, hx3, h4⟩ := bind_s h2
 refine o_g rfl rfl (fun hc => ov_call (v := aB) rfl (w_ref20xSamePolicy (gd_some hx3 hc)) ⟨(le_gv (gx rfl hc) (le_aggc rfl ⟨rfl, rfl, rfl, rfl, rfl, rfl, rfl, rfl, rfl, rfl, trivial⟩)), (le_gv (gx rfl hc) (le_aggc rfl ⟨rfl, rfl, rfl, rfl, rfl, rfl, rfl, rfl, rfl, rfl, trivial⟩)), trivial⟩ (ok_eq (by repeat (first | exact ok_nil | refine ok_cons rfl ?_ | refine ok_cons (dgv rfl) ?_ | refine ok_cons dar ?_))) rfl rfl) ?_
 refine o_p rfl (p_picky rfl rfl rfl (fun e => keq e)) <| sB rfl <| o_ek (fr' := [(4, aB)]) rfl rfl <| w_ret ?_
 obtain rfl := sy h4
 exact e_ret (rs' := [.tmp 4]) rfl <| r_tmp (v := aB) rfl <| r_nil <| fin_gen [] rfl rfl rfl lr st_nil
noncomputable def event_Matches (p0c : ApiCommand) (p1e : ApiEvent) : Option Bool :=
 (event_commandOf p1e.Kind).bind fun (x1 : Int) => some (cond (cond (cond (cond (cond (!decide (x1 = (0 : Int))) (decide (x1 = p0c.Kind)) false) (decide (p0c.Seq = p1e.Seq)) false) (decide (p0c.Name = p1e.Name)) false) (decide (p0c.Key = p1e.Key)) false) (decide (p0c.N = p1e.N)) false)
theorem w_event_Matches {p0c : ApiCommand} {p1e : ApiEvent} {res : Bool} (h : event_Matches p0c p1e = some res) : ACalls Tryz.prog 15 [.agg (AV.cs (rowApiCommand p0c)), .agg (AV.cs (rowApiEvent p1e))] [] (.c (.bool res)) [] := by
 unfold event_Matches at h
 refine acalls (fn := Tryz.f15) [0, 1, 2, 3, 4, 5] (by kernel_rfl) Tryz.func15 rfl (by kernel_rfl) (by kernel_rfl) <| w_sr <| o_box (v := .agg aIISSIIISLLSIIIIIIIIL) (n := 0) (cs := aIISSIIISLLSIIIIIIIIL) (σ' := [aIISSIIISLLSIIIIIIIIL]) rfl rfl rfl rfl rfl <| o_box (v := .agg aIIIIIIISSIISLLSIIIIIIIIL) (n := 1) (cs := aIIIIIIISSIISLLSIIIIIIIIL) (σ' := [aIISSIIISLLSIIIIIIIIL, aIIIIIIISSIISLLSIIIIIIIIL]) rfl rfl rfl rfl rfl <| sB rfl <| o_ek (fr' := [(2, .box 0 0), (3, .box 1 0)]) rfl rfl <| w_sr <| o_p rfl (p_fa tf29x1 rfl) <| o_p rfl (p_load (v := aI) tv3 rfl rfl rfl) ?_
 obtain ⟨x1, hx1, h2⟩ := bind_s h
 refine o_v (ov_call (v := aI) rfl (w_event_commandOf hx1) ⟨lr, trivial⟩ rfl rfl rfl) <| sI rfl <| o_ek (fr' := [(2, .box 0 0), (3, .box 1 0), (5, aI)]) rfl rfl <| w_sr <| mI rfl <| o_p rfl (p_neq rfl rfl) <| mB rfl <| og rfl rfl rfl (fun hc => (p_move (v := aI) rfl)) <| og rfl rfl rfl (fun hc => (p_fa tf33x0 rfl)) <| og rfl rfl rfl (fun hc => (p_load (v := aI) tv3 (gx rfl hc) rfl rfl)) <| og rfl rfl rfl (fun hc => (p_eql (gx rfl hc) (gx rfl hc))) <| o_p rfl (p_picky rfl rfl rfl (fun e => keq e)) ?_
 refine mB rfl <| og rfl rfl rfl (fun hc => (p_fa tf33x1 rfl)) <| og rfl rfl rfl (fun hc => (p_load (v := aI) tv3 (gx rfl hc) rfl rfl)) <| og rfl rfl rfl (fun hc => (p_fa tf29x3 rfl)) <| og rfl rfl rfl (fun hc => (p_load (v := aI) tv3 (gx rfl hc) rfl rfl)) <| og rfl rfl rfl (fun hc => (p_eql (gx rfl hc) (gx rfl hc))) <| o_p rfl (p_picky rfl rfl rfl (fun e => keq e)) <| mB rfl <| og rfl rfl rfl (fun hc => (p_fa tf33x2 rfl)) <| og rfl rfl rfl (fun hc => (p_load (v := aS) tv9 (gx rfl hc) rfl rfl)) <| og rfl rfl rfl (fun hc => (p_fa tf29x7 rfl)) <| og rfl rfl rfl (fun hc => (p_load (v := aS) tv9 (gx rfl hc) rfl rfl)) <| og rfl rfl rfl (fun hc => (p_seql (gx rfl hc) (gx rfl hc))) ?_
 refine o_p rfl (p_picky rfl rfl rfl (fun e => keq e)) <| mB rfl <| og rfl rfl rfl (fun hc => (p_fa tf33x3 rfl)) <| og rfl rfl rfl (fun hc => (p_load (v := aS) tv9 (gx rfl hc) rfl rfl)) <| og rfl rfl rfl (fun hc => (p_fa tf29x8 rfl)) <| og rfl rfl rfl (fun hc => (p_load (v := aS) tv9 (gx rfl hc) rfl rfl)) <| og rfl rfl rfl (fun hc => (p_seql (gx rfl hc) (gx rfl hc))) <| o_p rfl (p_picky rfl rfl rfl (fun e => keq e)) <| mB rfl <| og rfl rfl rfl (fun hc => (p_fa tf33x4 rfl)) <| og rfl rfl rfl (fun hc => (p_load (v := aI) tv3 (gx rfl hc) rfl rfl)) <| og rfl rfl rfl (fun hc => (p_fa tf29x5 rfl)) <| og rfl rfl rfl (fun hc => (p_load (v := aI) tv3 (gx rfl hc) rfl rfl)) ?_
 refine og rfl rfl rfl (fun hc => (p_eql (gx rfl hc) (gx rfl hc))) <| o_p rfl (p_picky rfl rfl rfl (fun e => keq e)) <| sB rfl <| o_ek (fr' := [(4, aB)]) rfl rfl <| w_ret ?_
 obtain rfl := sy h2
 exact e_ret (rs' := [.tmp 4]) rfl <| r_tmp (v := aB) rfl <| r_nil <| fin_gen [] rfl rfl rfl lr st_nil
noncomputable def ref22xcommand_l1 (x1 : (List Int)) (p0kind : Int) (s6 : Int) : Option (Step Int (Fl Int Unit)) :=
 cond (decide (s6 < ((x1).length : Int))) ((idx x1 s6).bind fun (x8 : Int) => cond (decide (x8 = p0kind)) (some (Step.out (Fl.done (IntKind.wrap .i64 (s6 + (1 : Int)))))) (some (Step.next (IntKind.wrap .i64 (s6 + (1 : Int)))))) (some (Step.out (Fl.go ())))
noncomputable def ref22xcommand (p0kind : Int) : Option Int :=
 (ref22xcommands).bind fun (x1 : (List Int)) => ((loopO (ref22xcommand_l1 x1 p0kind) ((0 : Int))) : Option (Fl Int Unit)).bind fun (x3 : (Fl Int Unit)) => Fl.next x3 (fun (j5 : Unit) => (some (0 : Int)))
theorem w_ref22xcommand {p0kind : Int} {res : Int} (h : ref22xcommand p0kind = some res) : ACalls Tryz.prog 52 [.c (.int .i64 p0kind)] [] (.c (.int .i64 res)) [] := by
 unfold ref22xcommand at h
 refine acalls (fn := Tryz.f52) [0, 2, 3, 4, 9, 17] (by kernel_rfl) Tryz.func52 rfl (by kernel_rfl) (by kernel_rfl) <| w_sr <| sI rfl <| o_ek (fr' := [(0, aI)]) rfl rfl <| w_seqw <| w_region ?_
 obtain ⟨x1, hx1, h2⟩ := bind_s h
 refine o_v (ov_call (v := aO) rfl (w_ref22xcommands hx1) trivial rfl rfl rfl) <| sV (v := aO) rfl <| o_ek (fr' := [(0, aI), (3, aO)]) rfl rfl <| w_seqw <| w_sr <| sI rfl <| o_ek (fr' := [(0, aI), (3, aO), (4, aI)]) rfl rfl ?_
 obtain ⟨x3, hx3, h4⟩ := bind_s h2
 refine w_jtail cl_kw (fun j5 => x3 = Fl.go j5) (fun (j5 : Unit) => ([] : Fr)) (fun (j5 : Unit) => ([] : St)) ?_ ?_
 ·
  refine w_block <| w_loopo _ (fun (s6 : Int) => ([(0, .c (.int .i64 p0kind)), (3, AV.os 0 1 (rowI .i64) x1), (4, .c (.int .i64 s6))] : Fr)) (fun (s6 : Int) => ([] : St)) hx3 (w_weak [80] 0 rfl rfl rfl rfl ⟨lr, lr, lr, trivial⟩ st_nil) ?_
  intro s6 st6 hs6 ho6
  unfold ref22xcommand_l1 at hs6
  refine w_seqw <| w_sr <| mI rfl <| mV (v := aO) rfl <| o_p rfl (p_len ti70 (isl_o rfl)) <| o_p rfl (p_lss rfl rfl) <| o_ek (fr' := [(0, aI), (3, aO), (4, aI), (9, aB)]) rfl rfl <| w_ch hs6 rfl (fun hb7 h7 => ?_) (fun hb7 h7 => ?_)
  ·
   refine w_skip <| e_kw <| w_seqw <| w_block <| w_sr <| mV (v := aO) rfl <| mI rfl ?_
   obtain ⟨x8, hx8, h9⟩ := bind_s h7
   refine o_p rfl (p_ia (cs := [PV.int _ _]) ts70 (isl_o rfl) rfl hx8 rfl) <| o_p rfl (p_loade (p := PV.int _ _) tv3 rfl rfl) <| mI rfl <| o_p rfl (p_eql rfl rfl) <| o_ek (fr' := [(0, aI), (3, aO), (4, aI), (17, aB)]) rfl rfl <| w_ch h9 rfl (fun hb10 h10 => ?_) (fun hb10 h10 => ?_)
   ·
    refine w_sr <| mI rfl <| o_p rfl (p_add rfl rfl) <| sI rfl <| o_ek (fr' := [(2, aI)]) rfl rfl <| w_ret <| e_blk_r <| e_seq_r <| e_seq_r <| e_blk_r <| e_seq_r <| e_seq_r ?_
    have h11 := un_out h10 ho6
    have h12 := un_done h11 h4
    obtain rfl := sy h12
    exact e_ret (rs' := [.tmp 2]) rfl <| r_tmp (v := aI) rfl <| r_nil <| fin_gen [] rfl rfl rfl lr st_nil
   ·
    exact w_skip <| e_blk_n <| e_kw <| w_region <| mI rfl <| o_p rfl (p_add rfl rfl) <| sI rfl <| o_end (fr' := [(0, aI), (3, aO), (4, aI), (17, aB)]) rfl <| e_l _ (sy h10) (w_weak [0] 0 rfl rfl rfl rfl ⟨lr, lr, lr, trivial⟩ st_nil)
  ·
   refine w_exit <| e_seq_x <| e_seq_x <| e_blk_h ?_
   have h14 := un_out h7 ho6
   exact e_j _ (sy h14) (w_weak [] 0 rfl rfl rfl rfl trivial st_nil)
 ·
  intro j5 hj15
  have h15 := un_go hj15 h4
  refine e_kw <| w_sr <| sI rfl <| o_ek (fr' := [(2, aI)]) rfl rfl <| w_ret ?_
  obtain rfl := sy h15
  exact e_ret (rs' := [.tmp 2]) rfl <| r_tmp (v := aI) rfl <| r_nil <| fin_gen [] rfl rfl rfl lr st_nil
noncomputable def ref22xIsCommand (p0kind : Int) : Option Bool :=
 (ref22xcommand p0kind).bind fun (x1 : Int) => some (decide ((0 : Int) < x1))
theorem w_ref22xIsCommand {p0kind : Int} {res : Bool} (h : ref22xIsCommand p0kind = some res) : ACalls Tryz.prog 36 [.c (.int .i64 p0kind)] [] (.c (.bool res)) [] := by
 unfold ref22xIsCommand at h
 refine acalls (fn := Tryz.f36) [0, 2] (by kernel_rfl) Tryz.func36 rfl (by kernel_rfl) (by kernel_rfl) <| w_sr <| sB rfl <| o_ek (fr' := [(0, aI)]) rfl rfl <| w_sr <| mI rfl ?_
 obtain ⟨x1, hx1, h2⟩ := bind_s h
 refine o_v (ov_call (v := aI) rfl (w_ref22xcommand hx1) ⟨lr, trivial⟩ rfl rfl rfl) <| o_p rfl (p_gtr rfl rfl) <| sB rfl <| o_ek (fr' := [(2, aB)]) rfl rfl <| w_ret ?_
 obtain rfl := sy h2
 exact e_ret (rs' := [.tmp 2]) rfl <| r_tmp (v := aB) rfl <| r_nil <| fin_gen [] rfl rfl rfl lr st_nil
noncomputable def ref22xMatches (p0c : ApiCommand) (p1e : ApiEvent) : Option Bool :=
 (ref22xIsCommand p1e.Kind).bind fun (x1 : Bool) => (gd (x1 == true) (ref22xcommand p1e.Kind)).bind fun (x3 : Int) => some (cond (cond (cond (cond (cond x1 (decide (x3 = p0c.Kind)) false) (decide (p0c.Seq = p1e.Seq)) false) (decide (p0c.Name = p1e.Name)) false) (decide (p0c.Key = p1e.Key)) false) (decide (p0c.N = p1e.N)) false)
theorem w_ref22xMatches {p0c : ApiCommand} {p1e : ApiEvent} {res : Bool} (h : ref22xMatches p0c p1e = some res) : ACalls Tryz.prog 16 [.agg (AV.cs (rowApiCommand p0c)), .agg (AV.cs (rowApiEvent p1e))] [] (.c (.bool res)) [] := by
 unfold ref22xMatches at h
 refine acalls (fn := Tryz.f16) [0, 1, 2, 3, 4] (by kernel_rfl) Tryz.func16 rfl (by kernel_rfl) (by kernel_rfl) <| w_sr <| o_box (v := .agg aIISSIIISLLSIIIIIIIIL) (n := 0) (cs := aIISSIIISLLSIIIIIIIIL) (σ' := [aIISSIIISLLSIIIIIIIIL]) rfl rfl rfl rfl rfl <| o_box (v := .agg aIIIIIIISSIISLLSIIIIIIIIL) (n := 1) (cs := aIIIIIIISSIISLLSIIIIIIIIL) (σ' := [aIISSIIISLLSIIIIIIIIL, aIIIIIIISSIISLLSIIIIIIIIL]) rfl rfl rfl rfl rfl <| sB rfl <| o_ek (fr' := [(2, .box 0 0), (3, .box 1 0)]) rfl rfl <| w_seqw <| w_planT [.q 0, .q 1, .q 2, .q 3, .q 4, .q 5, .q 6, .q 7, .q 8, .q 9, .q 10, .q 11, .q 12, .q 13, .q 14, .q 15, .q 16, .q 17, .q 18, .q 19, .q 20, .q 21, .q 22, .q 23, .q 24, .q 25, .q 26, .q 27, .q 28, .q 29, .q 30, .q 31, .q 32, .q 33, .q 34, .q 35, .q 36, .q 37, .q 38, .n 39 []] [(some 5, [3]), (some 6, [5]), (some 7, [6]), (some 8, [7]), (some 9, [3, 8]), (some 10, [9, 8]), (some 11, [10, 8]), (some 12, [2, 8]), (some 13, [12, 8]), (some 14, [11, 13, 8]), (some 15, [8, 14]), (some 16, [15]), (some 17, [2, 16]), (some 18, [17, 16]), (some 19, [3, 16]), (some 20, [19, 16]), (some 21, [18, 20, 16]), (some 22, [16, 21]), (some 23, [22]), (some 24, [2, 23]), (some 25, [24, 23]), (some 26, [3, 23]), (some 27, [26, 23]), (some 28, [25, 27, 23]), (some 29, [23, 28]), (some 30, [29]), (some 31, [2, 30]), (some 32, [31, 30]), (some 33, [3, 30]), (some 34, [33, 30]), (some 35, [32, 34, 30]), (some 36, [30, 35]), (some 37, [36]), (some 38, [2, 37]), (some 39, [38, 37]), (some 40, [3, 37]), (some 41, [40, 37]), (some 42, [39, 41, 37]), (some 43, [37, 42]), (some 4, [43])] [0, 1, 3, 7, 15, 31, 63, 15, 143, 511, 1023, 2047, 4095, 8191, 4095, 20479, 65535, 131071, 262143, 524287, 1048575, 524287, 2621439, 8388607, 16777215, 33554431, 67108863, 134217727, 67108863, 335544319, 1073741823, 2147483647, 4294967295, 8589934591, 17179869183, 8589934591, 42949672959, 137438953471, 274877906943, 549755813887] (by kernel_rfl) <| dq rfl rfl (p_fa tf29x1 rfl) <| dq rfl rfl (p_load (v := aI) tv3 rfl rfl rfl) ?_
 obtain ⟨x1, hx1, h2⟩ := bind_s h
 refine d_q rfl (qv_call (v := aB) rfl (w_ref22xIsCommand hx1) ⟨lr, trivial⟩ rfl) <| dq rfl rfl (p_move (v := aB) rfl) <| d_g rfl rfl rfl (fun hc => qv_p rfl (p_fa tf29x1 rfl)) <| d_g rfl rfl rfl (fun hc => qv_p rfl (p_load (v := aI) tv3 (gx rfl hc) rfl rfl)) ?_
 obtain ⟨x3, hx3, h4⟩ := bind_s h2
 refine d_g rfl rfl rfl (fun hc => qv_call (v := aI) rfl (w_ref22xcommand (gd_some hx3 hc)) ⟨(le_gv (gx rfl hc) lr), trivial⟩ rfl) <| d_g rfl rfl rfl (fun hc => qv_p rfl (p_fa tf33x0 rfl)) <| d_g rfl rfl rfl (fun hc => qv_p rfl (p_load (v := aI) tv3 (gx rfl hc) rfl rfl)) <| d_g rfl rfl rfl (fun hc => qv_p rfl (p_eql (gx rfl hc) (gx rfl hc))) <| dq rfl rfl (p_picky rfl rfl rfl (fun e => keq e)) <| dq rfl rfl (p_move (v := aB) rfl) <| d_g rfl rfl rfl (fun hc => qv_p rfl (p_fa tf33x1 rfl)) <| d_g rfl rfl rfl (fun hc => qv_p rfl (p_load (v := aI) tv3 (gx rfl hc) rfl rfl)) <| d_g rfl rfl rfl (fun hc => qv_p rfl (p_fa tf29x3 rfl)) <| d_g rfl rfl rfl (fun hc => qv_p rfl (p_load (v := aI) tv3 (gx rfl hc) rfl rfl)) <| d_g rfl rfl rfl (fun hc => qv_p rfl (p_eql (gx rfl hc) (gx rfl hc))) <| dq rfl rfl (p_picky rfl rfl rfl (fun e => keq e)) <| dq rfl rfl (p_move (v := aB) rfl) ?_
 refine d_g rfl rfl rfl (fun hc => qv_p rfl (p_fa tf33x2 rfl)) <| d_g rfl rfl rfl (fun hc => qv_p rfl (p_load (v := aS) tv9 (gx rfl hc) rfl rfl)) <| d_g rfl rfl rfl (fun hc => qv_p rfl (p_fa tf29x7 rfl)) <| d_g rfl rfl rfl (fun hc => qv_p rfl (p_load (v := aS) tv9 (gx rfl hc) rfl rfl)) <| d_g rfl rfl rfl (fun hc => qv_p rfl (p_seql (gx rfl hc) (gx rfl hc))) <| dq rfl rfl (p_picky rfl rfl rfl (fun e => keq e)) <| dq rfl rfl (p_move (v := aB) rfl) <| d_g rfl rfl rfl (fun hc => qv_p rfl (p_fa tf33x3 rfl)) <| d_g rfl rfl rfl (fun hc => qv_p rfl (p_load (v := aS) tv9 (gx rfl hc) rfl rfl)) <| d_g rfl rfl rfl (fun hc => qv_p rfl (p_fa tf29x8 rfl)) <| d_g rfl rfl rfl (fun hc => qv_p rfl (p_load (v := aS) tv9 (gx rfl hc) rfl rfl)) <| d_g rfl rfl rfl (fun hc => qv_p rfl (p_seql (gx rfl hc) (gx rfl hc))) <| dq rfl rfl (p_picky rfl rfl rfl (fun e => keq e)) ?_
 refine dq rfl rfl (p_move (v := aB) rfl) <| d_g rfl rfl rfl (fun hc => qv_p rfl (p_fa tf33x4 rfl)) <| d_g rfl rfl rfl (fun hc => qv_p rfl (p_load (v := aI) tv3 (gx rfl hc) rfl rfl)) <| d_g rfl rfl rfl (fun hc => qv_p rfl (p_fa tf29x5 rfl)) <| d_g rfl rfl rfl (fun hc => qv_p rfl (p_load (v := aI) tv3 (gx rfl hc) rfl rfl)) <| d_g rfl rfl rfl (fun hc => qv_p rfl (p_eql (gx rfl hc) (gx rfl hc))) <| dq rfl rfl (p_picky rfl rfl rfl (fun e => keq e)) <| d_n rfl ?_ rfl
 refine sB rfl <| o_rc <| ⟨rc_nil, ?_⟩
 refine d_ek (fr' := [(4, aB)]) rfl rfl <| w_ret ?_
 obtain rfl := sy h4
 exact e_ret (rs' := [.tmp 4]) rfl <| r_tmp (v := aB) rfl <| r_nil <| fin_gen [] rfl rfl rfl lr st_nil
noncomputable def event_IsCommand (p0kind : Int) : Option Bool :=
 (event_commandOf p0kind).bind fun (x1 : Int) => some (!decide (x1 = (0 : Int)))
theorem w_event_IsCommand {p0kind : Int} {res : Bool} (h : event_IsCommand p0kind = some res) : ACalls Tryz.prog 17 [.c (.int .i64 p0kind)] [] (.c (.bool res)) [] := by
 unfold event_IsCommand at h
 refine acalls (fn := Tryz.f17) [0, 2] (by kernel_rfl) Tryz.func17 rfl (by kernel_rfl) (by kernel_rfl) <| w_sr <| sB rfl <| o_ek (fr' := [(0, aI)]) rfl rfl <| w_sr <| mI rfl ?_
 obtain ⟨x1, hx1, h2⟩ := bind_s h
 refine o_v (ov_call (v := aI) rfl (w_event_commandOf hx1) ⟨lr, trivial⟩ rfl rfl rfl) <| o_p rfl (p_neq rfl rfl) <| sB rfl <| o_ek (fr' := [(2, aB)]) rfl rfl <| w_ret ?_
 obtain rfl := sy h2
 exact e_ret (rs' := [.tmp 2]) rfl <| r_tmp (v := aB) rfl <| r_nil <| fin_gen [] rfl rfl rfl lr st_nil
noncomputable def law03xFew_l1 (p0v : ApiValue) (s4 : (Int × Int)) : Option (Step (Int × Int) Int) :=
 cond (cond (decide (s4.2 < ((p0v.Keys).length : Int))) (decide ((0 : Int) ≤ s4.1)) false) ((idx p0v.Keys s4.2).bind fun (x6 : (List UInt8)) => some (Step.next ((IntKind.wrap .i64 (s4.1 - ((x6).length : Int))), (IntKind.wrap .i64 (s4.2 + (1 : Int)))))) (some (Step.out s4.1))
noncomputable def law03xFew_l2 (rec_law03xFew : ApiValue → Int → Option Int) (p0v : ApiValue) (s13 : (Int × Int)) : Option (Step (Int × Int) Int) :=
 cond (cond (decide (s13.2 < ((p0v.Items).length : Int))) (decide ((0 : Int) ≤ s13.1)) false) ((idx p0v.Items s13.2).bind fun (x15 : ApiValue) => (rec_law03xFew x15 s13.1).bind fun (x17 : Int) => some (Step.next (x17, (IntKind.wrap .i64 (s13.2 + (1 : Int)))))) (some (Step.out s13.1))
noncomputable def law03xFewF : Nat → ApiValue → Int → Option Int
 | 0, _, _ => none
 | n + 1, p0v, p1most =>
  ((loopO (law03xFew_l1 p0v) (((IntKind.wrap .i64 ((IntKind.wrap .i64 (p1most - (1 : Int))) - ((p0v.Text).length : Int))), (0 : Int)))) : Option Int).bind fun (x1 : Int) => (((loopO (law03xFew_l2 (law03xFewF n) p0v) ((x1, (0 : Int)))) : Option Int).bind fun (x10 : Int) => (some x10))
theorem wF_law03xFew : ∀ n : Nat, (∀ {p0v : ApiValue} {p1most : Int} {res : Int}, law03xFewF n p0v p1most = some res → ACalls Tryz.prog 26 [.agg (AV.cs (exApiValue p0v)), .c (.int .i64 p1most)] [] (.c (.int .i64 res)) []) := by
 intro n
 induction n with
 | zero => exact fun {p0v p1most res} h => absurd h (by simp [law03xFewF])
 | succ n ih =>
  have ih_law03xFew := @ih
  intro p0v p1most res h
  rw [law03xFewF] at h
  refine acalls (fn := Tryz.f26) [0, 1, 2, 4, 5, 6, 21, 40] (by kernel_rfl) Tryz.func26 rfl (by kernel_rfl) (by kernel_rfl) <| w_sr <| o_box (v := .agg aIISLL) (n := 0) (cs := aIISLL) (σ' := [aIISLL]) rfl rfl rfl rfl rfl <| sI rfl <| o_ek (fr' := [(1, aI), (2, .box 0 0)]) rfl rfl <| w_sr <| mI rfl <| o_p rfl (p_sub rfl rfl) <| o_p rfl (p_fa tf25x2 rfl) <| o_p rfl (p_load (v := aS) tv9 rfl rfl rfl) <| o_p rfl (p_lens ti9 rfl) ?_
  refine o_p rfl (p_sub rfl rfl) <| sI rfl <| o_ek (fr' := [(1, aI), (2, .box 0 0)]) rfl rfl <| w_seqw <| w_sr <| sI rfl <| o_ek (fr' := [(1, aI), (2, .box 0 0), (5, aI)]) rfl rfl ?_
  obtain ⟨x1, hx1, h2⟩ := bind_s h
  refine w_jtail cl_kw (fun j3 => x1 = j3) (fun (j3 : Int) => ([(1, .c (.int .i64 j3)), (2, .box 0 0)] : Fr)) (fun (j3 : Int) => ([[.c (.int .i64 p0v.Kind), .c (.int .i64 p0v.Int), .c (.str p0v.Text), .c (PV.ls 5 rowApiValue p0v.Items), .c (PV.ls 1 rowS p0v.Keys)]] : St)) ?_ ?_
  ·
   refine w_block <| w_loopo _ (fun (s4 : (Int × Int)) => ([(1, .c (.int .i64 s4.1)), (2, .box 0 0), (5, .c (.int .i64 s4.2))] : Fr)) (fun (s4 : (Int × Int)) => ([[.c (.int .i64 p0v.Kind), .c (.int .i64 p0v.Int), .c (.str p0v.Text), .c (PV.ls 5 rowApiValue p0v.Items), .c (PV.ls 1 rowS p0v.Keys)]] : St)) hx1 (w_weak [] 1 rfl rfl rfl rfl ⟨lr, lr, lr, trivial⟩ (st_r rfl st_nil)) ?_
   intro s4 st4 hs4 ho4
   unfold law03xFew_l1 at hs4
   refine w_seqw <| w_sr <| mI rfl <| o_p rfl (p_fa tf25x4 rfl) <| o_p rfl (p_load (v := aL) tv23 rfl rfl rfl) <| o_p rfl (p_len ti23 (isl_c rfl)) <| o_p rfl (p_lss rfl rfl) <| mB rfl <| og rfl rfl rfl (fun hc => (p_move (v := aI) rfl)) <| og rfl rfl rfl (fun hc => (p_geq (gx rfl hc) rfl)) <| o_p rfl (p_picky rfl rfl rfl (fun e => keq e)) <| o_ek (fr' := [(1, aI), (2, .box 0 0), (5, aI), (21, aB)]) rfl rfl ?_
   refine w_ch hs4 rfl (fun hb5 h5 => ?_) (fun hb5 h5 => ?_)
   ·
    refine w_skip <| e_kw <| w_seqw <| w_block <| w_region <| mI rfl <| o_p rfl (p_fa tf25x4 rfl) <| o_p rfl (p_load (v := aL) tv23 rfl rfl rfl) <| mI rfl ?_
    obtain ⟨x6, hx6, h7⟩ := bind_s h5
    refine o_p rfl (p_ia (cs := [PV.str _]) ts23 (isl_c rfl) rfl hx6 rfl) <| o_p rfl (p_loade (p := PV.str _) tv9 rfl rfl) <| o_p rfl (p_lens ti9 rfl) <| o_p rfl (p_sub rfl rfl) <| sI rfl <| o_end (fr' := [(1, aI), (2, .box 0 0), (5, aI), (21, aB)]) rfl <| e_blk_n <| e_kw <| w_region <| mI rfl <| o_p rfl (p_add rfl rfl) <| sI rfl <| o_end (fr' := [(1, aI), (2, .box 0 0), (5, aI), (21, aB)]) rfl ?_
    exact e_l _ (sy h7) (w_weak [] 1 rfl rfl rfl rfl ⟨lr, lr, lr, trivial⟩ (st_r rfl st_nil))
   ·
    refine w_exit <| e_seq_x <| e_seq_x <| e_blk_h ?_
    have h8 := un_out h5 ho4
    exact e_j _ (sy h8) (w_weak [] 1 rfl rfl rfl rfl ⟨lr, lr, trivial⟩ (st_r rfl st_nil))
  ·
   intro j3 hj9
   subst hj9
   refine e_kw <| w_seqw <| w_sr <| sI rfl <| o_ek (fr' := [(1, aI), (2, .box 0 0), (6, aI)]) rfl rfl ?_
   obtain ⟨x10, hx10, h11⟩ := bind_s h2
   refine w_jtail cl_kw (fun j12 => x10 = j12) (fun (j12 : Int) => ([(1, .c (.int .i64 j12))] : Fr)) (fun (j12 : Int) => ([[.c (.int .i64 p0v.Kind), .c (.int .i64 p0v.Int), .c (.str p0v.Text), .c (PV.ls 5 rowApiValue p0v.Items), .c (PV.ls 1 rowS p0v.Keys)]] : St)) ?_ ?_
   ·
    refine w_block <| w_loopo _ (fun (s13 : (Int × Int)) => ([(1, .c (.int .i64 s13.1)), (2, .box 0 0), (6, .c (.int .i64 s13.2))] : Fr)) (fun (s13 : (Int × Int)) => ([[.c (.int .i64 p0v.Kind), .c (.int .i64 p0v.Int), .c (.str p0v.Text), .c (PV.ls 5 rowApiValue p0v.Items), .c (PV.ls 1 rowS p0v.Keys)]] : St)) hx10 (w_weak [] 1 rfl rfl rfl rfl ⟨lr, lr, lr, trivial⟩ (st_r rfl st_nil)) ?_
    intro s13 st13 hs13 ho13
    unfold law03xFew_l2 at hs13
    refine w_seqw <| w_sr <| mI rfl <| o_p rfl (p_fa tf25x3 rfl) <| o_p rfl (p_load (v := aL) tv22 rfl rfl rfl) <| o_p rfl (p_len ti22 (isl_c rfl)) <| o_p rfl (p_lss rfl rfl) <| mB rfl <| og rfl rfl rfl (fun hc => (p_move (v := aI) rfl)) <| og rfl rfl rfl (fun hc => (p_geq (gx rfl hc) rfl)) <| o_p rfl (p_picky rfl rfl rfl (fun e => keq e)) <| o_ek (fr' := [(1, aI), (2, .box 0 0), (6, aI), (40, aB)]) rfl rfl ?_
    refine w_ch hs13 rfl (fun hb14 h14 => ?_) (fun hb14 h14 => ?_)
    ·
     refine w_skip <| e_kw <| w_seqw <| w_block <| w_region <| o_p rfl (p_fa tf25x3 rfl) <| o_p rfl (p_load (v := aL) tv22 rfl rfl rfl) <| mI rfl ?_
     obtain ⟨x15, hx15, h16⟩ := bind_s h14
     refine o_p rfl (p_ia (cs := [PV.int _ _, PV.int _ _, PV.str _, PV.ls _ _ _, PV.ls _ _ _]) ts22 (isl_c rfl) rfl hx15 (rowApiValue_eq _)) <| o_p rfl (p_loades (us := [PV.int _ _, PV.int _ _, PV.str _, PV.ls _ _ _, PV.ls _ _ _]) tv25 rfl rfl rfl) <| mI rfl ?_
     obtain ⟨x17, hx17, h18⟩ := bind_s h16
     exact o_v (ov_call (v := aI) rfl (ih_law03xFew hx17) ⟨(le_aggc rfl ⟨rfl, rfl, rfl, rfl, rfl, trivial⟩), lr, trivial⟩ rfl rfl rfl) <| sI rfl <| o_end (fr' := [(1, aI), (2, .box 0 0), (6, aI), (40, aB)]) rfl <| e_blk_n <| e_kw <| w_region <| mI rfl <| o_p rfl (p_add rfl rfl) <| sI rfl <| o_end (fr' := [(1, aI), (2, .box 0 0), (6, aI), (40, aB)]) rfl <| e_l _ (sy h18) (w_weak [] 1 rfl rfl rfl rfl ⟨lr, lr, lr, trivial⟩ (st_r rfl st_nil))
    ·
     refine w_exit <| e_seq_x <| e_seq_x <| e_blk_h ?_
     have h19 := un_out h14 ho13
     exact e_j _ (sy h19) (w_weak [] 1 rfl rfl rfl rfl ⟨lr, trivial⟩ (st_r rfl st_nil))
   ·
    intro j12 hj20
    subst hj20
    refine e_kw <| w_sr <| mI rfl <| sI rfl <| o_ek (fr' := [(4, aI)]) rfl rfl <| w_ret ?_
    obtain rfl := sy h11
    exact e_ret (rs' := [.tmp 4]) rfl <| r_tmp (v := aI) rfl <| r_nil <| fin_gen [] rfl rfl rfl lr st_nil
noncomputable def law03xFew (p0v : ApiValue) (p1most : Int) : Option Int := lim fun n => law03xFewF n p0v p1most
theorem w_law03xFew {p0v : ApiValue} {p1most : Int} {res : Int} (h : law03xFew p0v p1most = some res) : ACalls Tryz.prog 26 [.agg (AV.cs (exApiValue p0v)), .c (.int .i64 p1most)] [] (.c (.int .i64 res)) [] := by
 obtain ⟨n, hn⟩ := lim_some h
 exact (wF_law03xFew n) hn
noncomputable def law22xSmall_l1 (p0e : ApiEvent) (s6 : (Int × Int)) : Option (Step (Int × Int) Int) :=
 cond (cond (decide (s6.2 < ((p0e.Opts.Fatal).length : Int))) (decide ((0 : Int) ≤ s6.1)) false) ((idx p0e.Opts.Fatal s6.2).bind fun (x8 : (List UInt8)) => some (Step.next ((IntKind.wrap .i64 ((IntKind.wrap .i64 (s6.1 - (1 : Int))) - ((x8).length : Int))), (IntKind.wrap .i64 (s6.2 + (1 : Int)))))) (some (Step.out s6.1))
noncomputable def law22xSmall (p0e : ApiEvent) : Option Bool :=
 (law03xFew p0e.Data (6000 : Int)).bind fun (x1 : Int) => ((loopO (law22xSmall_l1 p0e) (((IntKind.wrap .i64 ((IntKind.wrap .i64 ((IntKind.wrap .i64 (x1 - ((p0e.Name).length : Int))) - ((p0e.Key).length : Int))) - ((p0e.Opts.Queue).length : Int))), (0 : Int)))) : Option Int).bind fun (x3 : Int) => (some (decide ((0 : Int) ≤ x3)))
theorem w_law22xSmall {p0e : ApiEvent} {res : Bool} (h : law22xSmall p0e = some res) : ACalls Tryz.prog 8 [.agg (AV.cs (rowApiEvent p0e))] [] (.c (.bool res)) [] := by
 unfold law22xSmall at h
 refine acalls (fn := Tryz.f8) [0, 1, 2, 3, 4, 30] (by kernel_rfl) Tryz.func8 rfl (by kernel_rfl) (by kernel_rfl) <| w_sr <| o_box (v := .agg aIIIIIIISSIISLLSIIIIIIIIL) (n := 0) (cs := aIIIIIIISSIISLLSIIIIIIIIL) (σ' := [aIIIIIIISSIISLLSIIIIIIIIL]) rfl rfl rfl rfl rfl <| sB rfl <| o_ek (fr' := [(1, .box 0 0)]) rfl rfl <| w_seqw <| w_planT [.q 0, .q 1, .q 2, .q 3, .q 4, .q 5, .q 6, .q 7, .q 8, .q 9, .q 10, .q 11, .q 12, .q 13, .q 14, .q 15, .n 16 []] [(some 5, [1]), (some 6, [5]), (some 7, [6]), (some 8, [1]), (some 9, [8]), (some 10, [9]), (some 11, [7, 10]), (some 12, [1]), (some 13, [12]), (some 14, [13]), (some 15, [11, 14]), (some 16, [1]), (some 17, [16]), (some 18, [17]), (some 19, [18]), (some 20, [15, 19]), (some 3, [20])] [0, 1, 3, 0, 8, 24, 63, 0, 128, 384, 1023, 0, 2048, 6144, 14336, 32767, 65535] (by kernel_rfl) <| dq rfl rfl (p_fa tf29x9 rfl) <| dq rfl rfl (p_loads (us := aIISLL) tv25 rfl rfl rfl rfl) ?_
 obtain ⟨x1, hx1, h2⟩ := bind_s h
 refine d_q rfl (qv_call (v := aI) rfl (w_law03xFew hx1) ⟨(le_aggc rfl ⟨rfl, rfl, rfl, rfl, rfl, trivial⟩), lr, trivial⟩ rfl) <| dq rfl rfl (p_fa tf29x7 rfl) <| dq rfl rfl (p_load (v := aS) tv9 rfl rfl rfl) <| dq rfl rfl (p_lens ti9 rfl) <| dq rfl rfl (p_sub rfl rfl) <| dq rfl rfl (p_fa tf29x8 rfl) <| dq rfl rfl (p_load (v := aS) tv9 rfl rfl rfl) <| dq rfl rfl (p_lens ti9 rfl) <| dq rfl rfl (p_sub rfl rfl) <| dq rfl rfl (p_fa tf29x10 rfl) <| dq rfl rfl (p_fa tf27x0 rfl) <| dq rfl rfl (p_load (v := aS) tv9 rfl rfl rfl) <| dq rfl rfl (p_lens ti9 rfl) ?_
 refine dq rfl rfl (p_sub rfl rfl) <| d_n rfl ?_ rfl
 refine sI rfl <| o_rc <| ⟨rc_nil, ?_⟩
 refine d_ek (fr' := [(1, .box 0 0), (3, aI)]) rfl rfl <| w_seqw <| w_sr <| sI rfl <| o_ek (fr' := [(1, .box 0 0), (3, aI), (4, aI)]) rfl rfl ?_
 obtain ⟨x3, hx3, h4⟩ := bind_s h2
 refine w_jtail cl_kw (fun j5 => x3 = j5) (fun (j5 : Int) => ([(3, .c (.int .i64 j5))] : Fr)) (fun (j5 : Int) => ([[.c (.int .i64 p0e.ID), .c (.int .i64 p0e.Kind), .c (.int .i64 p0e.Time), .c (.int .i64 p0e.Seq), .c (.int .i64 p0e.Ref), .c (.int .i64 p0e.N), .c (.int .i64 p0e.Code), .c (.str p0e.Name), .c (.str p0e.Key), .c (.int .i64 p0e.Data.Kind), .c (.int .i64 p0e.Data.Int), .c (.str p0e.Data.Text), .c (PV.ls 5 rowApiValue p0e.Data.Items), .c (PV.ls 1 rowS p0e.Data.Keys), .c (.str p0e.Opts.Queue), .c (.int .i64 p0e.Opts.ToStart), .c (.int .i64 p0e.Opts.ToClose), .c (.int .i64 p0e.Opts.Total), .c (.int .i64 p0e.Opts.Beat), .c (.int .i64 p0e.Opts.First), .c (.int .i64 p0e.Opts.Coef), .c (.int .i64 p0e.Opts.Most), .c (.int .i64 p0e.Opts.Attempts), .c (PV.ls 1 rowS p0e.Opts.Fatal)]] : St)) ?_ ?_
 ·
  refine w_block <| w_loopo _ (fun (s6 : (Int × Int)) => ([(1, .box 0 0), (3, .c (.int .i64 s6.1)), (4, .c (.int .i64 s6.2))] : Fr)) (fun (s6 : (Int × Int)) => ([[.c (.int .i64 p0e.ID), .c (.int .i64 p0e.Kind), .c (.int .i64 p0e.Time), .c (.int .i64 p0e.Seq), .c (.int .i64 p0e.Ref), .c (.int .i64 p0e.N), .c (.int .i64 p0e.Code), .c (.str p0e.Name), .c (.str p0e.Key), .c (.int .i64 p0e.Data.Kind), .c (.int .i64 p0e.Data.Int), .c (.str p0e.Data.Text), .c (PV.ls 5 rowApiValue p0e.Data.Items), .c (PV.ls 1 rowS p0e.Data.Keys), .c (.str p0e.Opts.Queue), .c (.int .i64 p0e.Opts.ToStart), .c (.int .i64 p0e.Opts.ToClose), .c (.int .i64 p0e.Opts.Total), .c (.int .i64 p0e.Opts.Beat), .c (.int .i64 p0e.Opts.First), .c (.int .i64 p0e.Opts.Coef), .c (.int .i64 p0e.Opts.Most), .c (.int .i64 p0e.Opts.Attempts), .c (PV.ls 1 rowS p0e.Opts.Fatal)]] : St)) hx3 (w_weak [] 1 rfl rfl rfl rfl ⟨lr, lr, lr, trivial⟩ (st_r rfl st_nil)) ?_
  intro s6 st6 hs6 ho6
  unfold law22xSmall_l1 at hs6
  refine w_seqw <| w_sr <| mI rfl <| o_p rfl (p_fa tf29x10 rfl) <| o_p rfl (p_fa tf27x9 rfl) <| o_p rfl (p_load (v := aL) tv23 rfl rfl rfl) <| o_p rfl (p_len ti23 (isl_c rfl)) <| o_p rfl (p_lss rfl rfl) <| mB rfl <| og rfl rfl rfl (fun hc => (p_move (v := aI) rfl)) <| og rfl rfl rfl (fun hc => (p_geq (gx rfl hc) rfl)) <| o_p rfl (p_picky rfl rfl rfl (fun e => keq e)) ?_
  refine o_ek (fr' := [(1, .box 0 0), (3, aI), (4, aI), (30, aB)]) rfl rfl <| w_ch hs6 rfl (fun hb7 h7 => ?_) (fun hb7 h7 => ?_)
  ·
   refine w_skip <| e_kw <| w_seqw <| w_block <| w_region <| mI rfl <| o_p rfl (p_sub rfl rfl) <| o_p rfl (p_fa tf29x10 rfl) <| o_p rfl (p_fa tf27x9 rfl) <| o_p rfl (p_load (v := aL) tv23 rfl rfl rfl) <| mI rfl ?_
   obtain ⟨x8, hx8, h9⟩ := bind_s h7
   refine o_p rfl (p_ia (cs := [PV.str _]) ts23 (isl_c rfl) rfl hx8 rfl) <| o_p rfl (p_loade (p := PV.str _) tv9 rfl rfl) <| o_p rfl (p_lens ti9 rfl) <| o_p rfl (p_sub rfl rfl) <| sI rfl <| o_end (fr' := [(1, .box 0 0), (3, aI), (4, aI), (30, aB)]) rfl <| e_blk_n <| e_kw <| w_region <| mI rfl <| o_p rfl (p_add rfl rfl) <| sI rfl <| o_end (fr' := [(1, .box 0 0), (3, aI), (4, aI), (30, aB)]) rfl ?_
   exact e_l _ (sy h9) (w_weak [] 1 rfl rfl rfl rfl ⟨lr, lr, lr, trivial⟩ (st_r rfl st_nil))
  ·
   refine w_exit <| e_seq_x <| e_seq_x <| e_blk_h ?_
   have h10 := un_out h7 ho6
   exact e_j _ (sy h10) (w_weak [] 1 rfl rfl rfl rfl ⟨lr, trivial⟩ (st_r rfl st_nil))
 ·
  intro j5 hj11
  subst hj11
  refine e_kw <| w_sr <| mI rfl <| o_p rfl (p_geq rfl rfl) <| sB rfl <| o_ek (fr' := [(2, aB)]) rfl rfl <| w_ret ?_
  obtain rfl := sy h4
  exact e_ret (rs' := [.tmp 2]) rfl <| r_tmp (v := aB) rfl <| r_nil <| fin_gen [] rfl rfl rfl lr st_nil
end Go.Proofs.YtngcjjhbimanlaaGreatDoor

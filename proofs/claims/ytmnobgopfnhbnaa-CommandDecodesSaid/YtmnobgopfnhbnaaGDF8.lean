import Derived.Test.YtmnobgopfnhbnaaGDTy
import Derived.Test.YtmnobgopfnhbnaaGDF3
import Derived.Test.YtmnobgopfnhbnaaGDF6
import Derived.Test.YtmnobgopfnhbnaaGDF7
namespace Go.Proofs.Ytmnobgopfnhbnaa
open Go Abs
set_option maxRecDepth 100000
set_option linter.unusedVariables false
set_option linter.unusedSimpArgs false
noncomputable def ref20xIdent_l1 (p0s : (List UInt8)) (s6 : Int) : Option (Step Int (Fl Bool Unit)) :=
 cond (decide (s6 < ((p0s).length : Int))) ((idx p0s s6).bind fun (x8 : UInt8) => (gd ((decide (((x8).toNat : Int) < (33 : Int))) == false) (idx p0s s6)).bind fun (x10 : UInt8) => (gd ((cond (decide (((x8).toNat : Int) < (33 : Int))) true (decide ((126 : Int) < ((x10).toNat : Int)))) == false) (idx p0s s6)).bind fun (x12 : UInt8) => (gd ((cond (cond (decide (((x8).toNat : Int) < (33 : Int))) true (decide ((126 : Int) < ((x10).toNat : Int)))) true (decide (((x12).toNat : Int) = (47 : Int)))) == false) (idx p0s s6)).bind fun (x14 : UInt8) => cond (cond (cond (cond (decide (((x8).toNat : Int) < (33 : Int))) true (decide ((126 : Int) < ((x10).toNat : Int)))) true (decide (((x12).toNat : Int) = (47 : Int)))) true (decide (((x14).toNat : Int) = (34 : Int)))) (some (Step.out (Fl.done false))) (some (Step.next (IntKind.wrap .i64 (s6 + (1 : Int)))))) (some (Step.out (Fl.go ())))
noncomputable def ref20xIdent (p0s : (List UInt8)) : Option Bool :=
 cond (cond (decide (((p0s).length : Int) < (1 : Int))) true (decide ((64 : Int) < ((p0s).length : Int)))) (some false) (((loopO (ref20xIdent_l1 p0s) ((0 : Int))) : Option (Fl Bool Unit)).bind fun (x3 : (Fl Bool Unit)) => Fl.next x3 (fun (j5 : Unit) => (some true)))
theorem w_ref20xIdent {p0s : (List UInt8)} {res : Bool} (h : ref20xIdent p0s = some res) : ACalls Try.prog 52 [.c (.str p0s)] [] (.c (.bool res)) [] := by
 unfold ref20xIdent at h
 refine acalls (fn := Try.f52) [0, 2, 3, 11, 15, 39] (by kernel_rfl) Try.func52 rfl (by kernel_rfl) (by kernel_rfl) <| w_sr <| sB rfl <| o_ek (fr' := [(0, aS)]) rfl rfl <| w_seqw <| w_sr <| mS rfl <| o_p rfl (p_lens ti9 rfl) <| o_p rfl (p_lss rfl rfl) <| mB rfl <| og rfl rfl rfl (fun hc => (p_move (v := aS) rfl)) ?_
 refine og rfl rfl rfl (fun hc => (p_lens ti9 (gx rfl hc))) <| og rfl rfl rfl (fun hc => (p_gtr (gx rfl hc) rfl)) <| o_p rfl (p_pickz rfl rfl rfl (fun e => keq e)) <| o_ek (fr' := [(0, aS), (11, aB)]) rfl rfl <| w_ch h rfl (fun hb1 h1 => ?_) (fun hb1 h1 => ?_)
 ·
  refine w_sr <| sB rfl <| o_ek (fr' := [(2, aB)]) rfl rfl <| w_ret <| e_seq_r ?_
  obtain rfl := sy h1
  exact e_ret (rs' := [.tmp 2]) rfl <| r_tmp (v := aB) rfl <| r_nil <| fin_gen [] rfl rfl rfl lr st_nil
 ·
  refine w_skip <| e_kw <| w_seqw <| w_sr <| sI rfl <| o_ek (fr' := [(0, aS), (3, aI)]) rfl rfl ?_
  obtain ⟨x3, hx3, h4⟩ := bind_s h1
  refine w_jtail cl_kw (fun j5 => x3 = Fl.go j5) (fun (j5 : Unit) => ([] : Fr)) (fun (j5 : Unit) => ([] : St)) ?_ ?_
  ·
   refine w_block <| w_loopo _ (fun (s6 : Int) => ([(0, .c (.str p0s)), (3, .c (.int .i64 s6))] : Fr)) (fun (s6 : Int) => ([] : St)) hx3 (w_weak [] 0 rfl rfl rfl rfl ⟨lr, lr, trivial⟩ st_nil) ?_
   intro s6 st6 hs6 ho6
   unfold ref20xIdent_l1 at hs6
   refine w_seqw <| w_sr <| mI rfl <| mS rfl <| o_p rfl (p_lens ti9 rfl) <| o_p rfl (p_lss rfl rfl) <| o_ek (fr' := [(0, aS), (3, aI), (15, aB)]) rfl rfl <| w_ch hs6 rfl (fun hb7 h7 => ?_) (fun hb7 h7 => ?_)
   ·
    refine w_skip <| e_kw <| w_seqw <| w_block <| w_sr <| mS rfl <| mI rfl ?_
    obtain ⟨x8, hx8, h9⟩ := bind_s h7
    refine o_p rfl (p_is ti9 rfl rfl hx8) <| o_p rfl (p_lss rfl rfl) <| mB rfl <| og rfl rfl rfl (fun hc => (p_move (v := aS) rfl)) <| og rfl rfl rfl (fun hc => (p_move (v := aI) rfl)) ?_
    obtain ⟨x10, hx10, h11⟩ := bind_s h9
    refine og rfl rfl rfl (fun hc => (p_is ti9 (gx rfl hc) (gx rfl hc) (gd_some hx10 hc))) <| og rfl rfl rfl (fun hc => (p_gtr (gx rfl hc) rfl)) <| o_p rfl (p_pickz rfl rfl rfl (fun e => keq e)) <| mB rfl <| og rfl rfl rfl (fun hc => (p_move (v := aS) rfl)) <| og rfl rfl rfl (fun hc => (p_move (v := aI) rfl)) ?_
    obtain ⟨x12, hx12, h13⟩ := bind_s h11
    refine og rfl rfl rfl (fun hc => (p_is ti9 (gx rfl hc) (gx rfl hc) (gd_some hx12 hc))) <| og rfl rfl rfl (fun hc => (p_eql (gx rfl hc) rfl)) <| o_p rfl (p_pickz rfl rfl rfl (fun e => keq e)) <| mB rfl <| og rfl rfl rfl (fun hc => (p_move (v := aS) rfl)) <| og rfl rfl rfl (fun hc => (p_move (v := aI) rfl)) ?_
    obtain ⟨x14, hx14, h15⟩ := bind_s h13
    refine og rfl rfl rfl (fun hc => (p_is ti9 (gx rfl hc) (gx rfl hc) (gd_some hx14 hc))) <| og rfl rfl rfl (fun hc => (p_eql (gx rfl hc) rfl)) <| o_p rfl (p_pickz rfl rfl rfl (fun e => keq e)) <| o_ek (fr' := [(0, aS), (3, aI), (39, aB)]) rfl rfl <| w_ch h15 rfl (fun hb16 h16 => ?_) (fun hb16 h16 => ?_)
    ·
     refine w_sr <| sB rfl <| o_ek (fr' := [(2, aB)]) rfl rfl <| w_ret <| e_blk_r <| e_seq_r <| e_seq_r <| e_blk_r <| e_seq_r <| e_seq_r ?_
     have h17 := un_out h16 ho6
     have h18 := un_done h17 h4
     obtain rfl := sy h18
     exact e_ret (rs' := [.tmp 2]) rfl <| r_tmp (v := aB) rfl <| r_nil <| fin_gen [] rfl rfl rfl lr st_nil
    ·
     exact w_skip <| e_blk_n <| e_kw <| w_region <| mI rfl <| o_p rfl (p_add rfl rfl) <| sI rfl <| o_end (fr' := [(0, aS), (3, aI), (39, aB)]) rfl <| e_l _ (sy h16) (w_weak [] 0 rfl rfl rfl rfl ⟨lr, lr, trivial⟩ st_nil)
   ·
    refine w_exit <| e_seq_x <| e_seq_x <| e_blk_h ?_
    have h20 := un_out h7 ho6
    exact e_j _ (sy h20) (w_weak [] 0 rfl rfl rfl rfl trivial st_nil)
  ·
   intro j5 hj21
   have h21 := un_go hj21 h4
   refine e_kw <| w_sr <| sB rfl <| o_ek (fr' := [(2, aB)]) rfl rfl <| w_ret ?_
   obtain rfl := sy h21
   exact e_ret (rs' := [.tmp 2]) rfl <| r_tmp (v := aB) rfl <| r_nil <| fin_gen [] rfl rfl rfl lr st_nil
noncomputable def ref20xInput_l1 (p0v : ApiValue) (s8 : Int) : Option (Step Int (Fl Bool Unit)) :=
 (idx p0v.Items (1 : Int)).bind fun (x9 : ApiValue) => cond (decide (s8 < ((x9.Items).length : Int))) ((idx p0v.Items (1 : Int)).bind fun (x12 : ApiValue) => (idx x12.Items s8).bind fun (x14 : ApiValue) => (gd ((cond (!decide (x14.Kind = (4 : Int))) true (!decide (((x14.Items).length : Int) = (2 : Int)))) == false) (idx x14.Items (0 : Int))).bind fun (x16 : ApiValue) => (gd ((cond (cond (!decide (x14.Kind = (4 : Int))) true (!decide (((x14.Items).length : Int) = (2 : Int)))) true (!decide (x16.Kind = (3 : Int)))) == false) (idx x14.Items (0 : Int))).bind fun (x18 : ApiValue) => (gd ((cond (cond (!decide (x14.Kind = (4 : Int))) true (!decide (((x14.Items).length : Int) = (2 : Int)))) true (!decide (x16.Kind = (3 : Int)))) == false) (ref06xRight x18.Text)).bind fun (x20 : Bool) => cond (cond (cond (cond (!decide (x14.Kind = (4 : Int))) true (!decide (((x14.Items).length : Int) = (2 : Int)))) true (!decide (x16.Kind = (3 : Int)))) true (!x20)) (some (Step.out (Fl.done false))) (some (Step.next (IntKind.wrap .i64 (s8 + (1 : Int)))))) (some (Step.out (Fl.go ())))
noncomputable def ref20xInput (p0v : ApiValue) : Option Bool :=
 (gd ((cond (!decide (p0v.Kind = (4 : Int))) true (!decide (((p0v.Items).length : Int) = (2 : Int)))) == false) (idx p0v.Items (1 : Int))).bind fun (x1 : ApiValue) => cond (cond (cond (!decide (p0v.Kind = (4 : Int))) true (!decide (((p0v.Items).length : Int) = (2 : Int)))) true (!decide (x1.Kind = (4 : Int)))) (some false) (((loopO (ref20xInput_l1 p0v) ((0 : Int))) : Option (Fl Bool Unit)).bind fun (x5 : (Fl Bool Unit)) => Fl.next x5 (fun (j7 : Unit) => (some true)))
theorem w_ref20xInput {p0v : ApiValue} {res : Bool} (h : ref20xInput p0v = some res) : ACalls Try.prog 53 [.agg (AV.cs (exApiValue p0v))] [] (.c (.bool res)) [] := by
 unfold ref20xInput at h
 refine acalls (fn := Try.f53) [0, 1, 2, 3, 4, 21, 29, 65] (by kernel_rfl) Try.func53 rfl (by kernel_rfl) (by kernel_rfl) <| w_sr <| o_box (v := .agg aIISLL) (n := 0) (cs := aIISLL) (σ' := [aIISLL]) rfl rfl rfl rfl rfl <| sB rfl <| o_ek (fr' := [(1, .box 0 0)]) rfl rfl <| w_seqw <| w_sr <| o_p rfl (p_fa tf25x0 rfl) <| o_p rfl (p_load (v := aI) tv3 rfl rfl rfl) <| o_p rfl (p_neq rfl rfl) <| mB rfl ?_
 refine og rfl rfl rfl (fun hc => (p_fa tf25x3 rfl)) <| og rfl rfl rfl (fun hc => (p_load (v := aL) tv22 (gx rfl hc) rfl rfl)) <| og rfl rfl rfl (fun hc => (p_len ti22 (isl_c (gx rfl hc)))) <| og rfl rfl rfl (fun hc => (p_neq (gx rfl hc) rfl)) <| o_p rfl (p_pickz rfl rfl rfl (fun e => keq e)) <| mB rfl <| og rfl rfl rfl (fun hc => (p_fa tf25x3 rfl)) <| og rfl rfl rfl (fun hc => (p_load (v := aL) tv22 (gx rfl hc) rfl rfl)) ?_
 obtain ⟨x1, hx1, h2⟩ := bind_s h
 refine og rfl rfl rfl (fun hc => (p_ia (cs := [.int _ _, .int _ _, .str _, PV.ls _ _ _, PV.ls _ _ _]) ts22 (isl_c (gx rfl hc)) rfl (gd_some hx1 hc) (rowApiValue_eq _))) <| og rfl rfl rfl (fun hc => (p_fae tf25x0 (gx rfl hc))) <| og rfl rfl rfl (fun hc => (p_loade (p := .int _ _) tv3 (gx rfl hc) rfl)) <| og rfl rfl rfl (fun hc => (p_neq (gx rfl hc) rfl)) <| o_p rfl (p_pickz rfl rfl rfl (fun e => keq e)) <| o_ek (fr' := [(1, .box 0 0), (21, aB)]) rfl rfl <| w_ch h2 rfl (fun hb3 h3 => ?_) (fun hb3 h3 => ?_)
 ·
  refine w_sr <| sB rfl <| o_ek (fr' := [(2, aB)]) rfl rfl <| w_ret <| e_seq_r ?_
  obtain rfl := sy h3
  exact e_ret (rs' := [.tmp 2]) rfl <| r_tmp (v := aB) rfl <| r_nil <| fin_gen [] rfl rfl rfl lr st_nil
 ·
  refine w_skip <| e_kw <| w_seqw <| w_sr <| sI rfl <| o_ek (fr' := [(1, .box 0 0), (3, aI)]) rfl rfl ?_
  obtain ⟨x5, hx5, h6⟩ := bind_s h3
  refine w_jtail cl_kw (fun j7 => x5 = Fl.go j7) (fun (j7 : Unit) => ([] : Fr)) (fun (j7 : Unit) => ([[.c (.int .i64 p0v.Kind), .c (.int .i64 p0v.Int), .c (.str p0v.Text), .c (PV.ls 5 rowApiValue p0v.Items), .c (PV.ls 1 rowS p0v.Keys)]] : St)) ?_ ?_
  ·
   refine w_block <| w_loopo _ (fun (s8 : Int) => ([(1, .box 0 0), (3, .c (.int .i64 s8))] : Fr)) (fun (s8 : Int) => ([[.c (.int .i64 p0v.Kind), .c (.int .i64 p0v.Int), .c (.str p0v.Text), .c (PV.ls 5 rowApiValue p0v.Items), .c (PV.ls 1 rowS p0v.Keys)]] : St)) hx5 (w_weak [] 1 rfl rfl rfl rfl ⟨lr, lr, trivial⟩ (st_r rfl st_nil)) ?_
   intro s8 st8 hs8 ho8
   unfold ref20xInput_l1 at hs8
   refine w_seqw <| w_sr <| mI rfl <| o_p rfl (p_fa tf25x3 rfl) <| o_p rfl (p_load (v := aL) tv22 rfl rfl rfl) ?_
   obtain ⟨x9, hx9, h10⟩ := bind_s hs8
   refine o_p rfl (p_ia (cs := [.int _ _, .int _ _, .str _, PV.ls _ _ _, PV.ls _ _ _]) ts22 (isl_c rfl) rfl hx9 (rowApiValue_eq _)) <| o_p rfl (p_fae tf25x3 rfl) <| o_p rfl (p_loade (p := PV.ls _ _ _) tv22 rfl rfl) <| o_p rfl (p_len ti22 (isl_c rfl)) <| o_p rfl (p_lss rfl rfl) <| o_ek (fr' := [(1, .box 0 0), (3, aI), (29, aB)]) rfl rfl <| w_ch h10 rfl (fun hb11 h11 => ?_) (fun hb11 h11 => ?_)
   ·
    refine w_skip <| e_kw <| w_seqw <| w_block <| w_sr <| o_p rfl (p_fa tf25x3 rfl) <| o_p rfl (p_load (v := aL) tv22 rfl rfl rfl) ?_
    obtain ⟨x12, hx12, h13⟩ := bind_s h11
    refine o_p rfl (p_ia (cs := [.int _ _, .int _ _, .str _, PV.ls _ _ _, PV.ls _ _ _]) ts22 (isl_c rfl) rfl hx12 (rowApiValue_eq _)) <| o_p rfl (p_fae tf25x3 rfl) <| o_p rfl (p_loade (p := PV.ls _ _ _) tv22 rfl rfl) <| mI rfl ?_
    obtain ⟨x14, hx14, h15⟩ := bind_s h13
    refine o_p rfl (p_ia (cs := [.int _ _, .int _ _, .str _, PV.ls _ _ _, PV.ls _ _ _]) ts22 (isl_c rfl) rfl hx14 (rowApiValue_eq _)) <| o_p rfl (p_loades (us := [.int _ _, .int _ _, .str _, PV.ls _ _ _, PV.ls _ _ _]) tv25 rfl rfl rfl) <| o_alloc (n := 1) (cs := [aI, aI, aS, .nil, .nil]) (σ' := [aIISLL, [aI, aI, aS, .nil, .nil]]) tz25 rfl rfl rfl <| o_store (v := .agg aIISLL) (us := aIISLL) (cs := [aI, aI, aS, .nil, .nil]) (σ' := [aIISLL, aIISLL]) rfl tv25 rfl rfl rfl rfl rfl rfl rfl rfl <| o_ek (fr' := [(1, .box 0 0), (3, aI), (4, .box 1 0)]) rfl rfl <| w_sr <| o_p rfl (p_fa tf25x0 rfl) <| o_p rfl (p_load (v := aI) tv3 rfl rfl rfl) <| o_p rfl (p_neq rfl rfl) <| mB rfl <| og rfl rfl rfl (fun hc => (p_fa tf25x3 rfl)) <| og rfl rfl rfl (fun hc => (p_load (v := aL) tv22 (gx rfl hc) rfl rfl)) ?_
    refine og rfl rfl rfl (fun hc => (p_len ti22 (isl_c (gx rfl hc)))) <| og rfl rfl rfl (fun hc => (p_neq (gx rfl hc) rfl)) <| o_p rfl (p_pickz rfl rfl rfl (fun e => keq e)) <| mB rfl <| og rfl rfl rfl (fun hc => (p_fa tf25x3 rfl)) <| og rfl rfl rfl (fun hc => (p_load (v := aL) tv22 (gx rfl hc) rfl rfl)) ?_
    obtain ⟨x16, hx16, h17⟩ := bind_s h15
    refine og rfl rfl rfl (fun hc => (p_ia (cs := [.int _ _, .int _ _, .str _, PV.ls _ _ _, PV.ls _ _ _]) ts22 (isl_c (gx rfl hc)) rfl (gd_some hx16 hc) (rowApiValue_eq _))) <| og rfl rfl rfl (fun hc => (p_fae tf25x0 (gx rfl hc))) <| og rfl rfl rfl (fun hc => (p_loade (p := .int _ _) tv3 (gx rfl hc) rfl)) <| og rfl rfl rfl (fun hc => (p_neq (gx rfl hc) rfl)) <| o_p rfl (p_pickz rfl rfl rfl (fun e => keq e)) <| mB rfl <| og rfl rfl rfl (fun hc => (p_fa tf25x3 rfl)) <| og rfl rfl rfl (fun hc => (p_load (v := aL) tv22 (gx rfl hc) rfl rfl)) ?_
    obtain ⟨x18, hx18, h19⟩ := bind_s h17
    refine og rfl rfl rfl (fun hc => (p_ia (cs := [.int _ _, .int _ _, .str _, PV.ls _ _ _, PV.ls _ _ _]) ts22 (isl_c (gx rfl hc)) rfl (gd_some hx18 hc) (rowApiValue_eq _))) <| og rfl rfl rfl (fun hc => (p_fae tf25x2 (gx rfl hc))) <| og rfl rfl rfl (fun hc => (p_loade (p := .str _) tv9 (gx rfl hc) rfl)) ?_
    obtain ⟨x20, hx20, h21⟩ := bind_s h19
    refine o_g rfl rfl (fun hc => ov_call (v := aB) rfl (w_ref06xRight (gd_some hx20 hc)) ⟨(le_gv (gx rfl hc) lr), trivial⟩ (ok_eq (by repeat (first | exact ok_nil | refine ok_cons rfl ?_ | refine ok_cons (dgv rfl) ?_))) rfl rfl) ?_
    refine og rfl rfl rfl (fun hc => (p_not (gx rfl hc))) <| o_p rfl (p_pickz rfl rfl rfl (fun e => keq e)) <| o_ek (fr' := [(1, .box 0 0), (3, aI), (65, aB)]) rfl rfl <| w_ch h21 rfl (fun hb22 h22 => ?_) (fun hb22 h22 => ?_)
    ·
     refine w_sr <| sB rfl <| o_ek (fr' := [(2, aB)]) rfl rfl <| w_ret <| e_blk_r <| e_seq_r <| e_seq_r <| e_blk_r <| e_seq_r <| e_seq_r ?_
     have h23 := un_out h22 ho8
     have h24 := un_done h23 h6
     obtain rfl := sy h24
     exact e_ret (rs' := [.tmp 2]) rfl <| r_tmp (v := aB) rfl <| r_nil <| fin_gen [] rfl rfl rfl lr st_nil
    ·
     exact w_skip <| e_blk_n <| e_kw <| w_region <| mI rfl <| o_p rfl (p_add rfl rfl) <| sI rfl <| o_end (fr' := [(1, .box 0 0), (3, aI), (65, aB)]) rfl <| e_l _ (sy h22) (w_weak [] 1 rfl rfl rfl rfl ⟨lr, lr, trivial⟩ (st_r rfl st_nil))
   ·
    refine w_exit <| e_seq_x <| e_seq_x <| e_blk_h ?_
    have h26 := un_out h11 ho8
    exact e_j _ (sy h26) (w_weak [] 1 rfl rfl rfl rfl trivial (st_r rfl st_nil))
  ·
   intro j7 hj27
   have h27 := un_go hj27 h6
   refine e_kw <| w_sr <| sB rfl <| o_ek (fr' := [(2, aB)]) rfl rfl <| w_ret ?_
   obtain rfl := sy h27
   exact e_ret (rs' := [.tmp 2]) rfl <| r_tmp (v := aB) rfl <| r_nil <| fin_gen [] rfl rfl rfl lr st_nil
noncomputable def ref20xRight (p0C : ApiCommand) : Option Bool :=
 (ref20xin p0C.Kind (1 : Int) (14 : Int)).bind fun (x1 : Bool) => (gd ((!x1) == false) (ref20xbare p0C)).bind fun (x3 : ApiCommand) => (gd ((!x1) == false) (ref20xSame x3 (ApiCommand.mk p0C.Kind (0 : Int) ([] : List UInt8) ([] : List UInt8) (0 : Int) (ApiValue.mk (0 : Int) (0 : Int) ([] : List UInt8) ([] : (List ApiValue)) ([] : (List (List UInt8)))) (ApiPolicy.mk ([] : List UInt8) (0 : Int) (0 : Int) (0 : Int) (0 : Int) (0 : Int) (0 : Int) (0 : Int) (0 : Int) ([] : (List (List UInt8))))))).bind fun (x5 : Bool) => (gd ((cond (!x1) true (!x5)) == false) (ref02xRight p0C.Data)).bind fun (x7 : Bool) => cond (cond (cond (!x1) true (!x5)) true (!x7)) (some false) ((ref20xin p0C.Seq (1 : Int) (2000 : Int)).bind fun (x11 : Bool) => (ref06xRight p0C.Name).bind fun (x13 : Bool) => (ref20xIdent p0C.Key).bind fun (x15 : Bool) => cond (decide (p0C.Kind = (1 : Int))) ((gd ((cond x11 x13 false) == true) (ref20xRightPolicy p0C.Opts)).bind fun (x18 : Bool) => some (cond (cond x11 x13 false) x18 false)) (((cond (decide (p0C.Kind = (2 : Int))) (some (decide (p0C.Kind = (2 : Int)))) (some (decide (p0C.Kind = (4 : Int))))) : Option Bool).bind fun (x21 : Bool) => (cond x21 (some x11) (cond (decide (p0C.Kind = (3 : Int))) ((gd (x11 == true) (ref20xin p0C.N (1 : Int) (1099511627776 : Int))).bind fun (x29 : Bool) => some (cond x11 x29 false)) (cond (decide (p0C.Kind = (5 : Int))) ((gd ((cond (cond x11 x13 false) x15 false) == true) (ref20xin p0C.N (0 : Int) (2 : Int))).bind fun (x33 : Bool) => some (cond (cond (cond x11 x13 false) x15 false) x33 false)) (cond (decide (p0C.Kind = (6 : Int))) (some (cond (cond x11 x13 false) x15 false)) (cond (decide (p0C.Kind = (7 : Int))) ((gd ((x13 == true) && ((decide (p0C.N = (-1 : Int))) == false)) (ref20xin p0C.N (0 : Int) (2147483647 : Int))).bind fun (x39 : Bool) => some (cond x13 (cond (decide (p0C.N = (-1 : Int))) true (cond x39 (decide (p0C.Data.Kind = (0 : Int))) false)) false)) (cond (decide (p0C.Kind = (8 : Int))) (some (cond x15 x13 false)) (cond (decide (p0C.Kind = (9 : Int))) ((gd (x15 == true) (ref20xin p0C.N (0 : Int) (1 : Int))).bind fun (x45 : Bool) => some (cond x15 x45 false)) (cond (decide (p0C.Kind = (10 : Int))) (some (decide (p0C.Data.Kind = (5 : Int)))) (cond (decide (p0C.Kind = (12 : Int))) (some (decide (((p0C.Name).length : Int) ≤ (4096 : Int)))) (cond (decide (p0C.Kind = (14 : Int))) ((ref20xInput p0C.Data).bind fun (x53 : Bool) => some x53) (some true)))))))))))))
theorem w_ref20xRight {p0C : ApiCommand} {res : Bool} (h : ref20xRight p0C = some res) : ACalls Try.prog 13 [.agg (AV.cs (rowApiCommand p0C))] [] (.c (.bool res)) [] := by
 unfold ref20xRight at h
 refine acalls (fn := Try.f13) [0, 1, 2, 3, 4, 5, 24, 35, 36, 47, 51, 59, 73, 82, 101, 107, 115, 121, 127] (by kernel_rfl) Try.func13 rfl (by kernel_rfl) (by kernel_rfl) <| w_sr <| o_box (v := .agg aIISSIIISLLSIIIIIIIIL) (n := 0) (cs := aIISSIIISLLSIIIIIIIIL) (σ' := [aIISSIIISLLSIIIIIIIIL]) rfl rfl rfl rfl rfl <| sB rfl <| o_ek (fr' := [(1, .box 0 0)]) rfl rfl <| w_seqw <| w_seqw <| w_planT [.q 0, .q 1, .q 2, .q 3, .q 4, .q 5, .q 6, .q 7, .q 8, .q 9, .q 10, .q 11, .q 12, .q 13, .q 14, .q 15, .q 16, .q 17, .q 18] [(some 6, [1]), (some 7, [6]), (some 8, [7]), (some 9, [8]), (some 10, [9]), (some 11, [1, 10]), (some 12, [11, 10]), (some 13, [1, 10]), (some 14, [13, 10]), (some 15, [14, 10]), (some 16, [12, 15, 10]), (some 17, [16, 10]), (some 18, [10, 17]), (some 19, [18]), (some 20, [1, 19]), (some 21, [20, 19]), (some 22, [21, 19]), (some 23, [22, 19]), (some 24, [19, 23])] [0, 1, 3, 7, 15, 31, 63, 31, 159, 415, 1023, 2047, 4095, 8191, 16383, 32767, 65535, 131071, 262143] (by kernel_rfl) <| dq rfl rfl (p_fa tf29x0 rfl) <| dq rfl rfl (p_load (v := aI) tv3 rfl rfl rfl) ?_
 obtain ⟨x1, hx1, h2⟩ := bind_s h
 refine d_q rfl (qv_call (v := aB) rfl (w_ref20xin hx1) ⟨lr, lr, lr, trivial⟩ rfl) <| dq rfl rfl (p_not rfl) <| dq rfl rfl (p_move (v := aB) rfl) <| d_g rfl rfl rfl (fun hc => qv_p rfl (p_loads (us := aIISSIIISLLSIIIIIIIIL) tv29 rfl rfl rfl rfl)) ?_
 obtain ⟨x3, hx3, h4⟩ := bind_s h2
 refine d_g rfl rfl rfl (fun hc => qv_call (v := .agg aIISSIIISLLSIIIIIIIIL) rfl (w_ref20xbare (gd_some hx3 hc)) ⟨(le_gv (gx rfl hc) (le_aggc rfl ⟨rfl, rfl, rfl, rfl, rfl, rfl, rfl, rfl, rfl, rfl, rfl, rfl, rfl, rfl, rfl, rfl, rfl, rfl, rfl, rfl, trivial⟩)), trivial⟩ rfl) <| d_g rfl rfl rfl (fun hc => qv_p rfl (p_fa tf29x0 rfl)) <| d_g rfl rfl rfl (fun hc => qv_p rfl (p_load (v := aI) tv3 (gx rfl hc) rfl rfl)) <| d_g rfl rfl rfl (fun hc => qv_p rfl (p_buildc (c0 := [aI, aI, aS, aS, aI, aI, aI, aS, .nil, .nil, aS, aI, aI, aI, aI, aI, aI, aI, aI, .nil]) (cs := [aI, aI, aS, aS, aI, aI, aI, aS, .nil, .nil, aS, aI, aI, aI, aI, aI, aI, aI, aI, .nil]) tb29 rfl (fill_cons (v := aI) (us := [_]) (cs' := u20) rfl (gx rfl hc) rfl rfl rfl rfl fill_nil))) ?_
 obtain ⟨x5, hx5, h6⟩ := bind_s h4
 refine d_g rfl rfl rfl (fun hc => qv_call (v := aB) rfl (w_ref20xSame (gd_some hx5 hc)) ⟨(le_gv (gx rfl hc) (le_aggc rfl ⟨rfl, rfl, rfl, rfl, rfl, rfl, rfl, rfl, rfl, rfl, rfl, rfl, rfl, rfl, rfl, rfl, rfl, rfl, rfl, rfl, trivial⟩)), (le_gv (gx rfl hc) (le_aggc rfl ⟨rfl, rfl, rfl, rfl, rfl, rfl, rfl, rfl, ⟨_, rfl⟩, ⟨_, rfl⟩, rfl, rfl, rfl, rfl, rfl, rfl, rfl, rfl, rfl, ⟨_, rfl⟩, trivial⟩)), trivial⟩ rfl) <| d_g rfl rfl rfl (fun hc => qv_p rfl (p_not (gx rfl hc))) <| dq rfl rfl (p_pickz rfl rfl rfl (fun e => keq e)) <| dq rfl rfl (p_move (v := aB) rfl) <| d_g rfl rfl rfl (fun hc => qv_p rfl (p_fa tf29x5 rfl)) <| d_g rfl rfl rfl (fun hc => qv_p rfl (p_loads (us := aIISLL) tv25 (gx rfl hc) rfl rfl rfl)) ?_
 obtain ⟨x7, hx7, h8⟩ := bind_s h6
 refine d_g rfl rfl rfl (fun hc => qv_call (v := aB) rfl (w_ref02xRight (gd_some hx7 hc)) ⟨(le_gv (gx rfl hc) (le_aggc rfl ⟨rfl, rfl, rfl, rfl, rfl, trivial⟩)), trivial⟩ rfl) <| d_g rfl rfl rfl (fun hc => qv_p rfl (p_not (gx rfl hc))) <| dq rfl rfl (p_pickz rfl rfl rfl (fun e => keq e)) <| d_ek (fr' := [(1, .box 0 0), (24, aB)]) rfl rfl <| w_ch h8 rfl (fun hb9 h9 => ?_) (fun hb9 h9 => ?_)
 ·
  refine w_sr <| sB rfl <| o_ek (fr' := [(2, aB)]) rfl rfl <| w_ret <| e_seq_r ?_
  obtain rfl := sy h9
  exact e_ret (rs' := [.tmp 2]) rfl <| r_tmp (v := aB) rfl <| r_nil <| fin_gen [] rfl rfl rfl lr st_nil
 ·
  refine w_skip <| e_kw <| w_sr <| o_p rfl (p_fa tf29x1 rfl) <| o_p rfl (p_load (v := aI) tv3 rfl rfl rfl) ?_
  obtain ⟨x11, hx11, h12⟩ := bind_s h9
  refine o_v (ov_call (v := aB) rfl (w_ref20xin hx11) ⟨lr, lr, lr, trivial⟩ rfl rfl rfl) <| sB rfl <| o_ek (fr' := [(1, .box 0 0), (3, aB)]) rfl rfl <| w_sr <| o_p rfl (p_fa tf29x2 rfl) <| o_p rfl (p_load (v := aS) tv9 rfl rfl rfl) ?_
  obtain ⟨x13, hx13, h14⟩ := bind_s h12
  refine o_v (ov_call (v := aB) rfl (w_ref06xRight hx13) ⟨lr, trivial⟩ rfl rfl rfl) <| sB rfl <| o_ek (fr' := [(1, .box 0 0), (3, aB), (4, aB)]) rfl rfl <| w_sr <| o_p rfl (p_fa tf29x3 rfl) <| o_p rfl (p_load (v := aS) tv9 rfl rfl rfl) ?_
  obtain ⟨x15, hx15, h16⟩ := bind_s h14
  refine o_v (ov_call (v := aB) rfl (w_ref20xIdent hx15) ⟨lr, trivial⟩ rfl rfl rfl) <| sB rfl <| o_ek (fr' := [(1, .box 0 0), (3, aB), (4, aB), (5, aB)]) rfl rfl <| w_seqw <| w_sr <| o_p rfl (p_fa tf29x0 rfl) <| o_p rfl (p_load (v := aI) tv3 rfl rfl rfl) <| o_ek (fr' := [(1, .box 0 0), (3, aB), (4, aB), (5, aB), (35, aI)]) rfl rfl <| w_block <| w_sr <| o_p rfl (p_eql rfl rfl) ?_
  refine sB rfl <| o_ek (fr' := [(1, .box 0 0), (3, aB), (4, aB), (5, aB), (35, aI), (36, aB)]) rfl rfl <| w_ch h16 rfl (fun hb17 h17 => ?_) (fun hb17 h17 => ?_)
  ·
   refine w_sr <| mB rfl <| mB rfl <| og rfl rfl rfl (fun hc => (p_move (v := aB) rfl)) <| o_p rfl (p_picky rfl rfl rfl (fun e => keq e)) <| mB rfl <| og rfl rfl rfl (fun hc => (p_fa tf29x6 rfl)) <| og rfl rfl rfl (fun hc => (p_loads (us := aSIIIIIIIIL) tv27 (gx rfl hc) rfl rfl rfl)) ?_
   obtain ⟨x18, hx18, h19⟩ := bind_s h17
   refine o_g rfl rfl (fun hc => ov_call (v := aB) rfl (w_ref20xRightPolicy (gd_some hx18 hc)) ⟨(le_gv (gx rfl hc) (le_aggc rfl ⟨rfl, rfl, rfl, rfl, rfl, rfl, rfl, rfl, rfl, rfl, trivial⟩)), trivial⟩ (ok_eq (by repeat (first | exact ok_nil | refine ok_cons rfl ?_ | refine ok_cons (dgv rfl) ?_))) rfl rfl) ?_
   refine o_p rfl (p_picky rfl rfl rfl (fun e => keq e)) <| sB rfl <| o_ek (fr' := [(2, aB)]) rfl rfl <| w_ret <| e_blk_r <| e_seq_r ?_
   obtain rfl := sy h19
   exact e_ret (rs' := [.tmp 2]) rfl <| r_tmp (v := aB) rfl <| r_nil <| fin_gen [] rfl rfl rfl lr st_nil
  ·
   obtain ⟨x21, hx21, h22⟩ := bind_s h17
   refine w_join (fun j23 => x21 = j23) (fun (j23 : Bool) => ([(1, .box 0 0), (3, .c (.bool x11)), (4, .c (.bool x13)), (5, .c (.bool x15)), (35, .c (.int .i64 p0C.Kind)), (47, .c (.bool j23))] : Fr)) (fun (j23 : Bool) => ([[.c (.int .i64 p0C.Kind), .c (.int .i64 p0C.Seq), .c (.str p0C.Name), .c (.str p0C.Key), .c (.int .i64 p0C.N), .c (.int .i64 p0C.Data.Kind), .c (.int .i64 p0C.Data.Int), .c (.str p0C.Data.Text), .c (PV.ls 5 rowApiValue p0C.Data.Items), .c (PV.ls 1 rowS p0C.Data.Keys), .c (.str p0C.Opts.Queue), .c (.int .i64 p0C.Opts.ToStart), .c (.int .i64 p0C.Opts.ToClose), .c (.int .i64 p0C.Opts.Total), .c (.int .i64 p0C.Opts.Beat), .c (.int .i64 p0C.Opts.First), .c (.int .i64 p0C.Opts.Coef), .c (.int .i64 p0C.Opts.Most), .c (.int .i64 p0C.Opts.Attempts), .c (PV.ls 1 rowS p0C.Opts.Fatal)]] : St)) ?_ ?_
   ·
    refine w_sr <| o_p rfl (p_eql rfl rfl) <| sB rfl <| o_ek (fr' := [(1, .box 0 0), (3, aB), (4, aB), (5, aB), (35, aI), (47, aB)]) rfl rfl <| w_ch hx21 rfl (fun hb24 h24 => ?_) (fun hb24 h24 => ?_)
    ·
     exact w_skip <| e_j _ (sy h24) (w_weak [] 1 rfl rfl rfl rfl ⟨lr, lr, lr, lr, lr, lr, trivial⟩ (st_r rfl st_nil))
    ·
     exact w_region <| o_p rfl (p_eql rfl rfl) <| sB rfl <| o_end (fr' := [(1, .box 0 0), (3, aB), (4, aB), (5, aB), (35, aI), (47, aB)]) rfl <| e_j _ (sy h24) (w_weak [] 1 rfl rfl rfl rfl ⟨lr, lr, lr, lr, lr, lr, trivial⟩ (st_r rfl st_nil))
   ·
    intro j23 hj25
    subst hj25
    refine w_ch h22 rfl (fun hb26 h26 => ?_) (fun hb26 h26 => ?_)
    ·
     refine w_sr <| mB rfl <| sB rfl <| o_ek (fr' := [(2, aB)]) rfl rfl <| w_ret <| e_blk_r <| e_seq_r ?_
     obtain rfl := sy h26
     exact e_ret (rs' := [.tmp 2]) rfl <| r_tmp (v := aB) rfl <| r_nil <| fin_gen [] rfl rfl rfl lr st_nil
    ·
     refine w_sr <| o_p rfl (p_eql rfl rfl) <| sB rfl <| o_ek (fr' := [(1, .box 0 0), (3, aB), (4, aB), (5, aB), (35, aI), (51, aB)]) rfl rfl <| w_ch h26 rfl (fun hb28 h28 => ?_) (fun hb28 h28 => ?_)
     ·
      refine w_sr <| mB rfl <| mB rfl <| og rfl rfl rfl (fun hc => (p_fa tf29x4 rfl)) <| og rfl rfl rfl (fun hc => (p_load (v := aI) tv3 (gx rfl hc) rfl rfl)) ?_
      obtain ⟨x29, hx29, h30⟩ := bind_s h28
      refine o_g rfl rfl (fun hc => ov_call (v := aB) rfl (w_ref20xin (gd_some hx29 hc)) ⟨(le_gv (gx rfl hc) lr), lr, lr, trivial⟩ (ok_eq (by repeat (first | exact ok_nil | refine ok_cons rfl ?_ | refine ok_cons (dgv rfl) ?_))) rfl rfl) ?_
      refine o_p rfl (p_picky rfl rfl rfl (fun e => keq e)) <| sB rfl <| o_ek (fr' := [(2, aB)]) rfl rfl <| w_ret <| e_blk_r <| e_seq_r ?_
      obtain rfl := sy h30
      exact e_ret (rs' := [.tmp 2]) rfl <| r_tmp (v := aB) rfl <| r_nil <| fin_gen [] rfl rfl rfl lr st_nil
     ·
      refine w_sr <| o_p rfl (p_eql rfl rfl) <| sB rfl <| o_ek (fr' := [(1, .box 0 0), (3, aB), (4, aB), (5, aB), (35, aI), (59, aB)]) rfl rfl <| w_ch h28 rfl (fun hb32 h32 => ?_) (fun hb32 h32 => ?_)
      ·
       refine w_sr <| mB rfl <| mB rfl <| og rfl rfl rfl (fun hc => (p_move (v := aB) rfl)) <| o_p rfl (p_picky rfl rfl rfl (fun e => keq e)) <| mB rfl <| og rfl rfl rfl (fun hc => (p_move (v := aB) rfl)) <| o_p rfl (p_picky rfl rfl rfl (fun e => keq e)) <| mB rfl <| og rfl rfl rfl (fun hc => (p_fa tf29x4 rfl)) <| og rfl rfl rfl (fun hc => (p_load (v := aI) tv3 (gx rfl hc) rfl rfl)) ?_
       obtain ⟨x33, hx33, h34⟩ := bind_s h32
       refine o_g rfl rfl (fun hc => ov_call (v := aB) rfl (w_ref20xin (gd_some hx33 hc)) ⟨(le_gv (gx rfl hc) lr), lr, lr, trivial⟩ (ok_eq (by repeat (first | exact ok_nil | refine ok_cons rfl ?_ | refine ok_cons (dgv rfl) ?_))) rfl rfl) ?_
       refine o_p rfl (p_picky rfl rfl rfl (fun e => keq e)) <| sB rfl <| o_ek (fr' := [(2, aB)]) rfl rfl <| w_ret <| e_blk_r <| e_seq_r ?_
       obtain rfl := sy h34
       exact e_ret (rs' := [.tmp 2]) rfl <| r_tmp (v := aB) rfl <| r_nil <| fin_gen [] rfl rfl rfl lr st_nil
      ·
       refine w_sr <| o_p rfl (p_eql rfl rfl) <| sB rfl <| o_ek (fr' := [(1, .box 0 0), (3, aB), (4, aB), (5, aB), (35, aI), (73, aB)]) rfl rfl <| w_ch h32 rfl (fun hb36 h36 => ?_) (fun hb36 h36 => ?_)
       ·
        refine w_sr <| mB rfl <| mB rfl <| og rfl rfl rfl (fun hc => (p_move (v := aB) rfl)) <| o_p rfl (p_picky rfl rfl rfl (fun e => keq e)) <| mB rfl <| og rfl rfl rfl (fun hc => (p_move (v := aB) rfl)) <| o_p rfl (p_picky rfl rfl rfl (fun e => keq e)) <| sB rfl <| o_ek (fr' := [(2, aB)]) rfl rfl <| w_ret <| e_blk_r ?_
        refine e_seq_r ?_
        obtain rfl := sy h36
        exact e_ret (rs' := [.tmp 2]) rfl <| r_tmp (v := aB) rfl <| r_nil <| fin_gen [] rfl rfl rfl lr st_nil
       ·
        refine w_sr <| o_p rfl (p_eql rfl rfl) <| sB rfl <| o_ek (fr' := [(1, .box 0 0), (4, aB), (5, aB), (35, aI), (82, aB)]) rfl rfl <| w_ch h36 rfl (fun hb38 h38 => ?_) (fun hb38 h38 => ?_)
        ·
         refine w_sr <| mB rfl <| mB rfl <| og rfl rfl rfl (fun hc => (p_fa tf29x4 rfl)) <| og rfl rfl rfl (fun hc => (p_load (v := aI) tv3 (gx rfl hc) rfl rfl)) <| og rfl rfl rfl (fun hc => (p_eql (gx rfl hc) rfl)) <| og rfl rfl rfl (fun hc => (p_move (v := aB) (gx rfl hc))) <| o_gg rfl rfl (fun hc => ov_p rfl (p_fa tf29x4 rfl)) <| o_gg rfl rfl (fun hc => ov_p rfl (p_load (v := aI) tv3 (gx rfl hc) rfl rfl)) ?_
         obtain ⟨x39, hx39, h40⟩ := bind_s h38
         refine o_gg rfl rfl (fun hc => ov_call (v := aB) rfl (w_ref20xin (gd_some hx39 hc)) ⟨(le_gv (gx rfl hc) lr), lr, lr, trivial⟩ (ok_eq (by repeat (first | exact ok_nil | refine ok_cons rfl ?_ | refine ok_cons (dgv rfl) ?_))) rfl rfl) ?_
         refine o_gg rfl rfl (fun hc => ov_p rfl (p_move (v := aB) (gx rfl hc))) <| o_gg rfl rfl (fun hc => ov_p rfl (p_fa tf29x5 rfl)) <| o_gg rfl rfl (fun hc => ov_p rfl (p_fa tf25x0 (gx rfl hc))) <| o_gg rfl rfl (fun hc => ov_p rfl (p_load (v := aI) tv3 (gx rfl hc) rfl rfl)) <| o_gg rfl rfl (fun hc => ov_p rfl (p_eql (gx rfl hc) rfl)) <| o_gg rfl rfl (fun hc => ov_p rfl (p_picky (gx rfl hc) rfl rfl (fun e => band hc (keq e)))) <| og rfl rfl rfl (fun hc => (p_pickz (gx rfl hc) rfl rfl (fun e => band hc (keq e)))) <| o_p rfl (p_picky rfl rfl rfl (fun e => keq e)) <| sB rfl <| o_ek (fr' := [(2, aB)]) rfl rfl <| w_ret <| e_blk_r <| e_seq_r ?_
         obtain rfl := sy h40
         exact e_ret (rs' := [.tmp 2]) rfl <| r_tmp (v := aB) rfl <| r_nil <| fin_gen [] rfl rfl rfl lr st_nil
        ·
         refine w_sr <| o_p rfl (p_eql rfl rfl) <| sB rfl <| o_ek (fr' := [(1, .box 0 0), (4, aB), (5, aB), (35, aI), (101, aB)]) rfl rfl <| w_ch h38 rfl (fun hb42 h42 => ?_) (fun hb42 h42 => ?_)
         ·
          refine w_sr <| mB rfl <| mB rfl <| og rfl rfl rfl (fun hc => (p_move (v := aB) rfl)) <| o_p rfl (p_picky rfl rfl rfl (fun e => keq e)) <| sB rfl <| o_ek (fr' := [(2, aB)]) rfl rfl <| w_ret <| e_blk_r <| e_seq_r ?_
          obtain rfl := sy h42
          exact e_ret (rs' := [.tmp 2]) rfl <| r_tmp (v := aB) rfl <| r_nil <| fin_gen [] rfl rfl rfl lr st_nil
         ·
          refine w_sr <| o_p rfl (p_eql rfl rfl) <| sB rfl <| o_ek (fr' := [(1, .box 0 0), (5, aB), (35, aI), (107, aB)]) rfl rfl <| w_ch h42 rfl (fun hb44 h44 => ?_) (fun hb44 h44 => ?_)
          ·
           refine w_sr <| mB rfl <| mB rfl <| og rfl rfl rfl (fun hc => (p_fa tf29x4 rfl)) <| og rfl rfl rfl (fun hc => (p_load (v := aI) tv3 (gx rfl hc) rfl rfl)) ?_
           obtain ⟨x45, hx45, h46⟩ := bind_s h44
           refine o_g rfl rfl (fun hc => ov_call (v := aB) rfl (w_ref20xin (gd_some hx45 hc)) ⟨(le_gv (gx rfl hc) lr), lr, lr, trivial⟩ (ok_eq (by repeat (first | exact ok_nil | refine ok_cons rfl ?_ | refine ok_cons (dgv rfl) ?_))) rfl rfl) ?_
           refine o_p rfl (p_picky rfl rfl rfl (fun e => keq e)) <| sB rfl <| o_ek (fr' := [(2, aB)]) rfl rfl <| w_ret <| e_blk_r <| e_seq_r ?_
           obtain rfl := sy h46
           exact e_ret (rs' := [.tmp 2]) rfl <| r_tmp (v := aB) rfl <| r_nil <| fin_gen [] rfl rfl rfl lr st_nil
          ·
           refine w_sr <| o_p rfl (p_eql rfl rfl) <| sB rfl <| o_ek (fr' := [(1, .box 0 0), (35, aI), (115, aB)]) rfl rfl <| w_ch h44 rfl (fun hb48 h48 => ?_) (fun hb48 h48 => ?_)
           ·
            refine w_sr <| o_p rfl (p_fa tf29x5 rfl) <| o_p rfl (p_fa tf25x0 rfl) <| o_p rfl (p_load (v := aI) tv3 rfl rfl rfl) <| o_p rfl (p_eql rfl rfl) <| sB rfl <| o_ek (fr' := [(2, aB)]) rfl rfl <| w_ret <| e_blk_r <| e_seq_r ?_
            obtain rfl := sy h48
            exact e_ret (rs' := [.tmp 2]) rfl <| r_tmp (v := aB) rfl <| r_nil <| fin_gen [] rfl rfl rfl lr st_nil
           ·
            refine w_sr <| o_p rfl (p_eql rfl rfl) <| sB rfl <| o_ek (fr' := [(1, .box 0 0), (35, aI), (121, aB)]) rfl rfl <| w_ch h48 rfl (fun hb50 h50 => ?_) (fun hb50 h50 => ?_)
            ·
             refine w_sr <| o_p rfl (p_fa tf29x2 rfl) <| o_p rfl (p_load (v := aS) tv9 rfl rfl rfl) <| o_p rfl (p_lens ti9 rfl) <| o_p rfl (p_leq rfl rfl) <| sB rfl <| o_ek (fr' := [(2, aB)]) rfl rfl <| w_ret <| e_blk_r <| e_seq_r ?_
             obtain rfl := sy h50
             exact e_ret (rs' := [.tmp 2]) rfl <| r_tmp (v := aB) rfl <| r_nil <| fin_gen [] rfl rfl rfl lr st_nil
            ·
             refine w_sr <| o_p rfl (p_eql rfl rfl) <| sB rfl <| o_ek (fr' := [(1, .box 0 0), (127, aB)]) rfl rfl <| w_ch h50 rfl (fun hb52 h52 => ?_) (fun hb52 h52 => ?_)
             ·
              refine w_sr <| o_p rfl (p_fa tf29x5 rfl) <| o_p rfl (p_loads (us := aIISLL) tv25 rfl rfl rfl rfl) ?_
              obtain ⟨x53, hx53, h54⟩ := bind_s h52
              refine o_v (ov_call (v := aB) rfl (w_ref20xInput hx53) ⟨(le_aggc rfl ⟨rfl, rfl, rfl, rfl, rfl, trivial⟩), trivial⟩ rfl rfl rfl) <| sB rfl <| o_ek (fr' := [(2, aB)]) rfl rfl <| w_ret <| e_blk_r <| e_seq_r ?_
              obtain rfl := sy h54
              exact e_ret (rs' := [.tmp 2]) rfl <| r_tmp (v := aB) rfl <| r_nil <| fin_gen [] rfl rfl rfl lr st_nil
             ·
              refine w_skip <| e_blk_n <| e_kw <| w_sr <| sB rfl <| o_ek (fr' := [(2, aB)]) rfl rfl <| w_ret ?_
              obtain rfl := sy h52
              exact e_ret (rs' := [.tmp 2]) rfl <| r_tmp (v := aB) rfl <| r_nil <| fin_gen [] rfl rfl rfl lr st_nil
noncomputable def ref01xReader_Err (p100v : Ref01Reader) : Option Int :=
 cond (!p100v.Made) (some (1 : Int)) (some p100v.Bad)
theorem w_ref01xReader_Err {p100v : Ref01Reader} {res : Int} (h : ref01xReader_Err p100v = some res) : ACalls Try.prog 28 [.box 0 0] [AV.cs (rowRef01Reader p100v)] (.c (.int .i64 res)) [AV.cs (rowRef01Reader p100v)] := by
 unfold ref01xReader_Err at h
 refine acalls (fn := Try.f28) [0, 2, 11] (by kernel_rfl) Try.func28 rfl (by kernel_rfl) (by kernel_rfl) <| w_sr <| sI rfl <| o_ek (fr' := [(0, .box 0 0)]) rfl rfl <| w_seqw <| w_sr <| mV (v := .box 0 0) rfl <| o_p rfl (p_peql ti43 rfl rfl) <| mB rfl <| o_yes rfl rfl rfl <| mV (v := .box 0 0) rfl ?_
 refine o_yes rfl rfl rfl <| o_p rfl (p_nc rfl) <| o_yes rfl rfl rfl <| o_p rfl (p_fa tf80x0 rfl) <| o_yes rfl rfl rfl <| o_p rfl (p_load (v := aB) tv4 rfl rfl rfl) <| o_yes rfl rfl rfl <| o_p rfl (p_not rfl) <| o_p rfl (p_pick_f rfl rfl rfl) <| o_ek (fr' := [(0, .box 0 0), (11, aB)]) rfl rfl <| w_ch h rfl (fun hb1 h1 => ?_) (fun hb1 h1 => ?_)
 ·
  refine w_sr <| sI rfl <| o_ek (fr' := [(2, aI)]) rfl rfl <| w_ret <| e_seq_r ?_
  obtain rfl := sy h1
  exact e_ret (rs' := [.tmp 2]) rfl <| r_tmp (v := aI) rfl <| r_nil <| fin_gen [] rfl rfl rfl lr (st_r rfl st_nil)
 ·
  refine w_skip <| e_kw <| w_sr <| mV (v := .box 0 0) rfl <| o_p rfl (p_nc rfl) <| o_p rfl (p_fa tf80x2 rfl) <| o_p rfl (p_load (v := aI) tv34 rfl rfl rfl) <| sI rfl <| o_ek (fr' := [(2, aI)]) rfl rfl <| w_ret ?_
  obtain rfl := sy h1
  exact e_ret (rs' := [.tmp 2]) rfl <| r_tmp (v := aI) rfl <| r_nil <| fin_gen [] rfl rfl rfl lr (st_r rfl st_nil)
noncomputable def ref01xReader_count_l1 (p100v : Ref01Reader) (s4 : Int) : Option (Step Int (Fl (Int × Int) Unit)) :=
 cond (decide (s4 ≤ (10 : Int))) (cond (decide (((p100v.Rest).length : Int) < s4)) (some (Step.out (Fl.done ((0 : Int), (4 : Int))))) ((idx p100v.Rest (IntKind.wrap .i64 (s4 - (1 : Int)))).bind fun (x10 : UInt8) => cond (decide (((x10).toNat : Int) < (128 : Int))) (cond (cond (cond (decide ((1 : Int) < s4)) (decide (((x10).toNat : Int) = (0 : Int))) false) true (cond (decide (s4 = (10 : Int))) (decide ((1 : Int) < ((x10).toNat : Int))) false)) (some (Step.out (Fl.done ((0 : Int), (3 : Int))))) (some (Step.out (Fl.done (s4, (0 : Int)))))) (some (Step.next (IntKind.wrap .i64 (s4 + (1 : Int))))))) (some (Step.out (Fl.go ())))
noncomputable def ref01xReader_count (p100v : Ref01Reader) : Option (Int × Int) :=
 ((loopO (ref01xReader_count_l1 p100v) ((1 : Int))) : Option (Fl (Int × Int) Unit)).bind fun (x1 : (Fl (Int × Int) Unit)) => Fl.next x1 (fun (j3 : Unit) => (some ((0 : Int), (3 : Int))))
theorem w_ref01xReader_count {p100v : Ref01Reader} {res : (Int × Int)} (h : ref01xReader_count p100v = some res) : ACalls Try.prog 115 [.box 0 0] [AV.cs (rowRef01Reader p100v)] (.tup [.c (.int .i64 res.1), .c (.int .i64 res.2)]) [AV.cs (rowRef01Reader p100v)] := by
 unfold ref01xReader_count at h
 refine acalls (fn := Try.f115) [0, 2, 3, 4, 5, 7, 16, 26, 40] (by kernel_rfl) Try.func115 rfl (by kernel_rfl) (by kernel_rfl) <| w_sr <| sI rfl <| sI rfl <| o_ek (fr' := [(0, .box 0 0)]) rfl rfl <| w_seqw <| w_sr <| sI rfl <| o_ek (fr' := [(0, .box 0 0), (4, aI)]) rfl rfl ?_
 obtain ⟨x1, hx1, h2⟩ := bind_s h
 refine w_jtail cl_kw (fun j3 => x1 = Fl.go j3) (fun (j3 : Unit) => ([] : Fr)) (fun (j3 : Unit) => ([[.c (.bool p100v.Made), .c (PV.ls 1 brow p100v.Rest), .c (.int .i64 p100v.Bad)]] : St)) ?_ ?_
 ·
  refine w_block <| w_loopo _ (fun (s4 : Int) => ([(0, .box 0 0), (4, .c (.int .i64 s4))] : Fr)) (fun (s4 : Int) => ([[.c (.bool p100v.Made), .c (PV.ls 1 brow p100v.Rest), .c (.int .i64 p100v.Bad)]] : St)) hx1 (w_weak [] 1 rfl rfl rfl rfl ⟨lr, lr, trivial⟩ (st_r rfl st_nil)) ?_
  intro s4 st4 hs4 ho4
  unfold ref01xReader_count_l1 at hs4
  refine w_seqw <| w_sr <| mI rfl <| o_p rfl (p_leq rfl rfl) <| o_ek (fr' := [(0, .box 0 0), (4, aI), (7, aB)]) rfl rfl <| w_ch hs4 rfl (fun hb5 h5 => ?_) (fun hb5 h5 => ?_)
  ·
   refine w_skip <| e_kw <| w_seqw <| w_block <| w_seqw <| w_sr <| mI rfl <| mV (v := .box 0 0) rfl <| o_p rfl (p_nc rfl) <| o_p rfl (p_fa tf80x1 rfl) <| o_p rfl (p_load (v := aL) tv40 rfl rfl rfl) <| o_p rfl (p_len ti40 (isl_c rfl)) ?_
   refine o_p rfl (p_gtr rfl rfl) <| o_ek (fr' := [(0, .box 0 0), (4, aI), (16, aB)]) rfl rfl <| w_ch h5 rfl (fun hb6 h6 => ?_) (fun hb6 h6 => ?_)
   ·
    refine w_sr <| sI rfl <| sI rfl <| o_ek (fr' := [(2, aI), (3, aI)]) rfl rfl <| w_ret <| e_seq_r <| e_blk_r <| e_seq_r <| e_seq_r <| e_blk_r <| e_seq_r <| e_seq_r ?_
    have h7 := un_out h6 ho4
    have h8 := un_done h7 h2
    obtain rfl := sy h8
    exact e_ret (rs' := [.tmp 2, .tmp 3]) rfl <| r_tmp (v := aI) rfl <| r_tmp (v := aI) rfl <| r_nil <| fin_gen [] rfl rfl rfl (le_tupp rfl ⟨lr, lr, trivial⟩) (st_r rfl st_nil)
   ·
    refine w_skip <| e_kw <| w_sr <| mV (v := .box 0 0) rfl <| o_p rfl (p_nc rfl) <| o_p rfl (p_fa tf80x1 rfl) <| o_p rfl (p_load (v := aL) tv40 rfl rfl rfl) <| mI rfl <| o_p rfl (p_sub rfl rfl) ?_
    obtain ⟨x10, hx10, h11⟩ := bind_s h6
    refine o_p rfl (p_ia (cs := [.int _ _]) ts40 (isl_c rfl) rfl hx10 rfl) <| o_p rfl (p_loade (p := .int _ _) tv5 rfl rfl) <| sI rfl <| o_ek (fr' := [(0, .box 0 0), (4, aI), (5, aI)]) rfl rfl <| w_sr <| mI rfl <| o_p rfl (p_lss rfl rfl) <| o_ek (fr' := [(0, .box 0 0), (4, aI), (5, aI), (26, aB)]) rfl rfl <| w_ch h11 rfl (fun hb12 h12 => ?_) (fun hb12 h12 => ?_)
    ·
     refine w_seqw <| w_sr <| mI rfl <| o_p rfl (p_gtr rfl rfl) <| mB rfl <| og rfl rfl rfl (fun hc => (p_move (v := aI) rfl)) <| og rfl rfl rfl (fun hc => (p_eql (gx rfl hc) rfl)) <| o_p rfl (p_picky rfl rfl rfl (fun e => keq e)) <| mB rfl <| og rfl rfl rfl (fun hc => (p_move (v := aI) rfl)) <| og rfl rfl rfl (fun hc => (p_eql (gx rfl hc) rfl)) <| og rfl rfl rfl (fun hc => (p_move (v := aB) (gx rfl hc))) ?_
     refine o_gg rfl rfl (fun hc => ov_p rfl (p_move (v := aI) rfl)) <| o_gg rfl rfl (fun hc => ov_p rfl (p_gtr (gx rfl hc) rfl)) <| og rfl rfl rfl (fun hc => (p_picky (gx rfl hc) rfl rfl (fun e => band hc (keq e)))) <| o_p rfl (p_pickz rfl rfl rfl (fun e => keq e)) <| o_ek (fr' := [(4, aI), (40, aB)]) rfl rfl <| w_ch h12 rfl (fun hb13 h13 => ?_) (fun hb13 h13 => ?_)
     ·
      refine w_sr <| sI rfl <| sI rfl <| o_ek (fr' := [(2, aI), (3, aI)]) rfl rfl <| w_ret <| e_seq_r <| e_blk_r <| e_seq_r <| e_seq_r <| e_blk_r <| e_seq_r <| e_seq_r ?_
      have h14 := un_out h13 ho4
      have h15 := un_done h14 h2
      obtain rfl := sy h15
      exact e_ret (rs' := [.tmp 2, .tmp 3]) rfl <| r_tmp (v := aI) rfl <| r_tmp (v := aI) rfl <| r_nil <| fin_gen [] rfl rfl rfl (le_tupp rfl ⟨lr, lr, trivial⟩) (st_r rfl st_nil)
     ·
      refine w_skip <| e_kw <| w_sr <| mI rfl <| sI rfl <| sI rfl <| o_ek (fr' := [(2, aI), (3, aI)]) rfl rfl <| w_ret <| e_blk_r <| e_seq_r <| e_seq_r <| e_blk_r ?_
      refine e_seq_r <| e_seq_r ?_
      have h17 := un_out h13 ho4
      have h18 := un_done h17 h2
      obtain rfl := sy h18
      exact e_ret (rs' := [.tmp 2, .tmp 3]) rfl <| r_tmp (v := aI) rfl <| r_tmp (v := aI) rfl <| r_nil <| fin_gen [] rfl rfl rfl (le_tupp rfl ⟨lr, lr, trivial⟩) (st_r rfl st_nil)
    ·
     exact w_skip <| e_blk_n <| e_kw <| w_region <| mI rfl <| o_p rfl (p_add rfl rfl) <| sI rfl <| o_end (fr' := [(0, .box 0 0), (4, aI), (5, aI), (26, aB)]) rfl <| e_l _ (sy h12) (w_weak [] 1 rfl rfl rfl rfl ⟨lr, lr, trivial⟩ (st_r rfl st_nil))
  ·
   refine w_exit <| e_seq_x <| e_seq_x <| e_blk_h ?_
   have h20 := un_out h5 ho4
   exact e_j _ (sy h20) (w_weak [] 1 rfl rfl rfl rfl trivial (st_r rfl st_nil))
 ·
  intro j3 hj21
  have h21 := un_go hj21 h2
  refine e_kw <| w_sr <| sI rfl <| sI rfl <| o_ek (fr' := [(2, aI), (3, aI)]) rfl rfl <| w_ret ?_
  obtain rfl := sy h21
  exact e_ret (rs' := [.tmp 2, .tmp 3]) rfl <| r_tmp (v := aI) rfl <| r_tmp (v := aI) rfl <| r_nil <| fin_gen [] rfl rfl rfl (le_tupp rfl ⟨lr, lr, trivial⟩) (st_r rfl st_nil)
noncomputable def ref01xReader_stopped (p100v : Ref01Reader) : Option Bool :=
 some (cond (!p100v.Made) true (!decide (p100v.Bad = (0 : Int))))
theorem w_ref01xReader_stopped {p100v : Ref01Reader} {res : Bool} (h : ref01xReader_stopped p100v = some res) : ACalls Try.prog 73 [.box 0 0] [AV.cs (rowRef01Reader p100v)] (.c (.bool res)) [AV.cs (rowRef01Reader p100v)] := by
 unfold ref01xReader_stopped at h
 refine acalls (fn := Try.f73) [0, 2] (by kernel_rfl) Try.func73 rfl (by kernel_rfl) (by kernel_rfl) <| w_sr <| sB rfl <| o_ek (fr' := [(0, .box 0 0)]) rfl rfl <| w_sr <| mV (v := .box 0 0) rfl <| o_p rfl (p_peql ti43 rfl rfl) <| mB rfl <| o_yes rfl rfl rfl <| mV (v := .box 0 0) rfl <| o_yes rfl rfl rfl ?_
 refine o_p rfl (p_nc rfl) <| o_yes rfl rfl rfl <| o_p rfl (p_fa tf80x0 rfl) <| o_yes rfl rfl rfl <| o_p rfl (p_load (v := aB) tv4 rfl rfl rfl) <| o_yes rfl rfl rfl <| o_p rfl (p_not rfl) <| o_p rfl (p_pick_f rfl rfl rfl) <| mB rfl <| og rfl rfl rfl (fun hc => (p_move (v := .box 0 0) rfl)) <| og rfl rfl rfl (fun hc => (p_nc (gx rfl hc))) <| og rfl rfl rfl (fun hc => (p_fa tf80x2 (gx rfl hc))) <| og rfl rfl rfl (fun hc => (p_load (v := aI) tv34 (gx rfl hc) rfl rfl)) ?_
 refine og rfl rfl rfl (fun hc => (p_neq (gx rfl hc) rfl)) <| o_p rfl (p_pickz rfl rfl rfl (fun e => keq e)) <| sB rfl <| o_ek (fr' := [(2, aB)]) rfl rfl <| w_ret ?_
 obtain rfl := sy h
 exact e_ret (rs' := [.tmp 2]) rfl <| r_tmp (v := aB) rfl <| r_nil <| fin_gen [] rfl rfl rfl lr (st_r rfl st_nil)
noncomputable def ref01xReader_set (p1e : Int) (p100v : Ref01Reader) : Option Ref01Reader :=
 some (Ref01Reader.mk p100v.Made ([] : (List UInt8)) p1e)
theorem w_ref01xReader_set {p1e : Int} {p100v : Ref01Reader} {res : Ref01Reader} (h : ref01xReader_set p1e p100v = some res) : ACalls Try.prog 96 [.box 0 0, .c (.int .i64 p1e)] [AV.cs (rowRef01Reader p100v)] (.any) [AV.cs (rowRef01Reader res)] := by
 unfold ref01xReader_set at h
 refine acalls (fn := Try.f96) [0, 1] (by kernel_rfl) Try.func96 rfl (by kernel_rfl) (by kernel_rfl) <| w_sr <| mV (v := .box 0 0) rfl <| mI rfl <| o_p rfl (p_nc rfl) <| o_p rfl (p_fa tf80x2 rfl) <| o_store (v := aI) (us := [aI]) (cs := aBLI) (σ' := [aBLI]) rfl tv34 rfl rfl rfl rfl rfl rfl rfl rfl <| o_ek (fr' := [(0, .box 0 0)]) rfl rfl <| w_region <| mV (v := .box 0 0) rfl <| o_p rfl (p_nc rfl) <| o_p rfl (p_fa tf80x1 rfl) ?_
 refine o_store (v := .nil) (us := [.nil]) (cs := aBLI) (σ' := [[aB, .nil, aI]]) rfl tv40 rfl rfl rfl rfl rfl rfl rfl rfl <| o_end (fr' := [(0, .box 0 0)]) rfl ?_
 obtain rfl := sy h
 exact e_fin (rs' := []) rfl <| r_nil <| fin_gen [] rfl rfl rfl (AV.le_any _) (st_c ⟨rfl, ⟨_, rfl⟩, rfl, trivial⟩ st_nil)
noncomputable def ref01xReader_Int_l1 (p100v : Ref01Reader) (s14 : (Int × Int)) : Option (Step (Int × Int) Int) :=
 cond (decide ((0 : Int) ≤ s14.2)) ((idx p100v.Rest s14.2).bind fun (x16 : UInt8) => some (Step.next ((IntKind.wrap .u64 ((IntKind.wrap .u64 (s14.1 * (128 : Int))) + (IntKind.wrap .u64 (Int.tmod ((x16).toNat : Int) (128 : Int))))), (IntKind.wrap .i64 (s14.2 - (1 : Int)))))) (some (Step.out s14.1))
noncomputable def ref01xReader_Int (p1low : Int) (p2high : Int) (p100v : Ref01Reader) : Option (Int × Ref01Reader) :=
 (ref01xReader_stopped p100v).bind fun (x1 : Bool) => cond x1 (some ((0 : Int), p100v)) ((ref01xReader_count p100v).bind fun (x5 : (Int × Int)) => cond (!decide (x5.2 = (0 : Int))) ((ref01xReader_set x5.2 p100v).bind fun (x8 : Ref01Reader) => some ((0 : Int), x8)) (((loopO (ref01xReader_Int_l1 p100v) (((0 : Int), (IntKind.wrap .i64 (x5.1 - (1 : Int)))))) : Option Int).bind fun (x11 : Int) => (((cond (decide ((Int.tmod x11 (2 : Int)) = (1 : Int))) (some (IntKind.wrap .i64 ((IntKind.wrap .i64 (0 - (IntKind.wrap .i64 (IntKind.wrap .u64 (Int.tdiv x11 (2 : Int)))))) - (1 : Int)))) (some (IntKind.wrap .i64 (IntKind.wrap .u64 (Int.tdiv x11 (2 : Int)))))) : Option Int).bind fun (x20 : Int) => (cond (cond (decide (x20 < p1low)) true (decide (p2high < x20))) ((ref01xReader_set (14 : Int) p100v).bind fun (x26 : Ref01Reader) => some ((0 : Int), x26)) ((slcL p100v.Rest x5.1).bind fun (x29 : (List UInt8)) => some (x20, (Ref01Reader.mk p100v.Made (List.drop (Int.toNat x5.1) p100v.Rest) p100v.Bad)))))))
theorem w_ref01xReader_Int {p1low : Int} {p2high : Int} {p100v : Ref01Reader} {res : (Int × Ref01Reader)} (h : ref01xReader_Int p1low p2high p100v = some res) : ACalls Try.prog 95 [.box 0 0, .c (.int .i64 p1low), .c (.int .i64 p2high)] [AV.cs (rowRef01Reader p100v)] (.c (.int .i64 res.1)) [AV.cs (rowRef01Reader res.2)] := by
 unfold ref01xReader_Int at h
 refine acalls (fn := Try.f95) [0, 1, 2, 6, 7, 8, 9, 10, 11, 13, 20, 27, 47, 58] (by kernel_rfl) Try.func95 rfl (by kernel_rfl) (by kernel_rfl) <| w_sr <| sI rfl <| o_ek (fr' := [(0, .box 0 0), (1, aI), (2, aI)]) rfl rfl <| w_seqw <| w_sr <| mV (v := .box 0 0) rfl ?_
 obtain ⟨x1, hx1, h2⟩ := bind_s h
 refine o_call (v := aB) (σ' := [aBLI]) [0] rfl (w_ref01xReader_stopped hx1) rfl rfl ⟨lr, trivial⟩ (st_c ⟨rfl, rfl, rfl, trivial⟩ st_nil) rfl rfl rfl <| o_ek (fr' := [(0, .box 0 0), (1, aI), (2, aI), (13, aB)]) rfl rfl <| w_ch h2 rfl (fun hb3 h3 => ?_) (fun hb3 h3 => ?_)
 ·
  refine w_sr <| sI rfl <| o_ek (fr' := [(6, aI)]) rfl rfl <| w_ret <| e_seq_r ?_
  obtain rfl := sy h3
  exact e_ret (rs' := [.tmp 6]) rfl <| r_tmp (v := aI) rfl <| r_nil <| fin_gen [] rfl rfl rfl lr (st_c ⟨rfl, rfl, rfl, trivial⟩ st_nil)
 ·
  refine w_skip <| e_kw <| w_sr <| mV (v := .box 0 0) rfl ?_
  obtain ⟨x5, hx5, h6⟩ := bind_s h3
  refine o_call (v := .tup [aI, aI]) (σ' := [aBLI]) [0] rfl (w_ref01xReader_count hx5) rfl rfl ⟨lr, trivial⟩ (st_c ⟨rfl, rfl, rfl, trivial⟩ st_nil) rfl rfl rfl <| mV (v := .tup [aI, aI]) rfl <| o_p rfl (p_ex (v := aI) rfl rfl) <| o_p rfl (p_ex (v := aI) rfl rfl) <| sI rfl <| sI rfl <| o_ek (fr' := [(0, .box 0 0), (1, aI), (2, aI), (7, aI), (8, aI)]) rfl rfl <| w_seqw <| w_sr <| mI rfl <| o_p rfl (p_neq rfl rfl) <| o_ek (fr' := [(0, .box 0 0), (1, aI), (2, aI), (7, aI), (8, aI), (20, aB)]) rfl rfl ?_
  refine w_ch h6 rfl (fun hb7 h7 => ?_) (fun hb7 h7 => ?_)
  ·
   refine w_sr <| mV (v := .box 0 0) rfl <| mI rfl ?_
   obtain ⟨x8, hx8, h9⟩ := bind_s h7
   refine o_call (v := _) (σ' := [aBLI]) [0] rfl (w_ref01xReader_set hx8) rfl rfl ⟨lr, lr, trivial⟩ (st_c ⟨rfl, rfl, rfl, trivial⟩ st_nil) rfl rfl rfl <| o_ek (fr' := []) rfl rfl <| w_sr <| sI rfl <| o_ek (fr' := [(6, aI)]) rfl rfl <| w_ret <| e_seq_r ?_
   obtain rfl := sy h9
   exact e_ret (rs' := [.tmp 6]) rfl <| r_tmp (v := aI) rfl <| r_nil <| fin_gen [] rfl rfl rfl lr (st_c ⟨rfl, rfl, rfl, trivial⟩ st_nil)
  ·
   refine w_skip <| e_kw <| w_sr <| sI rfl <| o_ek (fr' := [(0, .box 0 0), (1, aI), (2, aI), (7, aI), (9, aI)]) rfl rfl <| w_seqw <| w_sr <| mI rfl <| o_p rfl (p_sub rfl rfl) <| sI rfl <| o_ek (fr' := [(0, .box 0 0), (1, aI), (2, aI), (7, aI), (9, aI), (10, aI)]) rfl rfl ?_
   obtain ⟨x11, hx11, h12⟩ := bind_s h7
   refine w_jtail cl_kw (fun j13 => x11 = j13) (fun (j13 : Int) => ([(0, .box 0 0), (1, .c (.int .i64 p1low)), (2, .c (.int .i64 p2high)), (7, .c (.int .i64 x5.1)), (9, .c (.int .u64 j13))] : Fr)) (fun (j13 : Int) => ([[.c (.bool p100v.Made), .c (PV.ls 1 brow p100v.Rest), .c (.int .i64 p100v.Bad)]] : St)) ?_ ?_
   ·
    refine w_block <| w_loopo _ (fun (s14 : (Int × Int)) => ([(0, .box 0 0), (1, .c (.int .i64 p1low)), (2, .c (.int .i64 p2high)), (7, .c (.int .i64 x5.1)), (9, .c (.int .u64 s14.1)), (10, .c (.int .i64 s14.2))] : Fr)) (fun (s14 : (Int × Int)) => ([[.c (.bool p100v.Made), .c (PV.ls 1 brow p100v.Rest), .c (.int .i64 p100v.Bad)]] : St)) hx11 (w_weak [] 1 rfl rfl rfl rfl ⟨lr, lr, lr, lr, lr, lr, trivial⟩ (st_r rfl st_nil)) ?_
    intro s14 st14 hs14 ho14
    unfold ref01xReader_Int_l1 at hs14
    refine w_seqw <| w_sr <| mI rfl <| o_p rfl (p_geq rfl rfl) <| o_ek (fr' := [(0, .box 0 0), (1, aI), (2, aI), (7, aI), (9, aI), (10, aI), (27, aB)]) rfl rfl <| w_ch hs14 rfl (fun hb15 h15 => ?_) (fun hb15 h15 => ?_)
    ·
     refine w_skip <| e_kw <| w_seqw <| w_block <| w_region <| mI rfl <| o_p rfl (p_mul rfl rfl) <| mV (v := .box 0 0) rfl <| o_p rfl (p_nc rfl) <| o_p rfl (p_fa tf80x1 rfl) <| o_p rfl (p_load (v := aL) tv40 rfl rfl rfl) <| mI rfl ?_
     obtain ⟨x16, hx16, h17⟩ := bind_s h15
     refine o_p rfl (p_ia (cs := [.int _ _]) ts40 (isl_c rfl) rfl hx16 rfl) <| o_p rfl (p_loade (p := .int _ _) tv5 rfl rfl) <| o_p rfl (p_rem rfl rfl (by decide)) <| o_p rfl (p_conv tk5 tk103 rfl) <| o_p rfl (p_add rfl rfl) <| sI rfl <| o_end (fr' := [(0, .box 0 0), (1, aI), (2, aI), (7, aI), (9, aI), (10, aI), (27, aB)]) rfl <| e_blk_n <| e_kw <| w_region <| mI rfl <| o_p rfl (p_sub rfl rfl) <| sI rfl ?_
     exact o_end (fr' := [(0, .box 0 0), (1, aI), (2, aI), (7, aI), (9, aI), (10, aI), (27, aB)]) rfl <| e_l _ (sy h17) (w_weak [] 1 rfl rfl rfl rfl ⟨lr, lr, lr, lr, lr, lr, trivial⟩ (st_r rfl st_nil))
    ·
     refine w_exit <| e_seq_x <| e_seq_x <| e_blk_h ?_
     have h18 := un_out h15 ho14
     exact e_j _ (sy h18) (w_weak [] 1 rfl rfl rfl rfl ⟨lr, lr, lr, lr, lr, trivial⟩ (st_r rfl st_nil))
   ·
    intro j13 hj19
    subst hj19
    refine e_kw <| w_sr <| mI rfl <| o_p rfl (p_quo rfl rfl (by decide)) <| o_p rfl (p_conv tk103 tk3 rfl) <| sI rfl <| o_ek (fr' := [(0, .box 0 0), (1, aI), (2, aI), (7, aI), (9, aI), (11, aI)]) rfl rfl ?_
    obtain ⟨x20, hx20, h21⟩ := bind_s h12
    refine w_join (fun j22 => x20 = j22) (fun (j22 : Int) => ([(0, .box 0 0), (1, .c (.int .i64 p1low)), (2, .c (.int .i64 p2high)), (7, .c (.int .i64 x5.1)), (11, .c (.int .i64 j22))] : Fr)) (fun (j22 : Int) => ([[.c (.bool p100v.Made), .c (PV.ls 1 brow p100v.Rest), .c (.int .i64 p100v.Bad)]] : St)) ?_ ?_
    ·
     refine w_sr <| mI rfl <| o_p rfl (p_rem rfl rfl (by decide)) <| o_p rfl (p_eql rfl rfl) <| o_ek (fr' := [(0, .box 0 0), (1, aI), (2, aI), (7, aI), (11, aI), (47, aB)]) rfl rfl <| w_ch hx20 rfl (fun hb23 h23 => ?_) (fun hb23 h23 => ?_)
     ·
      exact w_region <| mI rfl <| o_p rfl (p_neg rfl) <| o_p rfl (p_sub rfl rfl) <| sI rfl <| o_end (fr' := [(0, .box 0 0), (1, aI), (2, aI), (7, aI), (11, aI), (47, aB)]) rfl <| e_j _ (sy h23) (w_weak [] 1 rfl rfl rfl rfl ⟨lr, lr, lr, lr, lr, trivial⟩ (st_r rfl st_nil))
     ·
      exact w_skip <| e_j _ (sy h23) (w_weak [] 1 rfl rfl rfl rfl ⟨lr, lr, lr, lr, lr, trivial⟩ (st_r rfl st_nil))
    ·
     intro j22 hj24
     subst hj24
     refine w_seqw <| w_sr <| mI rfl <| mI rfl <| o_p rfl (p_lss rfl rfl) <| mB rfl <| og rfl rfl rfl (fun hc => (p_move (v := aI) rfl)) <| og rfl rfl rfl (fun hc => (p_move (v := aI) rfl)) <| og rfl rfl rfl (fun hc => (p_gtr (gx rfl hc) (gx rfl hc))) <| o_p rfl (p_pickz rfl rfl rfl (fun e => keq e)) <| o_ek (fr' := [(0, .box 0 0), (7, aI), (11, aI), (58, aB)]) rfl rfl <| w_ch h21 rfl (fun hb25 h25 => ?_) (fun hb25 h25 => ?_)
     ·
      refine w_sr <| mV (v := .box 0 0) rfl ?_
      obtain ⟨x26, hx26, h27⟩ := bind_s h25
      refine o_call (v := _) (σ' := [aBLI]) [0] rfl (w_ref01xReader_set hx26) rfl rfl ⟨lr, lr, trivial⟩ (st_c ⟨rfl, rfl, rfl, trivial⟩ st_nil) rfl rfl rfl <| o_ek (fr' := []) rfl rfl <| w_sr <| sI rfl <| o_ek (fr' := [(6, aI)]) rfl rfl <| w_ret <| e_seq_r ?_
      obtain rfl := sy h27
      exact e_ret (rs' := [.tmp 6]) rfl <| r_tmp (v := aI) rfl <| r_nil <| fin_gen [] rfl rfl rfl lr (st_c ⟨rfl, rfl, rfl, trivial⟩ st_nil)
     ·
      refine w_skip <| e_kw <| w_sr <| mV (v := .box 0 0) rfl <| mV (v := .box 0 0) rfl <| o_p rfl (p_nc rfl) <| o_p rfl (p_fa tf80x1 rfl) <| o_p rfl (p_load (v := aL) tv40 rfl rfl rfl) <| mI rfl ?_
      obtain ⟨x29, hx29, h30⟩ := bind_s h25
      refine o_p rfl (p_sl_l tn40 ts40 (isl_c rfl) rfl (slcL_some hx29).1) <| o_p rfl (p_nc rfl) <| o_p rfl (p_fa tf80x1 rfl) <| o_store (v := aL) (us := [aL]) (cs := aBLI) (σ' := [aBLI]) rfl tv40 rfl rfl rfl rfl rfl rfl rfl rfl <| o_ek (fr' := [(11, aI)]) rfl rfl <| w_sr <| mI rfl <| sI rfl <| o_ek (fr' := [(6, aI)]) rfl rfl <| w_ret ?_
      obtain rfl := sy h30
      exact e_ret (rs' := [.tmp 6]) rfl <| r_tmp (v := aI) rfl <| r_nil <| fin_gen [] rfl rfl rfl lr (st_c ⟨rfl, rfl, rfl, trivial⟩ st_nil)
noncomputable def ref20xread (p100v : Ref01Reader) : Option (Int × Ref01Reader) :=
 (ref01xReader_Int (-9223372036854775808 : Int) (9223372036854775807 : Int) p100v).bind fun (x1 : (Int × Ref01Reader)) => some (x1.1, x1.2)
theorem w_ref20xread {p100v : Ref01Reader} {res : (Int × Ref01Reader)} (h : ref20xread p100v = some res) : ACalls Try.prog 68 [.box 0 0] [AV.cs (rowRef01Reader p100v)] (.c (.int .i64 res.1)) [AV.cs (rowRef01Reader res.2)] := by
 unfold ref20xread at h
 refine acalls (fn := Try.f68) [0, 2] (by kernel_rfl) Try.func68 rfl (by kernel_rfl) (by kernel_rfl) <| w_sr <| sI rfl <| o_ek (fr' := [(0, .box 0 0)]) rfl rfl <| w_sr <| mV (v := .box 0 0) rfl ?_
 obtain ⟨x1, hx1, h2⟩ := bind_s h
 refine o_call (v := aI) (σ' := [aBLI]) [0] rfl (w_ref01xReader_Int hx1) rfl rfl ⟨lr, lr, lr, trivial⟩ (st_c ⟨rfl, rfl, rfl, trivial⟩ st_nil) rfl rfl rfl <| sI rfl <| o_ek (fr' := [(2, aI)]) rfl rfl <| w_ret ?_
 obtain rfl := sy h2
 exact e_ret (rs' := [.tmp 2]) rfl <| r_tmp (v := aI) rfl <| r_nil <| fin_gen [] rfl rfl rfl lr (st_c ⟨rfl, rfl, rfl, trivial⟩ st_nil)
noncomputable def ref01xReader_Text (p1most : Int) (p100v : Ref01Reader) : Option ((List UInt8) × Ref01Reader) :=
 (ref01xReader_Int (0 : Int) p1most p100v).bind fun (x1 : (Int × Ref01Reader)) => (ref01xReader_stopped x1.2).bind fun (x3 : Bool) => cond x3 (some (([] : List UInt8), x1.2)) (cond (decide (((x1.2.Rest).length : Int) < x1.1)) ((ref01xReader_set (4 : Int) x1.2).bind fun (x8 : Ref01Reader) => some (([] : List UInt8), x8)) ((slcH x1.2.Rest x1.1).bind fun (x11 : (List UInt8)) => (slcL x1.2.Rest x1.1).bind fun (x13 : (List UInt8)) => some ((List.take (Int.toNat x1.1) x1.2.Rest), (Ref01Reader.mk x1.2.Made (List.drop (Int.toNat x1.1) x1.2.Rest) x1.2.Bad))))
theorem w_ref01xReader_Text {p1most : Int} {p100v : Ref01Reader} {res : ((List UInt8) × Ref01Reader)} (h : ref01xReader_Text p1most p100v = some res) : ACalls Try.prog 69 [.box 0 0, .c (.int .i64 p1most)] [AV.cs (rowRef01Reader p100v)] (.c (.str res.1)) [AV.cs (rowRef01Reader res.2)] := by
 unfold ref01xReader_Text at h
 refine acalls (fn := Try.f69) [0, 1, 4, 5, 6, 11, 18] (by kernel_rfl) Try.func69 rfl (by kernel_rfl) (by kernel_rfl) <| w_sr <| sS rfl <| o_ek (fr' := [(0, .box 0 0), (1, aI)]) rfl rfl <| w_sr <| mV (v := .box 0 0) rfl <| mI rfl ?_
 obtain ⟨x1, hx1, h2⟩ := bind_s h
 refine o_call (v := aI) (σ' := [aBLI]) [0] rfl (w_ref01xReader_Int hx1) rfl rfl ⟨lr, lr, lr, trivial⟩ (st_c ⟨rfl, rfl, rfl, trivial⟩ st_nil) rfl rfl rfl <| sI rfl <| o_ek (fr' := [(0, .box 0 0), (5, aI)]) rfl rfl <| w_seqw <| w_sr <| mV (v := .box 0 0) rfl ?_
 obtain ⟨x3, hx3, h4⟩ := bind_s h2
 refine o_call (v := aB) (σ' := [aBLI]) [0] rfl (w_ref01xReader_stopped hx3) rfl rfl ⟨lr, trivial⟩ (st_c ⟨rfl, rfl, rfl, trivial⟩ st_nil) rfl rfl rfl <| o_ek (fr' := [(0, .box 0 0), (5, aI), (11, aB)]) rfl rfl <| w_ch h4 rfl (fun hb5 h5 => ?_) (fun hb5 h5 => ?_)
 ·
  refine w_sr <| sS rfl <| o_ek (fr' := [(4, aS)]) rfl rfl <| w_ret <| e_seq_r ?_
  obtain rfl := sy h5
  exact e_ret (rs' := [.tmp 4]) rfl <| r_tmp (v := aS) rfl <| r_nil <| fin_gen [] rfl rfl rfl lr (st_c ⟨rfl, rfl, rfl, trivial⟩ st_nil)
 ·
  refine w_skip <| e_kw <| w_seqw <| w_sr <| mI rfl <| mV (v := .box 0 0) rfl <| o_p rfl (p_nc rfl) <| o_p rfl (p_fa tf80x1 rfl) <| o_p rfl (p_load (v := aL) tv40 rfl rfl rfl) <| o_p rfl (p_len ti40 (isl_c rfl)) <| o_p rfl (p_gtr rfl rfl) <| o_ek (fr' := [(0, .box 0 0), (5, aI), (18, aB)]) rfl rfl ?_
  refine w_ch h5 rfl (fun hb7 h7 => ?_) (fun hb7 h7 => ?_)
  ·
   refine w_sr <| mV (v := .box 0 0) rfl ?_
   obtain ⟨x8, hx8, h9⟩ := bind_s h7
   refine o_call (v := _) (σ' := [aBLI]) [0] rfl (w_ref01xReader_set hx8) rfl rfl ⟨lr, lr, trivial⟩ (st_c ⟨rfl, rfl, rfl, trivial⟩ st_nil) rfl rfl rfl <| o_ek (fr' := []) rfl rfl <| w_sr <| sS rfl <| o_ek (fr' := [(4, aS)]) rfl rfl <| w_ret <| e_seq_r ?_
   obtain rfl := sy h9
   exact e_ret (rs' := [.tmp 4]) rfl <| r_tmp (v := aS) rfl <| r_nil <| fin_gen [] rfl rfl rfl lr (st_c ⟨rfl, rfl, rfl, trivial⟩ st_nil)
  ·
   refine w_skip <| e_kw <| w_sr <| mV (v := .box 0 0) rfl <| o_p rfl (p_nc rfl) <| o_p rfl (p_fa tf80x1 rfl) <| o_p rfl (p_load (v := aL) tv40 rfl rfl rfl) <| mI rfl ?_
   obtain ⟨x11, hx11, h12⟩ := bind_s h7
   refine o_p rfl (p_sl_h tn40 ts40 (isl_c rfl) rfl (slcH_some hx11).1) <| o_p rfl (p_convbs tby40 ti9 (isl_c rfl)) <| sS rfl <| o_ek (fr' := [(0, .box 0 0), (5, aI), (6, aS)]) rfl rfl <| w_sr <| mV (v := .box 0 0) rfl <| mV (v := .box 0 0) rfl <| o_p rfl (p_nc rfl) <| o_p rfl (p_fa tf80x1 rfl) <| o_p rfl (p_load (v := aL) tv40 rfl rfl rfl) <| mI rfl ?_
   obtain ⟨x13, hx13, h14⟩ := bind_s h12
   refine o_p rfl (p_sl_l tn40 ts40 (isl_c rfl) rfl (slcL_some hx13).1) <| o_p rfl (p_nc rfl) <| o_p rfl (p_fa tf80x1 rfl) <| o_store (v := aL) (us := [aL]) (cs := aBLI) (σ' := [aBLI]) rfl tv40 rfl rfl rfl rfl rfl rfl rfl rfl <| o_ek (fr' := [(6, aS)]) rfl rfl <| w_sr <| mS rfl <| sS rfl <| o_ek (fr' := [(4, aS)]) rfl rfl <| w_ret ?_
   obtain rfl := sy h14
   exact e_ret (rs' := [.tmp 4]) rfl <| r_tmp (v := aS) rfl <| r_nil <| fin_gen [] rfl rfl rfl lr (st_c ⟨rfl, rfl, rfl, trivial⟩ st_nil)
noncomputable def ref01xReader_Fail (p1e : Int) (p100v : Ref01Reader) : Option Ref01Reader :=
 (ref01xReader_stopped p100v).bind fun (x1 : Bool) => cond (cond (!x1) (!decide (p1e = (0 : Int))) false) ((ref01xReader_set p1e p100v).bind fun (x4 : Ref01Reader) => some x4) (some p100v)
theorem w_ref01xReader_Fail {p1e : Int} {p100v : Ref01Reader} {res : Ref01Reader} (h : ref01xReader_Fail p1e p100v = some res) : ACalls Try.prog 71 [.box 0 0, .c (.int .i64 p1e)] [AV.cs (rowRef01Reader p100v)] (.any) [AV.cs (rowRef01Reader res)] := by
 unfold ref01xReader_Fail at h
 refine acalls (fn := Try.f71) [0, 1, 10] (by kernel_rfl) Try.func71 rfl (by kernel_rfl) (by kernel_rfl) <| w_sr <| mV (v := .box 0 0) rfl ?_
 obtain ⟨x1, hx1, h2⟩ := bind_s h
 refine o_call (v := aB) (σ' := [aBLI]) [0] rfl (w_ref01xReader_stopped hx1) rfl rfl ⟨lr, trivial⟩ (st_c ⟨rfl, rfl, rfl, trivial⟩ st_nil) rfl rfl rfl <| o_p rfl (p_not rfl) <| mB rfl <| og rfl rfl rfl (fun hc => (p_move (v := aI) rfl)) <| og rfl rfl rfl (fun hc => (p_neq (gx rfl hc) rfl)) <| o_p rfl (p_picky rfl rfl rfl (fun e => keq e)) <| o_ek (fr' := [(0, .box 0 0), (1, aI), (10, aB)]) rfl rfl <| w_ch h2 rfl (fun hb3 h3 => ?_) (fun hb3 h3 => ?_)
 ·
  refine w_region <| mV (v := .box 0 0) rfl <| mI rfl ?_
  obtain ⟨x4, hx4, h5⟩ := bind_s h3
  refine o_call (v := _) (σ' := [aBLI]) [0] rfl (w_ref01xReader_set hx4) rfl rfl ⟨lr, lr, trivial⟩ (st_c ⟨rfl, rfl, rfl, trivial⟩ st_nil) rfl rfl rfl <| o_end (fr' := [(0, .box 0 0), (1, aI), (10, aB)]) rfl ?_
  obtain rfl := sy h5
  exact e_fin (rs' := []) rfl <| r_nil <| fin_gen [] rfl rfl rfl (AV.le_any _) (st_c ⟨rfl, rfl, rfl, trivial⟩ st_nil)
 ·
  refine w_skip ?_
  obtain rfl := sy h3
  exact e_fin (rs' := []) rfl <| r_nil <| fin_gen [] rfl rfl rfl (AV.le_any _) (st_c ⟨rfl, rfl, rfl, trivial⟩ st_nil)
end Go.Proofs.Ytmnobgopfnhbnaa

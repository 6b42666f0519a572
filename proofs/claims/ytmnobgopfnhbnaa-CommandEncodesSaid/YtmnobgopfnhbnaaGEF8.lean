import Derived.Test.YtmnobgopfnhbnaaGETy
import Derived.Test.YtmnobgopfnhbnaaGEF0
import Derived.Test.YtmnobgopfnhbnaaGEF3
import Derived.Test.YtmnobgopfnhbnaaGEF5
import Derived.Test.YtmnobgopfnhbnaaGEF6
import Derived.Test.YtmnobgopfnhbnaaGEF7
namespace Go.Proofs.Ytmnobgopfnhbnaa
open Go Abs
set_option maxRecDepth 100000
set_option linter.unusedVariables false
set_option linter.unusedSimpArgs false
noncomputable def ref20xIdent_l1 (p0s : (List UInt8)) (s6 : Int) : Option (Step Int (Fl Bool Unit)) :=
 cond (decide (s6 < ((p0s).length : Int))) ((idx p0s s6).bind fun (x8 : UInt8) => (gd ((decide (((x8).toNat : Int) < (33 : Int))) == false) (idx p0s s6)).bind fun (x10 : UInt8) => (gd ((cond (decide (((x8).toNat : Int) < (33 : Int))) true (decide ((126 : Int) < ((x10).toNat : Int)))) == false) (idx p0s s6)).bind fun (x12 : UInt8) => (gd ((cond (cond (decide (((x8).toNat : Int) < (33 : Int))) true (decide ((126 : Int) < ((x10).toNat : Int)))) true (decide (((x12).toNat : Int) = (47 : Int)))) == false) (idx p0s s6)).bind fun (x14 : UInt8) => cond (cond (cond (cond (decide (((x8).toNat : Int) < (33 : Int))) true (decide ((126 : Int) < ((x10).toNat : Int)))) true (decide (((x12).toNat : Int) = (47 : Int)))) true (decide (((x14).toNat : Int) = (34 : Int)))) (some (Step.out (Fl.done false))) (some (Step.next (IntKind.wrap .i64 (s6 + (1 : Int)))))) (some (Step.out (Fl.go ())))
noncomputable def ref20xIdent (p0s : (List UInt8)) : Option Bool :=
 cond (cond (decide (((p0s).length : Int) < (1 : Int))) true (decide ((64 : Int) < ((p0s).length : Int)))) (some false) (((loopO (ref20xIdent_l1 p0s) ((0 : Int))) : Option (Fl Bool Unit)).bind fun (x3 : (Fl Bool Unit)) => Fl.next x3 (fun (j5 : Unit) => (some true)))
theorem w_ref20xIdent {p0s : (List UInt8)} {res : Bool} (h : ref20xIdent p0s = some res) : ACalls Try.prog 52 [.c (.str p0s)] [] (.c (.bool res)) [] := by
 unfold ref20xIdent at h
 refine acalls (fn := Try.f52) [0, 2, 3, 11, 15, 39] (by kernel_rfl) Try.func52 rfl (by kernel_rfl) (by kernel_rfl) <| w_sr <| sB rfl <| o_ek (fr' := [(0, aS)]) rfl rfl <| w_seqw <| w_sr <| mS rfl <| o_p rfl (p_lens ti9 rfl) <| o_p rfl (p_lss rfl rfl) <| mB rfl <| og rfl rfl rfl (fun hc => (p_move (v := aS) rfl)) ?_
 refine og rfl rfl rfl (fun hc => (p_lens ti9 (gx rfl hc))) <| og rfl rfl rfl (fun hc => (p_gtr (gx rfl hc) rfl)) <| o_p rfl (p_pickz rfl rfl rfl (fun e => keq e)) <| o_ek (fr' := [(0, aS), (11, aB)]) rfl rfl <| w_ch h rfl (fun hb1 h1 => ?_) (fun hb1 h1 => ?_)
 ·
  refine w_sr <| sB rfl <| o_ek (fr' := [(2, aB)]) rfl rfl <| w_ret <| e_seq_r ?_
  obtain rfl := sy h1
  exact e_ret (rs' := [.tmp 2]) rfl <| r_tmp (v := aB) rfl <| r_nil <| fin_gen [] rfl rfl rfl lr st_nil
 ·
  refine w_skip <| e_kw <| w_seqw <| w_sr <| sI rfl <| o_ek (fr' := [(0, aS), (3, aI)]) rfl rfl ?_
  obtain ⟨x3, hx3, h4⟩ := bind_s h1
  refine w_jtail cl_kw (fun j5 => x3 = Fl.go j5) (fun (j5 : Unit) => ([] : Fr)) (fun (j5 : Unit) => ([] : St)) ?_ ?_
  ·
   refine w_block <| w_loopo _ (fun (s6 : Int) => ([(0, .c (.str p0s)), (3, .c (.int .i64 s6))] : Fr)) (fun (s6 : Int) => ([] : St)) hx3 (w_weak [] 0 rfl rfl rfl rfl ⟨lr, lr, trivial⟩ st_nil) ?_
   intro s6 st6 hs6 ho6
   unfold ref20xIdent_l1 at hs6
   refine w_seqw <| w_sr <| mI rfl <| mS rfl <| o_p rfl (p_lens ti9 rfl) <| o_p rfl (p_lss rfl rfl) <| o_ek (fr' := [(0, aS), (3, aI), (15, aB)]) rfl rfl <| w_ch hs6 rfl (fun hb7 h7 => ?_) (fun hb7 h7 => ?_)
   ·
    refine w_skip <| e_kw <| w_seqw <| w_block <| w_sr <| mS rfl <| mI rfl ?_
    obtain ⟨x8, hx8, h9⟩ := bind_s h7
    refine o_p rfl (p_is ti9 rfl rfl hx8) <| o_p rfl (p_lss rfl rfl) <| mB rfl <| og rfl rfl rfl (fun hc => (p_move (v := aS) rfl)) <| og rfl rfl rfl (fun hc => (p_move (v := aI) rfl)) ?_
    obtain ⟨x10, hx10, h11⟩ := bind_s h9
    refine og rfl rfl rfl (fun hc => (p_is ti9 (gx rfl hc) (gx rfl hc) (gd_some hx10 hc))) <| og rfl rfl rfl (fun hc => (p_gtr (gx rfl hc) rfl)) <| o_p rfl (p_pickz rfl rfl rfl (fun e => keq e)) <| mB rfl <| og rfl rfl rfl (fun hc => (p_move (v := aS) rfl)) <| og rfl rfl rfl (fun hc => (p_move (v := aI) rfl)) ?_
    obtain ⟨x12, hx12, h13⟩ := bind_s h11
    refine og rfl rfl rfl (fun hc => (p_is ti9 (gx rfl hc) (gx rfl hc) (gd_some hx12 hc))) <| og rfl rfl rfl (fun hc => (p_eql (gx rfl hc) rfl)) <| o_p rfl (p_pickz rfl rfl rfl (fun e => keq e)) <| mB rfl <| og rfl rfl rfl (fun hc => (p_move (v := aS) rfl)) <| og rfl rfl rfl (fun hc => (p_move (v := aI) rfl)) ?_
    obtain ⟨x14, hx14, h15⟩ := bind_s h13
    refine og rfl rfl rfl (fun hc => (p_is ti9 (gx rfl hc) (gx rfl hc) (gd_some hx14 hc))) <| og rfl rfl rfl (fun hc => (p_eql (gx rfl hc) rfl)) <| o_p rfl (p_pickz rfl rfl rfl (fun e => keq e)) <| o_ek (fr' := [(0, aS), (3, aI), (39, aB)]) rfl rfl <| w_ch h15 rfl (fun hb16 h16 => ?_) (fun hb16 h16 => ?_)
    ·
     refine w_sr <| sB rfl <| o_ek (fr' := [(2, aB)]) rfl rfl <| w_ret <| e_blk_r <| e_seq_r <| e_seq_r <| e_blk_r <| e_seq_r <| e_seq_r ?_
     have h17 := un_out h16 ho6
     have h18 := un_done h17 h4
     obtain rfl := sy h18
     exact e_ret (rs' := [.tmp 2]) rfl <| r_tmp (v := aB) rfl <| r_nil <| fin_gen [] rfl rfl rfl lr st_nil
    ·
     exact w_skip <| e_blk_n <| e_kw <| w_region <| mI rfl <| o_p rfl (p_add rfl rfl) <| sI rfl <| o_end (fr' := [(0, aS), (3, aI), (39, aB)]) rfl <| e_l _ (sy h16) (w_weak [] 0 rfl rfl rfl rfl ⟨lr, lr, trivial⟩ st_nil)
   ·
    refine w_exit <| e_seq_x <| e_seq_x <| e_blk_h ?_
    have h20 := un_out h7 ho6
    exact e_j _ (sy h20) (w_weak [] 0 rfl rfl rfl rfl trivial st_nil)
  ·
   intro j5 hj21
   have h21 := un_go hj21 h4
   refine e_kw <| w_sr <| sB rfl <| o_ek (fr' := [(2, aB)]) rfl rfl <| w_ret ?_
   obtain rfl := sy h21
   exact e_ret (rs' := [.tmp 2]) rfl <| r_tmp (v := aB) rfl <| r_nil <| fin_gen [] rfl rfl rfl lr st_nil
noncomputable def ref20xInput_l1 (p0v : ApiValue) (s8 : Int) : Option (Step Int (Fl Bool Unit)) :=
 (idx p0v.Items (1 : Int)).bind fun (x9 : ApiValue) => cond (decide (s8 < ((x9.Items).length : Int))) ((idx p0v.Items (1 : Int)).bind fun (x12 : ApiValue) => (idx x12.Items s8).bind fun (x14 : ApiValue) => (gd ((cond (!decide (x14.Kind = (4 : Int))) true (!decide (((x14.Items).length : Int) = (2 : Int)))) == false) (idx x14.Items (0 : Int))).bind fun (x16 : ApiValue) => (gd ((cond (cond (!decide (x14.Kind = (4 : Int))) true (!decide (((x14.Items).length : Int) = (2 : Int)))) true (!decide (x16.Kind = (3 : Int)))) == false) (idx x14.Items (0 : Int))).bind fun (x18 : ApiValue) => (gd ((cond (cond (!decide (x14.Kind = (4 : Int))) true (!decide (((x14.Items).length : Int) = (2 : Int)))) true (!decide (x16.Kind = (3 : Int)))) == false) (ref06xRight x18.Text)).bind fun (x20 : Bool) => cond (cond (cond (cond (!decide (x14.Kind = (4 : Int))) true (!decide (((x14.Items).length : Int) = (2 : Int)))) true (!decide (x16.Kind = (3 : Int)))) true (!x20)) (some (Step.out (Fl.done false))) (some (Step.next (IntKind.wrap .i64 (s8 + (1 : Int)))))) (some (Step.out (Fl.go ())))
noncomputable def ref20xInput (p0v : ApiValue) : Option Bool :=
 (gd ((cond (!decide (p0v.Kind = (4 : Int))) true (!decide (((p0v.Items).length : Int) = (2 : Int)))) == false) (idx p0v.Items (1 : Int))).bind fun (x1 : ApiValue) => cond (cond (cond (!decide (p0v.Kind = (4 : Int))) true (!decide (((p0v.Items).length : Int) = (2 : Int)))) true (!decide (x1.Kind = (4 : Int)))) (some false) (((loopO (ref20xInput_l1 p0v) ((0 : Int))) : Option (Fl Bool Unit)).bind fun (x5 : (Fl Bool Unit)) => Fl.next x5 (fun (j7 : Unit) => (some true)))
theorem w_ref20xInput {p0v : ApiValue} {res : Bool} (h : ref20xInput p0v = some res) : ACalls Try.prog 53 [.agg (AV.cs (exApiValue p0v))] [] (.c (.bool res)) [] := by
 unfold ref20xInput at h
 refine acalls (fn := Try.f53) [0, 1, 2, 3, 4, 21, 29, 65] (by kernel_rfl) Try.func53 rfl (by kernel_rfl) (by kernel_rfl) <| w_sr <| o_box (v := .agg aIISLL) (n := 0) (cs := aIISLL) (σ' := [aIISLL]) rfl rfl rfl rfl rfl <| sB rfl <| o_ek (fr' := [(1, .box 0 0)]) rfl rfl <| w_seqw <| w_sr <| o_p rfl (p_fa tf25x0 rfl) <| o_p rfl (p_load (v := aI) tv3 rfl rfl rfl) <| o_p rfl (p_neq rfl rfl) <| mB rfl ?_
 refine og rfl rfl rfl (fun hc => (p_fa tf25x3 rfl)) <| og rfl rfl rfl (fun hc => (p_load (v := aL) tv22 (gx rfl hc) rfl rfl)) <| og rfl rfl rfl (fun hc => (p_len ti22 (isl_c (gx rfl hc)))) <| og rfl rfl rfl (fun hc => (p_neq (gx rfl hc) rfl)) <| o_p rfl (p_pickz rfl rfl rfl (fun e => keq e)) <| mB rfl <| og rfl rfl rfl (fun hc => (p_fa tf25x3 rfl)) <| og rfl rfl rfl (fun hc => (p_load (v := aL) tv22 (gx rfl hc) rfl rfl)) ?_
 obtain ⟨x1, hx1, h2⟩ := bind_s h
 refine og rfl rfl rfl (fun hc => (p_ia (cs := [.int _ _, .int _ _, .str _, PV.ls _ _ _, PV.ls _ _ _]) ts22 (isl_c (gx rfl hc)) rfl (gd_some hx1 hc) (rowApiValue_eq _))) <| og rfl rfl rfl (fun hc => (p_fae tf25x0 (gx rfl hc))) <| og rfl rfl rfl (fun hc => (p_loade (p := .int _ _) tv3 (gx rfl hc) rfl)) <| og rfl rfl rfl (fun hc => (p_neq (gx rfl hc) rfl)) <| o_p rfl (p_pickz rfl rfl rfl (fun e => keq e)) <| o_ek (fr' := [(1, .box 0 0), (21, aB)]) rfl rfl <| w_ch h2 rfl (fun hb3 h3 => ?_) (fun hb3 h3 => ?_)
 ·
  refine w_sr <| sB rfl <| o_ek (fr' := [(2, aB)]) rfl rfl <| w_ret <| e_seq_r ?_
  obtain rfl := sy h3
  exact e_ret (rs' := [.tmp 2]) rfl <| r_tmp (v := aB) rfl <| r_nil <| fin_gen [] rfl rfl rfl lr st_nil
 ·
  refine w_skip <| e_kw <| w_seqw <| w_sr <| sI rfl <| o_ek (fr' := [(1, .box 0 0), (3, aI)]) rfl rfl ?_
  obtain ⟨x5, hx5, h6⟩ := bind_s h3
  refine w_jtail cl_kw (fun j7 => x5 = Fl.go j7) (fun (j7 : Unit) => ([] : Fr)) (fun (j7 : Unit) => ([[.c (.int .i64 p0v.Kind), .c (.int .i64 p0v.Int), .c (.str p0v.Text), .c (PV.ls 5 rowApiValue p0v.Items), .c (PV.ls 1 rowS p0v.Keys)]] : St)) ?_ ?_
  ·
   refine w_block <| w_loopo _ (fun (s8 : Int) => ([(1, .box 0 0), (3, .c (.int .i64 s8))] : Fr)) (fun (s8 : Int) => ([[.c (.int .i64 p0v.Kind), .c (.int .i64 p0v.Int), .c (.str p0v.Text), .c (PV.ls 5 rowApiValue p0v.Items), .c (PV.ls 1 rowS p0v.Keys)]] : St)) hx5 (w_weak [] 1 rfl rfl rfl rfl ⟨lr, lr, trivial⟩ (st_r rfl st_nil)) ?_
   intro s8 st8 hs8 ho8
   unfold ref20xInput_l1 at hs8
   refine w_seqw <| w_sr <| mI rfl <| o_p rfl (p_fa tf25x3 rfl) <| o_p rfl (p_load (v := aL) tv22 rfl rfl rfl) ?_
   obtain ⟨x9, hx9, h10⟩ := bind_s hs8
   refine o_p rfl (p_ia (cs := [.int _ _, .int _ _, .str _, PV.ls _ _ _, PV.ls _ _ _]) ts22 (isl_c rfl) rfl hx9 (rowApiValue_eq _)) <| o_p rfl (p_fae tf25x3 rfl) <| o_p rfl (p_loade (p := PV.ls _ _ _) tv22 rfl rfl) <| o_p rfl (p_len ti22 (isl_c rfl)) <| o_p rfl (p_lss rfl rfl) <| o_ek (fr' := [(1, .box 0 0), (3, aI), (29, aB)]) rfl rfl <| w_ch h10 rfl (fun hb11 h11 => ?_) (fun hb11 h11 => ?_)
   ·
    refine w_skip <| e_kw <| w_seqw <| w_block <| w_sr <| o_p rfl (p_fa tf25x3 rfl) <| o_p rfl (p_load (v := aL) tv22 rfl rfl rfl) ?_
    obtain ⟨x12, hx12, h13⟩ := bind_s h11
    refine o_p rfl (p_ia (cs := [.int _ _, .int _ _, .str _, PV.ls _ _ _, PV.ls _ _ _]) ts22 (isl_c rfl) rfl hx12 (rowApiValue_eq _)) <| o_p rfl (p_fae tf25x3 rfl) <| o_p rfl (p_loade (p := PV.ls _ _ _) tv22 rfl rfl) <| mI rfl ?_
    obtain ⟨x14, hx14, h15⟩ := bind_s h13
    refine o_p rfl (p_ia (cs := [.int _ _, .int _ _, .str _, PV.ls _ _ _, PV.ls _ _ _]) ts22 (isl_c rfl) rfl hx14 (rowApiValue_eq _)) <| o_p rfl (p_loades (us := [.int _ _, .int _ _, .str _, PV.ls _ _ _, PV.ls _ _ _]) tv25 rfl rfl rfl) <| o_alloc (n := 1) (cs := [aI, aI, aS, .nil, .nil]) (σ' := [aIISLL, [aI, aI, aS, .nil, .nil]]) tz25 rfl rfl rfl <| o_store (v := .agg aIISLL) (us := aIISLL) (cs := [aI, aI, aS, .nil, .nil]) (σ' := [aIISLL, aIISLL]) rfl tv25 rfl rfl rfl rfl rfl rfl rfl rfl <| o_ek (fr' := [(1, .box 0 0), (3, aI), (4, .box 1 0)]) rfl rfl <| w_sr <| o_p rfl (p_fa tf25x0 rfl) <| o_p rfl (p_load (v := aI) tv3 rfl rfl rfl) <| o_p rfl (p_neq rfl rfl) <| mB rfl <| og rfl rfl rfl (fun hc => (p_fa tf25x3 rfl)) <| og rfl rfl rfl (fun hc => (p_load (v := aL) tv22 (gx rfl hc) rfl rfl)) ?_
    refine og rfl rfl rfl (fun hc => (p_len ti22 (isl_c (gx rfl hc)))) <| og rfl rfl rfl (fun hc => (p_neq (gx rfl hc) rfl)) <| o_p rfl (p_pickz rfl rfl rfl (fun e => keq e)) <| mB rfl <| og rfl rfl rfl (fun hc => (p_fa tf25x3 rfl)) <| og rfl rfl rfl (fun hc => (p_load (v := aL) tv22 (gx rfl hc) rfl rfl)) ?_
    obtain ⟨x16, hx16, h17⟩ := bind_s h15
    refine og rfl rfl rfl (fun hc => (p_ia (cs := [.int _ _, .int _ _, .str _, PV.ls _ _ _, PV.ls _ _ _]) ts22 (isl_c (gx rfl hc)) rfl (gd_some hx16 hc) (rowApiValue_eq _))) <| og rfl rfl rfl (fun hc => (p_fae tf25x0 (gx rfl hc))) <| og rfl rfl rfl (fun hc => (p_loade (p := .int _ _) tv3 (gx rfl hc) rfl)) <| og rfl rfl rfl (fun hc => (p_neq (gx rfl hc) rfl)) <| o_p rfl (p_pickz rfl rfl rfl (fun e => keq e)) <| mB rfl <| og rfl rfl rfl (fun hc => (p_fa tf25x3 rfl)) <| og rfl rfl rfl (fun hc => (p_load (v := aL) tv22 (gx rfl hc) rfl rfl)) ?_
    obtain ⟨x18, hx18, h19⟩ := bind_s h17
    refine og rfl rfl rfl (fun hc => (p_ia (cs := [.int _ _, .int _ _, .str _, PV.ls _ _ _, PV.ls _ _ _]) ts22 (isl_c (gx rfl hc)) rfl (gd_some hx18 hc) (rowApiValue_eq _))) <| og rfl rfl rfl (fun hc => (p_fae tf25x2 (gx rfl hc))) <| og rfl rfl rfl (fun hc => (p_loade (p := .str _) tv9 (gx rfl hc) rfl)) ?_
    obtain ⟨x20, hx20, h21⟩ := bind_s h19
    refine o_g rfl rfl (fun hc => ov_call (v := aB) rfl (w_ref06xRight (gd_some hx20 hc)) ⟨(le_gv (gx rfl hc) lr), trivial⟩ (ok_eq (by repeat (first | exact ok_nil | refine ok_cons rfl ?_ | refine ok_cons (dgv rfl) ?_))) rfl rfl) ?_
    refine og rfl rfl rfl (fun hc => (p_not (gx rfl hc))) <| o_p rfl (p_pickz rfl rfl rfl (fun e => keq e)) <| o_ek (fr' := [(1, .box 0 0), (3, aI), (65, aB)]) rfl rfl <| w_ch h21 rfl (fun hb22 h22 => ?_) (fun hb22 h22 => ?_)
    ·
     refine w_sr <| sB rfl <| o_ek (fr' := [(2, aB)]) rfl rfl <| w_ret <| e_blk_r <| e_seq_r <| e_seq_r <| e_blk_r <| e_seq_r <| e_seq_r ?_
     have h23 := un_out h22 ho8
     have h24 := un_done h23 h6
     obtain rfl := sy h24
     exact e_ret (rs' := [.tmp 2]) rfl <| r_tmp (v := aB) rfl <| r_nil <| fin_gen [] rfl rfl rfl lr st_nil
    ·
     exact w_skip <| e_blk_n <| e_kw <| w_region <| mI rfl <| o_p rfl (p_add rfl rfl) <| sI rfl <| o_end (fr' := [(1, .box 0 0), (3, aI), (65, aB)]) rfl <| e_l _ (sy h22) (w_weak [] 1 rfl rfl rfl rfl ⟨lr, lr, trivial⟩ (st_r rfl st_nil))
   ·
    refine w_exit <| e_seq_x <| e_seq_x <| e_blk_h ?_
    have h26 := un_out h11 ho8
    exact e_j _ (sy h26) (w_weak [] 1 rfl rfl rfl rfl trivial (st_r rfl st_nil))
  ·
   intro j7 hj27
   have h27 := un_go hj27 h6
   refine e_kw <| w_sr <| sB rfl <| o_ek (fr' := [(2, aB)]) rfl rfl <| w_ret ?_
   obtain rfl := sy h27
   exact e_ret (rs' := [.tmp 2]) rfl <| r_tmp (v := aB) rfl <| r_nil <| fin_gen [] rfl rfl rfl lr st_nil
noncomputable def ref20xRight (p0C : ApiCommand) : Option Bool :=
 (ref20xin p0C.Kind (1 : Int) (14 : Int)).bind fun (x1 : Bool) => (gd ((!x1) == false) (ref20xbare p0C)).bind fun (x3 : ApiCommand) => (gd ((!x1) == false) (ref20xSame x3 (ApiCommand.mk p0C.Kind (0 : Int) ([] : List UInt8) ([] : List UInt8) (0 : Int) (ApiValue.mk (0 : Int) (0 : Int) ([] : List UInt8) ([] : (List ApiValue)) ([] : (List (List UInt8)))) (ApiPolicy.mk ([] : List UInt8) (0 : Int) (0 : Int) (0 : Int) (0 : Int) (0 : Int) (0 : Int) (0 : Int) (0 : Int) ([] : (List (List UInt8))))))).bind fun (x5 : Bool) => (gd ((cond (!x1) true (!x5)) == false) (ref02xRight p0C.Data)).bind fun (x7 : Bool) => cond (cond (cond (!x1) true (!x5)) true (!x7)) (some false) ((ref20xin p0C.Seq (1 : Int) (2000 : Int)).bind fun (x11 : Bool) => (ref06xRight p0C.Name).bind fun (x13 : Bool) => (ref20xIdent p0C.Key).bind fun (x15 : Bool) => cond (decide (p0C.Kind = (1 : Int))) ((gd ((cond x11 x13 false) == true) (ref20xRightPolicy p0C.Opts)).bind fun (x18 : Bool) => some (cond (cond x11 x13 false) x18 false)) (((cond (decide (p0C.Kind = (2 : Int))) (some (decide (p0C.Kind = (2 : Int)))) (some (decide (p0C.Kind = (4 : Int))))) : Option Bool).bind fun (x21 : Bool) => (cond x21 (some x11) (cond (decide (p0C.Kind = (3 : Int))) ((gd (x11 == true) (ref20xin p0C.N (1 : Int) (1099511627776 : Int))).bind fun (x29 : Bool) => some (cond x11 x29 false)) (cond (decide (p0C.Kind = (5 : Int))) ((gd ((cond (cond x11 x13 false) x15 false) == true) (ref20xin p0C.N (0 : Int) (2 : Int))).bind fun (x33 : Bool) => some (cond (cond (cond x11 x13 false) x15 false) x33 false)) (cond (decide (p0C.Kind = (6 : Int))) (some (cond (cond x11 x13 false) x15 false)) (cond (decide (p0C.Kind = (7 : Int))) ((gd ((x13 == true) && ((decide (p0C.N = (-1 : Int))) == false)) (ref20xin p0C.N (0 : Int) (2147483647 : Int))).bind fun (x39 : Bool) => some (cond x13 (cond (decide (p0C.N = (-1 : Int))) true (cond x39 (decide (p0C.Data.Kind = (0 : Int))) false)) false)) (cond (decide (p0C.Kind = (8 : Int))) (some (cond x15 x13 false)) (cond (decide (p0C.Kind = (9 : Int))) ((gd (x15 == true) (ref20xin p0C.N (0 : Int) (1 : Int))).bind fun (x45 : Bool) => some (cond x15 x45 false)) (cond (decide (p0C.Kind = (10 : Int))) (some (decide (p0C.Data.Kind = (5 : Int)))) (cond (decide (p0C.Kind = (12 : Int))) (some (decide (((p0C.Name).length : Int) ≤ (4096 : Int)))) (cond (decide (p0C.Kind = (14 : Int))) ((ref20xInput p0C.Data).bind fun (x53 : Bool) => some x53) (some true)))))))))))))
theorem w_ref20xRight {p0C : ApiCommand} {res : Bool} (h : ref20xRight p0C = some res) : ACalls Try.prog 13 [.agg (AV.cs (rowApiCommand p0C))] [] (.c (.bool res)) [] := by
 unfold ref20xRight at h
 refine acalls (fn := Try.f13) [0, 1, 2, 3, 4, 5, 24, 35, 36, 47, 51, 59, 73, 82, 101, 107, 115, 121, 127] (by kernel_rfl) Try.func13 rfl (by kernel_rfl) (by kernel_rfl) <| w_sr <| o_box (v := .agg aIISSIIISLLSIIIIIIIIL) (n := 0) (cs := aIISSIIISLLSIIIIIIIIL) (σ' := [aIISSIIISLLSIIIIIIIIL]) rfl rfl rfl rfl rfl <| sB rfl <| o_ek (fr' := [(1, .box 0 0)]) rfl rfl <| w_seqw <| w_seqw <| w_planT [.q 0, .q 1, .q 2, .q 3, .q 4, .q 5, .q 6, .q 7, .q 8, .q 9, .q 10, .q 11, .q 12, .q 13, .q 14, .q 15, .q 16, .q 17, .q 18] [(some 6, [1]), (some 7, [6]), (some 8, [7]), (some 9, [8]), (some 10, [9]), (some 11, [1, 10]), (some 12, [11, 10]), (some 13, [1, 10]), (some 14, [13, 10]), (some 15, [14, 10]), (some 16, [12, 15, 10]), (some 17, [16, 10]), (some 18, [10, 17]), (some 19, [18]), (some 20, [1, 19]), (some 21, [20, 19]), (some 22, [21, 19]), (some 23, [22, 19]), (some 24, [19, 23])] [0, 1, 3, 7, 15, 31, 63, 31, 159, 415, 1023, 2047, 4095, 8191, 16383, 32767, 65535, 131071, 262143] (by kernel_rfl) <| dq rfl rfl (p_fa tf29x0 rfl) <| dq rfl rfl (p_load (v := aI) tv3 rfl rfl rfl) ?_
 obtain ⟨x1, hx1, h2⟩ := bind_s h
 refine d_q rfl (qv_call (v := aB) rfl (w_ref20xin hx1) ⟨lr, lr, lr, trivial⟩ rfl) <| dq rfl rfl (p_not rfl) <| dq rfl rfl (p_move (v := aB) rfl) <| d_g rfl rfl rfl (fun hc => qv_p rfl (p_loads (us := aIISSIIISLLSIIIIIIIIL) tv29 rfl rfl rfl rfl)) ?_
 obtain ⟨x3, hx3, h4⟩ := bind_s h2
 refine d_g rfl rfl rfl (fun hc => qv_call (v := .agg aIISSIIISLLSIIIIIIIIL) rfl (w_ref20xbare (gd_some hx3 hc)) ⟨(le_gv (gx rfl hc) (le_aggc rfl ⟨rfl, rfl, rfl, rfl, rfl, rfl, rfl, rfl, rfl, rfl, rfl, rfl, rfl, rfl, rfl, rfl, rfl, rfl, rfl, rfl, trivial⟩)), trivial⟩ rfl) <| d_g rfl rfl rfl (fun hc => qv_p rfl (p_fa tf29x0 rfl)) <| d_g rfl rfl rfl (fun hc => qv_p rfl (p_load (v := aI) tv3 (gx rfl hc) rfl rfl)) <| d_g rfl rfl rfl (fun hc => qv_p rfl (p_buildc (c0 := [aI, aI, aS, aS, aI, aI, aI, aS, .nil, .nil, aS, aI, aI, aI, aI, aI, aI, aI, aI, .nil]) (cs := [aI, aI, aS, aS, aI, aI, aI, aS, .nil, .nil, aS, aI, aI, aI, aI, aI, aI, aI, aI, .nil]) tb29 rfl (fill_cons (v := aI) (us := [_]) (cs' := u20) rfl (gx rfl hc) rfl rfl rfl rfl fill_nil))) ?_
 obtain ⟨x5, hx5, h6⟩ := bind_s h4
 refine d_g rfl rfl rfl (fun hc => qv_call (v := aB) rfl (w_ref20xSame (gd_some hx5 hc)) ⟨(le_gv (gx rfl hc) (le_aggc rfl ⟨rfl, rfl, rfl, rfl, rfl, rfl, rfl, rfl, rfl, rfl, rfl, rfl, rfl, rfl, rfl, rfl, rfl, rfl, rfl, rfl, trivial⟩)), (le_gv (gx rfl hc) (le_aggc rfl ⟨rfl, rfl, rfl, rfl, rfl, rfl, rfl, rfl, ⟨_, rfl⟩, ⟨_, rfl⟩, rfl, rfl, rfl, rfl, rfl, rfl, rfl, rfl, rfl, ⟨_, rfl⟩, trivial⟩)), trivial⟩ rfl) <| d_g rfl rfl rfl (fun hc => qv_p rfl (p_not (gx rfl hc))) <| dq rfl rfl (p_pickz rfl rfl rfl (fun e => keq e)) <| dq rfl rfl (p_move (v := aB) rfl) <| d_g rfl rfl rfl (fun hc => qv_p rfl (p_fa tf29x5 rfl)) <| d_g rfl rfl rfl (fun hc => qv_p rfl (p_loads (us := aIISLL) tv25 (gx rfl hc) rfl rfl rfl)) ?_
 obtain ⟨x7, hx7, h8⟩ := bind_s h6
 refine d_g rfl rfl rfl (fun hc => qv_call (v := aB) rfl (w_ref02xRight (gd_some hx7 hc)) ⟨(le_gv (gx rfl hc) (le_aggc rfl ⟨rfl, rfl, rfl, rfl, rfl, trivial⟩)), trivial⟩ rfl) <| d_g rfl rfl rfl (fun hc => qv_p rfl (p_not (gx rfl hc))) <| dq rfl rfl (p_pickz rfl rfl rfl (fun e => keq e)) <| d_ek (fr' := [(1, .box 0 0), (24, aB)]) rfl rfl <| w_ch h8 rfl (fun hb9 h9 => ?_) (fun hb9 h9 => ?_)
 ·
  refine w_sr <| sB rfl <| o_ek (fr' := [(2, aB)]) rfl rfl <| w_ret <| e_seq_r ?_
  obtain rfl := sy h9
  exact e_ret (rs' := [.tmp 2]) rfl <| r_tmp (v := aB) rfl <| r_nil <| fin_gen [] rfl rfl rfl lr st_nil
 ·
  refine w_skip <| e_kw <| w_sr <| o_p rfl (p_fa tf29x1 rfl) <| o_p rfl (p_load (v := aI) tv3 rfl rfl rfl) ?_
  obtain ⟨x11, hx11, h12⟩ := bind_s h9
  refine o_v (ov_call (v := aB) rfl (w_ref20xin hx11) ⟨lr, lr, lr, trivial⟩ rfl rfl rfl) <| sB rfl <| o_ek (fr' := [(1, .box 0 0), (3, aB)]) rfl rfl <| w_sr <| o_p rfl (p_fa tf29x2 rfl) <| o_p rfl (p_load (v := aS) tv9 rfl rfl rfl) ?_
  obtain ⟨x13, hx13, h14⟩ := bind_s h12
  refine o_v (ov_call (v := aB) rfl (w_ref06xRight hx13) ⟨lr, trivial⟩ rfl rfl rfl) <| sB rfl <| o_ek (fr' := [(1, .box 0 0), (3, aB), (4, aB)]) rfl rfl <| w_sr <| o_p rfl (p_fa tf29x3 rfl) <| o_p rfl (p_load (v := aS) tv9 rfl rfl rfl) ?_
  obtain ⟨x15, hx15, h16⟩ := bind_s h14
  refine o_v (ov_call (v := aB) rfl (w_ref20xIdent hx15) ⟨lr, trivial⟩ rfl rfl rfl) <| sB rfl <| o_ek (fr' := [(1, .box 0 0), (3, aB), (4, aB), (5, aB)]) rfl rfl <| w_seqw <| w_sr <| o_p rfl (p_fa tf29x0 rfl) <| o_p rfl (p_load (v := aI) tv3 rfl rfl rfl) <| o_ek (fr' := [(1, .box 0 0), (3, aB), (4, aB), (5, aB), (35, aI)]) rfl rfl <| w_block <| w_sr <| o_p rfl (p_eql rfl rfl) ?_
  refine sB rfl <| o_ek (fr' := [(1, .box 0 0), (3, aB), (4, aB), (5, aB), (35, aI), (36, aB)]) rfl rfl <| w_ch h16 rfl (fun hb17 h17 => ?_) (fun hb17 h17 => ?_)
  ·
   refine w_sr <| mB rfl <| mB rfl <| og rfl rfl rfl (fun hc => (p_move (v := aB) rfl)) <| o_p rfl (p_picky rfl rfl rfl (fun e => keq e)) <| mB rfl <| og rfl rfl rfl (fun hc => (p_fa tf29x6 rfl)) <| og rfl rfl rfl (fun hc => (p_loads (us := aSIIIIIIIIL) tv27 (gx rfl hc) rfl rfl rfl)) ?_
   obtain ⟨x18, hx18, h19⟩ := bind_s h17
   refine o_g rfl rfl (fun hc => ov_call (v := aB) rfl (w_ref20xRightPolicy (gd_some hx18 hc)) ⟨(le_gv (gx rfl hc) (le_aggc rfl ⟨rfl, rfl, rfl, rfl, rfl, rfl, rfl, rfl, rfl, rfl, trivial⟩)), trivial⟩ (ok_eq (by repeat (first | exact ok_nil | refine ok_cons rfl ?_ | refine ok_cons (dgv rfl) ?_))) rfl rfl) ?_
   refine o_p rfl (p_picky rfl rfl rfl (fun e => keq e)) <| sB rfl <| o_ek (fr' := [(2, aB)]) rfl rfl <| w_ret <| e_blk_r <| e_seq_r ?_
   obtain rfl := sy h19
   exact e_ret (rs' := [.tmp 2]) rfl <| r_tmp (v := aB) rfl <| r_nil <| fin_gen [] rfl rfl rfl lr st_nil
  ·
   obtain ⟨x21, hx21, h22⟩ := bind_s h17
   refine w_join (fun j23 => x21 = j23) (fun (j23 : Bool) => ([(1, .box 0 0), (3, .c (.bool x11)), (4, .c (.bool x13)), (5, .c (.bool x15)), (35, .c (.int .i64 p0C.Kind)), (47, .c (.bool j23))] : Fr)) (fun (j23 : Bool) => ([[.c (.int .i64 p0C.Kind), .c (.int .i64 p0C.Seq), .c (.str p0C.Name), .c (.str p0C.Key), .c (.int .i64 p0C.N), .c (.int .i64 p0C.Data.Kind), .c (.int .i64 p0C.Data.Int), .c (.str p0C.Data.Text), .c (PV.ls 5 rowApiValue p0C.Data.Items), .c (PV.ls 1 rowS p0C.Data.Keys), .c (.str p0C.Opts.Queue), .c (.int .i64 p0C.Opts.ToStart), .c (.int .i64 p0C.Opts.ToClose), .c (.int .i64 p0C.Opts.Total), .c (.int .i64 p0C.Opts.Beat), .c (.int .i64 p0C.Opts.First), .c (.int .i64 p0C.Opts.Coef), .c (.int .i64 p0C.Opts.Most), .c (.int .i64 p0C.Opts.Attempts), .c (PV.ls 1 rowS p0C.Opts.Fatal)]] : St)) ?_ ?_
   ·
    refine w_sr <| o_p rfl (p_eql rfl rfl) <| sB rfl <| o_ek (fr' := [(1, .box 0 0), (3, aB), (4, aB), (5, aB), (35, aI), (47, aB)]) rfl rfl <| w_ch hx21 rfl (fun hb24 h24 => ?_) (fun hb24 h24 => ?_)
    ·
     exact w_skip <| e_j _ (sy h24) (w_weak [] 1 rfl rfl rfl rfl ⟨lr, lr, lr, lr, lr, lr, trivial⟩ (st_r rfl st_nil))
    ·
     exact w_region <| o_p rfl (p_eql rfl rfl) <| sB rfl <| o_end (fr' := [(1, .box 0 0), (3, aB), (4, aB), (5, aB), (35, aI), (47, aB)]) rfl <| e_j _ (sy h24) (w_weak [] 1 rfl rfl rfl rfl ⟨lr, lr, lr, lr, lr, lr, trivial⟩ (st_r rfl st_nil))
   ·
    intro j23 hj25
    subst hj25
    refine w_ch h22 rfl (fun hb26 h26 => ?_) (fun hb26 h26 => ?_)
    ·
     refine w_sr <| mB rfl <| sB rfl <| o_ek (fr' := [(2, aB)]) rfl rfl <| w_ret <| e_blk_r <| e_seq_r ?_
     obtain rfl := sy h26
     exact e_ret (rs' := [.tmp 2]) rfl <| r_tmp (v := aB) rfl <| r_nil <| fin_gen [] rfl rfl rfl lr st_nil
    ·
     refine w_sr <| o_p rfl (p_eql rfl rfl) <| sB rfl <| o_ek (fr' := [(1, .box 0 0), (3, aB), (4, aB), (5, aB), (35, aI), (51, aB)]) rfl rfl <| w_ch h26 rfl (fun hb28 h28 => ?_) (fun hb28 h28 => ?_)
     ·
      refine w_sr <| mB rfl <| mB rfl <| og rfl rfl rfl (fun hc => (p_fa tf29x4 rfl)) <| og rfl rfl rfl (fun hc => (p_load (v := aI) tv3 (gx rfl hc) rfl rfl)) ?_
      obtain ⟨x29, hx29, h30⟩ := bind_s h28
      refine o_g rfl rfl (fun hc => ov_call (v := aB) rfl (w_ref20xin (gd_some hx29 hc)) ⟨(le_gv (gx rfl hc) lr), lr, lr, trivial⟩ (ok_eq (by repeat (first | exact ok_nil | refine ok_cons rfl ?_ | refine ok_cons (dgv rfl) ?_))) rfl rfl) ?_
      refine o_p rfl (p_picky rfl rfl rfl (fun e => keq e)) <| sB rfl <| o_ek (fr' := [(2, aB)]) rfl rfl <| w_ret <| e_blk_r <| e_seq_r ?_
      obtain rfl := sy h30
      exact e_ret (rs' := [.tmp 2]) rfl <| r_tmp (v := aB) rfl <| r_nil <| fin_gen [] rfl rfl rfl lr st_nil
     ·
      refine w_sr <| o_p rfl (p_eql rfl rfl) <| sB rfl <| o_ek (fr' := [(1, .box 0 0), (3, aB), (4, aB), (5, aB), (35, aI), (59, aB)]) rfl rfl <| w_ch h28 rfl (fun hb32 h32 => ?_) (fun hb32 h32 => ?_)
      ·
       refine w_sr <| mB rfl <| mB rfl <| og rfl rfl rfl (fun hc => (p_move (v := aB) rfl)) <| o_p rfl (p_picky rfl rfl rfl (fun e => keq e)) <| mB rfl <| og rfl rfl rfl (fun hc => (p_move (v := aB) rfl)) <| o_p rfl (p_picky rfl rfl rfl (fun e => keq e)) <| mB rfl <| og rfl rfl rfl (fun hc => (p_fa tf29x4 rfl)) <| og rfl rfl rfl (fun hc => (p_load (v := aI) tv3 (gx rfl hc) rfl rfl)) ?_
       obtain ⟨x33, hx33, h34⟩ := bind_s h32
       refine o_g rfl rfl (fun hc => ov_call (v := aB) rfl (w_ref20xin (gd_some hx33 hc)) ⟨(le_gv (gx rfl hc) lr), lr, lr, trivial⟩ (ok_eq (by repeat (first | exact ok_nil | refine ok_cons rfl ?_ | refine ok_cons (dgv rfl) ?_))) rfl rfl) ?_
       refine o_p rfl (p_picky rfl rfl rfl (fun e => keq e)) <| sB rfl <| o_ek (fr' := [(2, aB)]) rfl rfl <| w_ret <| e_blk_r <| e_seq_r ?_
       obtain rfl := sy h34
       exact e_ret (rs' := [.tmp 2]) rfl <| r_tmp (v := aB) rfl <| r_nil <| fin_gen [] rfl rfl rfl lr st_nil
      ·
       refine w_sr <| o_p rfl (p_eql rfl rfl) <| sB rfl <| o_ek (fr' := [(1, .box 0 0), (3, aB), (4, aB), (5, aB), (35, aI), (73, aB)]) rfl rfl <| w_ch h32 rfl (fun hb36 h36 => ?_) (fun hb36 h36 => ?_)
       ·
        refine w_sr <| mB rfl <| mB rfl <| og rfl rfl rfl (fun hc => (p_move (v := aB) rfl)) <| o_p rfl (p_picky rfl rfl rfl (fun e => keq e)) <| mB rfl <| og rfl rfl rfl (fun hc => (p_move (v := aB) rfl)) <| o_p rfl (p_picky rfl rfl rfl (fun e => keq e)) <| sB rfl <| o_ek (fr' := [(2, aB)]) rfl rfl <| w_ret <| e_blk_r ?_
        refine e_seq_r ?_
        obtain rfl := sy h36
        exact e_ret (rs' := [.tmp 2]) rfl <| r_tmp (v := aB) rfl <| r_nil <| fin_gen [] rfl rfl rfl lr st_nil
       ·
        refine w_sr <| o_p rfl (p_eql rfl rfl) <| sB rfl <| o_ek (fr' := [(1, .box 0 0), (4, aB), (5, aB), (35, aI), (82, aB)]) rfl rfl <| w_ch h36 rfl (fun hb38 h38 => ?_) (fun hb38 h38 => ?_)
        ·
         refine w_sr <| mB rfl <| mB rfl <| og rfl rfl rfl (fun hc => (p_fa tf29x4 rfl)) <| og rfl rfl rfl (fun hc => (p_load (v := aI) tv3 (gx rfl hc) rfl rfl)) <| og rfl rfl rfl (fun hc => (p_eql (gx rfl hc) rfl)) <| og rfl rfl rfl (fun hc => (p_move (v := aB) (gx rfl hc))) <| o_gg rfl rfl (fun hc => ov_p rfl (p_fa tf29x4 rfl)) <| o_gg rfl rfl (fun hc => ov_p rfl (p_load (v := aI) tv3 (gx rfl hc) rfl rfl)) ?_
         obtain ⟨x39, hx39, h40⟩ := bind_s h38
         refine o_gg rfl rfl (fun hc => ov_call (v := aB) rfl (w_ref20xin (gd_some hx39 hc)) ⟨(le_gv (gx rfl hc) lr), lr, lr, trivial⟩ (ok_eq (by repeat (first | exact ok_nil | refine ok_cons rfl ?_ | refine ok_cons (dgv rfl) ?_))) rfl rfl) ?_
         refine o_gg rfl rfl (fun hc => ov_p rfl (p_move (v := aB) (gx rfl hc))) <| o_gg rfl rfl (fun hc => ov_p rfl (p_fa tf29x5 rfl)) <| o_gg rfl rfl (fun hc => ov_p rfl (p_fa tf25x0 (gx rfl hc))) <| o_gg rfl rfl (fun hc => ov_p rfl (p_load (v := aI) tv3 (gx rfl hc) rfl rfl)) <| o_gg rfl rfl (fun hc => ov_p rfl (p_eql (gx rfl hc) rfl)) <| o_gg rfl rfl (fun hc => ov_p rfl (p_picky (gx rfl hc) rfl rfl (fun e => band hc (keq e)))) <| og rfl rfl rfl (fun hc => (p_pickz (gx rfl hc) rfl rfl (fun e => band hc (keq e)))) <| o_p rfl (p_picky rfl rfl rfl (fun e => keq e)) <| sB rfl <| o_ek (fr' := [(2, aB)]) rfl rfl <| w_ret <| e_blk_r <| e_seq_r ?_
         obtain rfl := sy h40
         exact e_ret (rs' := [.tmp 2]) rfl <| r_tmp (v := aB) rfl <| r_nil <| fin_gen [] rfl rfl rfl lr st_nil
        ·
         refine w_sr <| o_p rfl (p_eql rfl rfl) <| sB rfl <| o_ek (fr' := [(1, .box 0 0), (4, aB), (5, aB), (35, aI), (101, aB)]) rfl rfl <| w_ch h38 rfl (fun hb42 h42 => ?_) (fun hb42 h42 => ?_)
         ·
          refine w_sr <| mB rfl <| mB rfl <| og rfl rfl rfl (fun hc => (p_move (v := aB) rfl)) <| o_p rfl (p_picky rfl rfl rfl (fun e => keq e)) <| sB rfl <| o_ek (fr' := [(2, aB)]) rfl rfl <| w_ret <| e_blk_r <| e_seq_r ?_
          obtain rfl := sy h42
          exact e_ret (rs' := [.tmp 2]) rfl <| r_tmp (v := aB) rfl <| r_nil <| fin_gen [] rfl rfl rfl lr st_nil
         ·
          refine w_sr <| o_p rfl (p_eql rfl rfl) <| sB rfl <| o_ek (fr' := [(1, .box 0 0), (5, aB), (35, aI), (107, aB)]) rfl rfl <| w_ch h42 rfl (fun hb44 h44 => ?_) (fun hb44 h44 => ?_)
          ·
           refine w_sr <| mB rfl <| mB rfl <| og rfl rfl rfl (fun hc => (p_fa tf29x4 rfl)) <| og rfl rfl rfl (fun hc => (p_load (v := aI) tv3 (gx rfl hc) rfl rfl)) ?_
           obtain ⟨x45, hx45, h46⟩ := bind_s h44
           refine o_g rfl rfl (fun hc => ov_call (v := aB) rfl (w_ref20xin (gd_some hx45 hc)) ⟨(le_gv (gx rfl hc) lr), lr, lr, trivial⟩ (ok_eq (by repeat (first | exact ok_nil | refine ok_cons rfl ?_ | refine ok_cons (dgv rfl) ?_))) rfl rfl) ?_
           refine o_p rfl (p_picky rfl rfl rfl (fun e => keq e)) <| sB rfl <| o_ek (fr' := [(2, aB)]) rfl rfl <| w_ret <| e_blk_r <| e_seq_r ?_
           obtain rfl := sy h46
           exact e_ret (rs' := [.tmp 2]) rfl <| r_tmp (v := aB) rfl <| r_nil <| fin_gen [] rfl rfl rfl lr st_nil
          ·
           refine w_sr <| o_p rfl (p_eql rfl rfl) <| sB rfl <| o_ek (fr' := [(1, .box 0 0), (35, aI), (115, aB)]) rfl rfl <| w_ch h44 rfl (fun hb48 h48 => ?_) (fun hb48 h48 => ?_)
           ·
            refine w_sr <| o_p rfl (p_fa tf29x5 rfl) <| o_p rfl (p_fa tf25x0 rfl) <| o_p rfl (p_load (v := aI) tv3 rfl rfl rfl) <| o_p rfl (p_eql rfl rfl) <| sB rfl <| o_ek (fr' := [(2, aB)]) rfl rfl <| w_ret <| e_blk_r <| e_seq_r ?_
            obtain rfl := sy h48
            exact e_ret (rs' := [.tmp 2]) rfl <| r_tmp (v := aB) rfl <| r_nil <| fin_gen [] rfl rfl rfl lr st_nil
           ·
            refine w_sr <| o_p rfl (p_eql rfl rfl) <| sB rfl <| o_ek (fr' := [(1, .box 0 0), (35, aI), (121, aB)]) rfl rfl <| w_ch h48 rfl (fun hb50 h50 => ?_) (fun hb50 h50 => ?_)
            ·
             refine w_sr <| o_p rfl (p_fa tf29x2 rfl) <| o_p rfl (p_load (v := aS) tv9 rfl rfl rfl) <| o_p rfl (p_lens ti9 rfl) <| o_p rfl (p_leq rfl rfl) <| sB rfl <| o_ek (fr' := [(2, aB)]) rfl rfl <| w_ret <| e_blk_r <| e_seq_r ?_
             obtain rfl := sy h50
             exact e_ret (rs' := [.tmp 2]) rfl <| r_tmp (v := aB) rfl <| r_nil <| fin_gen [] rfl rfl rfl lr st_nil
            ·
             refine w_sr <| o_p rfl (p_eql rfl rfl) <| sB rfl <| o_ek (fr' := [(1, .box 0 0), (127, aB)]) rfl rfl <| w_ch h50 rfl (fun hb52 h52 => ?_) (fun hb52 h52 => ?_)
             ·
              refine w_sr <| o_p rfl (p_fa tf29x5 rfl) <| o_p rfl (p_loads (us := aIISLL) tv25 rfl rfl rfl rfl) ?_
              obtain ⟨x53, hx53, h54⟩ := bind_s h52
              refine o_v (ov_call (v := aB) rfl (w_ref20xInput hx53) ⟨(le_aggc rfl ⟨rfl, rfl, rfl, rfl, rfl, trivial⟩), trivial⟩ rfl rfl rfl) <| sB rfl <| o_ek (fr' := [(2, aB)]) rfl rfl <| w_ret <| e_blk_r <| e_seq_r ?_
              obtain rfl := sy h54
              exact e_ret (rs' := [.tmp 2]) rfl <| r_tmp (v := aB) rfl <| r_nil <| fin_gen [] rfl rfl rfl lr st_nil
             ·
              refine w_skip <| e_blk_n <| e_kw <| w_sr <| sB rfl <| o_ek (fr' := [(2, aB)]) rfl rfl <| w_ret ?_
              obtain rfl := sy h52
              exact e_ret (rs' := [.tmp 2]) rfl <| r_tmp (v := aB) rfl <| r_nil <| fin_gen [] rfl rfl rfl lr st_nil
noncomputable def ref01xzigzag (p0n : Int) : Option Int :=
 cond (decide ((0 : Int) ≤ p0n)) (some (IntKind.wrap .u64 ((2 : Int) * (IntKind.wrap .u64 p0n)))) (some (IntKind.wrap .u64 ((IntKind.wrap .u64 ((2 : Int) * (IntKind.wrap .u64 (IntKind.wrap .i64 (0 - (IntKind.wrap .i64 (p0n + (1 : Int)))))))) + (1 : Int))))
theorem w_ref01xzigzag {p0n : Int} {res : Int} (h : ref01xzigzag p0n = some res) : ACalls Try.prog 100 [.c (.int .i64 p0n)] [] (.c (.int .u64 res)) [] := by
 unfold ref01xzigzag at h
 refine acalls (fn := Try.f100) [0, 2, 4] (by kernel_rfl) Try.func100 rfl (by kernel_rfl) (by kernel_rfl) <| w_sr <| sI rfl <| o_ek (fr' := [(0, aI)]) rfl rfl <| w_seqw <| w_sr <| mI rfl <| o_p rfl (p_geq rfl rfl) <| o_ek (fr' := [(0, aI), (4, aB)]) rfl rfl <| w_ch h rfl (fun hb1 h1 => ?_) (fun hb1 h1 => ?_)
 ·
  refine w_sr <| mI rfl <| o_p rfl (p_conv tk3 tk103 rfl) <| o_p rfl (p_mul rfl rfl) <| sI rfl <| o_ek (fr' := [(2, aI)]) rfl rfl <| w_ret <| e_seq_r ?_
  obtain rfl := sy h1
  exact e_ret (rs' := [.tmp 2]) rfl <| r_tmp (v := aI) rfl <| r_nil <| fin_gen [] rfl rfl rfl lr st_nil
 ·
  refine w_skip <| e_kw <| w_sr <| mI rfl <| o_p rfl (p_add rfl rfl) <| o_p rfl (p_neg rfl) <| o_p rfl (p_conv tk3 tk103 rfl) <| o_p rfl (p_mul rfl rfl) <| o_p rfl (p_add rfl rfl) <| sI rfl <| o_ek (fr' := [(2, aI)]) rfl rfl <| w_ret ?_
  obtain rfl := sy h1
  exact e_ret (rs' := [.tmp 2]) rfl <| r_tmp (v := aI) rfl <| r_nil <| fin_gen [] rfl rfl rfl lr st_nil
noncomputable def ref01xPutInt_l1  (s8 : ((List UInt8) × Int)) : Option (Step ((List UInt8) × Int) ((List UInt8) × Int)) :=
 cond (decide ((127 : Int) < s8.2)) ((byteOf (IntKind.wrap .u8 (IntKind.wrap .u64 ((Int.tmod s8.2 (128 : Int)) + (128 : Int))))).bind fun (x10 : UInt8) => (app 1 s8.1 ([x10] : List UInt8)).bind fun (x12 : (List UInt8)) => some (Step.next (x12, (IntKind.wrap .u64 (Int.tdiv s8.2 (128 : Int)))))) (some (Step.out (s8.1, s8.2)))
noncomputable def ref01xPutInt (p0b : (List UInt8)) (p1n : Int) : Option (List UInt8) :=
 (app 1 ([] : List UInt8) p0b).bind fun (x1 : (List UInt8)) => (ref01xzigzag p1n).bind fun (x3 : Int) => ((loopO (ref01xPutInt_l1) ((x1, x3))) : Option ((List UInt8) × Int)).bind fun (x5 : ((List UInt8) × Int)) => ((byteOf (IntKind.wrap .u8 x5.2)).bind fun (x16 : UInt8) => (app 1 x5.1 ([x16] : List UInt8)).bind fun (x18 : (List UInt8)) => some x18)
theorem w_ref01xPutInt {p0b : (List UInt8)} {p1n : Int} {res : (List UInt8)} (h : ref01xPutInt p0b p1n = some res) : ACalls Try.prog 78 [.c (PV.ls 1 brow p0b), .c (.int .i64 p1n)] [] (AV.os 0 1 brow res) [] := by
 unfold ref01xPutInt at h
 refine acalls (fn := Try.f78) [0, 1, 4, 5, 6, 13] (by kernel_rfl) Try.func78 rfl (by kernel_rfl) (by kernel_rfl) <| w_sr <| sV (v := .nil) rfl <| o_ek (fr' := [(0, aL), (1, aI)]) rfl rfl <| w_sr <| o_rows (row := brow) (xs := ([] : List UInt8)) (rows := []) (σ' := []) [0] ts40 rfl rfl rfl arow_nil rfl rfl <| mL rfl ?_
 obtain ⟨x1, hx1, h2⟩ := bind_s h
 refine o_app (row := brow) ts40 rfl ti40 rfl (isl_c rfl) (fun _ => rfl) hx1 <| sV (v := aO) rfl <| o_ek (fr' := [(1, aI), (5, aO)]) rfl rfl <| w_sr <| mI rfl ?_
 obtain ⟨x3, hx3, h4⟩ := bind_s h2
 refine o_v (ov_call (v := aI) rfl (w_ref01xzigzag hx3) ⟨lr, trivial⟩ rfl rfl rfl) <| sI rfl <| o_ek (fr' := [(5, aO), (6, aI)]) rfl rfl ?_
 obtain ⟨x5, hx5, h6⟩ := bind_s h4
 refine w_join (fun j7 => x5 = j7) (fun (j7 : ((List UInt8) × Int)) => ([(5, AV.os 0 1 brow j7.1), (6, .c (.int .u64 j7.2))] : Fr)) (fun (j7 : ((List UInt8) × Int)) => ([] : St)) ?_ ?_
 ·
  refine w_block <| w_loopo _ (fun (s8 : ((List UInt8) × Int)) => ([(5, AV.os 0 1 brow s8.1), (6, .c (.int .u64 s8.2))] : Fr)) (fun (s8 : ((List UInt8) × Int)) => ([] : St)) hx5 (w_weak [144] 0 rfl rfl rfl rfl ⟨lr, lr, trivial⟩ st_nil) ?_
  intro s8 st8 hs8 ho8
  unfold ref01xPutInt_l1 at hs8
  refine w_seqw <| w_sr <| mI rfl <| o_p rfl (p_gtr rfl rfl) <| o_ek (fr' := [(5, aO), (6, aI), (13, aB)]) rfl rfl <| w_ch hs8 rfl (fun hb9 h9 => ?_) (fun hb9 h9 => ?_)
  ·
   refine w_skip <| e_kw <| w_block <| w_sr <| mV (v := aO) rfl <| mI rfl <| o_p rfl (p_rem rfl rfl (by decide)) <| o_p rfl (p_add rfl rfl) <| o_p rfl (p_conv tk103 tk5 rfl) ?_
   obtain ⟨x10, hx10, h11⟩ := bind_s h9
   refine o_rows (row := brow) (xs := ([x10] : List UInt8)) (rows := [[_]]) (σ' := []) [0] ts40 rfl rfl rfl (arow_cons (brow_of hx10) arow_nil) rfl rfl ?_
   obtain ⟨x12, hx12, h13⟩ := bind_s h11
   exact o_app (row := brow) ts40 rfl ti40 rfl (isl_o rfl) (fun _ => rfl) hx12 <| sV (v := aO) rfl <| o_ek (fr' := [(5, aO), (6, aI)]) rfl rfl <| w_region <| mI rfl <| o_p rfl (p_quo rfl rfl (by decide)) <| sI rfl <| o_end (fr' := [(5, aO), (6, aI)]) rfl <| e_blk_n <| e_l _ (sy h13) (w_weak [320] 0 rfl rfl rfl rfl ⟨lr, lr, trivial⟩ st_nil)
  ·
   refine w_exit <| e_seq_x <| e_seq_x <| e_blk_h ?_
   have h14 := un_out h9 ho8
   exact e_j _ (sy h14) (w_weak [0] 0 rfl rfl rfl rfl ⟨lr, lr, trivial⟩ st_nil)
 ·
  intro j7 hj15
  subst hj15
  refine w_sr <| mV (v := aO) rfl <| mI rfl <| o_p rfl (p_conv tk103 tk5 rfl) ?_
  obtain ⟨x16, hx16, h17⟩ := bind_s h6
  refine o_rows (row := brow) (xs := ([x16] : List UInt8)) (rows := [[_]]) (σ' := []) [0] ts40 rfl rfl rfl (arow_cons (brow_of hx16) arow_nil) rfl rfl ?_
  obtain ⟨x18, hx18, h19⟩ := bind_s h17
  refine o_app (row := brow) ts40 rfl ti40 rfl (isl_o rfl) (fun _ => rfl) hx18 <| sV (v := aO) rfl <| o_ek (fr' := [(5, aO)]) rfl rfl <| w_sr <| mV (v := aO) rfl <| sV (v := aO) rfl <| o_ek (fr' := [(4, aO)]) rfl rfl <| w_ret ?_
  obtain rfl := sy h19
  exact e_ret (rs' := [.tmp 4]) rfl <| r_tmp (v := aO) rfl <| r_nil <| fin_gen [432] rfl rfl rfl lr st_nil
noncomputable def ref01xPutText_l1 (p1s : (List UInt8)) (s6 : ((List UInt8) × Int)) : Option (Step ((List UInt8) × Int) (List UInt8)) :=
 cond (decide (s6.2 < ((p1s).length : Int))) ((idx p1s s6.2).bind fun (x8 : UInt8) => (byteOf ((x8).toNat : Int)).bind fun (x10 : UInt8) => (app 1 s6.1 ([x10] : List UInt8)).bind fun (x12 : (List UInt8)) => some (Step.next (x12, (IntKind.wrap .i64 (s6.2 + (1 : Int)))))) (some (Step.out s6.1))
noncomputable def ref01xPutText (p0b : (List UInt8)) (p1s : (List UInt8)) : Option (List UInt8) :=
 (ref01xPutInt p0b ((p1s).length : Int)).bind fun (x1 : (List UInt8)) => ((loopO (ref01xPutText_l1 p1s) ((x1, (0 : Int)))) : Option (List UInt8)).bind fun (x3 : (List UInt8)) => (some x3)
theorem w_ref01xPutText {p0b : (List UInt8)} {p1s : (List UInt8)} {res : (List UInt8)} (h : ref01xPutText p0b p1s = some res) : ACalls Try.prog 79 [.c (PV.ls 1 brow p0b), .c (.str p1s)] [] (AV.os 0 1 brow res) [] := by
 unfold ref01xPutText at h
 refine acalls (fn := Try.f79) [0, 1, 4, 5, 6, 14] (by kernel_rfl) Try.func79 rfl (by kernel_rfl) (by kernel_rfl) <| w_sr <| sV (v := .nil) rfl <| o_ek (fr' := [(0, aL), (1, aS)]) rfl rfl <| w_sr <| mL rfl <| mS rfl <| o_p rfl (p_lens ti9 rfl) ?_
 obtain ⟨x1, hx1, h2⟩ := bind_s h
 refine o_v (ov_call (v := aO) rfl (w_ref01xPutInt hx1) ⟨lr, lr, trivial⟩ rfl rfl rfl) <| sV (v := aO) rfl <| o_ek (fr' := [(1, aS), (5, aO)]) rfl rfl <| w_seqw <| w_sr <| sI rfl <| o_ek (fr' := [(1, aS), (5, aO), (6, aI)]) rfl rfl ?_
 obtain ⟨x3, hx3, h4⟩ := bind_s h2
 refine w_jtail cl_kw (fun j5 => x3 = j5) (fun (j5 : (List UInt8)) => ([(5, AV.os 0 1 brow j5)] : Fr)) (fun (j5 : (List UInt8)) => ([] : St)) ?_ ?_
 ·
  refine w_block <| w_loopo _ (fun (s6 : ((List UInt8) × Int)) => ([(1, .c (.str p1s)), (5, AV.os 0 1 brow s6.1), (6, .c (.int .i64 s6.2))] : Fr)) (fun (s6 : ((List UInt8) × Int)) => ([] : St)) hx3 (w_weak [160] 0 rfl rfl rfl rfl ⟨lr, lr, lr, trivial⟩ st_nil) ?_
  intro s6 st6 hs6 ho6
  unfold ref01xPutText_l1 at hs6
  refine w_seqw <| w_sr <| mI rfl <| mS rfl <| o_p rfl (p_lens ti9 rfl) <| o_p rfl (p_lss rfl rfl) <| o_ek (fr' := [(1, aS), (5, aO), (6, aI), (14, aB)]) rfl rfl <| w_ch hs6 rfl (fun hb7 h7 => ?_) (fun hb7 h7 => ?_)
  ·
   refine w_skip <| e_kw <| w_seqw <| w_block <| w_region <| mV (v := aO) rfl <| mS rfl <| mI rfl ?_
   obtain ⟨x8, hx8, h9⟩ := bind_s h7
   refine o_p rfl (p_is ti9 rfl rfl hx8) ?_
   obtain ⟨x10, hx10, h11⟩ := bind_s h9
   refine o_rows (row := brow) (xs := ([x10] : List UInt8)) (rows := [[_]]) (σ' := []) [0] ts40 rfl rfl rfl (arow_cons (brow_of hx10) arow_nil) rfl rfl ?_
   obtain ⟨x12, hx12, h13⟩ := bind_s h11
   exact o_app (row := brow) ts40 rfl ti40 rfl (isl_o rfl) (fun _ => rfl) hx12 <| sV (v := aO) rfl <| o_end (fr' := [(1, aS), (5, aO), (6, aI), (14, aB)]) rfl <| e_blk_n <| e_kw <| w_region <| mI rfl <| o_p rfl (p_add rfl rfl) <| sI rfl <| o_end (fr' := [(1, aS), (5, aO), (6, aI), (14, aB)]) rfl <| e_l _ (sy h13) (w_weak [352] 0 rfl rfl rfl rfl ⟨lr, lr, lr, trivial⟩ st_nil)
  ·
   refine w_exit <| e_seq_x <| e_seq_x <| e_blk_h ?_
   have h14 := un_out h7 ho6
   exact e_j _ (sy h14) (w_weak [0] 0 rfl rfl rfl rfl ⟨lr, trivial⟩ st_nil)
 ·
  intro j5 hj15
  subst hj15
  refine e_kw <| w_sr <| mV (v := aO) rfl <| sV (v := aO) rfl <| o_ek (fr' := [(4, aO)]) rfl rfl <| w_ret ?_
  obtain rfl := sy h4
  exact e_ret (rs' := [.tmp 4]) rfl <| r_tmp (v := aO) rfl <| r_nil <| fin_gen [0] rfl rfl rfl lr st_nil
noncomputable def ref20xEncodePolicy_l1 (p1o : ApiPolicy) (s12 : ((List UInt8) × Int)) : Option (Step ((List UInt8) × Int) (List UInt8)) :=
 cond (decide (s12.2 < ((([p1o.ToStart, p1o.ToClose, p1o.Total, p1o.Beat, p1o.First, p1o.Coef, p1o.Most, p1o.Attempts, ((p1o.Fatal).length : Int)] : List Int)).length : Int))) ((idx ([p1o.ToStart, p1o.ToClose, p1o.Total, p1o.Beat, p1o.First, p1o.Coef, p1o.Most, p1o.Attempts, ((p1o.Fatal).length : Int)] : List Int) s12.2).bind fun (x14 : Int) => (ref01xPutInt s12.1 x14).bind fun (x16 : (List UInt8)) => some (Step.next (x16, (IntKind.wrap .i64 (s12.2 + (1 : Int)))))) (some (Step.out s12.1))
noncomputable def ref20xEncodePolicy_l2 (p1o : ApiPolicy) (s23 : ((List UInt8) × Int)) : Option (Step ((List UInt8) × Int) (List UInt8)) :=
 cond (decide (s23.2 < ((p1o.Fatal).length : Int))) ((idx p1o.Fatal s23.2).bind fun (x25 : (List UInt8)) => (ref01xPutText s23.1 x25).bind fun (x27 : (List UInt8)) => some (Step.next (x27, (IntKind.wrap .i64 (s23.2 + (1 : Int)))))) (some (Step.out s23.1))
noncomputable def ref20xEncodePolicy (p0b : (List UInt8)) (p1o : ApiPolicy) : Option (List UInt8) :=
 (app 1 ([] : List UInt8) p0b).bind fun (x1 : (List UInt8)) => (ref20xRightPolicy p1o).bind fun (x3 : Bool) => cond (!x3) (some x1) ((ref01xPutText x1 p1o.Queue).bind fun (x7 : (List UInt8)) => ((loopO (ref20xEncodePolicy_l1 p1o) ((x7, (0 : Int)))) : Option (List UInt8)).bind fun (x9 : (List UInt8)) => (((loopO (ref20xEncodePolicy_l2 p1o) ((x9, (0 : Int)))) : Option (List UInt8)).bind fun (x20 : (List UInt8)) => (some x20)))
theorem w_ref20xEncodePolicy {p0b : (List UInt8)} {p1o : ApiPolicy} {res : (List UInt8)} (h : ref20xEncodePolicy p0b p1o = some res) : ACalls Try.prog 36 [.c (PV.ls 1 brow p0b), .agg (AV.cs (rowApiPolicy p1o))] [] (AV.os 0 1 brow res) [] := by
 unfold ref20xEncodePolicy at h
 refine acalls (fn := Try.f36) [0, 1, 3, 4, 5, 6, 7, 8, 14, 43, 56] (by kernel_rfl) Try.func36 rfl (by kernel_rfl) (by kernel_rfl) <| w_sr <| o_box (v := .agg aSIIIIIIIIL) (n := 0) (cs := aSIIIIIIIIL) (σ' := [aSIIIIIIIIL]) rfl rfl rfl rfl rfl <| sV (v := .nil) rfl <| o_ek (fr' := [(0, aL), (3, .box 0 0)]) rfl rfl <| w_sr <| sV (v := .nil) rfl <| o_ek (fr' := [(0, aL), (3, .box 0 0), (5, .nil)]) rfl rfl <| w_sr <| mV (v := .nil) rfl ?_
 refine mL rfl ?_
 obtain ⟨x1, hx1, h2⟩ := bind_s h
 refine o_appn (row := brow) ts40 rfl ti40 rfl (isl_c rfl) (fun _ => rfl) hx1 <| sV (v := aO) rfl <| o_ek (fr' := [(3, .box 0 0), (5, aO)]) rfl rfl <| w_seqw <| w_sr <| o_p rfl (p_loads (us := aSIIIIIIIIL) tv27 rfl rfl rfl rfl) ?_
 obtain ⟨x3, hx3, h4⟩ := bind_s h2
 refine o_v (ov_call (v := aB) rfl (w_ref20xRightPolicy hx3) ⟨(le_aggc rfl ⟨rfl, rfl, rfl, rfl, rfl, rfl, rfl, rfl, rfl, rfl, trivial⟩), trivial⟩ rfl rfl rfl) <| o_p rfl (p_not rfl) <| o_ek (fr' := [(3, .box 0 0), (5, aO), (14, aB)]) rfl rfl <| w_ch h4 rfl (fun hb5 h5 => ?_) (fun hb5 h5 => ?_)
 ·
  refine w_sr <| mV (v := aO) rfl <| sV (v := aO) rfl <| o_ek (fr' := [(4, aO)]) rfl rfl <| w_ret <| e_seq_r ?_
  obtain rfl := sy h5
  exact e_ret (rs' := [.tmp 4]) rfl <| r_tmp (v := aO) rfl <| r_nil <| fin_gen [176] rfl rfl rfl lr st_nil
 ·
  refine w_skip <| e_kw <| w_sr <| mV (v := aO) rfl <| o_p rfl (p_fa tf27x0 rfl) <| o_p rfl (p_load (v := aS) tv9 rfl rfl rfl) ?_
  obtain ⟨x7, hx7, h8⟩ := bind_s h5
  refine o_v (ov_call (v := aO) rfl (w_ref01xPutText hx7) ⟨lr, lr, trivial⟩ rfl rfl rfl) <| sV (v := aO) rfl <| o_ek (fr' := [(3, .box 0 0), (5, aO)]) rfl rfl <| w_sr <| o_p rfl (p_fa tf27x1 rfl) <| o_p rfl (p_load (v := aI) tv3 rfl rfl rfl) <| o_p rfl (p_fa tf27x2 rfl) <| o_p rfl (p_load (v := aI) tv3 rfl rfl rfl) <| o_p rfl (p_fa tf27x3 rfl) <| o_p rfl (p_load (v := aI) tv3 rfl rfl rfl) <| o_p rfl (p_fa tf27x4 rfl) <| o_p rfl (p_load (v := aI) tv3 rfl rfl rfl) ?_
  refine o_p rfl (p_fa tf27x5 rfl) <| o_p rfl (p_load (v := aI) tv3 rfl rfl rfl) <| o_p rfl (p_fa tf27x6 rfl) <| o_p rfl (p_load (v := aI) tv3 rfl rfl rfl) <| o_p rfl (p_fa tf27x7 rfl) <| o_p rfl (p_load (v := aI) tv3 rfl rfl rfl) <| o_p rfl (p_fa tf27x8 rfl) <| o_p rfl (p_load (v := aI) tv3 rfl rfl rfl) <| o_p rfl (p_fa tf27x9 rfl) <| o_p rfl (p_load (v := aL) tv23 rfl rfl rfl) <| o_p rfl (p_len ti23 (isl_c rfl)) <| o_rows (row := (rowI .i64)) (xs := ([p1o.ToStart, p1o.ToClose, p1o.Total, p1o.Beat, p1o.First, p1o.Coef, p1o.Most, p1o.Attempts, ((p1o.Fatal).length : Int)] : List Int)) (rows := [[_], [_], [_], [_], [_], [_], [_], [_], [_]]) (σ' := [aSIIIIIIIIL]) [0] ts65 rfl rfl rfl (arow_cons rfl (arow_cons rfl (arow_cons rfl (arow_cons rfl (arow_cons rfl (arow_cons rfl (arow_cons rfl (arow_cons rfl (arow_cons rfl arow_nil))))))))) rfl rfl <| sV (v := aO) rfl ?_
  refine o_ek (fr' := [(3, .box 0 0), (5, aO), (6, aO)]) rfl rfl <| w_seqw <| w_sr <| sI rfl <| o_ek (fr' := [(3, .box 0 0), (5, aO), (6, aO), (7, aI)]) rfl rfl ?_
  obtain ⟨x9, hx9, h10⟩ := bind_s h8
  refine w_jtail cl_kw (fun j11 => x9 = j11) (fun (j11 : (List UInt8)) => ([(3, .box 0 0), (5, AV.os 0 1 brow j11)] : Fr)) (fun (j11 : (List UInt8)) => ([[.c (.str p1o.Queue), .c (.int .i64 p1o.ToStart), .c (.int .i64 p1o.ToClose), .c (.int .i64 p1o.Total), .c (.int .i64 p1o.Beat), .c (.int .i64 p1o.First), .c (.int .i64 p1o.Coef), .c (.int .i64 p1o.Most), .c (.int .i64 p1o.Attempts), .c (PV.ls 1 rowS p1o.Fatal)]] : St)) ?_ ?_
  ·
   refine w_block <| w_loopo _ (fun (s12 : ((List UInt8) × Int)) => ([(3, .box 0 0), (5, AV.os 0 1 brow s12.1), (6, AV.os 1 1 (rowI .i64) ([p1o.ToStart, p1o.ToClose, p1o.Total, p1o.Beat, p1o.First, p1o.Coef, p1o.Most, p1o.Attempts, ((p1o.Fatal).length : Int)] : List Int)), (7, .c (.int .i64 s12.2))] : Fr)) (fun (s12 : ((List UInt8) × Int)) => ([[.c (.str p1o.Queue), .c (.int .i64 p1o.ToStart), .c (.int .i64 p1o.ToClose), .c (.int .i64 p1o.Total), .c (.int .i64 p1o.Beat), .c (.int .i64 p1o.First), .c (.int .i64 p1o.Coef), .c (.int .i64 p1o.Most), .c (.int .i64 p1o.Attempts), .c (PV.ls 1 rowS p1o.Fatal)]] : St)) hx9 (w_weak [304, 624] 1 rfl rfl rfl rfl ⟨lr, lr, lr, lr, trivial⟩ (st_r rfl st_nil)) ?_
   intro s12 st12 hs12 ho12
   unfold ref20xEncodePolicy_l1 at hs12
   refine w_seqw <| w_sr <| mI rfl <| mV (v := aO) rfl <| o_p rfl (p_len ti65 (isl_o rfl)) <| o_p rfl (p_lss rfl rfl) <| o_ek (fr' := [(3, .box 0 0), (5, aO), (6, aO), (7, aI), (43, aB)]) rfl rfl <| w_ch hs12 rfl (fun hb13 h13 => ?_) (fun hb13 h13 => ?_)
   ·
    refine w_skip <| e_kw <| w_seqw <| w_block <| w_region <| mV (v := aO) rfl <| mV (v := aO) rfl <| mI rfl ?_
    obtain ⟨x14, hx14, h15⟩ := bind_s h13
    refine o_p rfl (p_ia (cs := [.int _ _]) ts65 (isl_o rfl) rfl hx14 rfl) <| o_p rfl (p_loade (p := .int _ _) tv3 rfl rfl) ?_
    obtain ⟨x16, hx16, h17⟩ := bind_s h15
    exact o_v (ov_call (v := aO) rfl (w_ref01xPutInt hx16) ⟨lr, lr, trivial⟩ rfl rfl rfl) <| sV (v := aO) rfl <| o_end (fr' := [(3, .box 0 0), (5, aO), (6, aO), (7, aI), (43, aB)]) rfl <| e_blk_n <| e_kw <| w_region <| mI rfl <| o_p rfl (p_add rfl rfl) <| sI rfl <| o_end (fr' := [(3, .box 0 0), (5, aO), (6, aO), (7, aI), (43, aB)]) rfl <| e_l _ (sy h17) (w_weak [816, 1] 1 rfl rfl rfl rfl ⟨lr, lr, lr, lr, trivial⟩ (st_r rfl st_nil))
   ·
    refine w_exit <| e_seq_x <| e_seq_x <| e_blk_h ?_
    have h18 := un_out h13 ho12
    exact e_j _ (sy h18) (w_weak [0] 1 rfl rfl rfl rfl ⟨lr, lr, trivial⟩ (st_r rfl st_nil))
  ·
   intro j11 hj19
   subst hj19
   refine e_kw <| w_seqw <| w_sr <| sI rfl <| o_ek (fr' := [(3, .box 0 0), (5, aO), (8, aI)]) rfl rfl ?_
   obtain ⟨x20, hx20, h21⟩ := bind_s h10
   refine w_jtail cl_kw (fun j22 => x20 = j22) (fun (j22 : (List UInt8)) => ([(5, AV.os 0 1 brow j22)] : Fr)) (fun (j22 : (List UInt8)) => ([[.c (.str p1o.Queue), .c (.int .i64 p1o.ToStart), .c (.int .i64 p1o.ToClose), .c (.int .i64 p1o.Total), .c (.int .i64 p1o.Beat), .c (.int .i64 p1o.First), .c (.int .i64 p1o.Coef), .c (.int .i64 p1o.Most), .c (.int .i64 p1o.Attempts), .c (PV.ls 1 rowS p1o.Fatal)]] : St)) ?_ ?_
   ·
    refine w_block <| w_loopo _ (fun (s23 : ((List UInt8) × Int)) => ([(3, .box 0 0), (5, AV.os 0 1 brow s23.1), (8, .c (.int .i64 s23.2))] : Fr)) (fun (s23 : ((List UInt8) × Int)) => ([[.c (.str p1o.Queue), .c (.int .i64 p1o.ToStart), .c (.int .i64 p1o.ToClose), .c (.int .i64 p1o.Total), .c (.int .i64 p1o.Beat), .c (.int .i64 p1o.First), .c (.int .i64 p1o.Coef), .c (.int .i64 p1o.Most), .c (.int .i64 p1o.Attempts), .c (PV.ls 1 rowS p1o.Fatal)]] : St)) hx20 (w_weak [0] 1 rfl rfl rfl rfl ⟨lr, lr, lr, trivial⟩ (st_r rfl st_nil)) ?_
    intro s23 st23 hs23 ho23
    unfold ref20xEncodePolicy_l2 at hs23
    refine w_seqw <| w_sr <| mI rfl <| o_p rfl (p_fa tf27x9 rfl) <| o_p rfl (p_load (v := aL) tv23 rfl rfl rfl) <| o_p rfl (p_len ti23 (isl_c rfl)) <| o_p rfl (p_lss rfl rfl) <| o_ek (fr' := [(3, .box 0 0), (5, aO), (8, aI), (56, aB)]) rfl rfl <| w_ch hs23 rfl (fun hb24 h24 => ?_) (fun hb24 h24 => ?_)
    ·
     refine w_skip <| e_kw <| w_seqw <| w_block <| w_region <| mV (v := aO) rfl <| o_p rfl (p_fa tf27x9 rfl) <| o_p rfl (p_load (v := aL) tv23 rfl rfl rfl) <| mI rfl ?_
     obtain ⟨x25, hx25, h26⟩ := bind_s h24
     refine o_p rfl (p_ia (cs := [.str _]) ts23 (isl_c rfl) rfl hx25 rfl) <| o_p rfl (p_loade (p := .str _) tv9 rfl rfl) ?_
     obtain ⟨x27, hx27, h28⟩ := bind_s h26
     exact o_v (ov_call (v := aO) rfl (w_ref01xPutText hx27) ⟨lr, lr, trivial⟩ rfl rfl rfl) <| sV (v := aO) rfl <| o_end (fr' := [(3, .box 0 0), (5, aO), (8, aI), (56, aB)]) rfl <| e_blk_n <| e_kw <| w_region <| mI rfl <| o_p rfl (p_add rfl rfl) <| sI rfl <| o_end (fr' := [(3, .box 0 0), (5, aO), (8, aI), (56, aB)]) rfl <| e_l _ (sy h28) (w_weak [1040] 1 rfl rfl rfl rfl ⟨lr, lr, lr, trivial⟩ (st_r rfl st_nil))
    ·
     refine w_exit <| e_seq_x <| e_seq_x <| e_blk_h ?_
     have h29 := un_out h24 ho23
     exact e_j _ (sy h29) (w_weak [0] 1 rfl rfl rfl rfl ⟨lr, trivial⟩ (st_r rfl st_nil))
   ·
    intro j22 hj30
    subst hj30
    refine e_kw <| w_sr <| mV (v := aO) rfl <| sV (v := aO) rfl <| o_ek (fr' := [(4, aO)]) rfl rfl <| w_ret ?_
    obtain rfl := sy h21
    exact e_ret (rs' := [.tmp 4]) rfl <| r_tmp (v := aO) rfl <| r_nil <| fin_gen [0] rfl rfl rfl lr st_nil
noncomputable def ref02xput_l1 (rec_ref02xput : (List UInt8) → ApiValue → Option (List UInt8)) (p1v : ApiValue) (s29 : ((List UInt8) × Int)) : Option (Step ((List UInt8) × Int) (List UInt8)) :=
 cond (decide (s29.2 < ((p1v.Items).length : Int))) (((cond (decide (p1v.Kind = (5 : Int))) ((idx p1v.Keys s29.2).bind fun (x35 : (List UInt8)) => (ref01xPutText s29.1 x35).bind fun (x37 : (List UInt8)) => some x37) (some s29.1)) : Option (List UInt8)).bind fun (x31 : (List UInt8)) => ((idx p1v.Items s29.2).bind fun (x40 : ApiValue) => (rec_ref02xput x31 x40).bind fun (x42 : (List UInt8)) => some (Step.next (x42, (IntKind.wrap .i64 (s29.2 + (1 : Int))))))) (some (Step.out s29.1))
noncomputable def ref02xputF : Nat → (List UInt8) → ApiValue → Option (List UInt8)
 | 0, _, _ => none
 | n + 1, p0b, p1v =>
  (ref01xPutInt p0b p1v.Kind).bind fun (x1 : (List UInt8)) => ((((cond (decide (p1v.Kind = (1 : Int))) (some (decide (p1v.Kind = (1 : Int)))) (cond (decide (p1v.Kind = (2 : Int))) (some (decide (p1v.Kind = (2 : Int)))) (some (decide (p1v.Kind = (6 : Int)))))) : Option Bool).bind fun (x6 : Bool) => (cond x6 ((ref01xPutInt x1 p1v.Int).bind fun (x13 : (List UInt8)) => some x13) (cond (decide (p1v.Kind = (3 : Int))) ((ref01xPutText x1 p1v.Text).bind fun (x16 : (List UInt8)) => some x16) (((cond (decide (p1v.Kind = (4 : Int))) (some (decide (p1v.Kind = (4 : Int)))) (some (decide (p1v.Kind = (5 : Int))))) : Option Bool).bind fun (x18 : Bool) => (cond x18 ((ref01xPutInt x1 ((p1v.Items).length : Int)).bind fun (x24 : (List UInt8)) => ((loopO (ref02xput_l1 (ref02xputF n) p1v) ((x24, (0 : Int)))) : Option (List UInt8)).bind fun (x26 : (List UInt8)) => (some x26)) (some x1)))))) : Option (List UInt8)).bind fun (x3 : (List UInt8)) => (some x3)
theorem wF_ref02xput : ∀ n : Nat, (∀ {p0b : (List UInt8)} {p1v : ApiValue} {res : (List UInt8)}, ref02xputF n p0b p1v = some res → ACalls Try.prog 101 [.c (PV.ls 1 brow p0b), .agg (AV.cs (exApiValue p1v))] [] (AV.os 0 1 brow res) []) := by
 intro n
 induction n with
 | zero => exact fun {p0b p1v res} h => absurd h (by simp [ref02xputF])
 | succ n ih =>
  have ih_ref02xput := @ih
  intro p0b p1v res h
  rw [ref02xputF] at h
  refine acalls (fn := Try.f101) [0, 1, 3, 4, 5, 11, 12, 20, 26, 38, 43] (by kernel_rfl) Try.func101 rfl (by kernel_rfl) (by kernel_rfl) <| w_sr <| o_box (v := .agg aIISLL) (n := 0) (cs := aIISLL) (σ' := [aIISLL]) rfl rfl rfl rfl rfl <| sV (v := .nil) rfl <| o_ek (fr' := [(0, aL), (3, .box 0 0)]) rfl rfl <| w_sr <| mL rfl <| o_p rfl (p_fa tf25x0 rfl) <| o_p rfl (p_load (v := aI) tv3 rfl rfl rfl) ?_
  obtain ⟨x1, hx1, h2⟩ := bind_s h
  refine o_v (ov_call (v := aO) rfl (w_ref01xPutInt hx1) ⟨lr, lr, trivial⟩ rfl rfl rfl) <| sV (v := aO) rfl <| o_ek (fr' := [(0, aO), (3, .box 0 0)]) rfl rfl ?_
  obtain ⟨x3, hx3, h4⟩ := bind_s h2
  refine w_join (fun j5 => x3 = j5) (fun (j5 : (List UInt8)) => ([(0, AV.os 0 1 brow j5)] : Fr)) (fun (j5 : (List UInt8)) => ([[.c (.int .i64 p1v.Kind), .c (.int .i64 p1v.Int), .c (.str p1v.Text), .c (PV.ls 5 rowApiValue p1v.Items), .c (PV.ls 1 rowS p1v.Keys)]] : St)) ?_ ?_
  ·
   refine w_sr <| o_p rfl (p_fa tf25x0 rfl) <| o_p rfl (p_load (v := aI) tv3 rfl rfl rfl) <| o_ek (fr' := [(0, aO), (3, .box 0 0), (11, aI)]) rfl rfl <| w_block ?_
   obtain ⟨x6, hx6, h7⟩ := bind_s hx3
   refine w_join (fun j8 => x6 = j8) (fun (j8 : Bool) => ([(0, AV.os 0 1 brow x1), (3, .box 0 0), (11, .c (.int .i64 p1v.Kind)), (12, .c (.bool j8))] : Fr)) (fun (j8 : Bool) => ([[.c (.int .i64 p1v.Kind), .c (.int .i64 p1v.Int), .c (.str p1v.Text), .c (PV.ls 5 rowApiValue p1v.Items), .c (PV.ls 1 rowS p1v.Keys)]] : St)) ?_ ?_
   ·
    refine w_sr <| o_p rfl (p_eql rfl rfl) <| sB rfl <| o_ek (fr' := [(0, aO), (3, .box 0 0), (11, aI), (12, aB)]) rfl rfl <| w_ch hx6 rfl (fun hb9 h9 => ?_) (fun hb9 h9 => ?_)
    ·
     exact w_skip <| e_j _ (sy h9) (w_weak [144] 1 rfl rfl rfl rfl ⟨lr, lr, lr, lr, trivial⟩ (st_r rfl st_nil))
    ·
     refine w_sr <| o_p rfl (p_eql rfl rfl) <| sB rfl <| o_ek (fr' := [(0, aO), (3, .box 0 0), (11, aI), (12, aB)]) rfl rfl <| w_ch h9 rfl (fun hb10 h10 => ?_) (fun hb10 h10 => ?_)
     ·
      exact w_skip <| e_j _ (sy h10) (w_weak [144] 1 rfl rfl rfl rfl ⟨lr, lr, lr, lr, trivial⟩ (st_r rfl st_nil))
     ·
      exact w_region <| o_p rfl (p_eql rfl rfl) <| sB rfl <| o_end (fr' := [(0, aO), (3, .box 0 0), (11, aI), (12, aB)]) rfl <| e_j _ (sy h10) (w_weak [144] 1 rfl rfl rfl rfl ⟨lr, lr, lr, lr, trivial⟩ (st_r rfl st_nil))
   ·
    intro j8 hj11
    subst hj11
    refine w_ch h7 rfl (fun hb12 h12 => ?_) (fun hb12 h12 => ?_)
    ·
     refine w_region <| mV (v := aO) rfl <| o_p rfl (p_fa tf25x1 rfl) <| o_p rfl (p_load (v := aI) tv3 rfl rfl rfl) ?_
     obtain ⟨x13, hx13, h14⟩ := bind_s h12
     exact o_v (ov_call (v := aO) rfl (w_ref01xPutInt hx13) ⟨lr, lr, trivial⟩ rfl rfl rfl) <| sV (v := aO) rfl <| o_end (fr' := [(0, aO), (3, .box 0 0), (11, aI), (12, aB)]) rfl <| e_blk_n <| e_j _ (sy h14) (w_weak [304] 1 rfl rfl rfl rfl ⟨lr, trivial⟩ (st_r rfl st_nil))
    ·
     refine w_sr <| o_p rfl (p_eql rfl rfl) <| sB rfl <| o_ek (fr' := [(0, aO), (3, .box 0 0), (11, aI), (20, aB)]) rfl rfl <| w_ch h12 rfl (fun hb15 h15 => ?_) (fun hb15 h15 => ?_)
     ·
      refine w_region <| mV (v := aO) rfl <| o_p rfl (p_fa tf25x2 rfl) <| o_p rfl (p_load (v := aS) tv9 rfl rfl rfl) ?_
      obtain ⟨x16, hx16, h17⟩ := bind_s h15
      exact o_v (ov_call (v := aO) rfl (w_ref01xPutText hx16) ⟨lr, lr, trivial⟩ rfl rfl rfl) <| sV (v := aO) rfl <| o_end (fr' := [(0, aO), (3, .box 0 0), (11, aI), (20, aB)]) rfl <| e_blk_n <| e_j _ (sy h17) (w_weak [400] 1 rfl rfl rfl rfl ⟨lr, trivial⟩ (st_r rfl st_nil))
     ·
      obtain ⟨x18, hx18, h19⟩ := bind_s h15
      refine w_join (fun j20 => x18 = j20) (fun (j20 : Bool) => ([(0, AV.os 0 1 brow x1), (3, .box 0 0), (26, .c (.bool j20))] : Fr)) (fun (j20 : Bool) => ([[.c (.int .i64 p1v.Kind), .c (.int .i64 p1v.Int), .c (.str p1v.Text), .c (PV.ls 5 rowApiValue p1v.Items), .c (PV.ls 1 rowS p1v.Keys)]] : St)) ?_ ?_
      ·
       refine w_sr <| o_p rfl (p_eql rfl rfl) <| sB rfl <| o_ek (fr' := [(0, aO), (3, .box 0 0), (11, aI), (26, aB)]) rfl rfl <| w_ch hx18 rfl (fun hb21 h21 => ?_) (fun hb21 h21 => ?_)
       ·
        exact w_skip <| e_j _ (sy h21) (w_weak [0] 1 rfl rfl rfl rfl ⟨lr, lr, lr, trivial⟩ (st_r rfl st_nil))
       ·
        exact w_region <| o_p rfl (p_eql rfl rfl) <| sB rfl <| o_end (fr' := [(0, aO), (3, .box 0 0), (11, aI), (26, aB)]) rfl <| e_j _ (sy h21) (w_weak [0] 1 rfl rfl rfl rfl ⟨lr, lr, lr, trivial⟩ (st_r rfl st_nil))
      ·
       intro j20 hj22
       subst hj22
       refine w_ch h19 rfl (fun hb23 h23 => ?_) (fun hb23 h23 => ?_)
       ·
        refine w_sr <| mV (v := aO) rfl <| o_p rfl (p_fa tf25x3 rfl) <| o_p rfl (p_load (v := aL) tv22 rfl rfl rfl) <| o_p rfl (p_len ti22 (isl_c rfl)) ?_
        obtain ⟨x24, hx24, h25⟩ := bind_s h23
        refine o_v (ov_call (v := aO) rfl (w_ref01xPutInt hx24) ⟨lr, lr, trivial⟩ rfl rfl rfl) <| sV (v := aO) rfl <| o_ek (fr' := [(0, aO), (3, .box 0 0)]) rfl rfl <| w_sr <| sI rfl <| o_ek (fr' := [(0, aO), (3, .box 0 0), (5, aI)]) rfl rfl ?_
        obtain ⟨x26, hx26, h27⟩ := bind_s h25
        refine w_jtail (cl_b cl_j) (fun j28 => x26 = j28) (fun (j28 : (List UInt8)) => ([(0, AV.os 0 1 brow j28)] : Fr)) (fun (j28 : (List UInt8)) => ([[.c (.int .i64 p1v.Kind), .c (.int .i64 p1v.Int), .c (.str p1v.Text), .c (PV.ls 5 rowApiValue p1v.Items), .c (PV.ls 1 rowS p1v.Keys)]] : St)) ?_ ?_
        ·
         refine w_block <| w_loopo _ (fun (s29 : ((List UInt8) × Int)) => ([(0, AV.os 0 1 brow s29.1), (3, .box 0 0), (5, .c (.int .i64 s29.2))] : Fr)) (fun (s29 : ((List UInt8) × Int)) => ([[.c (.int .i64 p1v.Kind), .c (.int .i64 p1v.Int), .c (.str p1v.Text), .c (PV.ls 5 rowApiValue p1v.Items), .c (PV.ls 1 rowS p1v.Keys)]] : St)) hx26 (w_weak [528] 1 rfl rfl rfl rfl ⟨lr, lr, lr, trivial⟩ (st_r rfl st_nil)) ?_
         intro s29 st29 hs29 ho29
         unfold ref02xput_l1 at hs29
         refine w_seqw <| w_sr <| mI rfl <| o_p rfl (p_fa tf25x3 rfl) <| o_p rfl (p_load (v := aL) tv22 rfl rfl rfl) <| o_p rfl (p_len ti22 (isl_c rfl)) <| o_p rfl (p_lss rfl rfl) <| o_ek (fr' := [(0, aO), (3, .box 0 0), (5, aI), (38, aB)]) rfl rfl <| w_ch hs29 rfl (fun hb30 h30 => ?_) (fun hb30 h30 => ?_)
         ·
          refine w_skip <| e_kw <| w_seqw <| w_block ?_
          obtain ⟨x31, hx31, h32⟩ := bind_s h30
          refine w_join (fun j33 => x31 = j33) (fun (j33 : (List UInt8)) => ([(0, AV.os 0 1 brow j33), (3, .box 0 0), (5, .c (.int .i64 s29.2))] : Fr)) (fun (j33 : (List UInt8)) => ([[.c (.int .i64 p1v.Kind), .c (.int .i64 p1v.Int), .c (.str p1v.Text), .c (PV.ls 5 rowApiValue p1v.Items), .c (PV.ls 1 rowS p1v.Keys)]] : St)) ?_ ?_
          ·
           refine w_sr <| o_p rfl (p_fa tf25x0 rfl) <| o_p rfl (p_load (v := aI) tv3 rfl rfl rfl) <| o_p rfl (p_eql rfl rfl) <| o_ek (fr' := [(0, aO), (3, .box 0 0), (5, aI), (43, aB)]) rfl rfl <| w_ch hx31 rfl (fun hb34 h34 => ?_) (fun hb34 h34 => ?_)
           ·
            refine w_region <| mV (v := aO) rfl <| o_p rfl (p_fa tf25x4 rfl) <| o_p rfl (p_load (v := aL) tv23 rfl rfl rfl) <| mI rfl ?_
            obtain ⟨x35, hx35, h36⟩ := bind_s h34
            refine o_p rfl (p_ia (cs := [.str _]) ts23 (isl_c rfl) rfl hx35 rfl) <| o_p rfl (p_loade (p := .str _) tv9 rfl rfl) ?_
            obtain ⟨x37, hx37, h38⟩ := bind_s h36
            exact o_v (ov_call (v := aO) rfl (w_ref01xPutText hx37) ⟨lr, lr, trivial⟩ rfl rfl rfl) <| sV (v := aO) rfl <| o_end (fr' := [(0, aO), (3, .box 0 0), (5, aI), (43, aB)]) rfl <| e_j _ (sy h38) (w_weak [800] 1 rfl rfl rfl rfl ⟨lr, lr, lr, trivial⟩ (st_r rfl st_nil))
           ·
            exact w_skip <| e_j _ (sy h34) (w_weak [0] 1 rfl rfl rfl rfl ⟨lr, lr, lr, trivial⟩ (st_r rfl st_nil))
          ·
           intro j33 hj39
           subst hj39
           refine w_region <| mV (v := aO) rfl <| o_p rfl (p_fa tf25x3 rfl) <| o_p rfl (p_load (v := aL) tv22 rfl rfl rfl) <| mI rfl ?_
           obtain ⟨x40, hx40, h41⟩ := bind_s h32
           refine o_p rfl (p_ia (cs := [.int _ _, .int _ _, .str _, PV.ls _ _ _, PV.ls _ _ _]) ts22 (isl_c rfl) rfl hx40 (rowApiValue_eq _)) <| o_p rfl (p_loades (us := [.int _ _, .int _ _, .str _, PV.ls _ _ _, PV.ls _ _ _]) tv25 rfl rfl rfl) ?_
           obtain ⟨x42, hx42, h43⟩ := bind_s h41
           exact o_v (ov_call (v := aO) rfl (ih_ref02xput hx42) ⟨lr, (le_aggc rfl ⟨rfl, rfl, rfl, rfl, rfl, trivial⟩), trivial⟩ rfl rfl rfl) <| sV (v := aO) rfl <| o_end (fr' := [(0, aO), (3, .box 0 0), (5, aI)]) rfl <| e_blk_n <| e_kw <| w_region <| mI rfl <| o_p rfl (p_add rfl rfl) <| sI rfl <| o_end (fr' := [(0, aO), (3, .box 0 0), (5, aI)]) rfl <| e_l _ (sy h43) (w_weak [912] 1 rfl rfl rfl rfl ⟨lr, lr, lr, trivial⟩ (st_r rfl st_nil))
         ·
          refine w_exit <| e_seq_x <| e_seq_x <| e_blk_h ?_
          have h44 := un_out h30 ho29
          exact e_j _ (sy h44) (w_weak [0] 1 rfl rfl rfl rfl ⟨lr, trivial⟩ (st_r rfl st_nil))
        ·
         intro j28 hj45
         subst hj45
         exact e_blk_n <| e_j _ (sy h27) (w_weak [0] 1 rfl rfl rfl rfl ⟨lr, trivial⟩ (st_r rfl st_nil))
       ·
        exact w_skip <| e_blk_n <| e_j _ (sy h23) (w_weak [0] 1 rfl rfl rfl rfl ⟨lr, trivial⟩ (st_r rfl st_nil))
  ·
   intro j5 hj46
   subst hj46
   refine w_sr <| mV (v := aO) rfl <| sV (v := aO) rfl <| o_ek (fr' := [(4, aO)]) rfl rfl <| w_ret ?_
   obtain rfl := sy h4
   exact e_ret (rs' := [.tmp 4]) rfl <| r_tmp (v := aO) rfl <| r_nil <| fin_gen [0] rfl rfl rfl lr st_nil
noncomputable def ref02xput (p0b : (List UInt8)) (p1v : ApiValue) : Option (List UInt8) := lim fun n => ref02xputF n p0b p1v
theorem w_ref02xput {p0b : (List UInt8)} {p1v : ApiValue} {res : (List UInt8)} (h : ref02xput p0b p1v = some res) : ACalls Try.prog 101 [.c (PV.ls 1 brow p0b), .agg (AV.cs (exApiValue p1v))] [] (AV.os 0 1 brow res) [] := by
 obtain ⟨n, hn⟩ := lim_some h
 exact (wF_ref02xput n) hn
noncomputable def ref02xEncode (p0b : (List UInt8)) (p1v : ApiValue) : Option (List UInt8) :=
 (app 1 ([] : List UInt8) p0b).bind fun (x1 : (List UInt8)) => (ref02xWellFormed p1v).bind fun (x3 : Bool) => cond (!x3) (some x1) ((ref02xput x1 p1v).bind fun (x7 : (List UInt8)) => some x7)
theorem w_ref02xEncode {p0b : (List UInt8)} {p1v : ApiValue} {res : (List UInt8)} (h : ref02xEncode p0b p1v = some res) : ACalls Try.prog 80 [.c (PV.ls 1 brow p0b), .agg (AV.cs (exApiValue p1v))] [] (AV.os 0 1 brow res) [] := by
 unfold ref02xEncode at h
 refine acalls (fn := Try.f80) [0, 1, 3, 4, 5, 11] (by kernel_rfl) Try.func80 rfl (by kernel_rfl) (by kernel_rfl) <| w_sr <| o_box (v := .agg aIISLL) (n := 0) (cs := aIISLL) (σ' := [aIISLL]) rfl rfl rfl rfl rfl <| sV (v := .nil) rfl <| o_ek (fr' := [(0, aL), (3, .box 0 0)]) rfl rfl <| w_sr <| sV (v := .nil) rfl <| o_ek (fr' := [(0, aL), (3, .box 0 0), (5, .nil)]) rfl rfl <| w_sr <| mV (v := .nil) rfl ?_
 refine mL rfl ?_
 obtain ⟨x1, hx1, h2⟩ := bind_s h
 refine o_appn (row := brow) ts40 rfl ti40 rfl (isl_c rfl) (fun _ => rfl) hx1 <| sV (v := aO) rfl <| o_ek (fr' := [(3, .box 0 0), (5, aO)]) rfl rfl <| w_seqw <| w_sr <| o_p rfl (p_loads (us := aIISLL) tv25 rfl rfl rfl rfl) ?_
 obtain ⟨x3, hx3, h4⟩ := bind_s h2
 refine o_v (ov_call (v := aB) rfl (w_ref02xWellFormed hx3) ⟨(le_aggc rfl ⟨rfl, rfl, rfl, rfl, rfl, trivial⟩), trivial⟩ rfl rfl rfl) <| o_p rfl (p_not rfl) <| o_ek (fr' := [(3, .box 0 0), (5, aO), (11, aB)]) rfl rfl <| w_ch h4 rfl (fun hb5 h5 => ?_) (fun hb5 h5 => ?_)
 ·
  refine w_sr <| mV (v := aO) rfl <| sV (v := aO) rfl <| o_ek (fr' := [(4, aO)]) rfl rfl <| w_ret <| e_seq_r ?_
  obtain rfl := sy h5
  exact e_ret (rs' := [.tmp 4]) rfl <| r_tmp (v := aO) rfl <| r_nil <| fin_gen [128] rfl rfl rfl lr st_nil
 ·
  refine w_skip <| e_kw <| w_sr <| mV (v := aO) rfl <| o_p rfl (p_loads (us := aIISLL) tv25 rfl rfl rfl rfl) ?_
  obtain ⟨x7, hx7, h8⟩ := bind_s h5
  refine o_v (ov_call (v := aO) rfl (w_ref02xput hx7) ⟨lr, (le_aggc rfl ⟨rfl, rfl, rfl, rfl, rfl, trivial⟩), trivial⟩ rfl rfl rfl) <| sV (v := aO) rfl <| o_ek (fr' := [(4, aO)]) rfl rfl <| w_ret ?_
  obtain rfl := sy h8
  exact e_ret (rs' := [.tmp 4]) rfl <| r_tmp (v := aO) rfl <| r_nil <| fin_gen [240] rfl rfl rfl lr st_nil
noncomputable def ref20xEncode (p0b : (List UInt8)) (p1c : ApiCommand) : Option (List UInt8) :=
 (app 1 ([] : List UInt8) p0b).bind fun (x1 : (List UInt8)) => (ref20xRight p1c).bind fun (x3 : Bool) => cond (!x3) (some x1) ((ref01xPutInt x1 p1c.Kind).bind fun (x7 : (List UInt8)) => (ref01xPutInt x7 p1c.Seq).bind fun (x9 : (List UInt8)) => (ref01xPutText x9 p1c.Name).bind fun (x11 : (List UInt8)) => (ref01xPutText x11 p1c.Key).bind fun (x13 : (List UInt8)) => (ref01xPutInt x13 p1c.N).bind fun (x15 : (List UInt8)) => (ref02xEncode x15 p1c.Data).bind fun (x17 : (List UInt8)) => (ref20xEncodePolicy x17 p1c.Opts).bind fun (x19 : (List UInt8)) => some x19)
theorem w_ref20xEncode {p0b : (List UInt8)} {p1c : ApiCommand} {res : (List UInt8)} (h : ref20xEncode p0b p1c = some res) : ACalls Try.prog 34 [.c (PV.ls 1 brow p0b), .agg (AV.cs (rowApiCommand p1c))] [] (AV.os 0 1 brow res) [] := by
 unfold ref20xEncode at h
 refine acalls (fn := Try.f34) [0, 1, 3, 4, 5, 11] (by kernel_rfl) Try.func34 rfl (by kernel_rfl) (by kernel_rfl) <| w_sr <| o_box (v := .agg aIISSIIISLLSIIIIIIIIL) (n := 0) (cs := aIISSIIISLLSIIIIIIIIL) (σ' := [aIISSIIISLLSIIIIIIIIL]) rfl rfl rfl rfl rfl <| sV (v := .nil) rfl <| o_ek (fr' := [(0, aL), (3, .box 0 0)]) rfl rfl <| w_sr <| sV (v := .nil) rfl <| o_ek (fr' := [(0, aL), (3, .box 0 0), (5, .nil)]) rfl rfl <| w_sr <| mV (v := .nil) rfl ?_
 refine mL rfl ?_
 obtain ⟨x1, hx1, h2⟩ := bind_s h
 refine o_appn (row := brow) ts40 rfl ti40 rfl (isl_c rfl) (fun _ => rfl) hx1 <| sV (v := aO) rfl <| o_ek (fr' := [(3, .box 0 0), (5, aO)]) rfl rfl <| w_seqw <| w_sr <| o_p rfl (p_loads (us := aIISSIIISLLSIIIIIIIIL) tv29 rfl rfl rfl rfl) ?_
 obtain ⟨x3, hx3, h4⟩ := bind_s h2
 refine o_v (ov_call (v := aB) rfl (w_ref20xRight hx3) ⟨(le_aggc rfl ⟨rfl, rfl, rfl, rfl, rfl, rfl, rfl, rfl, rfl, rfl, rfl, rfl, rfl, rfl, rfl, rfl, rfl, rfl, rfl, rfl, trivial⟩), trivial⟩ rfl rfl rfl) <| o_p rfl (p_not rfl) <| o_ek (fr' := [(3, .box 0 0), (5, aO), (11, aB)]) rfl rfl <| w_ch h4 rfl (fun hb5 h5 => ?_) (fun hb5 h5 => ?_)
 ·
  refine w_sr <| mV (v := aO) rfl <| sV (v := aO) rfl <| o_ek (fr' := [(4, aO)]) rfl rfl <| w_ret <| e_seq_r ?_
  obtain rfl := sy h5
  exact e_ret (rs' := [.tmp 4]) rfl <| r_tmp (v := aO) rfl <| r_nil <| fin_gen [128] rfl rfl rfl lr st_nil
 ·
  refine w_skip <| e_kw <| w_sr <| mV (v := aO) rfl <| o_p rfl (p_fa tf29x0 rfl) <| o_p rfl (p_load (v := aI) tv3 rfl rfl rfl) ?_
  obtain ⟨x7, hx7, h8⟩ := bind_s h5
  refine o_v (ov_call (v := aO) rfl (w_ref01xPutInt hx7) ⟨lr, lr, trivial⟩ rfl rfl rfl) <| sV (v := aO) rfl <| o_ek (fr' := [(3, .box 0 0), (5, aO)]) rfl rfl <| w_sr <| mV (v := aO) rfl <| o_p rfl (p_fa tf29x1 rfl) <| o_p rfl (p_load (v := aI) tv3 rfl rfl rfl) ?_
  obtain ⟨x9, hx9, h10⟩ := bind_s h8
  refine o_v (ov_call (v := aO) rfl (w_ref01xPutInt hx9) ⟨lr, lr, trivial⟩ rfl rfl rfl) <| sV (v := aO) rfl <| o_ek (fr' := [(3, .box 0 0), (5, aO)]) rfl rfl <| w_sr <| mV (v := aO) rfl <| o_p rfl (p_fa tf29x2 rfl) <| o_p rfl (p_load (v := aS) tv9 rfl rfl rfl) ?_
  obtain ⟨x11, hx11, h12⟩ := bind_s h10
  refine o_v (ov_call (v := aO) rfl (w_ref01xPutText hx11) ⟨lr, lr, trivial⟩ rfl rfl rfl) <| sV (v := aO) rfl <| o_ek (fr' := [(3, .box 0 0), (5, aO)]) rfl rfl <| w_sr <| mV (v := aO) rfl <| o_p rfl (p_fa tf29x3 rfl) <| o_p rfl (p_load (v := aS) tv9 rfl rfl rfl) ?_
  obtain ⟨x13, hx13, h14⟩ := bind_s h12
  refine o_v (ov_call (v := aO) rfl (w_ref01xPutText hx13) ⟨lr, lr, trivial⟩ rfl rfl rfl) <| sV (v := aO) rfl <| o_ek (fr' := [(3, .box 0 0), (5, aO)]) rfl rfl <| w_sr <| mV (v := aO) rfl <| o_p rfl (p_fa tf29x4 rfl) <| o_p rfl (p_load (v := aI) tv3 rfl rfl rfl) ?_
  obtain ⟨x15, hx15, h16⟩ := bind_s h14
  refine o_v (ov_call (v := aO) rfl (w_ref01xPutInt hx15) ⟨lr, lr, trivial⟩ rfl rfl rfl) <| sV (v := aO) rfl <| o_ek (fr' := [(3, .box 0 0), (5, aO)]) rfl rfl <| w_sr <| mV (v := aO) rfl <| o_p rfl (p_fa tf29x5 rfl) <| o_p rfl (p_loads (us := aIISLL) tv25 rfl rfl rfl rfl) ?_
  obtain ⟨x17, hx17, h18⟩ := bind_s h16
  refine o_v (ov_call (v := aO) rfl (w_ref02xEncode hx17) ⟨lr, (le_aggc rfl ⟨rfl, rfl, rfl, rfl, rfl, trivial⟩), trivial⟩ rfl rfl rfl) <| sV (v := aO) rfl <| o_ek (fr' := [(3, .box 0 0), (5, aO)]) rfl rfl <| w_sr <| mV (v := aO) rfl <| o_p rfl (p_fa tf29x6 rfl) <| o_p rfl (p_loads (us := aSIIIIIIIIL) tv27 rfl rfl rfl rfl) ?_
  obtain ⟨x19, hx19, h20⟩ := bind_s h18
  refine o_v (ov_call (v := aO) rfl (w_ref20xEncodePolicy hx19) ⟨lr, (le_aggc rfl ⟨rfl, rfl, rfl, rfl, rfl, rfl, rfl, rfl, rfl, rfl, trivial⟩), trivial⟩ rfl rfl rfl) <| sV (v := aO) rfl <| o_ek (fr' := [(4, aO)]) rfl rfl <| w_ret ?_
  obtain rfl := sy h20
  exact e_ret (rs' := [.tmp 4]) rfl <| r_tmp (v := aO) rfl <| r_nil <| fin_gen [640] rfl rfl rfl lr st_nil
noncomputable def command_EncodePolicy (p0b : (List UInt8)) (p1o : ApiPolicy) : Option (List UInt8) :=
 (slices_Clone_byte_byte p0b).bind fun (x1 : (List UInt8)) => (command_RightPolicy p1o).bind fun (x3 : Bool) => cond (!x3) (some x1) ((command_policy x1 p1o).bind fun (x7 : (List UInt8)) => some x7)
theorem w_command_EncodePolicy {p0b : (List UInt8)} {p1o : ApiPolicy} {res : (List UInt8)} (h : command_EncodePolicy p0b p1o = some res) : ACalls Try.prog 35 [.c (PV.ls 1 brow p0b), .agg (AV.cs (rowApiPolicy p1o))] [] (AV.os 0 1 brow res) [] := by
 unfold command_EncodePolicy at h
 refine acalls (fn := Try.f35) [0, 1, 3, 4, 5, 10] (by kernel_rfl) Try.func35 rfl (by kernel_rfl) (by kernel_rfl) <| w_sr <| o_box (v := .agg aSIIIIIIIIL) (n := 0) (cs := aSIIIIIIIIL) (σ' := [aSIIIIIIIIL]) rfl rfl rfl rfl rfl <| sV (v := .nil) rfl <| o_ek (fr' := [(0, aL), (3, .box 0 0)]) rfl rfl <| w_sr <| mL rfl ?_
 obtain ⟨x1, hx1, h2⟩ := bind_s h
 refine o_v (ov_call (v := aO) rfl (w_slices_Clone_byte_byte hx1) ⟨lr, trivial⟩ rfl rfl rfl) <| sV (v := aO) rfl <| o_ek (fr' := [(3, .box 0 0), (5, aO)]) rfl rfl <| w_seqw <| w_sr <| o_p rfl (p_loads (us := aSIIIIIIIIL) tv27 rfl rfl rfl rfl) ?_
 obtain ⟨x3, hx3, h4⟩ := bind_s h2
 refine o_v (ov_call (v := aB) rfl (w_command_RightPolicy hx3) ⟨(le_aggc rfl ⟨rfl, rfl, rfl, rfl, rfl, rfl, rfl, rfl, rfl, rfl, trivial⟩), trivial⟩ rfl rfl rfl) <| o_p rfl (p_not rfl) <| o_ek (fr' := [(3, .box 0 0), (5, aO), (10, aB)]) rfl rfl <| w_ch h4 rfl (fun hb5 h5 => ?_) (fun hb5 h5 => ?_)
 ·
  refine w_sr <| mV (v := aO) rfl <| sV (v := aO) rfl <| o_ek (fr' := [(4, aO)]) rfl rfl <| w_ret <| e_seq_r ?_
  obtain rfl := sy h5
  exact e_ret (rs' := [.tmp 4]) rfl <| r_tmp (v := aO) rfl <| r_nil <| fin_gen [112] rfl rfl rfl lr st_nil
 ·
  refine w_skip <| e_kw <| w_sr <| mV (v := aO) rfl <| o_p rfl (p_loads (us := aSIIIIIIIIL) tv27 rfl rfl rfl rfl) ?_
  obtain ⟨x7, hx7, h8⟩ := bind_s h5
  refine o_v (ov_call (v := aO) rfl (w_command_policy hx7) ⟨lr, (le_aggc rfl ⟨rfl, rfl, rfl, rfl, rfl, rfl, rfl, rfl, rfl, rfl, trivial⟩), trivial⟩ rfl rfl rfl) <| sV (v := aO) rfl <| o_ek (fr' := [(4, aO)]) rfl rfl <| w_ret ?_
  obtain rfl := sy h8
  exact e_ret (rs' := [.tmp 4]) rfl <| r_tmp (v := aO) rfl <| r_nil <| fin_gen [224] rfl rfl rfl lr st_nil
end Go.Proofs.Ytmnobgopfnhbnaa

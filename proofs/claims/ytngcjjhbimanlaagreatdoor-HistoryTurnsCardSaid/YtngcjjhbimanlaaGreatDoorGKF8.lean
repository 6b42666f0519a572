import Derived.Test.YtngcjjhbimanlaaGreatDoorGKTy
import Derived.Test.YtngcjjhbimanlaaGreatDoorGKF4
import Derived.Test.YtngcjjhbimanlaaGreatDoorGKF6
import Derived.Test.YtngcjjhbimanlaaGreatDoorGKF7
namespace Go.Proofs.YtngcjjhbimanlaaGreatDoor
open Go Abs
set_option maxRecDepth 100000
set_option linter.unusedVariables false
set_option linter.unusedSimpArgs false
noncomputable def ref22xIdent_l1 (p0s : (List UInt8)) (s4 : Int) : Option (Step Int (Fl Bool Unit)) :=
 cond (decide (s4 < ((p0s).length : Int))) ((idx p0s s4).bind fun (x6 : UInt8) => (gd ((decide (((x6).toNat : Int) < (33 : Int))) == false) (idx p0s s4)).bind fun (x8 : UInt8) => (gd ((cond (decide (((x6).toNat : Int) < (33 : Int))) true (decide ((126 : Int) < ((x8).toNat : Int)))) == false) (idx p0s s4)).bind fun (x10 : UInt8) => (gd ((cond (cond (decide (((x6).toNat : Int) < (33 : Int))) true (decide ((126 : Int) < ((x8).toNat : Int)))) true (decide (((x10).toNat : Int) = (47 : Int)))) == false) (idx p0s s4)).bind fun (x12 : UInt8) => cond (cond (cond (cond (decide (((x6).toNat : Int) < (33 : Int))) true (decide ((126 : Int) < ((x8).toNat : Int)))) true (decide (((x10).toNat : Int) = (47 : Int)))) true (decide (((x12).toNat : Int) = (34 : Int)))) (some (Step.out (Fl.done false))) (some (Step.next (IntKind.wrap .i64 (s4 + (1 : Int)))))) (some (Step.out (Fl.go ())))
noncomputable def ref22xIdent (p0s : (List UInt8)) : Option Bool :=
 ((loopO (ref22xIdent_l1 p0s) ((0 : Int))) : Option (Fl Bool Unit)).bind fun (x1 : (Fl Bool Unit)) => Fl.next x1 (fun (j3 : Unit) => (some (cond (decide ((1 : Int) ≤ ((p0s).length : Int))) (decide (((p0s).length : Int) ≤ (64 : Int))) false)))
theorem w_ref22xIdent {p0s : (List UInt8)} {res : Bool} (h : ref22xIdent p0s = some res) : ACalls Tryz.prog 40 [.c (.str p0s)] [] (.c (.bool res)) [] := by
 unfold ref22xIdent at h
 refine acalls (fn := Tryz.f40) [0, 2, 3, 7, 31] (by kernel_rfl) Tryz.func40 rfl (by kernel_rfl) (by kernel_rfl) <| w_sr <| sB rfl <| o_ek (fr' := [(0, aS)]) rfl rfl <| w_seqw <| w_sr <| sI rfl <| o_ek (fr' := [(0, aS), (3, aI)]) rfl rfl ?_
 obtain ⟨x1, hx1, h2⟩ := bind_s h
 refine w_jtail cl_kw (fun j3 => x1 = Fl.go j3) (fun (j3 : Unit) => ([(0, .c (.str p0s))] : Fr)) (fun (j3 : Unit) => ([] : St)) ?_ ?_
 ·
  refine w_block <| w_loopo _ (fun (s4 : Int) => ([(0, .c (.str p0s)), (3, .c (.int .i64 s4))] : Fr)) (fun (s4 : Int) => ([] : St)) hx1 (w_weak [] 0 rfl rfl rfl rfl ⟨lr, lr, trivial⟩ st_nil) ?_
  intro s4 st4 hs4 ho4
  unfold ref22xIdent_l1 at hs4
  refine w_seqw <| w_sr <| mI rfl <| mS rfl <| o_p rfl (p_lens ti9 rfl) <| o_p rfl (p_lss rfl rfl) <| o_ek (fr' := [(0, aS), (3, aI), (7, aB)]) rfl rfl <| w_ch hs4 rfl (fun hb5 h5 => ?_) (fun hb5 h5 => ?_)
  ·
   refine w_skip <| e_kw <| w_seqw <| w_block <| w_sr <| mS rfl <| mI rfl ?_
   obtain ⟨x6, hx6, h7⟩ := bind_s h5
   refine o_p rfl (p_is ti9 rfl rfl hx6) <| o_p rfl (p_lss rfl rfl) <| mB rfl <| og rfl rfl rfl (fun hc => (p_move (v := aS) rfl)) <| og rfl rfl rfl (fun hc => (p_move (v := aI) rfl)) ?_
   obtain ⟨x8, hx8, h9⟩ := bind_s h7
   refine og rfl rfl rfl (fun hc => (p_is ti9 (gx rfl hc) (gx rfl hc) (gd_some hx8 hc))) <| og rfl rfl rfl (fun hc => (p_gtr (gx rfl hc) rfl)) <| o_p rfl (p_pickz rfl rfl rfl (fun e => keq e)) <| mB rfl <| og rfl rfl rfl (fun hc => (p_move (v := aS) rfl)) <| og rfl rfl rfl (fun hc => (p_move (v := aI) rfl)) ?_
   obtain ⟨x10, hx10, h11⟩ := bind_s h9
   refine og rfl rfl rfl (fun hc => (p_is ti9 (gx rfl hc) (gx rfl hc) (gd_some hx10 hc))) <| og rfl rfl rfl (fun hc => (p_eql (gx rfl hc) rfl)) <| o_p rfl (p_pickz rfl rfl rfl (fun e => keq e)) <| mB rfl <| og rfl rfl rfl (fun hc => (p_move (v := aS) rfl)) <| og rfl rfl rfl (fun hc => (p_move (v := aI) rfl)) ?_
   obtain ⟨x12, hx12, h13⟩ := bind_s h11
   refine og rfl rfl rfl (fun hc => (p_is ti9 (gx rfl hc) (gx rfl hc) (gd_some hx12 hc))) <| og rfl rfl rfl (fun hc => (p_eql (gx rfl hc) rfl)) <| o_p rfl (p_pickz rfl rfl rfl (fun e => keq e)) <| o_ek (fr' := [(0, aS), (3, aI), (31, aB)]) rfl rfl <| w_ch h13 rfl (fun hb14 h14 => ?_) (fun hb14 h14 => ?_)
   ·
    refine w_sr <| sB rfl <| o_ek (fr' := [(2, aB)]) rfl rfl <| w_ret <| e_blk_r <| e_seq_r <| e_seq_r <| e_blk_r <| e_seq_r <| e_seq_r ?_
    have h15 := un_out h14 ho4
    have h16 := un_done h15 h2
    obtain rfl := sy h16
    exact e_ret (rs' := [.tmp 2]) rfl <| r_tmp (v := aB) rfl <| r_nil <| fin_gen [] rfl rfl rfl lr st_nil
   ·
    exact w_skip <| e_blk_n <| e_kw <| w_region <| mI rfl <| o_p rfl (p_add rfl rfl) <| sI rfl <| o_end (fr' := [(0, aS), (3, aI), (31, aB)]) rfl <| e_l _ (sy h14) (w_weak [] 0 rfl rfl rfl rfl ⟨lr, lr, trivial⟩ st_nil)
  ·
   refine w_exit <| e_seq_x <| e_seq_x <| e_blk_h ?_
   have h18 := un_out h5 ho4
   exact e_j _ (sy h18) (w_weak [] 0 rfl rfl rfl rfl ⟨lr, trivial⟩ st_nil)
 ·
  intro j3 hj19
  have h19 := un_go hj19 h2
  refine e_kw <| w_sr <| mS rfl <| o_p rfl (p_lens ti9 rfl) <| o_p rfl (p_geq rfl rfl) <| mB rfl <| og rfl rfl rfl (fun hc => (p_move (v := aS) rfl)) <| og rfl rfl rfl (fun hc => (p_lens ti9 (gx rfl hc))) <| og rfl rfl rfl (fun hc => (p_leq (gx rfl hc) rfl)) <| o_p rfl (p_picky rfl rfl rfl (fun e => keq e)) <| sB rfl <| o_ek (fr' := [(2, aB)]) rfl rfl ?_
  refine w_ret ?_
  obtain rfl := sy h19
  exact e_ret (rs' := [.tmp 2]) rfl <| r_tmp (v := aB) rfl <| r_nil <| fin_gen [] rfl rfl rfl lr st_nil
noncomputable def ref22xInput_l1 (x7 : ApiValue) (s12 : Int) : Option (Step Int (Fl Bool Unit)) :=
 cond (decide (s12 < ((x7.Items).length : Int))) ((idx x7.Items s12).bind fun (x14 : ApiValue) => (gd ((!decide (x14.Kind = (4 : Int))) == false) (idx x7.Items s12)).bind fun (x16 : ApiValue) => (gd ((cond (!decide (x14.Kind = (4 : Int))) true (!decide (((x16.Items).length : Int) = (2 : Int)))) == false) (idx x7.Items s12)).bind fun (x18 : ApiValue) => (gd ((cond (!decide (x14.Kind = (4 : Int))) true (!decide (((x16.Items).length : Int) = (2 : Int)))) == false) (idx x18.Items (0 : Int))).bind fun (x20 : ApiValue) => (gd ((cond (cond (!decide (x14.Kind = (4 : Int))) true (!decide (((x16.Items).length : Int) = (2 : Int)))) true (!decide (x20.Kind = (3 : Int)))) == false) (idx x7.Items s12)).bind fun (x22 : ApiValue) => (gd ((cond (cond (!decide (x14.Kind = (4 : Int))) true (!decide (((x16.Items).length : Int) = (2 : Int)))) true (!decide (x20.Kind = (3 : Int)))) == false) (idx x22.Items (0 : Int))).bind fun (x24 : ApiValue) => (gd ((cond (cond (!decide (x14.Kind = (4 : Int))) true (!decide (((x16.Items).length : Int) = (2 : Int)))) true (!decide (x20.Kind = (3 : Int)))) == false) (ref06xRight x24.Text)).bind fun (x26 : Bool) => cond (cond (cond (cond (!decide (x14.Kind = (4 : Int))) true (!decide (((x16.Items).length : Int) = (2 : Int)))) true (!decide (x20.Kind = (3 : Int)))) true (!x26)) (some (Step.out (Fl.done false))) (some (Step.next (IntKind.wrap .i64 (s12 + (1 : Int)))))) (some (Step.out (Fl.go ())))
noncomputable def ref22xInput (p0v : ApiValue) : Option Bool :=
 (ref02xRight p0v).bind fun (x1 : Bool) => (gd ((cond (cond (!x1) true (!decide (p0v.Kind = (4 : Int)))) true (!decide (((p0v.Items).length : Int) = (2 : Int)))) == false) (idx p0v.Items (1 : Int))).bind fun (x3 : ApiValue) => cond (cond (cond (cond (!x1) true (!decide (p0v.Kind = (4 : Int)))) true (!decide (((p0v.Items).length : Int) = (2 : Int)))) true (!decide (x3.Kind = (4 : Int)))) (some false) ((idx p0v.Items (1 : Int)).bind fun (x7 : ApiValue) => ((loopO (ref22xInput_l1 x7) ((0 : Int))) : Option (Fl Bool Unit)).bind fun (x9 : (Fl Bool Unit)) => Fl.next x9 (fun (j11 : Unit) => (some true)))
theorem w_ref22xInput {p0v : ApiValue} {res : Bool} (h : ref22xInput p0v = some res) : ACalls Tryz.prog 41 [.agg (AV.cs (exApiValue p0v))] [] (.c (.bool res)) [] := by
 unfold ref22xInput at h
 refine acalls (fn := Tryz.f41) [0, 1, 2, 3, 4, 26, 35, 75] (by kernel_rfl) Tryz.func41 rfl (by kernel_rfl) (by kernel_rfl) <| w_sr <| o_box (v := .agg aIISLL) (n := 0) (cs := aIISLL) (σ' := [aIISLL]) rfl rfl rfl rfl rfl <| sB rfl <| o_ek (fr' := [(1, .box 0 0)]) rfl rfl <| w_seqw <| w_sr <| o_p rfl (p_loads (us := aIISLL) tv25 rfl rfl rfl rfl) ?_
 obtain ⟨x1, hx1, h2⟩ := bind_s h
 refine o_v (ov_call (v := aB) rfl (w_ref02xRight hx1) ⟨(le_aggc rfl ⟨rfl, rfl, rfl, rfl, rfl, trivial⟩), trivial⟩ rfl rfl rfl) <| o_p rfl (p_not rfl) <| mB rfl <| og rfl rfl rfl (fun hc => (p_fa tf25x0 rfl)) <| og rfl rfl rfl (fun hc => (p_load (v := aI) tv3 (gx rfl hc) rfl rfl)) <| og rfl rfl rfl (fun hc => (p_neq (gx rfl hc) rfl)) <| o_p rfl (p_pickz rfl rfl rfl (fun e => keq e)) <| mB rfl <| og rfl rfl rfl (fun hc => (p_fa tf25x3 rfl)) <| og rfl rfl rfl (fun hc => (p_load (v := aL) tv22 (gx rfl hc) rfl rfl)) <| og rfl rfl rfl (fun hc => (p_len ti22 (isl_c (gx rfl hc)))) <| og rfl rfl rfl (fun hc => (p_neq (gx rfl hc) rfl)) <| o_p rfl (p_pickz rfl rfl rfl (fun e => keq e)) ?_
 refine mB rfl <| og rfl rfl rfl (fun hc => (p_fa tf25x3 rfl)) <| og rfl rfl rfl (fun hc => (p_load (v := aL) tv22 (gx rfl hc) rfl rfl)) ?_
 obtain ⟨x3, hx3, h4⟩ := bind_s h2
 refine og rfl rfl rfl (fun hc => (p_ia (cs := [PV.int _ _, PV.int _ _, PV.str _, PV.ls _ _ _, PV.ls _ _ _]) ts22 (isl_c (gx rfl hc)) rfl (gd_some hx3 hc) (rowApiValue_eq _))) <| og rfl rfl rfl (fun hc => (p_fae tf25x0 (gx rfl hc))) <| og rfl rfl rfl (fun hc => (p_loade (p := PV.int _ _) tv3 (gx rfl hc) rfl)) <| og rfl rfl rfl (fun hc => (p_neq (gx rfl hc) rfl)) <| o_p rfl (p_pickz rfl rfl rfl (fun e => keq e)) <| o_ek (fr' := [(1, .box 0 0), (26, aB)]) rfl rfl <| w_ch h4 rfl (fun hb5 h5 => ?_) (fun hb5 h5 => ?_)
 ·
  refine w_sr <| sB rfl <| o_ek (fr' := [(2, aB)]) rfl rfl <| w_ret <| e_seq_r ?_
  obtain rfl := sy h5
  exact e_ret (rs' := [.tmp 2]) rfl <| r_tmp (v := aB) rfl <| r_nil <| fin_gen [] rfl rfl rfl lr st_nil
 ·
  refine w_skip <| e_kw <| w_sr <| o_p rfl (p_fa tf25x3 rfl) <| o_p rfl (p_load (v := aL) tv22 rfl rfl rfl) ?_
  obtain ⟨x7, hx7, h8⟩ := bind_s h5
  refine o_p rfl (p_ia (cs := [PV.int _ _, PV.int _ _, PV.str _, PV.ls _ _ _, PV.ls _ _ _]) ts22 (isl_c rfl) rfl hx7 (rowApiValue_eq _)) <| o_p rfl (p_fae tf25x3 rfl) <| o_p rfl (p_loade (p := PV.ls _ _ _) tv22 rfl rfl) <| sL rfl <| o_ek (fr' := [(3, aL)]) rfl rfl <| w_seqw <| w_sr <| sI rfl <| o_ek (fr' := [(3, aL), (4, aI)]) rfl rfl ?_
  obtain ⟨x9, hx9, h10⟩ := bind_s h8
  refine w_jtail cl_kw (fun j11 => x9 = Fl.go j11) (fun (j11 : Unit) => ([] : Fr)) (fun (j11 : Unit) => ([[.c (.int .i64 p0v.Kind), .c (.int .i64 p0v.Int), .c (.str p0v.Text), .c (PV.ls 5 rowApiValue p0v.Items), .c (PV.ls 1 rowS p0v.Keys)]] : St)) ?_ ?_
  ·
   refine w_block <| w_loopo _ (fun (s12 : Int) => ([(3, .c (PV.ls 5 rowApiValue x7.Items)), (4, .c (.int .i64 s12))] : Fr)) (fun (s12 : Int) => ([[.c (.int .i64 p0v.Kind), .c (.int .i64 p0v.Int), .c (.str p0v.Text), .c (PV.ls 5 rowApiValue p0v.Items), .c (PV.ls 1 rowS p0v.Keys)]] : St)) hx9 (w_weak [] 1 rfl rfl rfl rfl ⟨lr, lr, trivial⟩ (st_r rfl st_nil)) ?_
   intro s12 st12 hs12 ho12
   unfold ref22xInput_l1 at hs12
   refine w_seqw <| w_sr <| mI rfl <| mL rfl <| o_p rfl (p_len ti22 (isl_c rfl)) <| o_p rfl (p_lss rfl rfl) <| o_ek (fr' := [(3, aL), (4, aI), (35, aB)]) rfl rfl <| w_ch hs12 rfl (fun hb13 h13 => ?_) (fun hb13 h13 => ?_)
   ·
    refine w_skip <| e_kw <| w_seqw <| w_block <| w_sr <| mL rfl <| mI rfl ?_
    obtain ⟨x14, hx14, h15⟩ := bind_s h13
    refine o_p rfl (p_ia (cs := [PV.int _ _, PV.int _ _, PV.str _, PV.ls _ _ _, PV.ls _ _ _]) ts22 (isl_c rfl) rfl hx14 (rowApiValue_eq _)) <| o_p rfl (p_fae tf25x0 rfl) <| o_p rfl (p_loade (p := PV.int _ _) tv3 rfl rfl) <| o_p rfl (p_neq rfl rfl) <| mB rfl <| og rfl rfl rfl (fun hc => (p_move (v := aL) rfl)) <| og rfl rfl rfl (fun hc => (p_move (v := aI) rfl)) ?_
    obtain ⟨x16, hx16, h17⟩ := bind_s h15
    refine og rfl rfl rfl (fun hc => (p_ia (cs := [PV.int _ _, PV.int _ _, PV.str _, PV.ls _ _ _, PV.ls _ _ _]) ts22 (isl_c (gx rfl hc)) (gx rfl hc) (gd_some hx16 hc) (rowApiValue_eq _))) <| og rfl rfl rfl (fun hc => (p_fae tf25x3 (gx rfl hc))) <| og rfl rfl rfl (fun hc => (p_loade (p := PV.ls _ _ _) tv22 (gx rfl hc) rfl)) <| og rfl rfl rfl (fun hc => (p_len ti22 (isl_c (gx rfl hc)))) <| og rfl rfl rfl (fun hc => (p_neq (gx rfl hc) rfl)) <| o_p rfl (p_pickz rfl rfl rfl (fun e => keq e)) <| mB rfl <| og rfl rfl rfl (fun hc => (p_move (v := aL) rfl)) <| og rfl rfl rfl (fun hc => (p_move (v := aI) rfl)) ?_
    obtain ⟨x18, hx18, h19⟩ := bind_s h17
    refine og rfl rfl rfl (fun hc => (p_ia (cs := [PV.int _ _, PV.int _ _, PV.str _, PV.ls _ _ _, PV.ls _ _ _]) ts22 (isl_c (gx rfl hc)) (gx rfl hc) (gd_some hx18 hc) (rowApiValue_eq _))) <| og rfl rfl rfl (fun hc => (p_fae tf25x3 (gx rfl hc))) <| og rfl rfl rfl (fun hc => (p_loade (p := PV.ls _ _ _) tv22 (gx rfl hc) rfl)) ?_
    obtain ⟨x20, hx20, h21⟩ := bind_s h19
    refine og rfl rfl rfl (fun hc => (p_ia (cs := [PV.int _ _, PV.int _ _, PV.str _, PV.ls _ _ _, PV.ls _ _ _]) ts22 (isl_c (gx rfl hc)) rfl (gd_some hx20 hc) (rowApiValue_eq _))) <| og rfl rfl rfl (fun hc => (p_fae tf25x0 (gx rfl hc))) <| og rfl rfl rfl (fun hc => (p_loade (p := PV.int _ _) tv3 (gx rfl hc) rfl)) <| og rfl rfl rfl (fun hc => (p_neq (gx rfl hc) rfl)) <| o_p rfl (p_pickz rfl rfl rfl (fun e => keq e)) <| mB rfl <| og rfl rfl rfl (fun hc => (p_move (v := aL) rfl)) <| og rfl rfl rfl (fun hc => (p_move (v := aI) rfl)) ?_
    obtain ⟨x22, hx22, h23⟩ := bind_s h21
    refine og rfl rfl rfl (fun hc => (p_ia (cs := [PV.int _ _, PV.int _ _, PV.str _, PV.ls _ _ _, PV.ls _ _ _]) ts22 (isl_c (gx rfl hc)) (gx rfl hc) (gd_some hx22 hc) (rowApiValue_eq _))) <| og rfl rfl rfl (fun hc => (p_fae tf25x3 (gx rfl hc))) <| og rfl rfl rfl (fun hc => (p_loade (p := PV.ls _ _ _) tv22 (gx rfl hc) rfl)) ?_
    obtain ⟨x24, hx24, h25⟩ := bind_s h23
    refine og rfl rfl rfl (fun hc => (p_ia (cs := [PV.int _ _, PV.int _ _, PV.str _, PV.ls _ _ _, PV.ls _ _ _]) ts22 (isl_c (gx rfl hc)) rfl (gd_some hx24 hc) (rowApiValue_eq _))) <| og rfl rfl rfl (fun hc => (p_fae tf25x2 (gx rfl hc))) <| og rfl rfl rfl (fun hc => (p_loade (p := PV.str _) tv9 (gx rfl hc) rfl)) ?_
    obtain ⟨x26, hx26, h27⟩ := bind_s h25
    refine o_g rfl rfl (fun hc => ov_call (v := aB) rfl (w_ref06xRight (gd_some hx26 hc)) ⟨(le_gv (gx rfl hc) lr), trivial⟩ (ok_eq (by repeat (first | exact ok_nil | refine ok_cons rfl ?_ | refine ok_cons (dgv rfl) ?_ | refine ok_cons dar ?_))) rfl rfl) ?_
    refine og rfl rfl rfl (fun hc => (p_not (gx rfl hc))) <| o_p rfl (p_pickz rfl rfl rfl (fun e => keq e)) <| o_ek (fr' := [(3, aL), (4, aI), (75, aB)]) rfl rfl <| w_ch h27 rfl (fun hb28 h28 => ?_) (fun hb28 h28 => ?_)
    ·
     refine w_sr <| sB rfl <| o_ek (fr' := [(2, aB)]) rfl rfl <| w_ret <| e_blk_r <| e_seq_r <| e_seq_r <| e_blk_r <| e_seq_r <| e_seq_r ?_
     have h29 := un_out h28 ho12
     have h30 := un_done h29 h10
     obtain rfl := sy h30
     exact e_ret (rs' := [.tmp 2]) rfl <| r_tmp (v := aB) rfl <| r_nil <| fin_gen [] rfl rfl rfl lr st_nil
    ·
     exact w_skip <| e_blk_n <| e_kw <| w_region <| mI rfl <| o_p rfl (p_add rfl rfl) <| sI rfl <| o_end (fr' := [(3, aL), (4, aI), (75, aB)]) rfl <| e_l _ (sy h28) (w_weak [] 1 rfl rfl rfl rfl ⟨lr, lr, trivial⟩ (st_r rfl st_nil))
   ·
    refine w_exit <| e_seq_x <| e_seq_x <| e_blk_h ?_
    have h32 := un_out h13 ho12
    exact e_j _ (sy h32) (w_weak [] 1 rfl rfl rfl rfl trivial (st_r rfl st_nil))
  ·
   intro j11 hj33
   have h33 := un_go hj33 h10
   refine e_kw <| w_sr <| sB rfl <| o_ek (fr' := [(2, aB)]) rfl rfl <| w_ret ?_
   obtain rfl := sy h33
   exact e_ret (rs' := [.tmp 2]) rfl <| r_tmp (v := aB) rfl <| r_nil <| fin_gen [] rfl rfl rfl lr st_nil
noncomputable def ref03xdigitsF : Nat → Int → Option (List UInt8)
 | 0, _ => none
 | n + 1, p0n =>
  (byteOf (IntKind.wrap .u8 (IntKind.wrap .i64 ((48 : Int) + (IntKind.wrap .i64 (0 - (Int.tmod p0n (10 : Int)))))))).bind fun (x1 : UInt8) => cond (decide ((-10 : Int) < p0n)) (some ([x1] : List UInt8)) (((ref03xdigitsF n) (IntKind.wrap .i64 (Int.tdiv p0n (10 : Int)))).bind fun (x5 : (List UInt8)) => (cat x5 ([x1] : List UInt8)).bind fun (x7 : (List UInt8)) => some (x5 ++ ([x1] : List UInt8)))
theorem wF_ref03xdigits : ∀ n : Nat, (∀ {p0n : Int} {res : (List UInt8)}, ref03xdigitsF n p0n = some res → ACalls Tryz.prog 127 [.c (.int .i64 p0n)] [] (.c (.str res)) []) := by
 intro n
 induction n with
 | zero => exact fun {p0n res} h => absurd h (by simp [ref03xdigitsF])
 | succ n ih =>
  have ih_ref03xdigits := @ih
  intro p0n res h
  rw [ref03xdigitsF] at h
  refine acalls (fn := Tryz.f127) [0, 2, 3, 4, 14] (by kernel_rfl) Tryz.func127 rfl (by kernel_rfl) (by kernel_rfl) <| w_sr <| sS rfl <| o_ek (fr' := [(0, aI)]) rfl rfl <| w_sr <| mI rfl <| o_p rfl (p_rem rfl rfl (by decide)) <| o_p rfl (p_neg rfl) <| sI rfl <| o_ek (fr' := [(0, aI), (3, aI)]) rfl rfl <| w_seqw ?_
  refine w_region <| mI rfl <| o_p rfl (p_add rfl rfl) <| o_p rfl (p_conv tk3 tk5 rfl) ?_
  obtain ⟨x1, hx1, h2⟩ := bind_s h
  refine o_rows (row := brow) (xs := ([x1] : List UInt8)) (rows := [[_]]) (σ' := []) [0] ts123 rfl rfl rfl (arow_cons (brow_of hx1) arow_nil) rfl rfl <| o_p rfl (p_convbs tby123 ti9 (isl_o rfl)) <| sS rfl <| o_ek (fr' := [(0, aI), (4, aS)]) rfl rfl <| w_seqw <| w_sr <| mI rfl <| o_p rfl (p_gtr rfl rfl) <| o_ek (fr' := [(0, aI), (4, aS), (14, aB)]) rfl rfl <| w_ch h2 rfl (fun hb3 h3 => ?_) (fun hb3 h3 => ?_)
  ·
   refine w_sr <| mS rfl <| sS rfl <| o_ek (fr' := [(2, aS)]) rfl rfl <| w_ret <| e_seq_r ?_
   obtain rfl := sy h3
   exact e_ret (rs' := [.tmp 2]) rfl <| r_tmp (v := aS) rfl <| r_nil <| fin_gen [] rfl rfl rfl lr st_nil
  ·
   refine w_skip <| e_kw <| w_sr <| mI rfl <| o_p rfl (p_quo rfl rfl (by decide)) ?_
   obtain ⟨x5, hx5, h6⟩ := bind_s h3
   refine o_v (ov_call (v := aS) rfl (ih_ref03xdigits hx5) ⟨lr, trivial⟩ rfl rfl rfl) <| mS rfl ?_
   obtain ⟨x7, hx7, h8⟩ := bind_s h6
   refine o_p rfl (p_sadd rfl rfl (cat_some hx7).1) <| sS rfl <| o_ek (fr' := [(2, aS)]) rfl rfl <| w_ret ?_
   obtain rfl := sy h8
   exact e_ret (rs' := [.tmp 2]) rfl <| r_tmp (v := aS) rfl <| r_nil <| fin_gen [] rfl rfl rfl lr st_nil
noncomputable def ref03xdigits (p0n : Int) : Option (List UInt8) := lim fun n => ref03xdigitsF n p0n
theorem w_ref03xdigits {p0n : Int} {res : (List UInt8)} (h : ref03xdigits p0n = some res) : ACalls Tryz.prog 127 [.c (.int .i64 p0n)] [] (.c (.str res)) [] := by
 obtain ⟨n, hn⟩ := lim_some h
 exact (wF_ref03xdigits n) hn
noncomputable def ref03xDecimal (p0n : Int) : Option (List UInt8) :=
 cond (decide (p0n < (0 : Int))) ((ref03xdigits p0n).bind fun (x2 : (List UInt8)) => (cat ([45] : List UInt8) x2).bind fun (x4 : (List UInt8)) => some (([45] : List UInt8) ++ x2)) ((ref03xdigits (IntKind.wrap .i64 (0 - p0n))).bind fun (x7 : (List UInt8)) => some x7)
theorem w_ref03xDecimal {p0n : Int} {res : (List UInt8)} (h : ref03xDecimal p0n = some res) : ACalls Tryz.prog 110 [.c (.int .i64 p0n)] [] (.c (.str res)) [] := by
 unfold ref03xDecimal at h
 refine acalls (fn := Tryz.f110) [0, 2, 4] (by kernel_rfl) Tryz.func110 rfl (by kernel_rfl) (by kernel_rfl) <| w_sr <| sS rfl <| o_ek (fr' := [(0, aI)]) rfl rfl <| w_seqw <| w_sr <| mI rfl <| o_p rfl (p_lss rfl rfl) <| o_ek (fr' := [(0, aI), (4, aB)]) rfl rfl <| w_ch h rfl (fun hb1 h1 => ?_) (fun hb1 h1 => ?_)
 ·
  refine w_sr <| mI rfl ?_
  obtain ⟨x2, hx2, h3⟩ := bind_s h1
  refine o_v (ov_call (v := aS) rfl (w_ref03xdigits hx2) ⟨lr, trivial⟩ rfl rfl rfl) ?_
  obtain ⟨x4, hx4, h5⟩ := bind_s h3
  refine o_p rfl (p_sadd rfl rfl (cat_some hx4).1) <| sS rfl <| o_ek (fr' := [(2, aS)]) rfl rfl <| w_ret <| e_seq_r ?_
  obtain rfl := sy h5
  exact e_ret (rs' := [.tmp 2]) rfl <| r_tmp (v := aS) rfl <| r_nil <| fin_gen [] rfl rfl rfl lr st_nil
 ·
  refine w_skip <| e_kw <| w_sr <| mI rfl <| o_p rfl (p_neg rfl) ?_
  obtain ⟨x7, hx7, h8⟩ := bind_s h1
  refine o_v (ov_call (v := aS) rfl (w_ref03xdigits hx7) ⟨lr, trivial⟩ rfl rfl rfl) <| sS rfl <| o_ek (fr' := [(2, aS)]) rfl rfl <| w_ret ?_
  obtain rfl := sy h8
  exact e_ret (rs' := [.tmp 2]) rfl <| r_tmp (v := aS) rfl <| r_nil <| fin_gen [] rfl rfl rfl lr st_nil
noncomputable def ref06xRun (p0n : Int) : Option (List UInt8) :=
 cond (decide (p0n < (1 : Int))) (some ([] : List UInt8)) ((ref03xDecimal p0n).bind fun (x3 : (List UInt8)) => (cat ([114] : List UInt8) x3).bind fun (x5 : (List UInt8)) => some (([114] : List UInt8) ++ x3))
theorem w_ref06xRun {p0n : Int} {res : (List UInt8)} (h : ref06xRun p0n = some res) : ACalls Tryz.prog 76 [.c (.int .i64 p0n)] [] (.c (.str res)) [] := by
 unfold ref06xRun at h
 refine acalls (fn := Tryz.f76) [0, 2, 4] (by kernel_rfl) Tryz.func76 rfl (by kernel_rfl) (by kernel_rfl) <| w_sr <| sS rfl <| o_ek (fr' := [(0, aI)]) rfl rfl <| w_seqw <| w_sr <| mI rfl <| o_p rfl (p_lss rfl rfl) <| o_ek (fr' := [(0, aI), (4, aB)]) rfl rfl <| w_ch h rfl (fun hb1 h1 => ?_) (fun hb1 h1 => ?_)
 ·
  refine w_sr <| sS rfl <| o_ek (fr' := [(2, aS)]) rfl rfl <| w_ret <| e_seq_r ?_
  obtain rfl := sy h1
  exact e_ret (rs' := [.tmp 2]) rfl <| r_tmp (v := aS) rfl <| r_nil <| fin_gen [] rfl rfl rfl lr st_nil
 ·
  refine w_skip <| e_kw <| w_sr <| mI rfl ?_
  obtain ⟨x3, hx3, h4⟩ := bind_s h1
  refine o_v (ov_call (v := aS) rfl (w_ref03xDecimal hx3) ⟨lr, trivial⟩ rfl rfl rfl) ?_
  obtain ⟨x5, hx5, h6⟩ := bind_s h4
  refine o_p rfl (p_sadd rfl rfl (cat_some hx5).1) <| sS rfl <| o_ek (fr' := [(2, aS)]) rfl rfl <| w_ret ?_
  obtain rfl := sy h6
  exact e_ret (rs' := [.tmp 2]) rfl <| r_tmp (v := aS) rfl <| r_nil <| fin_gen [] rfl rfl rfl lr st_nil
noncomputable def ref06xNumber_l1 (p0run : (List UInt8)) (s4 : (Int × Int)) : Option (Step (Int × Int) Int) :=
 cond (cond (decide (s4.2 < ((p0run).length : Int))) (decide (((p0run).length : Int) ≤ (20 : Int))) false) ((idx p0run s4.2).bind fun (x6 : UInt8) => some (Step.next ((IntKind.wrap .i64 ((IntKind.wrap .i64 ((IntKind.wrap .i64 ((10 : Int) * s4.1)) + (IntKind.wrap .i64 ((x6).toNat : Int)))) - (48 : Int))), (IntKind.wrap .i64 (s4.2 + (1 : Int)))))) (some (Step.out s4.1))
noncomputable def ref06xNumber (p0run : (List UInt8)) : Option (Int × Bool) :=
 ((loopO (ref06xNumber_l1 p0run) (((0 : Int), (1 : Int)))) : Option Int).bind fun (x1 : Int) => ((gd ((decide (x1 < (1 : Int))) == false) (ref06xRun x1)).bind fun (x10 : (List UInt8)) => cond (cond (decide (x1 < (1 : Int))) true (!decide (x10 = p0run))) (some ((0 : Int), false)) (some (x1, true)))
theorem w_ref06xNumber {p0run : (List UInt8)} {res : (Int × Bool)} (h : ref06xNumber p0run = some res) : ACalls Tryz.prog 42 [.c (.str p0run)] [] (.tup [.c (.int .i64 res.1), .c (.bool res.2)]) [] := by
 unfold ref06xNumber at h
 refine acalls (fn := Tryz.f42) [0, 2, 3, 4, 5, 14, 32] (by kernel_rfl) Tryz.func42 rfl (by kernel_rfl) (by kernel_rfl) <| w_sr <| sI rfl <| sB rfl <| o_ek (fr' := [(0, aS)]) rfl rfl <| w_sr <| sI rfl <| o_ek (fr' := [(0, aS), (4, aI)]) rfl rfl <| w_seqw <| w_seqw <| w_region ?_
 refine sI rfl <| o_ek (fr' := [(0, aS), (4, aI), (5, aI)]) rfl rfl ?_
 obtain ⟨x1, hx1, h2⟩ := bind_s h
 refine w_jtail cl_kw (fun j3 => x1 = j3) (fun (j3 : Int) => ([(0, .c (.str p0run)), (4, .c (.int .i64 j3))] : Fr)) (fun (j3 : Int) => ([] : St)) ?_ ?_
 ·
  refine w_block <| w_loopo _ (fun (s4 : (Int × Int)) => ([(0, .c (.str p0run)), (4, .c (.int .i64 s4.1)), (5, .c (.int .i64 s4.2))] : Fr)) (fun (s4 : (Int × Int)) => ([] : St)) hx1 (w_weak [] 0 rfl rfl rfl rfl ⟨lr, lr, lr, trivial⟩ st_nil) ?_
  intro s4 st4 hs4 ho4
  unfold ref06xNumber_l1 at hs4
  refine w_seqw <| w_sr <| mI rfl <| mS rfl <| o_p rfl (p_lens ti9 rfl) <| o_p rfl (p_lss rfl rfl) <| mB rfl <| og rfl rfl rfl (fun hc => (p_move (v := aS) rfl)) <| og rfl rfl rfl (fun hc => (p_lens ti9 (gx rfl hc))) <| og rfl rfl rfl (fun hc => (p_leq (gx rfl hc) rfl)) <| o_p rfl (p_picky rfl rfl rfl (fun e => keq e)) <| o_ek (fr' := [(0, aS), (4, aI), (5, aI), (14, aB)]) rfl rfl ?_
  refine w_ch hs4 rfl (fun hb5 h5 => ?_) (fun hb5 h5 => ?_)
  ·
   refine w_skip <| e_kw <| w_seqw <| w_block <| w_region <| mI rfl <| o_p rfl (p_mul rfl rfl) <| mS rfl <| mI rfl ?_
   obtain ⟨x6, hx6, h7⟩ := bind_s h5
   refine o_p rfl (p_is ti9 rfl rfl hx6) <| o_p rfl (p_conv tk5 tk3 rfl) <| o_p rfl (p_add rfl rfl) <| o_p rfl (p_sub rfl rfl) <| sI rfl <| o_end (fr' := [(0, aS), (4, aI), (5, aI), (14, aB)]) rfl <| e_blk_n <| e_kw <| w_region <| mI rfl <| o_p rfl (p_add rfl rfl) <| sI rfl <| o_end (fr' := [(0, aS), (4, aI), (5, aI), (14, aB)]) rfl ?_
   exact e_l _ (sy h7) (w_weak [] 0 rfl rfl rfl rfl ⟨lr, lr, lr, trivial⟩ st_nil)
  ·
   refine w_exit <| e_seq_x <| e_seq_x <| e_blk_h ?_
   have h8 := un_out h5 ho4
   exact e_j _ (sy h8) (w_weak [] 0 rfl rfl rfl rfl ⟨lr, lr, trivial⟩ st_nil)
 ·
  intro j3 hj9
  subst hj9
  refine e_kw <| w_seqw <| w_sr <| mI rfl <| o_p rfl (p_lss rfl rfl) <| mB rfl <| og rfl rfl rfl (fun hc => (p_move (v := aI) rfl)) ?_
  obtain ⟨x10, hx10, h11⟩ := bind_s h2
  refine o_g rfl rfl (fun hc => ov_call (v := aS) rfl (w_ref06xRun (gd_some hx10 hc)) ⟨(le_gv (gx rfl hc) lr), trivial⟩ (ok_eq (by repeat (first | exact ok_nil | refine ok_cons rfl ?_ | refine ok_cons (dgv rfl) ?_ | refine ok_cons dar ?_))) rfl rfl) ?_
  refine og rfl rfl rfl (fun hc => (p_move (v := aS) rfl)) <| og rfl rfl rfl (fun hc => (p_sneq (gx rfl hc) (gx rfl hc))) <| o_p rfl (p_pickz rfl rfl rfl (fun e => keq e)) <| o_ek (fr' := [(4, aI), (32, aB)]) rfl rfl <| w_ch h11 rfl (fun hb12 h12 => ?_) (fun hb12 h12 => ?_)
  ·
   refine w_sr <| sI rfl <| sB rfl <| o_ek (fr' := [(2, aI), (3, aB)]) rfl rfl <| w_ret <| e_seq_r ?_
   obtain rfl := sy h12
   exact e_ret (rs' := [.tmp 2, .tmp 3]) rfl <| r_tmp (v := aI) rfl <| r_tmp (v := aB) rfl <| r_nil <| fin_gen [] rfl rfl rfl (le_tupp rfl ⟨lr, lr, trivial⟩) st_nil
  ·
   refine w_skip <| e_kw <| w_sr <| mI rfl <| sI rfl <| sB rfl <| o_ek (fr' := [(2, aI), (3, aB)]) rfl rfl <| w_ret ?_
   obtain rfl := sy h12
   exact e_ret (rs' := [.tmp 2, .tmp 3]) rfl <| r_tmp (v := aI) rfl <| r_tmp (v := aB) rfl <| r_nil <| fin_gen [] rfl rfl rfl (le_tupp rfl ⟨lr, lr, trivial⟩) st_nil
noncomputable def ref22xRight (p0e : ApiEvent) : Option Bool :=
 (ref22xin p0e.Kind (1 : Int) (35 : Int)).bind fun (x1 : Bool) => (gd ((!x1) == false) (ref22xin p0e.ID (0 : Int) (2000 : Int))).bind fun (x3 : Bool) => (gd ((cond (!x1) true (!x3)) == false) (ref22xin p0e.Time (0 : Int) (1099511627776 : Int))).bind fun (x5 : Bool) => (gd ((cond (cond (!x1) true (!x3)) true (!x5)) == false) (ref22xbare p0e)).bind fun (x7 : Bool) => cond (cond (cond (cond (!x1) true (!x3)) true (!x5)) true (!x7)) (some false) ((ref22xIsCommand p0e.Kind).bind fun (x11 : Bool) => cond x11 ((ref22xasCommand p0e).bind fun (x14 : ApiCommand) => (ref20xRight x14).bind fun (x16 : Bool) => some x16) (cond (decide (p0e.Kind = (1 : Int))) ((ref06xRight p0e.Name).bind fun (x20 : Bool) => (gd (x20 == true) (ref22xIdent p0e.Key)).bind fun (x22 : Bool) => (gd ((cond x20 x22 false) == true) (ref22xInput p0e.Data)).bind fun (x24 : Bool) => (gd ((cond (cond x20 x22 false) x24 false) == true) (ref22xin p0e.N (0 : Int) (4294967295 : Int))).bind fun (x26 : Bool) => some (cond (cond (cond x20 x22 false) x24 false) x26 false)) (cond (decide (p0e.Kind = (2 : Int))) (some (decide ((1 : Int) ≤ p0e.N))) (cond (decide (p0e.Kind = (5 : Int))) ((ref22xin p0e.Code (1 : Int) (30 : Int)).bind fun (x32 : Bool) => some x32) (cond (decide (p0e.Kind = (8 : Int))) ((ref22xin p0e.N (1 : Int) (1000 : Int)).bind fun (x36 : Bool) => some x36) (cond (decide (p0e.Kind = (11 : Int))) ((ref22xin p0e.Code (1 : Int) (4 : Int)).bind fun (x40 : Bool) => some x40) (((cond (decide (p0e.Kind = (10 : Int))) (some (decide (p0e.Kind = (10 : Int)))) (cond (decide (p0e.Kind = (22 : Int))) (some (decide (p0e.Kind = (22 : Int)))) (some (decide (p0e.Kind = (25 : Int)))))) : Option Bool).bind fun (x43 : Bool) => (cond x43 (some (decide (((p0e.Name).length : Int) ≤ (4096 : Int)))) (cond (decide (p0e.Kind = (17 : Int))) ((ref06xRight p0e.Name).bind fun (x52 : Bool) => (gd (x52 == true) (ref22xIdent p0e.Key)).bind fun (x54 : Bool) => some (cond x52 x54 false)) (cond (decide (p0e.Kind = (20 : Int))) ((ref06xNumber p0e.Key).bind fun (x58 : (Int × Bool)) => some x58.2) (cond (decide (p0e.Kind = (26 : Int))) ((ref22xIdent p0e.Key).bind fun (x62 : Bool) => some x62) (cond (decide (p0e.Kind = (33 : Int))) (some (decide (((p0e.Name).length : Int) ≤ (64 : Int)))) (some true)))))))))))))
theorem w_ref22xRight {p0e : ApiEvent} {res : Bool} (h : ref22xRight p0e = some res) : ACalls Tryz.prog 10 [.agg (AV.cs (rowApiEvent p0e))] [] (.c (.bool res)) [] := by
 unfold ref22xRight at h
 refine acalls (fn := Tryz.f10) [0, 1, 2, 4, 25, 28, 33, 34, 54, 59, 64, 69, 74, 82, 92, 101, 106] (by kernel_rfl) Tryz.func10 rfl (by kernel_rfl) (by kernel_rfl) <| w_sr <| o_box (v := .agg aIIIIIIISSIISLLSIIIIIIIIL) (n := 0) (cs := aIIIIIIISSIISLLSIIIIIIIIL) (σ' := [aIIIIIIISSIISLLSIIIIIIIIL]) rfl rfl rfl rfl rfl <| sB rfl <| o_ek (fr' := [(1, .box 0 0)]) rfl rfl <| w_seqw <| w_sr <| o_p rfl (p_fa tf29x1 rfl) <| o_p rfl (p_load (v := aI) tv3 rfl rfl rfl) ?_
 obtain ⟨x1, hx1, h2⟩ := bind_s h
 refine o_v (ov_call (v := aB) rfl (w_ref22xin hx1) ⟨lr, lr, lr, trivial⟩ rfl rfl rfl) <| o_p rfl (p_not rfl) <| mB rfl <| og rfl rfl rfl (fun hc => (p_fa tf29x0 rfl)) <| og rfl rfl rfl (fun hc => (p_load (v := aI) tv3 (gx rfl hc) rfl rfl)) ?_
 obtain ⟨x3, hx3, h4⟩ := bind_s h2
 refine o_g rfl rfl (fun hc => ov_call (v := aB) rfl (w_ref22xin (gd_some hx3 hc)) ⟨(le_gv (gx rfl hc) lr), lr, lr, trivial⟩ (ok_eq (by repeat (first | exact ok_nil | refine ok_cons rfl ?_ | refine ok_cons (dgv rfl) ?_ | refine ok_cons dar ?_))) rfl rfl) ?_
 refine og rfl rfl rfl (fun hc => (p_not (gx rfl hc))) <| o_p rfl (p_pickz rfl rfl rfl (fun e => keq e)) <| mB rfl <| og rfl rfl rfl (fun hc => (p_fa tf29x2 rfl)) <| og rfl rfl rfl (fun hc => (p_load (v := aI) tv3 (gx rfl hc) rfl rfl)) ?_
 obtain ⟨x5, hx5, h6⟩ := bind_s h4
 refine o_g rfl rfl (fun hc => ov_call (v := aB) rfl (w_ref22xin (gd_some hx5 hc)) ⟨(le_gv (gx rfl hc) lr), lr, lr, trivial⟩ (ok_eq (by repeat (first | exact ok_nil | refine ok_cons rfl ?_ | refine ok_cons (dgv rfl) ?_ | refine ok_cons dar ?_))) rfl rfl) ?_
 refine og rfl rfl rfl (fun hc => (p_not (gx rfl hc))) <| o_p rfl (p_pickz rfl rfl rfl (fun e => keq e)) <| mB rfl <| og rfl rfl rfl (fun hc => (p_loads (us := aIIIIIIISSIISLLSIIIIIIIIL) tv29 rfl rfl rfl rfl)) ?_
 obtain ⟨x7, hx7, h8⟩ := bind_s h6
 refine o_g rfl rfl (fun hc => ov_call (v := aB) rfl (w_ref22xbare (gd_some hx7 hc)) ⟨(le_gv (gx rfl hc) (le_aggc rfl ⟨rfl, rfl, rfl, rfl, rfl, rfl, rfl, rfl, rfl, rfl, rfl, rfl, rfl, rfl, rfl, rfl, rfl, rfl, rfl, rfl, rfl, rfl, rfl, rfl, trivial⟩)), trivial⟩ (ok_eq (by repeat (first | exact ok_nil | refine ok_cons rfl ?_ | refine ok_cons (dgv rfl) ?_ | refine ok_cons dar ?_))) rfl rfl) ?_
 refine og rfl rfl rfl (fun hc => (p_not (gx rfl hc))) <| o_p rfl (p_pickz rfl rfl rfl (fun e => keq e)) <| o_ek (fr' := [(1, .box 0 0), (25, aB)]) rfl rfl <| w_ch h8 rfl (fun hb9 h9 => ?_) (fun hb9 h9 => ?_)
 ·
  refine w_sr <| sB rfl <| o_ek (fr' := [(2, aB)]) rfl rfl <| w_ret <| e_seq_r ?_
  obtain rfl := sy h9
  exact e_ret (rs' := [.tmp 2]) rfl <| r_tmp (v := aB) rfl <| r_nil <| fin_gen [] rfl rfl rfl lr st_nil
 ·
  refine w_skip <| e_kw <| w_seqw <| w_sr <| o_p rfl (p_fa tf29x1 rfl) <| o_p rfl (p_load (v := aI) tv3 rfl rfl rfl) ?_
  obtain ⟨x11, hx11, h12⟩ := bind_s h9
  refine o_v (ov_call (v := aB) rfl (w_ref22xIsCommand hx11) ⟨lr, trivial⟩ rfl rfl rfl) <| o_ek (fr' := [(1, .box 0 0), (28, aB)]) rfl rfl <| w_ch h12 rfl (fun hb13 h13 => ?_) (fun hb13 h13 => ?_)
  ·
   refine w_sr <| o_p rfl (p_loads (us := aIIIIIIISSIISLLSIIIIIIIIL) tv29 rfl rfl rfl rfl) ?_
   obtain ⟨x14, hx14, h15⟩ := bind_s h13
   refine o_v (ov_call (v := .agg aIISSIIISLLSIIIIIIIIL) rfl (w_ref22xasCommand hx14) ⟨(le_aggc rfl ⟨rfl, rfl, rfl, rfl, rfl, rfl, rfl, rfl, rfl, rfl, rfl, rfl, rfl, rfl, rfl, rfl, rfl, rfl, rfl, rfl, rfl, rfl, rfl, rfl, trivial⟩), trivial⟩ rfl rfl rfl) ?_
   obtain ⟨x16, hx16, h17⟩ := bind_s h15
   refine o_v (ov_call (v := aB) rfl (w_ref20xRight hx16) ⟨(le_aggc rfl ⟨rfl, rfl, rfl, rfl, rfl, rfl, rfl, rfl, rfl, rfl, rfl, rfl, rfl, rfl, rfl, rfl, rfl, rfl, rfl, rfl, trivial⟩), trivial⟩ rfl rfl rfl) <| sB rfl <| o_ek (fr' := [(2, aB)]) rfl rfl <| w_ret <| e_seq_r ?_
   obtain rfl := sy h17
   exact e_ret (rs' := [.tmp 2]) rfl <| r_tmp (v := aB) rfl <| r_nil <| fin_gen [] rfl rfl rfl lr st_nil
  ·
   refine w_skip <| e_kw <| w_seqw <| w_sr <| o_p rfl (p_fa tf29x1 rfl) <| o_p rfl (p_load (v := aI) tv3 rfl rfl rfl) <| o_ek (fr' := [(1, .box 0 0), (33, aI)]) rfl rfl <| w_block <| w_sr <| o_p rfl (p_eql rfl rfl) <| sB rfl ?_
   refine o_ek (fr' := [(1, .box 0 0), (33, aI), (34, aB)]) rfl rfl <| w_ch h13 rfl (fun hb19 h19 => ?_) (fun hb19 h19 => ?_)
   ·
    refine w_sr <| o_p rfl (p_fa tf29x7 rfl) <| o_p rfl (p_load (v := aS) tv9 rfl rfl rfl) ?_
    obtain ⟨x20, hx20, h21⟩ := bind_s h19
    refine o_v (ov_call (v := aB) rfl (w_ref06xRight hx20) ⟨lr, trivial⟩ rfl rfl rfl) <| mB rfl <| og rfl rfl rfl (fun hc => (p_fa tf29x8 rfl)) <| og rfl rfl rfl (fun hc => (p_load (v := aS) tv9 (gx rfl hc) rfl rfl)) ?_
    obtain ⟨x22, hx22, h23⟩ := bind_s h21
    refine o_g rfl rfl (fun hc => ov_call (v := aB) rfl (w_ref22xIdent (gd_some hx22 hc)) ⟨(le_gv (gx rfl hc) lr), trivial⟩ (ok_eq (by repeat (first | exact ok_nil | refine ok_cons rfl ?_ | refine ok_cons (dgv rfl) ?_ | refine ok_cons dar ?_))) rfl rfl) ?_
    refine o_p rfl (p_picky rfl rfl rfl (fun e => keq e)) <| mB rfl <| og rfl rfl rfl (fun hc => (p_fa tf29x9 rfl)) <| og rfl rfl rfl (fun hc => (p_loads (us := aIISLL) tv25 (gx rfl hc) rfl rfl rfl)) ?_
    obtain ⟨x24, hx24, h25⟩ := bind_s h23
    refine o_g rfl rfl (fun hc => ov_call (v := aB) rfl (w_ref22xInput (gd_some hx24 hc)) ⟨(le_gv (gx rfl hc) (le_aggc rfl ⟨rfl, rfl, rfl, rfl, rfl, trivial⟩)), trivial⟩ (ok_eq (by repeat (first | exact ok_nil | refine ok_cons rfl ?_ | refine ok_cons (dgv rfl) ?_ | refine ok_cons dar ?_))) rfl rfl) ?_
    refine o_p rfl (p_picky rfl rfl rfl (fun e => keq e)) <| mB rfl <| og rfl rfl rfl (fun hc => (p_fa tf29x5 rfl)) <| og rfl rfl rfl (fun hc => (p_load (v := aI) tv3 (gx rfl hc) rfl rfl)) ?_
    obtain ⟨x26, hx26, h27⟩ := bind_s h25
    refine o_g rfl rfl (fun hc => ov_call (v := aB) rfl (w_ref22xin (gd_some hx26 hc)) ⟨(le_gv (gx rfl hc) lr), lr, lr, trivial⟩ (ok_eq (by repeat (first | exact ok_nil | refine ok_cons rfl ?_ | refine ok_cons (dgv rfl) ?_ | refine ok_cons dar ?_))) rfl rfl) ?_
    refine o_p rfl (p_picky rfl rfl rfl (fun e => keq e)) <| sB rfl <| o_ek (fr' := [(2, aB)]) rfl rfl <| w_ret <| e_blk_r <| e_seq_r ?_
    obtain rfl := sy h27
    exact e_ret (rs' := [.tmp 2]) rfl <| r_tmp (v := aB) rfl <| r_nil <| fin_gen [] rfl rfl rfl lr st_nil
   ·
    refine w_sr <| o_p rfl (p_eql rfl rfl) <| sB rfl <| o_ek (fr' := [(1, .box 0 0), (33, aI), (54, aB)]) rfl rfl <| w_ch h19 rfl (fun hb29 h29 => ?_) (fun hb29 h29 => ?_)
    ·
     refine w_sr <| o_p rfl (p_fa tf29x5 rfl) <| o_p rfl (p_load (v := aI) tv3 rfl rfl rfl) <| o_p rfl (p_geq rfl rfl) <| sB rfl <| o_ek (fr' := [(2, aB)]) rfl rfl <| w_ret <| e_blk_r <| e_seq_r ?_
     obtain rfl := sy h29
     exact e_ret (rs' := [.tmp 2]) rfl <| r_tmp (v := aB) rfl <| r_nil <| fin_gen [] rfl rfl rfl lr st_nil
    ·
     refine w_sr <| o_p rfl (p_eql rfl rfl) <| sB rfl <| o_ek (fr' := [(1, .box 0 0), (33, aI), (59, aB)]) rfl rfl <| w_ch h29 rfl (fun hb31 h31 => ?_) (fun hb31 h31 => ?_)
     ·
      refine w_sr <| o_p rfl (p_fa tf29x6 rfl) <| o_p rfl (p_load (v := aI) tv3 rfl rfl rfl) ?_
      obtain ⟨x32, hx32, h33⟩ := bind_s h31
      refine o_v (ov_call (v := aB) rfl (w_ref22xin hx32) ⟨lr, lr, lr, trivial⟩ rfl rfl rfl) <| sB rfl <| o_ek (fr' := [(2, aB)]) rfl rfl <| w_ret <| e_blk_r <| e_seq_r ?_
      obtain rfl := sy h33
      exact e_ret (rs' := [.tmp 2]) rfl <| r_tmp (v := aB) rfl <| r_nil <| fin_gen [] rfl rfl rfl lr st_nil
     ·
      refine w_sr <| o_p rfl (p_eql rfl rfl) <| sB rfl <| o_ek (fr' := [(1, .box 0 0), (33, aI), (64, aB)]) rfl rfl <| w_ch h31 rfl (fun hb35 h35 => ?_) (fun hb35 h35 => ?_)
      ·
       refine w_sr <| o_p rfl (p_fa tf29x5 rfl) <| o_p rfl (p_load (v := aI) tv3 rfl rfl rfl) ?_
       obtain ⟨x36, hx36, h37⟩ := bind_s h35
       refine o_v (ov_call (v := aB) rfl (w_ref22xin hx36) ⟨lr, lr, lr, trivial⟩ rfl rfl rfl) <| sB rfl <| o_ek (fr' := [(2, aB)]) rfl rfl <| w_ret <| e_blk_r <| e_seq_r ?_
       obtain rfl := sy h37
       exact e_ret (rs' := [.tmp 2]) rfl <| r_tmp (v := aB) rfl <| r_nil <| fin_gen [] rfl rfl rfl lr st_nil
      ·
       refine w_sr <| o_p rfl (p_eql rfl rfl) <| sB rfl <| o_ek (fr' := [(1, .box 0 0), (33, aI), (69, aB)]) rfl rfl <| w_ch h35 rfl (fun hb39 h39 => ?_) (fun hb39 h39 => ?_)
       ·
        refine w_sr <| o_p rfl (p_fa tf29x6 rfl) <| o_p rfl (p_load (v := aI) tv3 rfl rfl rfl) ?_
        obtain ⟨x40, hx40, h41⟩ := bind_s h39
        refine o_v (ov_call (v := aB) rfl (w_ref22xin hx40) ⟨lr, lr, lr, trivial⟩ rfl rfl rfl) <| sB rfl <| o_ek (fr' := [(2, aB)]) rfl rfl <| w_ret <| e_blk_r <| e_seq_r ?_
        obtain rfl := sy h41
        exact e_ret (rs' := [.tmp 2]) rfl <| r_tmp (v := aB) rfl <| r_nil <| fin_gen [] rfl rfl rfl lr st_nil
       ·
        obtain ⟨x43, hx43, h44⟩ := bind_s h39
        refine w_join (fun j45 => x43 = j45) (fun (j45 : Bool) => ([(1, .box 0 0), (33, .c (.int .i64 p0e.Kind)), (74, .c (.bool j45))] : Fr)) (fun (j45 : Bool) => ([[.c (.int .i64 p0e.ID), .c (.int .i64 p0e.Kind), .c (.int .i64 p0e.Time), .c (.int .i64 p0e.Seq), .c (.int .i64 p0e.Ref), .c (.int .i64 p0e.N), .c (.int .i64 p0e.Code), .c (.str p0e.Name), .c (.str p0e.Key), .c (.int .i64 p0e.Data.Kind), .c (.int .i64 p0e.Data.Int), .c (.str p0e.Data.Text), .c (PV.ls 5 rowApiValue p0e.Data.Items), .c (PV.ls 1 rowS p0e.Data.Keys), .c (.str p0e.Opts.Queue), .c (.int .i64 p0e.Opts.ToStart), .c (.int .i64 p0e.Opts.ToClose), .c (.int .i64 p0e.Opts.Total), .c (.int .i64 p0e.Opts.Beat), .c (.int .i64 p0e.Opts.First), .c (.int .i64 p0e.Opts.Coef), .c (.int .i64 p0e.Opts.Most), .c (.int .i64 p0e.Opts.Attempts), .c (PV.ls 1 rowS p0e.Opts.Fatal)]] : St)) ?_ ?_
        ·
         refine w_sr <| o_p rfl (p_eql rfl rfl) <| sB rfl <| o_ek (fr' := [(1, .box 0 0), (33, aI), (74, aB)]) rfl rfl <| w_ch hx43 rfl (fun hb46 h46 => ?_) (fun hb46 h46 => ?_)
         ·
          exact w_skip <| e_j _ (sy h46) (w_weak [] 1 rfl rfl rfl rfl ⟨lr, lr, lr, trivial⟩ (st_r rfl st_nil))
         ·
          refine w_sr <| o_p rfl (p_eql rfl rfl) <| sB rfl <| o_ek (fr' := [(1, .box 0 0), (33, aI), (74, aB)]) rfl rfl <| w_ch h46 rfl (fun hb47 h47 => ?_) (fun hb47 h47 => ?_)
          ·
           exact w_skip <| e_j _ (sy h47) (w_weak [] 1 rfl rfl rfl rfl ⟨lr, lr, lr, trivial⟩ (st_r rfl st_nil))
          ·
           exact w_region <| o_p rfl (p_eql rfl rfl) <| sB rfl <| o_end (fr' := [(1, .box 0 0), (33, aI), (74, aB)]) rfl <| e_j _ (sy h47) (w_weak [] 1 rfl rfl rfl rfl ⟨lr, lr, lr, trivial⟩ (st_r rfl st_nil))
        ·
         intro j45 hj48
         subst hj48
         refine w_ch h44 rfl (fun hb49 h49 => ?_) (fun hb49 h49 => ?_)
         ·
          refine w_sr <| o_p rfl (p_fa tf29x7 rfl) <| o_p rfl (p_load (v := aS) tv9 rfl rfl rfl) <| o_p rfl (p_lens ti9 rfl) <| o_p rfl (p_leq rfl rfl) <| sB rfl <| o_ek (fr' := [(2, aB)]) rfl rfl <| w_ret <| e_blk_r <| e_seq_r ?_
          obtain rfl := sy h49
          exact e_ret (rs' := [.tmp 2]) rfl <| r_tmp (v := aB) rfl <| r_nil <| fin_gen [] rfl rfl rfl lr st_nil
         ·
          refine w_sr <| o_p rfl (p_eql rfl rfl) <| sB rfl <| o_ek (fr' := [(1, .box 0 0), (33, aI), (82, aB)]) rfl rfl <| w_ch h49 rfl (fun hb51 h51 => ?_) (fun hb51 h51 => ?_)
          ·
           refine w_sr <| o_p rfl (p_fa tf29x7 rfl) <| o_p rfl (p_load (v := aS) tv9 rfl rfl rfl) ?_
           obtain ⟨x52, hx52, h53⟩ := bind_s h51
           refine o_v (ov_call (v := aB) rfl (w_ref06xRight hx52) ⟨lr, trivial⟩ rfl rfl rfl) <| mB rfl <| og rfl rfl rfl (fun hc => (p_fa tf29x8 rfl)) <| og rfl rfl rfl (fun hc => (p_load (v := aS) tv9 (gx rfl hc) rfl rfl)) ?_
           obtain ⟨x54, hx54, h55⟩ := bind_s h53
           refine o_g rfl rfl (fun hc => ov_call (v := aB) rfl (w_ref22xIdent (gd_some hx54 hc)) ⟨(le_gv (gx rfl hc) lr), trivial⟩ (ok_eq (by repeat (first | exact ok_nil | refine ok_cons rfl ?_ | refine ok_cons (dgv rfl) ?_ | refine ok_cons dar ?_))) rfl rfl) ?_
           refine o_p rfl (p_picky rfl rfl rfl (fun e => keq e)) <| sB rfl <| o_ek (fr' := [(2, aB)]) rfl rfl <| w_ret <| e_blk_r <| e_seq_r ?_
           obtain rfl := sy h55
           exact e_ret (rs' := [.tmp 2]) rfl <| r_tmp (v := aB) rfl <| r_nil <| fin_gen [] rfl rfl rfl lr st_nil
          ·
           refine w_sr <| o_p rfl (p_eql rfl rfl) <| sB rfl <| o_ek (fr' := [(1, .box 0 0), (33, aI), (92, aB)]) rfl rfl <| w_ch h51 rfl (fun hb57 h57 => ?_) (fun hb57 h57 => ?_)
           ·
            refine w_sr <| o_p rfl (p_fa tf29x8 rfl) <| o_p rfl (p_load (v := aS) tv9 rfl rfl rfl) ?_
            obtain ⟨x58, hx58, h59⟩ := bind_s h57
            refine o_v (ov_call (v := .tup [aI, aB]) rfl (w_ref06xNumber hx58) ⟨lr, trivial⟩ rfl rfl rfl) <| mV (v := .tup [aI, aB]) rfl <| o_p rfl (p_ex (v := aI) rfl rfl) <| o_p rfl (p_ex (v := aB) rfl rfl) <| sI rfl <| sB rfl <| o_ek (fr' := [(4, aB)]) rfl rfl <| w_sr <| mB rfl <| sB rfl <| o_ek (fr' := [(2, aB)]) rfl rfl <| w_ret ?_
            refine e_blk_r <| e_seq_r ?_
            obtain rfl := sy h59
            exact e_ret (rs' := [.tmp 2]) rfl <| r_tmp (v := aB) rfl <| r_nil <| fin_gen [] rfl rfl rfl lr st_nil
           ·
            refine w_sr <| o_p rfl (p_eql rfl rfl) <| sB rfl <| o_ek (fr' := [(1, .box 0 0), (33, aI), (101, aB)]) rfl rfl <| w_ch h57 rfl (fun hb61 h61 => ?_) (fun hb61 h61 => ?_)
            ·
             refine w_sr <| o_p rfl (p_fa tf29x8 rfl) <| o_p rfl (p_load (v := aS) tv9 rfl rfl rfl) ?_
             obtain ⟨x62, hx62, h63⟩ := bind_s h61
             refine o_v (ov_call (v := aB) rfl (w_ref22xIdent hx62) ⟨lr, trivial⟩ rfl rfl rfl) <| sB rfl <| o_ek (fr' := [(2, aB)]) rfl rfl <| w_ret <| e_blk_r <| e_seq_r ?_
             obtain rfl := sy h63
             exact e_ret (rs' := [.tmp 2]) rfl <| r_tmp (v := aB) rfl <| r_nil <| fin_gen [] rfl rfl rfl lr st_nil
            ·
             refine w_sr <| o_p rfl (p_eql rfl rfl) <| sB rfl <| o_ek (fr' := [(1, .box 0 0), (106, aB)]) rfl rfl <| w_ch h61 rfl (fun hb65 h65 => ?_) (fun hb65 h65 => ?_)
             ·
              refine w_sr <| o_p rfl (p_fa tf29x7 rfl) <| o_p rfl (p_load (v := aS) tv9 rfl rfl rfl) <| o_p rfl (p_lens ti9 rfl) <| o_p rfl (p_leq rfl rfl) <| sB rfl <| o_ek (fr' := [(2, aB)]) rfl rfl <| w_ret <| e_blk_r <| e_seq_r ?_
              obtain rfl := sy h65
              exact e_ret (rs' := [.tmp 2]) rfl <| r_tmp (v := aB) rfl <| r_nil <| fin_gen [] rfl rfl rfl lr st_nil
             ·
              refine w_skip <| e_blk_n <| e_kw <| w_sr <| sB rfl <| o_ek (fr' := [(2, aB)]) rfl rfl <| w_ret ?_
              obtain rfl := sy h65
              exact e_ret (rs' := [.tmp 2]) rfl <| r_tmp (v := aB) rfl <| r_nil <| fin_gen [] rfl rfl rfl lr st_nil
noncomputable def ref22xStatus (p0kind : Int) : Option (Int × Bool) :=
 cond (decide (p0kind = (30 : Int))) (some ((1 : Int), true)) (cond (decide (p0kind = (31 : Int))) (some ((2 : Int), true)) (cond (decide (p0kind = (32 : Int))) (some ((3 : Int), true)) (cond (decide (p0kind = (33 : Int))) (some ((4 : Int), true)) (cond (decide (p0kind = (34 : Int))) (some ((5 : Int), true)) (cond (decide (p0kind = (35 : Int))) (some ((6 : Int), true)) (some ((0 : Int), false)))))))
theorem w_ref22xStatus {p0kind : Int} {res : (Int × Bool)} (h : ref22xStatus p0kind = some res) : ACalls Tryz.prog 114 [.c (.int .i64 p0kind)] [] (.tup [.c (.int .i64 res.1), .c (.bool res.2)]) [] := by
 unfold ref22xStatus at h
 refine acalls (fn := Tryz.f114) [0, 2, 3, 4, 5, 7, 9, 11, 13, 15] (by kernel_rfl) Tryz.func114 rfl (by kernel_rfl) (by kernel_rfl) <| w_sr <| sI rfl <| sB rfl <| o_ek (fr' := [(0, aI)]) rfl rfl <| w_seqw <| w_sr <| mI rfl <| o_ek (fr' := [(4, aI)]) rfl rfl <| w_block <| w_seqw ?_
 refine w_region <| o_p rfl (p_eql rfl rfl) <| sB rfl <| o_ek (fr' := [(4, aI), (5, aB)]) rfl rfl <| w_ch h rfl (fun hb1 h1 => ?_) (fun hb1 h1 => ?_)
 ·
  refine w_sr <| sI rfl <| sB rfl <| o_ek (fr' := [(2, aI), (3, aB)]) rfl rfl <| w_ret <| e_blk_r <| e_seq_r ?_
  obtain rfl := sy h1
  exact e_ret (rs' := [.tmp 2, .tmp 3]) rfl <| r_tmp (v := aI) rfl <| r_tmp (v := aB) rfl <| r_nil <| fin_gen [] rfl rfl rfl (le_tupp rfl ⟨lr, lr, trivial⟩) st_nil
 ·
  refine w_sr <| o_p rfl (p_eql rfl rfl) <| sB rfl <| o_ek (fr' := [(4, aI), (7, aB)]) rfl rfl <| w_ch h1 rfl (fun hb3 h3 => ?_) (fun hb3 h3 => ?_)
  ·
   refine w_sr <| sI rfl <| sB rfl <| o_ek (fr' := [(2, aI), (3, aB)]) rfl rfl <| w_ret <| e_blk_r <| e_seq_r ?_
   obtain rfl := sy h3
   exact e_ret (rs' := [.tmp 2, .tmp 3]) rfl <| r_tmp (v := aI) rfl <| r_tmp (v := aB) rfl <| r_nil <| fin_gen [] rfl rfl rfl (le_tupp rfl ⟨lr, lr, trivial⟩) st_nil
  ·
   refine w_sr <| o_p rfl (p_eql rfl rfl) <| sB rfl <| o_ek (fr' := [(4, aI), (9, aB)]) rfl rfl <| w_ch h3 rfl (fun hb5 h5 => ?_) (fun hb5 h5 => ?_)
   ·
    refine w_sr <| sI rfl <| sB rfl <| o_ek (fr' := [(2, aI), (3, aB)]) rfl rfl <| w_ret <| e_blk_r <| e_seq_r ?_
    obtain rfl := sy h5
    exact e_ret (rs' := [.tmp 2, .tmp 3]) rfl <| r_tmp (v := aI) rfl <| r_tmp (v := aB) rfl <| r_nil <| fin_gen [] rfl rfl rfl (le_tupp rfl ⟨lr, lr, trivial⟩) st_nil
   ·
    refine w_sr <| o_p rfl (p_eql rfl rfl) <| sB rfl <| o_ek (fr' := [(4, aI), (11, aB)]) rfl rfl <| w_ch h5 rfl (fun hb7 h7 => ?_) (fun hb7 h7 => ?_)
    ·
     refine w_sr <| sI rfl <| sB rfl <| o_ek (fr' := [(2, aI), (3, aB)]) rfl rfl <| w_ret <| e_blk_r <| e_seq_r ?_
     obtain rfl := sy h7
     exact e_ret (rs' := [.tmp 2, .tmp 3]) rfl <| r_tmp (v := aI) rfl <| r_tmp (v := aB) rfl <| r_nil <| fin_gen [] rfl rfl rfl (le_tupp rfl ⟨lr, lr, trivial⟩) st_nil
    ·
     refine w_sr <| o_p rfl (p_eql rfl rfl) <| sB rfl <| o_ek (fr' := [(4, aI), (13, aB)]) rfl rfl <| w_ch h7 rfl (fun hb9 h9 => ?_) (fun hb9 h9 => ?_)
     ·
      refine w_sr <| sI rfl <| sB rfl <| o_ek (fr' := [(2, aI), (3, aB)]) rfl rfl <| w_ret <| e_blk_r <| e_seq_r ?_
      obtain rfl := sy h9
      exact e_ret (rs' := [.tmp 2, .tmp 3]) rfl <| r_tmp (v := aI) rfl <| r_tmp (v := aB) rfl <| r_nil <| fin_gen [] rfl rfl rfl (le_tupp rfl ⟨lr, lr, trivial⟩) st_nil
     ·
      refine w_sr <| o_p rfl (p_eql rfl rfl) <| sB rfl <| o_ek (fr' := [(15, aB)]) rfl rfl <| w_ch h9 rfl (fun hb11 h11 => ?_) (fun hb11 h11 => ?_)
      ·
       refine w_sr <| sI rfl <| sB rfl <| o_ek (fr' := [(2, aI), (3, aB)]) rfl rfl <| w_ret <| e_blk_r <| e_seq_r ?_
       obtain rfl := sy h11
       exact e_ret (rs' := [.tmp 2, .tmp 3]) rfl <| r_tmp (v := aI) rfl <| r_tmp (v := aB) rfl <| r_nil <| fin_gen [] rfl rfl rfl (le_tupp rfl ⟨lr, lr, trivial⟩) st_nil
      ·
       refine w_skip <| e_blk_n <| e_kw <| w_sr <| sI rfl <| sB rfl <| o_ek (fr' := [(2, aI), (3, aB)]) rfl rfl <| w_ret ?_
       obtain rfl := sy h11
       exact e_ret (rs' := [.tmp 2, .tmp 3]) rfl <| r_tmp (v := aI) rfl <| r_tmp (v := aB) rfl <| r_nil <| fin_gen [] rfl rfl rfl (le_tupp rfl ⟨lr, lr, trivial⟩) st_nil
noncomputable def ref22xCloses (p0kind : Int) : Option Bool :=
 (ref22xStatus p0kind).bind fun (x1 : (Int × Bool)) => some x1.2
theorem w_ref22xCloses {p0kind : Int} {res : Bool} (h : ref22xCloses p0kind = some res) : ACalls Tryz.prog 88 [.c (.int .i64 p0kind)] [] (.c (.bool res)) [] := by
 unfold ref22xCloses at h
 refine acalls (fn := Tryz.f88) [0, 2, 4] (by kernel_rfl) Tryz.func88 rfl (by kernel_rfl) (by kernel_rfl) <| w_sr <| sB rfl <| o_ek (fr' := [(0, aI)]) rfl rfl <| w_sr <| mI rfl ?_
 obtain ⟨x1, hx1, h2⟩ := bind_s h
 refine o_v (ov_call (v := .tup [aI, aB]) rfl (w_ref22xStatus hx1) ⟨lr, trivial⟩ rfl rfl rfl) <| mV (v := .tup [aI, aB]) rfl <| o_p rfl (p_ex (v := aI) rfl rfl) <| o_p rfl (p_ex (v := aB) rfl rfl) <| sI rfl <| sB rfl <| o_ek (fr' := [(4, aB)]) rfl rfl <| w_sr <| mB rfl <| sB rfl <| o_ek (fr' := [(2, aB)]) rfl rfl <| w_ret ?_
 obtain rfl := sy h2
 exact e_ret (rs' := [.tmp 2]) rfl <| r_tmp (v := aB) rfl <| r_nil <| fin_gen [] rfl rfl rfl lr st_nil
noncomputable def ref24xclosesActivity (p0kind : Int) : Option Bool :=
 some (cond (cond (cond (decide (p0kind = (9 : Int))) true (decide (p0kind = (10 : Int)))) true (decide (p0kind = (11 : Int)))) true (decide (p0kind = (13 : Int))))
theorem w_ref24xclosesActivity {p0kind : Int} {res : Bool} (h : ref24xclosesActivity p0kind = some res) : ACalls Tryz.prog 89 [.c (.int .i64 p0kind)] [] (.c (.bool res)) [] := by
 unfold ref24xclosesActivity at h
 refine acalls (fn := Tryz.f89) [0, 2] (by kernel_rfl) Tryz.func89 rfl (by kernel_rfl) (by kernel_rfl) <| w_sr <| sB rfl <| o_ek (fr' := [(0, aI)]) rfl rfl <| w_sr <| mI rfl <| o_p rfl (p_eql rfl rfl) <| mB rfl <| og rfl rfl rfl (fun hc => (p_move (v := aI) rfl)) <| og rfl rfl rfl (fun hc => (p_eql (gx rfl hc) rfl)) <| o_p rfl (p_pickz rfl rfl rfl (fun e => keq e)) ?_
 refine mB rfl <| og rfl rfl rfl (fun hc => (p_move (v := aI) rfl)) <| og rfl rfl rfl (fun hc => (p_eql (gx rfl hc) rfl)) <| o_p rfl (p_pickz rfl rfl rfl (fun e => keq e)) <| mB rfl <| og rfl rfl rfl (fun hc => (p_move (v := aI) rfl)) <| og rfl rfl rfl (fun hc => (p_eql (gx rfl hc) rfl)) <| o_p rfl (p_pickz rfl rfl rfl (fun e => keq e)) <| sB rfl <| o_ek (fr' := [(2, aB)]) rfl rfl <| w_ret ?_
 obtain rfl := sy h
 exact e_ret (rs' := [.tmp 2]) rfl <| r_tmp (v := aB) rfl <| r_nil <| fin_gen [] rfl rfl rfl lr st_nil
noncomputable def ref24xends (p0kind : Int) : Option Bool :=
 some (cond (cond (decide (p0kind = (4 : Int))) true (decide (p0kind = (5 : Int)))) true (decide (p0kind = (6 : Int))))
theorem w_ref24xends {p0kind : Int} {res : Bool} (h : ref24xends p0kind = some res) : ACalls Tryz.prog 90 [.c (.int .i64 p0kind)] [] (.c (.bool res)) [] := by
 unfold ref24xends at h
 refine acalls (fn := Tryz.f90) [0, 2] (by kernel_rfl) Tryz.func90 rfl (by kernel_rfl) (by kernel_rfl) <| w_sr <| sB rfl <| o_ek (fr' := [(0, aI)]) rfl rfl <| w_sr <| mI rfl <| o_p rfl (p_eql rfl rfl) <| mB rfl <| og rfl rfl rfl (fun hc => (p_move (v := aI) rfl)) <| og rfl rfl rfl (fun hc => (p_eql (gx rfl hc) rfl)) <| o_p rfl (p_pickz rfl rfl rfl (fun e => keq e)) ?_
 refine mB rfl <| og rfl rfl rfl (fun hc => (p_move (v := aI) rfl)) <| og rfl rfl rfl (fun hc => (p_eql (gx rfl hc) rfl)) <| o_p rfl (p_pickz rfl rfl rfl (fun e => keq e)) <| sB rfl <| o_ek (fr' := [(2, aB)]) rfl rfl <| w_ret ?_
 obtain rfl := sy h
 exact e_ret (rs' := [.tmp 2]) rfl <| r_tmp (v := aB) rfl <| r_nil <| fin_gen [] rfl rfl rfl lr st_nil
noncomputable def ref24xlast_l1 (p0l : (List ApiEvent)) (s4 : Int) : Option (Step Int (Fl Int Unit)) :=
 cond (decide ((0 : Int) ≤ s4)) ((idx p0l s4).bind fun (x6 : ApiEvent) => (ref24xends x6.Kind).bind fun (x8 : Bool) => (gd (x8 == false) (idx p0l s4)).bind fun (x10 : ApiEvent) => (gd ((cond x8 true (decide (x10.Kind = (2 : Int)))) == false) (idx p0l s4)).bind fun (x12 : ApiEvent) => cond (cond (cond x8 true (decide (x10.Kind = (2 : Int)))) true (decide (x12.Kind = (3 : Int)))) (some (Step.out (Fl.done s4))) (some (Step.next (IntKind.wrap .i64 (s4 - (1 : Int)))))) (some (Step.out (Fl.go ())))
noncomputable def ref24xlast (p0l : (List ApiEvent)) (p1i : Int) : Option Int :=
 ((loopO (ref24xlast_l1 p0l) ((IntKind.wrap .i64 (p1i - (1 : Int))))) : Option (Fl Int Unit)).bind fun (x1 : (Fl Int Unit)) => Fl.next x1 (fun (j3 : Unit) => (some (-1 : Int)))
theorem w_ref24xlast {p0l : (List ApiEvent)} {p1i : Int} {res : Int} (h : ref24xlast p0l p1i = some res) : ACalls Tryz.prog 91 [.c (PV.ls 24 rowApiEvent p0l), .c (.int .i64 p1i)] [] (.c (.int .i64 res)) [] := by
 unfold ref24xlast at h
 refine acalls (fn := Tryz.f91) [0, 1, 4, 5, 9, 33] (by kernel_rfl) Tryz.func91 rfl (by kernel_rfl) (by kernel_rfl) <| w_sr <| sI rfl <| o_ek (fr' := [(0, aL), (1, aI)]) rfl rfl <| w_seqw <| w_sr <| mI rfl <| o_p rfl (p_sub rfl rfl) <| sI rfl <| o_ek (fr' := [(0, aL), (5, aI)]) rfl rfl ?_
 obtain ⟨x1, hx1, h2⟩ := bind_s h
 refine w_jtail cl_kw (fun j3 => x1 = Fl.go j3) (fun (j3 : Unit) => ([] : Fr)) (fun (j3 : Unit) => ([] : St)) ?_ ?_
 ·
  refine w_block <| w_loopo _ (fun (s4 : Int) => ([(0, .c (PV.ls 24 rowApiEvent p0l)), (5, .c (.int .i64 s4))] : Fr)) (fun (s4 : Int) => ([] : St)) hx1 (w_weak [] 0 rfl rfl rfl rfl ⟨lr, lr, trivial⟩ st_nil) ?_
  intro s4 st4 hs4 ho4
  unfold ref24xlast_l1 at hs4
  refine w_seqw <| w_sr <| mI rfl <| o_p rfl (p_geq rfl rfl) <| o_ek (fr' := [(0, aL), (5, aI), (9, aB)]) rfl rfl <| w_ch hs4 rfl (fun hb5 h5 => ?_) (fun hb5 h5 => ?_)
  ·
   refine w_skip <| e_kw <| w_seqw <| w_block <| w_sr <| mL rfl <| mI rfl ?_
   obtain ⟨x6, hx6, h7⟩ := bind_s h5
   refine o_p rfl (p_ia (cs := [PV.int _ _, PV.int _ _, PV.int _ _, PV.int _ _, PV.int _ _, PV.int _ _, PV.int _ _, PV.str _, PV.str _, PV.int _ _, PV.int _ _, PV.str _, PV.ls _ _ _, PV.ls _ _ _, PV.str _, PV.int _ _, PV.int _ _, PV.int _ _, PV.int _ _, PV.int _ _, PV.int _ _, PV.int _ _, PV.int _ _, PV.ls _ _ _]) ts40 (isl_c rfl) rfl hx6 rfl) <| o_p rfl (p_fae tf29x1 rfl) <| o_p rfl (p_loade (p := PV.int _ _) tv3 rfl rfl) ?_
   obtain ⟨x8, hx8, h9⟩ := bind_s h7
   refine o_v (ov_call (v := aB) rfl (w_ref24xends hx8) ⟨lr, trivial⟩ rfl rfl rfl) <| mB rfl <| og rfl rfl rfl (fun hc => (p_move (v := aL) rfl)) <| og rfl rfl rfl (fun hc => (p_move (v := aI) rfl)) ?_
   obtain ⟨x10, hx10, h11⟩ := bind_s h9
   refine og rfl rfl rfl (fun hc => (p_ia (cs := [PV.int _ _, PV.int _ _, PV.int _ _, PV.int _ _, PV.int _ _, PV.int _ _, PV.int _ _, PV.str _, PV.str _, PV.int _ _, PV.int _ _, PV.str _, PV.ls _ _ _, PV.ls _ _ _, PV.str _, PV.int _ _, PV.int _ _, PV.int _ _, PV.int _ _, PV.int _ _, PV.int _ _, PV.int _ _, PV.int _ _, PV.ls _ _ _]) ts40 (isl_c (gx rfl hc)) (gx rfl hc) (gd_some hx10 hc) rfl)) <| og rfl rfl rfl (fun hc => (p_fae tf29x1 (gx rfl hc))) <| og rfl rfl rfl (fun hc => (p_loade (p := PV.int _ _) tv3 (gx rfl hc) rfl)) <| og rfl rfl rfl (fun hc => (p_eql (gx rfl hc) rfl)) <| o_p rfl (p_pickz rfl rfl rfl (fun e => keq e)) <| mB rfl <| og rfl rfl rfl (fun hc => (p_move (v := aL) rfl)) <| og rfl rfl rfl (fun hc => (p_move (v := aI) rfl)) ?_
   obtain ⟨x12, hx12, h13⟩ := bind_s h11
   refine og rfl rfl rfl (fun hc => (p_ia (cs := [PV.int _ _, PV.int _ _, PV.int _ _, PV.int _ _, PV.int _ _, PV.int _ _, PV.int _ _, PV.str _, PV.str _, PV.int _ _, PV.int _ _, PV.str _, PV.ls _ _ _, PV.ls _ _ _, PV.str _, PV.int _ _, PV.int _ _, PV.int _ _, PV.int _ _, PV.int _ _, PV.int _ _, PV.int _ _, PV.int _ _, PV.ls _ _ _]) ts40 (isl_c (gx rfl hc)) (gx rfl hc) (gd_some hx12 hc) rfl)) <| og rfl rfl rfl (fun hc => (p_fae tf29x1 (gx rfl hc))) <| og rfl rfl rfl (fun hc => (p_loade (p := PV.int _ _) tv3 (gx rfl hc) rfl)) <| og rfl rfl rfl (fun hc => (p_eql (gx rfl hc) rfl)) <| o_p rfl (p_pickz rfl rfl rfl (fun e => keq e)) <| o_ek (fr' := [(0, aL), (5, aI), (33, aB)]) rfl rfl <| w_ch h13 rfl (fun hb14 h14 => ?_) (fun hb14 h14 => ?_)
   ·
    refine w_sr <| mI rfl <| sI rfl <| o_ek (fr' := [(4, aI)]) rfl rfl <| w_ret <| e_blk_r <| e_seq_r <| e_seq_r <| e_blk_r <| e_seq_r <| e_seq_r ?_
    have h15 := un_out h14 ho4
    have h16 := un_done h15 h2
    obtain rfl := sy h16
    exact e_ret (rs' := [.tmp 4]) rfl <| r_tmp (v := aI) rfl <| r_nil <| fin_gen [] rfl rfl rfl lr st_nil
   ·
    exact w_skip <| e_blk_n <| e_kw <| w_region <| mI rfl <| o_p rfl (p_sub rfl rfl) <| sI rfl <| o_end (fr' := [(0, aL), (5, aI), (33, aB)]) rfl <| e_l _ (sy h14) (w_weak [] 0 rfl rfl rfl rfl ⟨lr, lr, trivial⟩ st_nil)
  ·
   refine w_exit <| e_seq_x <| e_seq_x <| e_blk_h ?_
   have h18 := un_out h5 ho4
   exact e_j _ (sy h18) (w_weak [] 0 rfl rfl rfl rfl trivial st_nil)
 ·
  intro j3 hj19
  have h19 := un_go hj19 h2
  refine e_kw <| w_sr <| sI rfl <| o_ek (fr' := [(4, aI)]) rfl rfl <| w_ret ?_
  obtain rfl := sy h19
  exact e_ret (rs' := [.tmp 4]) rfl <| r_tmp (v := aI) rfl <| r_nil <| fin_gen [] rfl rfl rfl lr st_nil
noncomputable def ref24xallowed (p0l : (List ApiEvent)) (p1i : Int) : Option Bool :=
 (idx p0l p1i).bind fun (x1 : ApiEvent) => cond (decide (p1i = (0 : Int))) (some (decide (x1.Kind = (1 : Int)))) (cond (cond (decide (x1.Kind = (1 : Int))) true (cond (decide (p1i = (1 : Int))) (!decide (x1.Kind = (2 : Int))) false)) (some false) ((idx p0l (IntKind.wrap .i64 (p1i - (1 : Int)))).bind fun (x7 : ApiEvent) => (ref22xCloses x7.Kind).bind fun (x9 : Bool) => cond x9 (some false) (cond (decide (x7.Kind = (8 : Int))) ((ref24xclosesActivity x1.Kind).bind fun (x14 : Bool) => some (cond x14 (decide (x1.Seq = x7.Seq)) false)) (cond (decide (x7.Kind = (3 : Int))) ((ref24xends x1.Kind).bind fun (x18 : Bool) => some (cond (cond (cond x18 (decide (x1.Ref = x7.ID)) false) true (decide (x1.Kind = (33 : Int)))) true (decide (x1.Kind = (34 : Int))))) ((ref24xlast p0l p1i).bind fun (x21 : Int) => cond (decide (x1.Kind = (2 : Int))) ((gd ((decide (x21 < (0 : Int))) == false) (idx p0l x21)).bind fun (x24 : ApiEvent) => (gd ((decide (x21 < (0 : Int))) == false) (ref24xends x24.Kind)).bind fun (x26 : Bool) => some (cond (decide (x21 < (0 : Int))) true x26)) (cond (decide (x1.Kind = (3 : Int))) ((gd ((decide ((0 : Int) ≤ x21)) == true) (idx p0l x21)).bind fun (x30 : ApiEvent) => (gd ((cond (decide ((0 : Int) ≤ x21)) (decide (x30.Kind = (2 : Int))) false) == true) (idx p0l x21)).bind fun (x32 : ApiEvent) => some (cond (cond (decide ((0 : Int) ≤ x21)) (decide (x30.Kind = (2 : Int))) false) (decide (x1.Ref = x32.ID)) false)) ((ref22xIsCommand x1.Kind).bind fun (x35 : Bool) => cond x35 ((gd ((decide (x7.Kind = (4 : Int))) == false) (ref22xIsCommand x7.Kind)).bind fun (x38 : Bool) => some (cond (decide (x7.Kind = (4 : Int))) true x38)) ((ref24xends x1.Kind).bind fun (x41 : Bool) => some (!x41)))))))))
theorem w_ref24xallowed {p0l : (List ApiEvent)} {p1i : Int} {res : Bool} (h : ref24xallowed p0l p1i = some res) : ACalls Tryz.prog 57 [.c (PV.ls 24 rowApiEvent p0l), .c (.int .i64 p1i)] [] (.c (.bool res)) [] := by
 unfold ref24xallowed at h
 refine acalls (fn := Tryz.f57) [0, 1, 4, 5, 6, 7, 13, 28, 36, 39, 52, 78, 91, 114] (by kernel_rfl) Tryz.func57 rfl (by kernel_rfl) (by kernel_rfl) <| w_sr <| sB rfl <| o_ek (fr' := [(0, aL), (1, aI)]) rfl rfl <| w_sr <| mL rfl <| mI rfl ?_
 obtain ⟨x1, hx1, h2⟩ := bind_s h
 refine o_p rfl (p_ia (cs := [PV.int _ _, PV.int _ _, PV.int _ _, PV.int _ _, PV.int _ _, PV.int _ _, PV.int _ _, PV.str _, PV.str _, PV.int _ _, PV.int _ _, PV.str _, PV.ls _ _ _, PV.ls _ _ _, PV.str _, PV.int _ _, PV.int _ _, PV.int _ _, PV.int _ _, PV.int _ _, PV.int _ _, PV.int _ _, PV.int _ _, PV.ls _ _ _]) ts40 (isl_c rfl) rfl hx1 rfl) <| o_p rfl (p_loades (us := [PV.int _ _, PV.int _ _, PV.int _ _, PV.int _ _, PV.int _ _, PV.int _ _, PV.int _ _, PV.str _, PV.str _, PV.int _ _, PV.int _ _, PV.str _, PV.ls _ _ _, PV.ls _ _ _, PV.str _, PV.int _ _, PV.int _ _, PV.int _ _, PV.int _ _, PV.int _ _, PV.int _ _, PV.int _ _, PV.int _ _, PV.ls _ _ _]) tv29 rfl rfl rfl) <| o_alloc (n := 0) (cs := [aI, aI, aI, aI, aI, aI, aI, aS, aS, aI, aI, aS, AV.nil, AV.nil, aS, aI, aI, aI, aI, aI, aI, aI, aI, AV.nil]) (σ' := [[aI, aI, aI, aI, aI, aI, aI, aS, aS, aI, aI, aS, AV.nil, AV.nil, aS, aI, aI, aI, aI, aI, aI, aI, aI, AV.nil]]) tz29 rfl rfl rfl <| o_store (v := .agg aIIIIIIISSIISLLSIIIIIIIIL) (us := aIIIIIIISSIISLLSIIIIIIIIL) (cs := [aI, aI, aI, aI, aI, aI, aI, aS, aS, aI, aI, aS, AV.nil, AV.nil, aS, aI, aI, aI, aI, aI, aI, aI, aI, AV.nil]) (σ' := [aIIIIIIISSIISLLSIIIIIIIIL]) rfl tv29 rfl rfl rfl rfl rfl rfl rfl rfl <| o_ek (fr' := [(0, aL), (1, aI), (5, .box 0 0)]) rfl rfl <| w_seqw <| w_sr <| mI rfl <| o_p rfl (p_eql rfl rfl) <| o_ek (fr' := [(0, aL), (1, aI), (5, .box 0 0), (13, aB)]) rfl rfl <| w_ch h2 rfl (fun hb3 h3 => ?_) (fun hb3 h3 => ?_)
 ·
  refine w_sr <| o_p rfl (p_fa tf29x1 rfl) <| o_p rfl (p_load (v := aI) tv3 rfl rfl rfl) <| o_p rfl (p_eql rfl rfl) <| sB rfl <| o_ek (fr' := [(4, aB)]) rfl rfl <| w_ret <| e_seq_r ?_
  obtain rfl := sy h3
  exact e_ret (rs' := [.tmp 4]) rfl <| r_tmp (v := aB) rfl <| r_nil <| fin_gen [] rfl rfl rfl lr st_nil
 ·
  refine w_skip <| e_kw <| w_seqw <| w_sr <| o_p rfl (p_fa tf29x1 rfl) <| o_p rfl (p_load (v := aI) tv3 rfl rfl rfl) <| o_p rfl (p_eql rfl rfl) <| mB rfl <| og rfl rfl rfl (fun hc => (p_move (v := aI) rfl)) <| og rfl rfl rfl (fun hc => (p_eql (gx rfl hc) rfl)) <| og rfl rfl rfl (fun hc => (p_move (v := aB) (gx rfl hc))) <| o_gg rfl rfl (fun hc => ov_p rfl (p_fa tf29x1 rfl)) ?_
  refine o_gg rfl rfl (fun hc => ov_p rfl (p_load (v := aI) tv3 (gx rfl hc) rfl rfl)) <| o_gg rfl rfl (fun hc => ov_p rfl (p_neq (gx rfl hc) rfl)) <| og rfl rfl rfl (fun hc => (p_picky (gx rfl hc) rfl rfl (fun e => band hc (keq e)))) <| o_p rfl (p_pickz rfl rfl rfl (fun e => keq e)) <| o_ek (fr' := [(0, aL), (1, aI), (5, .box 0 0), (28, aB)]) rfl rfl <| w_ch h3 rfl (fun hb5 h5 => ?_) (fun hb5 h5 => ?_)
  ·
   refine w_sr <| sB rfl <| o_ek (fr' := [(4, aB)]) rfl rfl <| w_ret <| e_seq_r ?_
   obtain rfl := sy h5
   exact e_ret (rs' := [.tmp 4]) rfl <| r_tmp (v := aB) rfl <| r_nil <| fin_gen [] rfl rfl rfl lr st_nil
  ·
   refine w_skip <| e_kw <| w_sr <| mL rfl <| mI rfl <| o_p rfl (p_sub rfl rfl) ?_
   obtain ⟨x7, hx7, h8⟩ := bind_s h5
   refine o_p rfl (p_ia (cs := [PV.int _ _, PV.int _ _, PV.int _ _, PV.int _ _, PV.int _ _, PV.int _ _, PV.int _ _, PV.str _, PV.str _, PV.int _ _, PV.int _ _, PV.str _, PV.ls _ _ _, PV.ls _ _ _, PV.str _, PV.int _ _, PV.int _ _, PV.int _ _, PV.int _ _, PV.int _ _, PV.int _ _, PV.int _ _, PV.int _ _, PV.ls _ _ _]) ts40 (isl_c rfl) rfl hx7 rfl) <| o_p rfl (p_loades (us := [PV.int _ _, PV.int _ _, PV.int _ _, PV.int _ _, PV.int _ _, PV.int _ _, PV.int _ _, PV.str _, PV.str _, PV.int _ _, PV.int _ _, PV.str _, PV.ls _ _ _, PV.ls _ _ _, PV.str _, PV.int _ _, PV.int _ _, PV.int _ _, PV.int _ _, PV.int _ _, PV.int _ _, PV.int _ _, PV.int _ _, PV.ls _ _ _]) tv29 rfl rfl rfl) <| o_alloc (n := 1) (cs := [aI, aI, aI, aI, aI, aI, aI, aS, aS, aI, aI, aS, AV.nil, AV.nil, aS, aI, aI, aI, aI, aI, aI, aI, aI, AV.nil]) (σ' := [aIIIIIIISSIISLLSIIIIIIIIL, [aI, aI, aI, aI, aI, aI, aI, aS, aS, aI, aI, aS, AV.nil, AV.nil, aS, aI, aI, aI, aI, aI, aI, aI, aI, AV.nil]]) tz29 rfl rfl rfl <| o_store (v := .agg aIIIIIIISSIISLLSIIIIIIIIL) (us := aIIIIIIISSIISLLSIIIIIIIIL) (cs := [aI, aI, aI, aI, aI, aI, aI, aS, aS, aI, aI, aS, AV.nil, AV.nil, aS, aI, aI, aI, aI, aI, aI, aI, aI, AV.nil]) (σ' := [aIIIIIIISSIISLLSIIIIIIIIL, aIIIIIIISSIISLLSIIIIIIIIL]) rfl tv29 rfl rfl rfl rfl rfl rfl rfl rfl <| o_ek (fr' := [(0, aL), (1, aI), (5, .box 0 0), (6, .box 1 0)]) rfl rfl <| w_seqw <| w_sr <| o_p rfl (p_fa tf29x1 rfl) <| o_p rfl (p_load (v := aI) tv3 rfl rfl rfl) ?_
   obtain ⟨x9, hx9, h10⟩ := bind_s h8
   refine o_v (ov_call (v := aB) rfl (w_ref22xCloses hx9) ⟨lr, trivial⟩ rfl rfl rfl) <| o_ek (fr' := [(0, aL), (1, aI), (5, .box 0 0), (6, .box 1 0), (36, aB)]) rfl rfl <| w_ch h10 rfl (fun hb11 h11 => ?_) (fun hb11 h11 => ?_)
   ·
    refine w_sr <| sB rfl <| o_ek (fr' := [(4, aB)]) rfl rfl <| w_ret <| e_seq_r ?_
    obtain rfl := sy h11
    exact e_ret (rs' := [.tmp 4]) rfl <| r_tmp (v := aB) rfl <| r_nil <| fin_gen [] rfl rfl rfl lr st_nil
   ·
    refine w_skip <| e_kw <| w_seqw <| w_sr <| o_p rfl (p_fa tf29x1 rfl) <| o_p rfl (p_load (v := aI) tv3 rfl rfl rfl) <| o_p rfl (p_eql rfl rfl) <| o_ek (fr' := [(0, aL), (1, aI), (5, .box 0 0), (6, .box 1 0), (39, aB)]) rfl rfl <| w_ch h11 rfl (fun hb13 h13 => ?_) (fun hb13 h13 => ?_)
    ·
     refine w_sr <| o_p rfl (p_fa tf29x1 rfl) <| o_p rfl (p_load (v := aI) tv3 rfl rfl rfl) ?_
     obtain ⟨x14, hx14, h15⟩ := bind_s h13
     refine o_v (ov_call (v := aB) rfl (w_ref24xclosesActivity hx14) ⟨lr, trivial⟩ rfl rfl rfl) <| mB rfl <| og rfl rfl rfl (fun hc => (p_fa tf29x3 rfl)) <| og rfl rfl rfl (fun hc => (p_load (v := aI) tv3 (gx rfl hc) rfl rfl)) <| og rfl rfl rfl (fun hc => (p_fa tf29x3 rfl)) <| og rfl rfl rfl (fun hc => (p_load (v := aI) tv3 (gx rfl hc) rfl rfl)) <| og rfl rfl rfl (fun hc => (p_eql (gx rfl hc) (gx rfl hc))) <| o_p rfl (p_picky rfl rfl rfl (fun e => keq e)) <| sB rfl <| o_ek (fr' := [(4, aB)]) rfl rfl <| w_ret <| e_seq_r ?_
     obtain rfl := sy h15
     exact e_ret (rs' := [.tmp 4]) rfl <| r_tmp (v := aB) rfl <| r_nil <| fin_gen [] rfl rfl rfl lr st_nil
    ·
     refine w_skip <| e_kw <| w_seqw <| w_sr <| o_p rfl (p_fa tf29x1 rfl) <| o_p rfl (p_load (v := aI) tv3 rfl rfl rfl) <| o_p rfl (p_eql rfl rfl) <| o_ek (fr' := [(0, aL), (1, aI), (5, .box 0 0), (6, .box 1 0), (52, aB)]) rfl rfl <| w_ch h13 rfl (fun hb17 h17 => ?_) (fun hb17 h17 => ?_)
     ·
      refine w_sr <| o_p rfl (p_fa tf29x1 rfl) <| o_p rfl (p_load (v := aI) tv3 rfl rfl rfl) ?_
      obtain ⟨x18, hx18, h19⟩ := bind_s h17
      refine o_v (ov_call (v := aB) rfl (w_ref24xends hx18) ⟨lr, trivial⟩ rfl rfl rfl) <| mB rfl <| og rfl rfl rfl (fun hc => (p_fa tf29x4 rfl)) <| og rfl rfl rfl (fun hc => (p_load (v := aI) tv3 (gx rfl hc) rfl rfl)) <| og rfl rfl rfl (fun hc => (p_fa tf29x0 rfl)) <| og rfl rfl rfl (fun hc => (p_load (v := aI) tv3 (gx rfl hc) rfl rfl)) <| og rfl rfl rfl (fun hc => (p_eql (gx rfl hc) (gx rfl hc))) <| o_p rfl (p_picky rfl rfl rfl (fun e => keq e)) <| mB rfl <| og rfl rfl rfl (fun hc => (p_fa tf29x1 rfl)) <| og rfl rfl rfl (fun hc => (p_load (v := aI) tv3 (gx rfl hc) rfl rfl)) <| og rfl rfl rfl (fun hc => (p_eql (gx rfl hc) rfl)) <| o_p rfl (p_pickz rfl rfl rfl (fun e => keq e)) ?_
      refine mB rfl <| og rfl rfl rfl (fun hc => (p_fa tf29x1 rfl)) <| og rfl rfl rfl (fun hc => (p_load (v := aI) tv3 (gx rfl hc) rfl rfl)) <| og rfl rfl rfl (fun hc => (p_eql (gx rfl hc) rfl)) <| o_p rfl (p_pickz rfl rfl rfl (fun e => keq e)) <| sB rfl <| o_ek (fr' := [(4, aB)]) rfl rfl <| w_ret <| e_seq_r ?_
      obtain rfl := sy h19
      exact e_ret (rs' := [.tmp 4]) rfl <| r_tmp (v := aB) rfl <| r_nil <| fin_gen [] rfl rfl rfl lr st_nil
     ·
      refine w_skip <| e_kw <| w_sr <| mL rfl <| mI rfl ?_
      obtain ⟨x21, hx21, h22⟩ := bind_s h17
      refine o_v (ov_call (v := aI) rfl (w_ref24xlast hx21) ⟨lr, lr, trivial⟩ rfl rfl rfl) <| sI rfl <| o_ek (fr' := [(0, aL), (5, .box 0 0), (6, .box 1 0), (7, aI)]) rfl rfl <| w_seqw <| w_sr <| o_p rfl (p_fa tf29x1 rfl) <| o_p rfl (p_load (v := aI) tv3 rfl rfl rfl) <| o_p rfl (p_eql rfl rfl) <| o_ek (fr' := [(0, aL), (5, .box 0 0), (6, .box 1 0), (7, aI), (78, aB)]) rfl rfl <| w_ch h22 rfl (fun hb23 h23 => ?_) (fun hb23 h23 => ?_)
      ·
       refine w_sr <| mI rfl <| o_p rfl (p_lss rfl rfl) <| mB rfl <| og rfl rfl rfl (fun hc => (p_move (v := aL) rfl)) <| og rfl rfl rfl (fun hc => (p_move (v := aI) rfl)) ?_
       obtain ⟨x24, hx24, h25⟩ := bind_s h23
       refine og rfl rfl rfl (fun hc => (p_ia (cs := [PV.int _ _, PV.int _ _, PV.int _ _, PV.int _ _, PV.int _ _, PV.int _ _, PV.int _ _, PV.str _, PV.str _, PV.int _ _, PV.int _ _, PV.str _, PV.ls _ _ _, PV.ls _ _ _, PV.str _, PV.int _ _, PV.int _ _, PV.int _ _, PV.int _ _, PV.int _ _, PV.int _ _, PV.int _ _, PV.int _ _, PV.ls _ _ _]) ts40 (isl_c (gx rfl hc)) (gx rfl hc) (gd_some hx24 hc) rfl)) <| og rfl rfl rfl (fun hc => (p_fae tf29x1 (gx rfl hc))) <| og rfl rfl rfl (fun hc => (p_loade (p := PV.int _ _) tv3 (gx rfl hc) rfl)) ?_
       obtain ⟨x26, hx26, h27⟩ := bind_s h25
       refine o_g rfl rfl (fun hc => ov_call (v := aB) rfl (w_ref24xends (gd_some hx26 hc)) ⟨(le_gv (gx rfl hc) lr), trivial⟩ (ok_eq (by repeat (first | exact ok_nil | refine ok_cons rfl ?_ | refine ok_cons (dgv rfl) ?_ | refine ok_cons dar ?_))) rfl rfl) ?_
       refine o_p rfl (p_pickz rfl rfl rfl (fun e => keq e)) <| sB rfl <| o_ek (fr' := [(4, aB)]) rfl rfl <| w_ret <| e_seq_r ?_
       obtain rfl := sy h27
       exact e_ret (rs' := [.tmp 4]) rfl <| r_tmp (v := aB) rfl <| r_nil <| fin_gen [] rfl rfl rfl lr st_nil
      ·
       refine w_skip <| e_kw <| w_seqw <| w_sr <| o_p rfl (p_fa tf29x1 rfl) <| o_p rfl (p_load (v := aI) tv3 rfl rfl rfl) <| o_p rfl (p_eql rfl rfl) <| o_ek (fr' := [(0, aL), (5, .box 0 0), (6, .box 1 0), (7, aI), (91, aB)]) rfl rfl <| w_ch h23 rfl (fun hb29 h29 => ?_) (fun hb29 h29 => ?_)
       ·
        refine w_seqw <| w_planT [.q 0, .q 1, .q 2, .q 3, .q 4, .q 5, .q 6, .q 7, .q 8, .q 9, .q 10, .q 11, .q 12, .q 13, .q 14, .q 15, .q 16, .q 17, .q 18, .q 19, .n 20 []] [(some 92, [7]), (some 93, [92]), (some 94, [93]), (some 95, [0, 94]), (some 96, [7, 94]), (some 97, [95, 96, 94]), (some 98, [97, 94]), (some 99, [98, 94]), (some 100, [99, 94]), (some 101, [94, 100]), (some 102, [101]), (some 103, [5, 102]), (some 104, [103, 102]), (some 105, [0, 102]), (some 106, [7, 102]), (some 107, [105, 106, 102]), (some 108, [107, 102]), (some 109, [108, 102]), (some 110, [104, 109, 102]), (some 111, [102, 110]), (some 4, [111])] [0, 1, 3, 7, 7, 31, 63, 127, 255, 511, 1023, 2047, 4095, 2047, 2047, 26623, 59391, 124927, 262143, 524287, 1048575] (by kernel_rfl) <| dq rfl rfl (p_move (v := aI) rfl) <| dq rfl rfl (p_geq rfl rfl) <| dq rfl rfl (p_move (v := aB) rfl) <| d_g rfl rfl rfl (fun hc => qv_p rfl (p_move (v := aL) rfl)) <| d_g rfl rfl rfl (fun hc => qv_p rfl (p_move (v := aI) rfl)) ?_
        obtain ⟨x30, hx30, h31⟩ := bind_s h29
        refine d_g rfl rfl rfl (fun hc => qv_p rfl (p_ia (cs := [PV.int _ _, PV.int _ _, PV.int _ _, PV.int _ _, PV.int _ _, PV.int _ _, PV.int _ _, PV.str _, PV.str _, PV.int _ _, PV.int _ _, PV.str _, PV.ls _ _ _, PV.ls _ _ _, PV.str _, PV.int _ _, PV.int _ _, PV.int _ _, PV.int _ _, PV.int _ _, PV.int _ _, PV.int _ _, PV.int _ _, PV.ls _ _ _]) ts40 (isl_c (gx rfl hc)) (gx rfl hc) (gd_some hx30 hc) rfl)) <| d_g rfl rfl rfl (fun hc => qv_p rfl (p_fae tf29x1 (gx rfl hc))) <| d_g rfl rfl rfl (fun hc => qv_p rfl (p_loade (p := PV.int _ _) tv3 (gx rfl hc) rfl)) <| d_g rfl rfl rfl (fun hc => qv_p rfl (p_eql (gx rfl hc) rfl)) <| dq rfl rfl (p_picky rfl rfl rfl (fun e => keq e)) <| dq rfl rfl (p_move (v := aB) rfl) <| d_g rfl rfl rfl (fun hc => qv_p rfl (p_fa tf29x4 rfl)) <| d_g rfl rfl rfl (fun hc => qv_p rfl (p_load (v := aI) tv3 (gx rfl hc) rfl rfl)) <| d_g rfl rfl rfl (fun hc => qv_p rfl (p_move (v := aL) rfl)) <| d_g rfl rfl rfl (fun hc => qv_p rfl (p_move (v := aI) rfl)) ?_
        obtain ⟨x32, hx32, h33⟩ := bind_s h31
        refine d_g rfl rfl rfl (fun hc => qv_p rfl (p_ia (cs := [PV.int _ _, PV.int _ _, PV.int _ _, PV.int _ _, PV.int _ _, PV.int _ _, PV.int _ _, PV.str _, PV.str _, PV.int _ _, PV.int _ _, PV.str _, PV.ls _ _ _, PV.ls _ _ _, PV.str _, PV.int _ _, PV.int _ _, PV.int _ _, PV.int _ _, PV.int _ _, PV.int _ _, PV.int _ _, PV.int _ _, PV.ls _ _ _]) ts40 (isl_c (gx rfl hc)) (gx rfl hc) (gd_some hx32 hc) rfl)) <| d_g rfl rfl rfl (fun hc => qv_p rfl (p_fae tf29x0 (gx rfl hc))) <| d_g rfl rfl rfl (fun hc => qv_p rfl (p_loade (p := PV.int _ _) tv3 (gx rfl hc) rfl)) <| d_g rfl rfl rfl (fun hc => qv_p rfl (p_eql (gx rfl hc) (gx rfl hc))) <| dq rfl rfl (p_picky rfl rfl rfl (fun e => keq e)) <| d_n rfl ?_ rfl
        refine sB rfl <| o_rc <| ⟨rc_nil, ?_⟩
        refine d_ek (fr' := [(4, aB)]) rfl rfl <| w_ret <| e_seq_r ?_
        obtain rfl := sy h33
        exact e_ret (rs' := [.tmp 4]) rfl <| r_tmp (v := aB) rfl <| r_nil <| fin_gen [] rfl rfl rfl lr st_nil
       ·
        refine w_skip <| e_kw <| w_seqw <| w_sr <| o_p rfl (p_fa tf29x1 rfl) <| o_p rfl (p_load (v := aI) tv3 rfl rfl rfl) ?_
        obtain ⟨x35, hx35, h36⟩ := bind_s h29
        refine o_v (ov_call (v := aB) rfl (w_ref22xIsCommand hx35) ⟨lr, trivial⟩ rfl rfl rfl) <| o_ek (fr' := [(5, .box 0 0), (6, .box 1 0), (114, aB)]) rfl rfl <| w_ch h36 rfl (fun hb37 h37 => ?_) (fun hb37 h37 => ?_)
        ·
         refine w_sr <| o_p rfl (p_fa tf29x1 rfl) <| o_p rfl (p_load (v := aI) tv3 rfl rfl rfl) <| o_p rfl (p_eql rfl rfl) <| mB rfl <| og rfl rfl rfl (fun hc => (p_fa tf29x1 rfl)) <| og rfl rfl rfl (fun hc => (p_load (v := aI) tv3 (gx rfl hc) rfl rfl)) ?_
         obtain ⟨x38, hx38, h39⟩ := bind_s h37
         refine o_g rfl rfl (fun hc => ov_call (v := aB) rfl (w_ref22xIsCommand (gd_some hx38 hc)) ⟨(le_gv (gx rfl hc) lr), trivial⟩ (ok_eq (by repeat (first | exact ok_nil | refine ok_cons rfl ?_ | refine ok_cons (dgv rfl) ?_ | refine ok_cons dar ?_))) rfl rfl) ?_
         refine o_p rfl (p_pickz rfl rfl rfl (fun e => keq e)) <| sB rfl <| o_ek (fr' := [(4, aB)]) rfl rfl <| w_ret <| e_seq_r ?_
         obtain rfl := sy h39
         exact e_ret (rs' := [.tmp 4]) rfl <| r_tmp (v := aB) rfl <| r_nil <| fin_gen [] rfl rfl rfl lr st_nil
        ·
         refine w_skip <| e_kw <| w_sr <| o_p rfl (p_fa tf29x1 rfl) <| o_p rfl (p_load (v := aI) tv3 rfl rfl rfl) ?_
         obtain ⟨x41, hx41, h42⟩ := bind_s h37
         refine o_v (ov_call (v := aB) rfl (w_ref24xends hx41) ⟨lr, trivial⟩ rfl rfl rfl) <| o_p rfl (p_not rfl) <| sB rfl <| o_ek (fr' := [(4, aB)]) rfl rfl <| w_ret ?_
         obtain rfl := sy h42
         exact e_ret (rs' := [.tmp 4]) rfl <| r_tmp (v := aB) rfl <| r_nil <| fin_gen [] rfl rfl rfl lr st_nil
end Go.Proofs.YtngcjjhbimanlaaGreatDoor

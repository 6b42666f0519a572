import Derived.Test.YtngcjjhbimanlaaGreatDoorGCTy
import Derived.Test.YtngcjjhbimanlaaGreatDoorGCF0
import Derived.Test.YtngcjjhbimanlaaGreatDoorGCF1
namespace Go.Proofs.YtngcjjhbimanlaaGreatDoor
open Go Abs
set_option maxRecDepth 100000
set_option linter.unusedVariables false
set_option linter.unusedSimpArgs false
noncomputable def command_input (p0v : ApiValue) : Option Bool :=
 (gd ((cond (!decide (p0v.Kind = (4 : Int))) true (!decide (((p0v.Items).length : Int) = (2 : Int)))) == false) (idx p0v.Items (1 : Int))).bind fun (x1 : ApiValue) => cond (cond (cond (!decide (p0v.Kind = (4 : Int))) true (!decide (((p0v.Items).length : Int) = (2 : Int)))) true (!decide (x1.Kind = (4 : Int)))) (some false) ((idx p0v.Items (1 : Int)).bind fun (x5 : ApiValue) => (slices_ContainsFunc_api_Value_api_Value_command_input_1 x5.Items).bind fun (x7 : Bool) => some (!x7))
theorem w_command_input {p0v : ApiValue} {res : Bool} (h : command_input p0v = some res) : ACalls Tryz.prog 113 [.agg (AV.cs (exApiValue p0v))] [] (.c (.bool res)) [] := by
 unfold command_input at h
 refine acalls (fn := Tryz.f113) [0, 1, 2, 19] (by kernel_rfl) Tryz.func113 rfl (by kernel_rfl) (by kernel_rfl) <| w_sr <| o_box (v := .agg aIISLL) (n := 0) (cs := aIISLL) (σ' := [aIISLL]) rfl rfl rfl rfl rfl <| sB rfl <| o_ek (fr' := [(1, .box 0 0)]) rfl rfl <| w_seqw <| w_sr <| o_p rfl (p_fa tf25x0 rfl) <| o_p rfl (p_load (v := aI) tv3 rfl rfl rfl) <| o_p rfl (p_neq rfl rfl) <| mB rfl ?_
 refine og rfl rfl rfl (fun hc => (p_fa tf25x3 rfl)) <| og rfl rfl rfl (fun hc => (p_load (v := aL) tv22 (gx rfl hc) rfl rfl)) <| og rfl rfl rfl (fun hc => (p_len ti22 (isl_c (gx rfl hc)))) <| og rfl rfl rfl (fun hc => (p_neq (gx rfl hc) rfl)) <| o_p rfl (p_pickz rfl rfl rfl (fun e => keq e)) <| mB rfl <| og rfl rfl rfl (fun hc => (p_fa tf25x3 rfl)) <| og rfl rfl rfl (fun hc => (p_load (v := aL) tv22 (gx rfl hc) rfl rfl)) ?_
 obtain ⟨x1, hx1, h2⟩ := bind_s h
 refine og rfl rfl rfl (fun hc => (p_ia (cs := [PV.int _ _, PV.int _ _, PV.str _, PV.ls _ _ _, PV.ls _ _ _]) ts22 (isl_c (gx rfl hc)) rfl (gd_some hx1 hc) (rowApiValue_eq _))) <| og rfl rfl rfl (fun hc => (p_fae tf25x0 (gx rfl hc))) <| og rfl rfl rfl (fun hc => (p_loade (p := PV.int _ _) tv3 (gx rfl hc) rfl)) <| og rfl rfl rfl (fun hc => (p_neq (gx rfl hc) rfl)) <| o_p rfl (p_pickz rfl rfl rfl (fun e => keq e)) <| o_ek (fr' := [(1, .box 0 0), (19, aB)]) rfl rfl <| w_ch h2 rfl (fun hb3 h3 => ?_) (fun hb3 h3 => ?_)
 ·
  refine w_sr <| sB rfl <| o_ek (fr' := [(2, aB)]) rfl rfl <| w_ret <| e_seq_r ?_
  obtain rfl := sy h3
  exact e_ret (rs' := [.tmp 2]) rfl <| r_tmp (v := aB) rfl <| r_nil <| fin_gen [] rfl rfl rfl lr st_nil
 ·
  refine w_skip <| e_kw <| w_sr <| o_p rfl (p_fa tf25x3 rfl) <| o_p rfl (p_load (v := aL) tv22 rfl rfl rfl) ?_
  obtain ⟨x5, hx5, h6⟩ := bind_s h3
  refine o_p rfl (p_ia (cs := [PV.int _ _, PV.int _ _, PV.str _, PV.ls _ _ _, PV.ls _ _ _]) ts22 (isl_c rfl) rfl hx5 (rowApiValue_eq _)) <| o_p rfl (p_fae tf25x3 rfl) <| o_p rfl (p_loade (p := PV.ls _ _ _) tv22 rfl rfl) ?_
  obtain ⟨x7, hx7, h8⟩ := bind_s h6
  refine o_v (ov_call (v := aB) rfl (w_slices_ContainsFunc_api_Value_api_Value_command_input_1 hx7) ⟨lr, lr, trivial⟩ rfl rfl rfl) <| o_p rfl (p_not rfl) <| sB rfl <| o_ek (fr' := [(2, aB)]) rfl rfl <| w_ret ?_
  obtain rfl := sy h8
  exact e_ret (rs' := [.tmp 2]) rfl <| r_tmp (v := aB) rfl <| r_nil <| fin_gen [] rfl rfl rfl lr st_nil
noncomputable def command_number (p0c : ApiCommand) : Option Bool :=
 cond (decide (p0c.Kind = (3 : Int))) ((command_in p0c.N (1 : Int) (1099511627776 : Int)).bind fun (x2 : Bool) => some x2) (cond (decide (p0c.Kind = (5 : Int))) ((command_in p0c.N (0 : Int) (2 : Int)).bind fun (x6 : Bool) => some x6) (cond (decide (p0c.Kind = (9 : Int))) ((command_in p0c.N (0 : Int) (1 : Int)).bind fun (x10 : Bool) => some x10) (cond (decide (p0c.Kind = (7 : Int))) ((gd ((decide (p0c.N = (-1 : Int))) == false) (command_in p0c.N (0 : Int) (2147483647 : Int))).bind fun (x14 : Bool) => some (cond (decide (p0c.N = (-1 : Int))) true (cond x14 (decide (p0c.Data.Kind = (0 : Int))) false))) (cond (decide (p0c.Kind = (10 : Int))) (some (decide (p0c.Data.Kind = (5 : Int)))) (cond (decide (p0c.Kind = (14 : Int))) ((command_input p0c.Data).bind fun (x20 : Bool) => some x20) (some true))))))
theorem w_command_number {p0c : ApiCommand} {res : Bool} (h : command_number p0c = some res) : ACalls Tryz.prog 83 [.agg (AV.cs (rowApiCommand p0c))] [] (.c (.bool res)) [] := by
 unfold command_number at h
 refine acalls (fn := Tryz.f83) [0, 1, 2, 4, 5, 10, 15, 20, 36, 42] (by kernel_rfl) Tryz.func83 rfl (by kernel_rfl) (by kernel_rfl) <| w_sr <| o_box (v := .agg aIISSIIISLLSIIIIIIIIL) (n := 0) (cs := aIISSIIISLLSIIIIIIIIL) (σ' := [aIISSIIISLLSIIIIIIIIL]) rfl rfl rfl rfl rfl <| sB rfl <| o_ek (fr' := [(1, .box 0 0)]) rfl rfl <| w_seqw <| w_sr <| o_p rfl (p_fa tf33x0 rfl) <| o_p rfl (p_load (v := aI) tv3 rfl rfl rfl) <| o_ek (fr' := [(1, .box 0 0), (4, aI)]) rfl rfl <| w_block ?_
 refine w_sr <| o_p rfl (p_eql rfl rfl) <| sB rfl <| o_ek (fr' := [(1, .box 0 0), (4, aI), (5, aB)]) rfl rfl <| w_ch h rfl (fun hb1 h1 => ?_) (fun hb1 h1 => ?_)
 ·
  refine w_sr <| o_p rfl (p_fa tf33x4 rfl) <| o_p rfl (p_load (v := aI) tv3 rfl rfl rfl) ?_
  obtain ⟨x2, hx2, h3⟩ := bind_s h1
  refine o_v (ov_call (v := aB) rfl (w_command_in hx2) ⟨lr, lr, lr, trivial⟩ rfl rfl rfl) <| sB rfl <| o_ek (fr' := [(2, aB)]) rfl rfl <| w_ret <| e_blk_r <| e_seq_r ?_
  obtain rfl := sy h3
  exact e_ret (rs' := [.tmp 2]) rfl <| r_tmp (v := aB) rfl <| r_nil <| fin_gen [] rfl rfl rfl lr st_nil
 ·
  refine w_sr <| o_p rfl (p_eql rfl rfl) <| sB rfl <| o_ek (fr' := [(1, .box 0 0), (4, aI), (10, aB)]) rfl rfl <| w_ch h1 rfl (fun hb5 h5 => ?_) (fun hb5 h5 => ?_)
  ·
   refine w_sr <| o_p rfl (p_fa tf33x4 rfl) <| o_p rfl (p_load (v := aI) tv3 rfl rfl rfl) ?_
   obtain ⟨x6, hx6, h7⟩ := bind_s h5
   refine o_v (ov_call (v := aB) rfl (w_command_in hx6) ⟨lr, lr, lr, trivial⟩ rfl rfl rfl) <| sB rfl <| o_ek (fr' := [(2, aB)]) rfl rfl <| w_ret <| e_blk_r <| e_seq_r ?_
   obtain rfl := sy h7
   exact e_ret (rs' := [.tmp 2]) rfl <| r_tmp (v := aB) rfl <| r_nil <| fin_gen [] rfl rfl rfl lr st_nil
  ·
   refine w_sr <| o_p rfl (p_eql rfl rfl) <| sB rfl <| o_ek (fr' := [(1, .box 0 0), (4, aI), (15, aB)]) rfl rfl <| w_ch h5 rfl (fun hb9 h9 => ?_) (fun hb9 h9 => ?_)
   ·
    refine w_sr <| o_p rfl (p_fa tf33x4 rfl) <| o_p rfl (p_load (v := aI) tv3 rfl rfl rfl) ?_
    obtain ⟨x10, hx10, h11⟩ := bind_s h9
    refine o_v (ov_call (v := aB) rfl (w_command_in hx10) ⟨lr, lr, lr, trivial⟩ rfl rfl rfl) <| sB rfl <| o_ek (fr' := [(2, aB)]) rfl rfl <| w_ret <| e_blk_r <| e_seq_r ?_
    obtain rfl := sy h11
    exact e_ret (rs' := [.tmp 2]) rfl <| r_tmp (v := aB) rfl <| r_nil <| fin_gen [] rfl rfl rfl lr st_nil
   ·
    refine w_sr <| o_p rfl (p_eql rfl rfl) <| sB rfl <| o_ek (fr' := [(1, .box 0 0), (4, aI), (20, aB)]) rfl rfl <| w_ch h9 rfl (fun hb13 h13 => ?_) (fun hb13 h13 => ?_)
    ·
     refine w_sr <| o_p rfl (p_fa tf33x4 rfl) <| o_p rfl (p_load (v := aI) tv3 rfl rfl rfl) <| o_p rfl (p_eql rfl rfl) <| mB rfl <| og rfl rfl rfl (fun hc => (p_fa tf33x4 rfl)) <| og rfl rfl rfl (fun hc => (p_load (v := aI) tv3 (gx rfl hc) rfl rfl)) ?_
     obtain ⟨x14, hx14, h15⟩ := bind_s h13
     refine o_g rfl rfl (fun hc => ov_call (v := aB) rfl (w_command_in (gd_some hx14 hc)) ⟨(le_gv (gx rfl hc) lr), lr, lr, trivial⟩ (ok_eq (by repeat (first | exact ok_nil | refine ok_cons rfl ?_ | refine ok_cons (dgv rfl) ?_ | refine ok_cons dar ?_))) rfl rfl) ?_
     refine og rfl rfl rfl (fun hc => (p_move (v := aB) (gx rfl hc))) <| o_gg rfl rfl (fun hc => ov_p rfl (p_fa tf33x5 rfl)) <| o_gg rfl rfl (fun hc => ov_p rfl (p_fa tf25x0 (gx rfl hc))) <| o_gg rfl rfl (fun hc => ov_p rfl (p_load (v := aI) tv3 (gx rfl hc) rfl rfl)) <| o_gg rfl rfl (fun hc => ov_p rfl (p_eql (gx rfl hc) rfl)) <| og rfl rfl rfl (fun hc => (p_picky (gx rfl hc) rfl rfl (fun e => band hc (keq e)))) <| o_p rfl (p_pickz rfl rfl rfl (fun e => keq e)) <| sB rfl <| o_ek (fr' := [(2, aB)]) rfl rfl <| w_ret <| e_blk_r <| e_seq_r ?_
     obtain rfl := sy h15
     exact e_ret (rs' := [.tmp 2]) rfl <| r_tmp (v := aB) rfl <| r_nil <| fin_gen [] rfl rfl rfl lr st_nil
    ·
     refine w_sr <| o_p rfl (p_eql rfl rfl) <| sB rfl <| o_ek (fr' := [(1, .box 0 0), (4, aI), (36, aB)]) rfl rfl <| w_ch h13 rfl (fun hb17 h17 => ?_) (fun hb17 h17 => ?_)
     ·
      refine w_sr <| o_p rfl (p_fa tf33x5 rfl) <| o_p rfl (p_fa tf25x0 rfl) <| o_p rfl (p_load (v := aI) tv3 rfl rfl rfl) <| o_p rfl (p_eql rfl rfl) <| sB rfl <| o_ek (fr' := [(2, aB)]) rfl rfl <| w_ret <| e_blk_r <| e_seq_r ?_
      obtain rfl := sy h17
      exact e_ret (rs' := [.tmp 2]) rfl <| r_tmp (v := aB) rfl <| r_nil <| fin_gen [] rfl rfl rfl lr st_nil
     ·
      refine w_sr <| o_p rfl (p_eql rfl rfl) <| sB rfl <| o_ek (fr' := [(1, .box 0 0), (42, aB)]) rfl rfl <| w_ch h17 rfl (fun hb19 h19 => ?_) (fun hb19 h19 => ?_)
      ·
       refine w_sr <| o_p rfl (p_fa tf33x5 rfl) <| o_p rfl (p_loads (us := aIISLL) tv25 rfl rfl rfl rfl) ?_
       obtain ⟨x20, hx20, h21⟩ := bind_s h19
       refine o_v (ov_call (v := aB) rfl (w_command_input hx20) ⟨(le_aggc rfl ⟨rfl, rfl, rfl, rfl, rfl, trivial⟩), trivial⟩ rfl rfl rfl) <| sB rfl <| o_ek (fr' := [(2, aB)]) rfl rfl <| w_ret <| e_blk_r <| e_seq_r ?_
       obtain rfl := sy h21
       exact e_ret (rs' := [.tmp 2]) rfl <| r_tmp (v := aB) rfl <| r_nil <| fin_gen [] rfl rfl rfl lr st_nil
      ·
       refine w_skip <| e_blk_n <| e_kw <| w_sr <| sB rfl <| o_ek (fr' := [(2, aB)]) rfl rfl <| w_ret ?_
       obtain rfl := sy h19
       exact e_ret (rs' := [.tmp 2]) rfl <| r_tmp (v := aB) rfl <| r_nil <| fin_gen [] rfl rfl rfl lr st_nil
noncomputable def command_Right (p0c : ApiCommand) : Option Bool :=
 (command_fields p0c.Kind).bind fun (x1 : CommandUses) => (command_in p0c.Kind (1 : Int) (14 : Int)).bind fun (x3 : Bool) => (gd ((!x3) == false) (command_bare p0c x1)).bind fun (x5 : Bool) => (gd ((cond (!x3) true (!x5)) == false) (value_Right p0c.Data)).bind fun (x7 : Bool) => (gd ((cond (cond (!x3) true (!x5)) true (!x7)) == false) (command_RightPolicy p0c.Opts)).bind fun (x9 : Bool) => cond (cond (cond (cond (!x3) true (!x5)) true (!x7)) true (!x9)) (some false) ((gd (x1.seq_ == true) (command_in p0c.Seq (1 : Int) (2000 : Int))).bind fun (x13 : Bool) => (gd (((cond x1.seq_ (!x13) false) == false) && (x1.key_ == true)) (command_ident p0c.Key)).bind fun (x15 : Bool) => cond (cond (cond x1.seq_ (!x13) false) true (cond x1.key_ (!x15) false)) (some false) ((gd (((x1.name_ == true) && ((cond (decide (p0c.Kind = (12 : Int))) (decide ((4096 : Int) < ((p0c.Name).length : Int))) false) == false)) && ((!decide (p0c.Kind = (12 : Int))) == true)) (name_Right p0c.Name)).bind fun (x19 : Bool) => cond (cond x1.name_ (cond (cond (decide (p0c.Kind = (12 : Int))) (decide ((4096 : Int) < ((p0c.Name).length : Int))) false) true (cond (!decide (p0c.Kind = (12 : Int))) (!x19) false)) false) (some false) ((command_number p0c).bind fun (x23 : Bool) => some x23)))
theorem w_command_Right {p0c : ApiCommand} {res : Bool} (h : command_Right p0c = some res) : ACalls Tryz.prog 46 [.agg (AV.cs (rowApiCommand p0c))] [] (.c (.bool res)) [] := by
 unfold command_Right at h
 refine acalls (fn := Tryz.f46) [0, 1, 2, 3, 28, 46, 70] (by kernel_rfl) Tryz.func46 rfl (by kernel_rfl) (by kernel_rfl) <| w_sr <| o_box (v := .agg aIISSIIISLLSIIIIIIIIL) (n := 0) (cs := aIISSIIISLLSIIIIIIIIL) (σ' := [aIISSIIISLLSIIIIIIIIL]) rfl rfl rfl rfl rfl <| sB rfl <| o_ek (fr' := [(1, .box 0 0)]) rfl rfl <| w_sr <| o_p rfl (p_fa tf33x0 rfl) <| o_p rfl (p_load (v := aI) tv3 rfl rfl rfl) ?_
 obtain ⟨x1, hx1, h2⟩ := bind_s h
 refine o_v (ov_call (v := .agg aBBBBBB) rfl (w_command_fields hx1) ⟨lr, trivial⟩ rfl rfl rfl) <| o_alloc (n := 1) (cs := aBBBBBB) (σ' := [aIISSIIISLLSIIIIIIIIL, aBBBBBB]) tz93 rfl rfl rfl <| o_store (v := .agg aBBBBBB) (us := aBBBBBB) (cs := aBBBBBB) (σ' := [aIISSIIISLLSIIIIIIIIL, aBBBBBB]) rfl tv93 rfl rfl rfl rfl rfl rfl rfl rfl <| o_ek (fr' := [(1, .box 0 0), (3, .box 1 0)]) rfl rfl <| w_seqw <| w_sr <| o_p rfl (p_fa tf33x0 rfl) <| o_p rfl (p_load (v := aI) tv3 rfl rfl rfl) ?_
 obtain ⟨x3, hx3, h4⟩ := bind_s h2
 refine o_v (ov_call (v := aB) rfl (w_command_in hx3) ⟨lr, lr, lr, trivial⟩ rfl rfl rfl) <| o_p rfl (p_not rfl) <| mB rfl <| og rfl rfl rfl (fun hc => (p_loads (us := aIISSIIISLLSIIIIIIIIL) tv33 rfl rfl rfl rfl)) <| og rfl rfl rfl (fun hc => (p_loads (us := aBBBBBB) tv93 rfl rfl rfl rfl)) ?_
 obtain ⟨x5, hx5, h6⟩ := bind_s h4
 refine o_g rfl rfl (fun hc => ov_call (v := aB) rfl (w_command_bare (gd_some hx5 hc)) ⟨(le_gv (gx rfl hc) (le_aggc rfl ⟨rfl, rfl, rfl, rfl, rfl, rfl, rfl, rfl, rfl, rfl, rfl, rfl, rfl, rfl, rfl, rfl, rfl, rfl, rfl, rfl, trivial⟩)), (le_gv (gx rfl hc) (le_aggc rfl ⟨rfl, rfl, rfl, rfl, rfl, rfl, trivial⟩)), trivial⟩ (ok_eq (by repeat (first | exact ok_nil | refine ok_cons rfl ?_ | refine ok_cons (dgv rfl) ?_ | refine ok_cons dar ?_))) rfl rfl) ?_
 refine og rfl rfl rfl (fun hc => (p_not (gx rfl hc))) <| o_p rfl (p_pickz rfl rfl rfl (fun e => keq e)) <| mB rfl <| og rfl rfl rfl (fun hc => (p_fa tf33x5 rfl)) <| og rfl rfl rfl (fun hc => (p_loads (us := aIISLL) tv25 (gx rfl hc) rfl rfl rfl)) ?_
 obtain ⟨x7, hx7, h8⟩ := bind_s h6
 refine o_g rfl rfl (fun hc => ov_call (v := aB) rfl (w_value_Right (gd_some hx7 hc)) ⟨(le_gv (gx rfl hc) (le_aggc rfl ⟨rfl, rfl, rfl, rfl, rfl, trivial⟩)), trivial⟩ (ok_eq (by repeat (first | exact ok_nil | refine ok_cons rfl ?_ | refine ok_cons (dgv rfl) ?_ | refine ok_cons dar ?_))) rfl rfl) ?_
 refine og rfl rfl rfl (fun hc => (p_not (gx rfl hc))) <| o_p rfl (p_pickz rfl rfl rfl (fun e => keq e)) <| mB rfl <| og rfl rfl rfl (fun hc => (p_fa tf33x6 rfl)) <| og rfl rfl rfl (fun hc => (p_loads (us := aSIIIIIIIIL) tv27 (gx rfl hc) rfl rfl rfl)) ?_
 obtain ⟨x9, hx9, h10⟩ := bind_s h8
 refine o_g rfl rfl (fun hc => ov_call (v := aB) rfl (w_command_RightPolicy (gd_some hx9 hc)) ⟨(le_gv (gx rfl hc) (le_aggc rfl ⟨rfl, rfl, rfl, rfl, rfl, rfl, rfl, rfl, rfl, rfl, trivial⟩)), trivial⟩ (ok_eq (by repeat (first | exact ok_nil | refine ok_cons rfl ?_ | refine ok_cons (dgv rfl) ?_ | refine ok_cons dar ?_))) rfl rfl) ?_
 refine og rfl rfl rfl (fun hc => (p_not (gx rfl hc))) <| o_p rfl (p_pickz rfl rfl rfl (fun e => keq e)) <| o_ek (fr' := [(1, .box 0 0), (3, .box 1 0), (28, aB)]) rfl rfl <| w_ch h10 rfl (fun hb11 h11 => ?_) (fun hb11 h11 => ?_)
 ·
  refine w_sr <| sB rfl <| o_ek (fr' := [(2, aB)]) rfl rfl <| w_ret <| e_seq_r ?_
  obtain rfl := sy h11
  exact e_ret (rs' := [.tmp 2]) rfl <| r_tmp (v := aB) rfl <| r_nil <| fin_gen [] rfl rfl rfl lr st_nil
 ·
  refine w_skip <| e_kw <| w_seqw <| w_sr <| o_p rfl (p_fa tf93x0 rfl) <| o_p rfl (p_load (v := aB) tv4 rfl rfl rfl) <| mB rfl <| og rfl rfl rfl (fun hc => (p_fa tf33x1 rfl)) <| og rfl rfl rfl (fun hc => (p_load (v := aI) tv3 (gx rfl hc) rfl rfl)) ?_
  obtain ⟨x13, hx13, h14⟩ := bind_s h11
  refine o_g rfl rfl (fun hc => ov_call (v := aB) rfl (w_command_in (gd_some hx13 hc)) ⟨(le_gv (gx rfl hc) lr), lr, lr, trivial⟩ (ok_eq (by repeat (first | exact ok_nil | refine ok_cons rfl ?_ | refine ok_cons (dgv rfl) ?_ | refine ok_cons dar ?_))) rfl rfl) ?_
  refine og rfl rfl rfl (fun hc => (p_not (gx rfl hc))) <| o_p rfl (p_picky rfl rfl rfl (fun e => keq e)) <| mB rfl <| og rfl rfl rfl (fun hc => (p_fa tf93x2 rfl)) <| og rfl rfl rfl (fun hc => (p_load (v := aB) tv4 (gx rfl hc) rfl rfl)) <| og rfl rfl rfl (fun hc => (p_move (v := aB) (gx rfl hc))) <| o_gg rfl rfl (fun hc => ov_p rfl (p_fa tf33x3 rfl)) <| o_gg rfl rfl (fun hc => ov_p rfl (p_load (v := aS) tv9 (gx rfl hc) rfl rfl)) ?_
  obtain ⟨x15, hx15, h16⟩ := bind_s h14
  refine o_gg rfl rfl (fun hc => ov_call (v := aB) rfl (w_command_ident (gd_some hx15 hc)) ⟨(le_gv (gx rfl hc) lr), trivial⟩ (ok_eq (by repeat (first | exact ok_nil | refine ok_cons rfl ?_ | refine ok_cons (dgv rfl) ?_ | refine ok_cons dar ?_))) rfl rfl) ?_
  refine o_gg rfl rfl (fun hc => ov_p rfl (p_not (gx rfl hc))) <| og rfl rfl rfl (fun hc => (p_picky (gx rfl hc) rfl rfl (fun e => band hc (keq e)))) <| o_p rfl (p_pickz rfl rfl rfl (fun e => keq e)) <| o_ek (fr' := [(1, .box 0 0), (3, .box 1 0), (46, aB)]) rfl rfl <| w_ch h16 rfl (fun hb17 h17 => ?_) (fun hb17 h17 => ?_)
  ·
   refine w_sr <| sB rfl <| o_ek (fr' := [(2, aB)]) rfl rfl <| w_ret <| e_seq_r ?_
   obtain rfl := sy h17
   exact e_ret (rs' := [.tmp 2]) rfl <| r_tmp (v := aB) rfl <| r_nil <| fin_gen [] rfl rfl rfl lr st_nil
  ·
   refine w_skip <| e_kw <| w_seqw <| w_sr <| o_p rfl (p_fa tf93x1 rfl) <| o_p rfl (p_load (v := aB) tv4 rfl rfl rfl) <| mB rfl <| og rfl rfl rfl (fun hc => (p_fa tf33x0 rfl)) <| og rfl rfl rfl (fun hc => (p_load (v := aI) tv3 (gx rfl hc) rfl rfl)) <| og rfl rfl rfl (fun hc => (p_eql (gx rfl hc) rfl)) <| og rfl rfl rfl (fun hc => (p_move (v := aB) (gx rfl hc))) <| o_gg rfl rfl (fun hc => ov_p rfl (p_fa tf33x2 rfl)) ?_
   refine o_gg rfl rfl (fun hc => ov_p rfl (p_load (v := aS) tv9 (gx rfl hc) rfl rfl)) <| o_gg rfl rfl (fun hc => ov_p rfl (p_lens ti9 (gx rfl hc))) <| o_gg rfl rfl (fun hc => ov_p rfl (p_gtr (gx rfl hc) rfl)) <| og rfl rfl rfl (fun hc => (p_picky (gx rfl hc) rfl rfl (fun e => band hc (keq e)))) <| og rfl rfl rfl (fun hc => (p_move (v := aB) (gx rfl hc))) <| o_gg rfl rfl (fun hc => ov_p rfl (p_fa tf33x0 rfl)) <| o_gg rfl rfl (fun hc => ov_p rfl (p_load (v := aI) tv3 (gx rfl hc) rfl rfl)) <| o_gg rfl rfl (fun hc => ov_p rfl (p_neq (gx rfl hc) rfl)) <| o_gg rfl rfl (fun hc => ov_p rfl (p_move (v := aB) (gx rfl hc))) <| o_gg rfl rfl (fun hc => ov_p rfl (p_fa tf33x2 rfl)) <| o_gg rfl rfl (fun hc => ov_p rfl (p_load (v := aS) tv9 (gx rfl hc) rfl rfl)) ?_
   obtain ⟨x19, hx19, h20⟩ := bind_s h17
   refine o_gg rfl rfl (fun hc => ov_call (v := aB) rfl (w_name_Right (gd_some hx19 hc)) ⟨(le_gv (gx rfl hc) lr), trivial⟩ (ok_eq (by repeat (first | exact ok_nil | refine ok_cons rfl ?_ | refine ok_cons (dgv rfl) ?_ | refine ok_cons dar ?_))) rfl rfl) ?_
   refine o_gg rfl rfl (fun hc => ov_p rfl (p_not (gx rfl hc))) <| o_gg rfl rfl (fun hc => ov_p rfl (p_picky (gx rfl hc) rfl rfl (fun e => band hc (keq e)))) <| og rfl rfl rfl (fun hc => (p_pickz (gx rfl hc) rfl rfl (fun e => band hc (keq e)))) <| o_p rfl (p_picky rfl rfl rfl (fun e => keq e)) <| o_ek (fr' := [(1, .box 0 0), (70, aB)]) rfl rfl <| w_ch h20 rfl (fun hb21 h21 => ?_) (fun hb21 h21 => ?_)
   ·
    refine w_sr <| sB rfl <| o_ek (fr' := [(2, aB)]) rfl rfl <| w_ret <| e_seq_r ?_
    obtain rfl := sy h21
    exact e_ret (rs' := [.tmp 2]) rfl <| r_tmp (v := aB) rfl <| r_nil <| fin_gen [] rfl rfl rfl lr st_nil
   ·
    refine w_skip <| e_kw <| w_sr <| o_p rfl (p_loads (us := aIISSIIISLLSIIIIIIIIL) tv33 rfl rfl rfl rfl) ?_
    obtain ⟨x23, hx23, h24⟩ := bind_s h21
    refine o_v (ov_call (v := aB) rfl (w_command_number hx23) ⟨(le_aggc rfl ⟨rfl, rfl, rfl, rfl, rfl, rfl, rfl, rfl, rfl, rfl, rfl, rfl, rfl, rfl, rfl, rfl, rfl, rfl, rfl, rfl, trivial⟩), trivial⟩ rfl rfl rfl) <| sB rfl <| o_ek (fr' := [(2, aB)]) rfl rfl <| w_ret ?_
    obtain rfl := sy h24
    exact e_ret (rs' := [.tmp 2]) rfl <| r_tmp (v := aB) rfl <| r_nil <| fin_gen [] rfl rfl rfl lr st_nil
noncomputable def event_commandOf (p0kind : Int) : Option Int :=
 cond (decide (p0kind = (7 : Int))) (some (1 : Int)) (cond (decide (p0kind = (12 : Int))) (some (2 : Int)) (cond (decide (p0kind = (14 : Int))) (some (3 : Int)) (cond (decide (p0kind = (16 : Int))) (some (4 : Int)) (cond (decide (p0kind = (19 : Int))) (some (5 : Int)) (cond (decide (p0kind = (23 : Int))) (some (6 : Int)) (cond (decide (p0kind = (18 : Int))) (some (7 : Int)) (cond (decide (p0kind = (27 : Int))) (some (8 : Int)) (cond (decide (p0kind = (28 : Int))) (some (9 : Int)) (cond (decide (p0kind = (29 : Int))) (some (10 : Int)) (cond (decide (p0kind = (30 : Int))) (some (11 : Int)) (cond (decide (p0kind = (31 : Int))) (some (12 : Int)) (cond (decide (p0kind = (32 : Int))) (some (13 : Int)) (cond (decide (p0kind = (35 : Int))) (some (14 : Int)) (some (0 : Int)))))))))))))))
theorem w_event_commandOf {p0kind : Int} {res : Int} (h : event_commandOf p0kind = some res) : ACalls Tryz.prog 29 [.c (.int .i64 p0kind)] [] (.c (.int .i64 res)) [] := by
 unfold event_commandOf at h
 refine acalls (fn := Tryz.f29) [0, 2, 3, 4, 6, 8, 10, 12, 14, 16, 18, 20, 22, 24, 26, 28, 30] (by kernel_rfl) Tryz.func29 rfl (by kernel_rfl) (by kernel_rfl) <| w_sr <| sI rfl <| o_ek (fr' := [(0, aI)]) rfl rfl <| w_seqw <| w_sr <| mI rfl <| o_ek (fr' := [(3, aI)]) rfl rfl <| w_block <| w_seqw <| w_region ?_
 refine o_p rfl (p_eql rfl rfl) <| sB rfl <| o_ek (fr' := [(3, aI), (4, aB)]) rfl rfl <| w_ch h rfl (fun hb1 h1 => ?_) (fun hb1 h1 => ?_)
 ·
  refine w_sr <| sI rfl <| o_ek (fr' := [(2, aI)]) rfl rfl <| w_ret <| e_blk_r <| e_seq_r ?_
  obtain rfl := sy h1
  exact e_ret (rs' := [.tmp 2]) rfl <| r_tmp (v := aI) rfl <| r_nil <| fin_gen [] rfl rfl rfl lr st_nil
 ·
  refine w_sr <| o_p rfl (p_eql rfl rfl) <| sB rfl <| o_ek (fr' := [(3, aI), (6, aB)]) rfl rfl <| w_ch h1 rfl (fun hb3 h3 => ?_) (fun hb3 h3 => ?_)
  ·
   refine w_sr <| sI rfl <| o_ek (fr' := [(2, aI)]) rfl rfl <| w_ret <| e_blk_r <| e_seq_r ?_
   obtain rfl := sy h3
   exact e_ret (rs' := [.tmp 2]) rfl <| r_tmp (v := aI) rfl <| r_nil <| fin_gen [] rfl rfl rfl lr st_nil
  ·
   refine w_sr <| o_p rfl (p_eql rfl rfl) <| sB rfl <| o_ek (fr' := [(3, aI), (8, aB)]) rfl rfl <| w_ch h3 rfl (fun hb5 h5 => ?_) (fun hb5 h5 => ?_)
   ·
    refine w_sr <| sI rfl <| o_ek (fr' := [(2, aI)]) rfl rfl <| w_ret <| e_blk_r <| e_seq_r ?_
    obtain rfl := sy h5
    exact e_ret (rs' := [.tmp 2]) rfl <| r_tmp (v := aI) rfl <| r_nil <| fin_gen [] rfl rfl rfl lr st_nil
   ·
    refine w_sr <| o_p rfl (p_eql rfl rfl) <| sB rfl <| o_ek (fr' := [(3, aI), (10, aB)]) rfl rfl <| w_ch h5 rfl (fun hb7 h7 => ?_) (fun hb7 h7 => ?_)
    ·
     refine w_sr <| sI rfl <| o_ek (fr' := [(2, aI)]) rfl rfl <| w_ret <| e_blk_r <| e_seq_r ?_
     obtain rfl := sy h7
     exact e_ret (rs' := [.tmp 2]) rfl <| r_tmp (v := aI) rfl <| r_nil <| fin_gen [] rfl rfl rfl lr st_nil
    ·
     refine w_sr <| o_p rfl (p_eql rfl rfl) <| sB rfl <| o_ek (fr' := [(3, aI), (12, aB)]) rfl rfl <| w_ch h7 rfl (fun hb9 h9 => ?_) (fun hb9 h9 => ?_)
     ·
      refine w_sr <| sI rfl <| o_ek (fr' := [(2, aI)]) rfl rfl <| w_ret <| e_blk_r <| e_seq_r ?_
      obtain rfl := sy h9
      exact e_ret (rs' := [.tmp 2]) rfl <| r_tmp (v := aI) rfl <| r_nil <| fin_gen [] rfl rfl rfl lr st_nil
     ·
      refine w_sr <| o_p rfl (p_eql rfl rfl) <| sB rfl <| o_ek (fr' := [(3, aI), (14, aB)]) rfl rfl <| w_ch h9 rfl (fun hb11 h11 => ?_) (fun hb11 h11 => ?_)
      ·
       refine w_sr <| sI rfl <| o_ek (fr' := [(2, aI)]) rfl rfl <| w_ret <| e_blk_r <| e_seq_r ?_
       obtain rfl := sy h11
       exact e_ret (rs' := [.tmp 2]) rfl <| r_tmp (v := aI) rfl <| r_nil <| fin_gen [] rfl rfl rfl lr st_nil
      ·
       refine w_sr <| o_p rfl (p_eql rfl rfl) <| sB rfl <| o_ek (fr' := [(3, aI), (16, aB)]) rfl rfl <| w_ch h11 rfl (fun hb13 h13 => ?_) (fun hb13 h13 => ?_)
       ·
        refine w_sr <| sI rfl <| o_ek (fr' := [(2, aI)]) rfl rfl <| w_ret <| e_blk_r <| e_seq_r ?_
        obtain rfl := sy h13
        exact e_ret (rs' := [.tmp 2]) rfl <| r_tmp (v := aI) rfl <| r_nil <| fin_gen [] rfl rfl rfl lr st_nil
       ·
        refine w_sr <| o_p rfl (p_eql rfl rfl) <| sB rfl <| o_ek (fr' := [(3, aI), (18, aB)]) rfl rfl <| w_ch h13 rfl (fun hb15 h15 => ?_) (fun hb15 h15 => ?_)
        ·
         refine w_sr <| sI rfl <| o_ek (fr' := [(2, aI)]) rfl rfl <| w_ret <| e_blk_r <| e_seq_r ?_
         obtain rfl := sy h15
         exact e_ret (rs' := [.tmp 2]) rfl <| r_tmp (v := aI) rfl <| r_nil <| fin_gen [] rfl rfl rfl lr st_nil
        ·
         refine w_sr <| o_p rfl (p_eql rfl rfl) <| sB rfl <| o_ek (fr' := [(3, aI), (20, aB)]) rfl rfl <| w_ch h15 rfl (fun hb17 h17 => ?_) (fun hb17 h17 => ?_)
         ·
          refine w_sr <| sI rfl <| o_ek (fr' := [(2, aI)]) rfl rfl <| w_ret <| e_blk_r <| e_seq_r ?_
          obtain rfl := sy h17
          exact e_ret (rs' := [.tmp 2]) rfl <| r_tmp (v := aI) rfl <| r_nil <| fin_gen [] rfl rfl rfl lr st_nil
         ·
          refine w_sr <| o_p rfl (p_eql rfl rfl) <| sB rfl <| o_ek (fr' := [(3, aI), (22, aB)]) rfl rfl <| w_ch h17 rfl (fun hb19 h19 => ?_) (fun hb19 h19 => ?_)
          ·
           refine w_sr <| sI rfl <| o_ek (fr' := [(2, aI)]) rfl rfl <| w_ret <| e_blk_r <| e_seq_r ?_
           obtain rfl := sy h19
           exact e_ret (rs' := [.tmp 2]) rfl <| r_tmp (v := aI) rfl <| r_nil <| fin_gen [] rfl rfl rfl lr st_nil
          ·
           refine w_sr <| o_p rfl (p_eql rfl rfl) <| sB rfl <| o_ek (fr' := [(3, aI), (24, aB)]) rfl rfl <| w_ch h19 rfl (fun hb21 h21 => ?_) (fun hb21 h21 => ?_)
           ·
            refine w_sr <| sI rfl <| o_ek (fr' := [(2, aI)]) rfl rfl <| w_ret <| e_blk_r <| e_seq_r ?_
            obtain rfl := sy h21
            exact e_ret (rs' := [.tmp 2]) rfl <| r_tmp (v := aI) rfl <| r_nil <| fin_gen [] rfl rfl rfl lr st_nil
           ·
            refine w_sr <| o_p rfl (p_eql rfl rfl) <| sB rfl <| o_ek (fr' := [(3, aI), (26, aB)]) rfl rfl <| w_ch h21 rfl (fun hb23 h23 => ?_) (fun hb23 h23 => ?_)
            ·
             refine w_sr <| sI rfl <| o_ek (fr' := [(2, aI)]) rfl rfl <| w_ret <| e_blk_r <| e_seq_r ?_
             obtain rfl := sy h23
             exact e_ret (rs' := [.tmp 2]) rfl <| r_tmp (v := aI) rfl <| r_nil <| fin_gen [] rfl rfl rfl lr st_nil
            ·
             refine w_sr <| o_p rfl (p_eql rfl rfl) <| sB rfl <| o_ek (fr' := [(3, aI), (28, aB)]) rfl rfl <| w_ch h23 rfl (fun hb25 h25 => ?_) (fun hb25 h25 => ?_)
             ·
              refine w_sr <| sI rfl <| o_ek (fr' := [(2, aI)]) rfl rfl <| w_ret <| e_blk_r <| e_seq_r ?_
              obtain rfl := sy h25
              exact e_ret (rs' := [.tmp 2]) rfl <| r_tmp (v := aI) rfl <| r_nil <| fin_gen [] rfl rfl rfl lr st_nil
             ·
              refine w_sr <| o_p rfl (p_eql rfl rfl) <| sB rfl <| o_ek (fr' := [(30, aB)]) rfl rfl <| w_ch h25 rfl (fun hb27 h27 => ?_) (fun hb27 h27 => ?_)
              ·
               refine w_sr <| sI rfl <| o_ek (fr' := [(2, aI)]) rfl rfl <| w_ret <| e_blk_r <| e_seq_r ?_
               obtain rfl := sy h27
               exact e_ret (rs' := [.tmp 2]) rfl <| r_tmp (v := aI) rfl <| r_nil <| fin_gen [] rfl rfl rfl lr st_nil
              ·
               refine w_skip <| e_blk_n <| e_kw <| w_sr <| sI rfl <| o_ek (fr' := [(2, aI)]) rfl rfl <| w_ret ?_
               obtain rfl := sy h27
               exact e_ret (rs' := [.tmp 2]) rfl <| r_tmp (v := aI) rfl <| r_nil <| fin_gen [] rfl rfl rfl lr st_nil
noncomputable def event_eventOf_l1 (p0kind : Int) (s4 : Int) : Option (Step Int (Fl Int Unit)) :=
 cond (decide (s4 ≤ (35 : Int))) ((event_commandOf s4).bind fun (x6 : Int) => cond (cond (!decide (x6 = (0 : Int))) (decide (x6 = p0kind)) false) (some (Step.out (Fl.done s4))) (some (Step.next (IntKind.wrap .i64 (s4 + (1 : Int)))))) (some (Step.out (Fl.go ())))
noncomputable def event_eventOf (p0kind : Int) : Option Int :=
 ((loopO (event_eventOf_l1 p0kind) ((1 : Int))) : Option (Fl Int Unit)).bind fun (x1 : (Fl Int Unit)) => Fl.next x1 (fun (j3 : Unit) => (some (0 : Int)))
theorem w_event_eventOf {p0kind : Int} {res : Int} (h : event_eventOf p0kind = some res) : ACalls Tryz.prog 47 [.c (.int .i64 p0kind)] [] (.c (.int .i64 res)) [] := by
 unfold event_eventOf at h
 refine acalls (fn := Tryz.f47) [0, 2, 3, 4, 6, 17] (by kernel_rfl) Tryz.func47 rfl (by kernel_rfl) (by kernel_rfl) <| w_sr <| sI rfl <| o_ek (fr' := [(0, aI)]) rfl rfl <| w_seqw <| w_sr <| sI rfl <| o_ek (fr' := [(0, aI), (3, aI)]) rfl rfl ?_
 obtain ⟨x1, hx1, h2⟩ := bind_s h
 refine w_jtail cl_kw (fun j3 => x1 = Fl.go j3) (fun (j3 : Unit) => ([] : Fr)) (fun (j3 : Unit) => ([] : St)) ?_ ?_
 ·
  refine w_block <| w_loopo _ (fun (s4 : Int) => ([(0, .c (.int .i64 p0kind)), (3, .c (.int .i64 s4))] : Fr)) (fun (s4 : Int) => ([] : St)) hx1 (w_weak [] 0 rfl rfl rfl rfl ⟨lr, lr, trivial⟩ st_nil) ?_
  intro s4 st4 hs4 ho4
  unfold event_eventOf_l1 at hs4
  refine w_seqw <| w_sr <| mI rfl <| o_p rfl (p_leq rfl rfl) <| o_ek (fr' := [(0, aI), (3, aI), (6, aB)]) rfl rfl <| w_ch hs4 rfl (fun hb5 h5 => ?_) (fun hb5 h5 => ?_)
  ·
   refine w_skip <| e_kw <| w_seqw <| w_block <| w_sr <| mI rfl ?_
   obtain ⟨x6, hx6, h7⟩ := bind_s h5
   refine o_v (ov_call (v := aI) rfl (w_event_commandOf hx6) ⟨lr, trivial⟩ rfl rfl rfl) <| sI rfl <| o_ek (fr' := [(0, aI), (3, aI), (4, aI)]) rfl rfl <| w_sr <| mI rfl <| o_p rfl (p_neq rfl rfl) <| mB rfl <| og rfl rfl rfl (fun hc => (p_move (v := aI) rfl)) <| og rfl rfl rfl (fun hc => (p_move (v := aI) rfl)) <| og rfl rfl rfl (fun hc => (p_eql (gx rfl hc) (gx rfl hc))) <| o_p rfl (p_picky rfl rfl rfl (fun e => keq e)) <| o_ek (fr' := [(0, aI), (3, aI), (17, aB)]) rfl rfl ?_
   refine w_ch h7 rfl (fun hb8 h8 => ?_) (fun hb8 h8 => ?_)
   ·
    refine w_sr <| mI rfl <| sI rfl <| o_ek (fr' := [(2, aI)]) rfl rfl <| w_ret <| e_blk_r <| e_seq_r <| e_seq_r <| e_blk_r <| e_seq_r <| e_seq_r ?_
    have h9 := un_out h8 ho4
    have h10 := un_done h9 h2
    obtain rfl := sy h10
    exact e_ret (rs' := [.tmp 2]) rfl <| r_tmp (v := aI) rfl <| r_nil <| fin_gen [] rfl rfl rfl lr st_nil
   ·
    exact w_skip <| e_blk_n <| e_kw <| w_region <| mI rfl <| o_p rfl (p_add rfl rfl) <| sI rfl <| o_end (fr' := [(0, aI), (3, aI), (17, aB)]) rfl <| e_l _ (sy h8) (w_weak [] 0 rfl rfl rfl rfl ⟨lr, lr, trivial⟩ st_nil)
  ·
   refine w_exit <| e_seq_x <| e_seq_x <| e_blk_h ?_
   have h12 := un_out h5 ho4
   exact e_j _ (sy h12) (w_weak [] 0 rfl rfl rfl rfl trivial st_nil)
 ·
  intro j3 hj13
  have h13 := un_go hj13 h2
  refine e_kw <| w_sr <| sI rfl <| o_ek (fr' := [(2, aI)]) rfl rfl <| w_ret ?_
  obtain rfl := sy h13
  exact e_ret (rs' := [.tmp 2]) rfl <| r_tmp (v := aI) rfl <| r_nil <| fin_gen [] rfl rfl rfl lr st_nil
noncomputable def slices_Clone_string_string (p0s : (List (List UInt8))) : Option (List (List UInt8)) :=
 app 16 ([] : List (List UInt8)) p0s
theorem w_slices_Clone_string_string {p0s : (List (List UInt8))} {res : (List (List UInt8))} (h : slices_Clone_string_string p0s = some res) : ACalls Tryz.prog 85 [.c (PV.ls 1 rowS p0s)] [] (AV.os 0 1 rowS res) [] := by
 unfold slices_Clone_string_string at h
 refine acalls (fn := Tryz.f85) [0, 2, 4] (by kernel_rfl) Tryz.func85 rfl (by kernel_rfl) (by kernel_rfl) ?_
 obtain ⟨hm, he⟩ := app_some h
 rw [List.nil_append] at he
 subst he
 refine w_sr <| o_p rfl (p_assign (v := .nil) rfl) <| o_end (fr' := [(0, .c (PV.ls _ _ _)), (2, .nil)]) rfl <| e_kw <| w_seqw <| w_sr <| o_p rfl (p_move (v := .c (PV.ls _ _ _)) rfl) <| o_nilc (row := rowS) ti23 (isl_c rfl) (fun b hb => ?_)
 refine o_end (fr' := [(0, .c (PV.ls _ _ _)), (2, .nil), (4, .c (.bool _))]) rfl <| e_kw <| w_cond b rfl (fun e => ?_) (fun e => ?_)
 ·
  rw [hb e]
  exact w_sr <| o_p rfl (p_assign (v := .nil) rfl) <| o_end (fr' := [(0, .c (PV.ls _ _ _)), (2, .nil), (4, .c (.bool _))]) rfl <| e_kw <| w_ret <| e_seq_r <| e_ret (rs' := [.tmp 2]) rfl <| r_tmp (v := .nil) rfl <| r_nil <| fin_gen [] rfl rfl rfl (le_nos rfl) st_nil
 ·
  refine w_skip <| e_kw <| w_sr <| o_rows (row := rowS) (xs := ([] : List (List UInt8))) (rows := []) (σ' := []) [] ts23 rfl rfl rfl arow_nil rfl rfl <| o_p rfl (p_move (v := .c (PV.ls _ _ _)) rfl) <| o_app (row := rowS) ts23 rfl ti23 rfl (isl_c rfl) (fun _ => rfl) h <| o_p rfl (p_assign (v := AV.os _ _ _ _) rfl) <| o_end (fr' := [(0, .c (PV.ls _ _ _)), (2, AV.os _ _ _ _), (4, .c (.bool _))]) rfl <| e_kw <| w_ret <| e_ret (rs' := [.tmp 2]) rfl <| r_tmp (v := AV.os _ _ _ _) rfl ?_
  exact r_nil <| fin_gen [112] rfl rfl rfl lr st_nil
noncomputable def value_copies_l1 (rec_value_Copy : ApiValue → Option ApiValue) (p0l : (List ApiValue)) (s4 : ((List ApiValue) × Int)) : Option (Step ((List ApiValue) × Int) (List ApiValue)) :=
 cond (decide (s4.2 < ((p0l).length : Int))) ((idx p0l s4.2).bind fun (x6 : ApiValue) => (rec_value_Copy x6).bind fun (x8 : ApiValue) => (app 80 s4.1 ([x8] : List ApiValue)).bind fun (x10 : (List ApiValue)) => some (Step.next (x10, (IntKind.wrap .i64 (s4.2 + (1 : Int)))))) (some (Step.out s4.1))
mutual
noncomputable def value_CopyF : Nat → ApiValue → Option ApiValue
 | 0, _ => none
 | n + 1, p0v =>
  ((value_copiesF n) p0v.Items).bind fun (x1 : (List ApiValue)) => (slices_Clone_string_string p0v.Keys).bind fun (x3 : (List (List UInt8))) => some (ApiValue.mk p0v.Kind p0v.Int p0v.Text x1 x3)
noncomputable def value_copiesF : Nat → (List ApiValue) → Option (List ApiValue)
 | 0, _ => none
 | n + 1, p0l =>
  ((loopO (value_copies_l1 (value_CopyF n) p0l) ((([] : (List ApiValue)), (0 : Int)))) : Option (List ApiValue)).bind fun (x1 : (List ApiValue)) => (some x1)
end
theorem wF_value_Copy : ∀ n : Nat, (∀ {p0v : ApiValue} {res : ApiValue}, value_CopyF n p0v = some res → ACalls Tryz.prog 48 [.agg (AV.cs (exApiValue p0v))] [] (.agg (AV.cs (exApiValue res))) []) ∧ (∀ {p0l : (List ApiValue)} {res : (List ApiValue)}, value_copiesF n p0l = some res → ACalls Tryz.prog 84 [.c (PV.ls 5 rowApiValue p0l)] [] (AV.os 0 5 rowApiValue res) []) := by
 intro n
 induction n with
 | zero => exact ⟨fun {p0v res} h => absurd h (by simp [value_CopyF]), fun {p0l res} h => absurd h (by simp [value_copiesF])⟩
 | succ n ih =>
  obtain ⟨ih_value_Copy, ih_value_copies⟩ := ih
  refine ⟨?_, ?_⟩
  ·
   intro p0v res h
   rw [value_CopyF] at h
   refine acalls (fn := Tryz.f48) [0, 1, 2] (by kernel_rfl) Tryz.func48 rfl (by kernel_rfl) (by kernel_rfl) <| w_sr <| o_box (v := .agg aIISLL) (n := 0) (cs := aIISLL) (σ' := [aIISLL]) rfl rfl rfl rfl rfl <| o_alloc (n := 1) (cs := [aI, aI, aS, AV.nil, AV.nil]) (σ' := [aIISLL, [aI, aI, aS, AV.nil, AV.nil]]) tz25 rfl rfl rfl <| o_ek (fr' := [(1, .box 0 0), (2, .box 1 0)]) rfl rfl <| w_seqw <| w_planT [.q 0, .q 1, .q 2, .q 3, .q 4, .q 5, .q 6, .n 7 [], .q 8, .n 9 []] [(some 3, [1]), (some 4, [3]), (some 5, [4]), (some 6, [1]), (some 7, [6]), (some 8, [7]), (some 9, [1]), (none, [9, 5]), (some 10, [1]), (none, [10, 8])] [0, 1, 3, 0, 8, 31, 31, 127, 255, 511] (by kernel_rfl) <| dq rfl rfl (p_fa tf25x3 rfl) <| dq rfl rfl (p_load (v := aL) tv22 rfl rfl rfl) ?_
   obtain ⟨x1, hx1, h2⟩ := bind_s h
   refine d_q rfl (qv_call (v := aL) rfl (ih_value_copies hx1) ⟨lr, trivial⟩ rfl) <| dq rfl rfl (p_fa tf25x4 rfl) <| dq rfl rfl (p_load (v := aL) tv23 rfl rfl rfl) ?_
   obtain ⟨x3, hx3, h4⟩ := bind_s h2
   refine d_q rfl (qv_call (v := aL) rfl (w_slices_Clone_string_string hx3) ⟨lr, trivial⟩ rfl) <| dq rfl rfl (p_fa tf25x3 rfl) <| d_n rfl ?_ rfl
   refine o_store (v := aL) (us := [aL]) (cs := aIISLL) (σ' := [aIISLL, [aI, aI, aS, AV.nil, AV.nil]]) rfl tv22 rfl rfl rfl rfl rfl rfl rfl rfl <| o_rc <| ⟨rc_nil, ?_⟩
   refine dq rfl rfl (p_fa tf25x4 rfl) <| d_n rfl ?_ rfl
   refine o_store (v := aL) (us := [aL]) (cs := aIISLL) (σ' := [aIISLL, [aI, aI, aS, AV.nil, AV.nil]]) rfl tv23 rfl rfl rfl rfl rfl rfl rfl rfl <| o_rc <| ⟨rc_nil, ?_⟩
   refine d_ek (fr' := [(1, .box 0 0), (2, .box 1 0)]) rfl rfl <| w_sr <| o_p rfl (p_loads (us := aIISLL) tv25 rfl rfl rfl rfl) <| o_store (v := .agg aIISLL) (us := aIISLL) (cs := [aI, aI, aS, AV.nil, AV.nil]) (σ' := [aIISLL, aIISLL]) rfl tv25 rfl rfl rfl rfl rfl rfl rfl rfl <| o_ek (fr' := [(2, .box 1 0)]) rfl rfl <| w_ret ?_
   obtain rfl := sy h4
   exact e_ret (rs' := [.cell 2 25]) rfl <| r_cells (us := aIISLL) (cs := aIISLL) tv25 rfl rfl rfl rfl <| r_nil <| fin_gen [] rfl rfl rfl (le_aggc rfl ⟨rfl, rfl, rfl, rfl, rfl, trivial⟩) st_nil
  ·
   intro p0l res h
   rw [value_copiesF] at h
   refine acalls (fn := Tryz.f84) [0, 2, 3, 5, 6, 7, 8, 9] (by kernel_rfl) Tryz.func84 rfl (by kernel_rfl) (by kernel_rfl) <| w_sr <| sV (v := AV.nil) rfl <| o_ek (fr' := [(0, aL)]) rfl rfl <| w_sr <| sV (v := AV.nil) rfl <| o_ek (fr' := [(0, aL), (3, AV.nil)]) rfl rfl <| w_seqw <| w_sr <| mL rfl ?_
   refine o_p rfl (p_len ti22 (isl_c rfl)) <| mI rfl <| o_ek (fr' := [(3, AV.nil), (6, aL), (7, aI), (8, aI)]) rfl rfl ?_
   obtain ⟨x1, hx1, h2⟩ := bind_s h
   refine w_jtail cl_kw (fun j3 => x1 = j3) (fun (j3 : (List ApiValue)) => ([(3, AV.os 0 5 rowApiValue j3)] : Fr)) (fun (j3 : (List ApiValue)) => ([] : St)) ?_ ?_
   ·
    refine w_block <| w_loopo _ (fun (s4 : ((List ApiValue) × Int)) => ([(3, AV.os 0 5 rowApiValue s4.1), (6, .c (PV.ls 5 rowApiValue p0l)), (7, .c (.int .i64 ((p0l).length : Int))), (8, .c (.int .i64 s4.2))] : Fr)) (fun (s4 : ((List ApiValue) × Int)) => ([] : St)) hx1 (w_weak [1000000] 0 rfl rfl rfl rfl ⟨(le_nos rfl), lr, lr, lr, trivial⟩ st_nil) ?_
    intro s4 st4 hs4 ho4
    unfold value_copies_l1 at hs4
    refine w_sr <| o_p rfl (p_lss rfl rfl) <| o_ek (fr' := [(3, aO), (6, aL), (7, aI), (8, aI), (9, aB)]) rfl rfl <| w_seqw <| w_ch hs4 rfl (fun hb5 h5 => ?_) (fun hb5 h5 => ?_)
    ·
     refine w_skip <| e_kw <| w_seqw <| w_block <| w_seqw <| w_region ?_
     obtain ⟨x6, hx6, h7⟩ := bind_s h5
     refine o_p rfl (p_ia (cs := [PV.int _ _, PV.int _ _, PV.str _, PV.ls _ _ _, PV.ls _ _ _]) ts22 (isl_c rfl) rfl hx6 (rowApiValue_eq _)) <| o_p rfl (p_loades (us := [PV.int _ _, PV.int _ _, PV.str _, PV.ls _ _ _, PV.ls _ _ _]) tv25 rfl rfl rfl) <| o_alloc (n := 0) (cs := [aI, aI, aS, AV.nil, AV.nil]) (σ' := [[aI, aI, aS, AV.nil, AV.nil]]) tz25 rfl rfl rfl <| o_store (v := .agg aIISLL) (us := aIISLL) (cs := [aI, aI, aS, AV.nil, AV.nil]) (σ' := [aIISLL]) rfl tv25 rfl rfl rfl rfl rfl rfl rfl rfl <| o_ek (fr' := [(3, aO), (5, .box 0 0), (6, aL), (7, aI), (8, aI)]) rfl rfl <| w_region <| mV (v := aO) rfl <| o_p rfl (p_loads (us := aIISLL) tv25 rfl rfl rfl rfl) ?_
     obtain ⟨x8, hx8, h9⟩ := bind_s h7
     refine o_v (ov_call (v := .agg aIISLL) rfl (ih_value_Copy hx8) ⟨(le_aggc rfl ⟨rfl, rfl, rfl, rfl, rfl, trivial⟩), trivial⟩ rfl rfl rfl) <| o_rows (row := rowApiValue) (xs := ([x8] : List ApiValue)) (rows := [[_, _, _, _, _]]) (σ' := [aIISLL]) [0, 0, 0, 5, 1] ts22 rfl rfl rfl (arow_cons (rowApiValue_eq _) arow_nil) rfl rfl ?_
     obtain ⟨x10, hx10, h11⟩ := bind_s h9
     exact o_app (row := rowApiValue) ts22 rfl ti22 rfl (isl_o rfl) rowApiValue_len hx10 <| sV (v := aO) rfl <| o_end (fr' := [(3, aO), (5, .box 0 0), (6, aL), (7, aI), (8, aI)]) rfl <| e_blk_n <| e_kw <| w_region <| o_p rfl (p_add rfl rfl) <| mI rfl <| o_end (fr' := [(3, aO), (5, .box 0 0), (6, aL), (7, aI), (8, aI)]) rfl <| e_l _ (sy h11) (w_weak [256] 0 rfl rfl rfl rfl ⟨lr, lr, lr, lr, trivial⟩ st_nil)
    ·
     refine w_exit <| e_seq_x <| e_seq_x <| e_blk_h ?_
     have h12 := un_out h5 ho4
     exact e_j _ (sy h12) (w_weak [0] 0 rfl rfl rfl rfl ⟨lr, trivial⟩ st_nil)
   ·
    intro j3 hj13
    subst hj13
    refine e_kw <| w_sr <| mV (v := aO) rfl <| sV (v := aO) rfl <| o_ek (fr' := [(2, aO)]) rfl rfl <| w_ret ?_
    obtain rfl := sy h2
    exact e_ret (rs' := [.tmp 2]) rfl <| r_tmp (v := aO) rfl <| r_nil <| fin_gen [0] rfl rfl rfl lr st_nil
noncomputable def value_Copy (p0v : ApiValue) : Option ApiValue := lim fun n => value_CopyF n p0v
theorem w_value_Copy {p0v : ApiValue} {res : ApiValue} (h : value_Copy p0v = some res) : ACalls Tryz.prog 48 [.agg (AV.cs (exApiValue p0v))] [] (.agg (AV.cs (exApiValue res))) [] := by
 obtain ⟨n, hn⟩ := lim_some h
 exact (wF_value_Copy n).1 hn
noncomputable def event_OfCommand (p0c : ApiCommand) (p1id : Int) (p2time : Int) : Option (ApiEvent × Bool) :=
 (command_Right p0c).bind fun (x1 : Bool) => cond (!x1) (some ((ApiEvent.mk (0 : Int) (0 : Int) (0 : Int) (0 : Int) (0 : Int) (0 : Int) (0 : Int) ([] : List UInt8) ([] : List UInt8) (ApiValue.mk (0 : Int) (0 : Int) ([] : List UInt8) ([] : (List ApiValue)) ([] : (List (List UInt8)))) (ApiPolicy.mk ([] : List UInt8) (0 : Int) (0 : Int) (0 : Int) (0 : Int) (0 : Int) (0 : Int) (0 : Int) (0 : Int) ([] : (List (List UInt8))))), false)) ((app 16 ([] : List (List UInt8)) p0c.Opts.Fatal).bind fun (x5 : (List (List UInt8))) => (event_eventOf p0c.Kind).bind fun (x7 : Int) => (value_Copy p0c.Data).bind fun (x9 : ApiValue) => some ((ApiEvent.mk p1id x7 p2time p0c.Seq (0 : Int) p0c.N (0 : Int) p0c.Name p0c.Key x9 (ApiPolicy.mk p0c.Opts.Queue p0c.Opts.ToStart p0c.Opts.ToClose p0c.Opts.Total p0c.Opts.Beat p0c.Opts.First p0c.Opts.Coef p0c.Opts.Most p0c.Opts.Attempts x5)), true))
theorem w_event_OfCommand {p0c : ApiCommand} {p1id : Int} {p2time : Int} {res : (ApiEvent × Bool)} (h : event_OfCommand p0c p1id p2time = some res) : ACalls Tryz.prog 12 [.agg (AV.cs (rowApiCommand p0c)), .c (.int .i64 p1id), .c (.int .i64 p2time)] [] (.tup [.agg (AV.cs (rowApiEvent res.1)), .c (.bool res.2)]) [] := by
 unfold event_OfCommand at h
 refine acalls (fn := Tryz.f12) [0, 1, 2, 3, 6, 7, 8, 11] (by kernel_rfl) Tryz.func12 rfl (by kernel_rfl) (by kernel_rfl) <| w_sr <| o_box (v := .agg aIISSIIISLLSIIIIIIIIL) (n := 0) (cs := aIISSIIISLLSIIIIIIIIL) (σ' := [aIISSIIISLLSIIIIIIIIL]) rfl rfl rfl rfl rfl <| o_alloc (n := 1) (cs := [aI, aI, aI, aI, aI, aI, aI, aS, aS, aI, aI, aS, AV.nil, AV.nil, aS, aI, aI, aI, aI, aI, aI, aI, aI, AV.nil]) (σ' := [aIISSIIISLLSIIIIIIIIL, [aI, aI, aI, aI, aI, aI, aI, aS, aS, aI, aI, aS, AV.nil, AV.nil, aS, aI, aI, aI, aI, aI, aI, aI, aI, AV.nil]]) tz29 rfl rfl rfl <| sB rfl <| o_ek (fr' := [(1, aI), (2, aI), (3, .box 0 0), (6, .box 1 0)]) rfl rfl <| w_seqw <| w_sr <| o_p rfl (p_loads (us := aIISSIIISLLSIIIIIIIIL) tv33 rfl rfl rfl rfl) ?_
 obtain ⟨x1, hx1, h2⟩ := bind_s h
 refine o_v (ov_call (v := aB) rfl (w_command_Right hx1) ⟨(le_aggc rfl ⟨rfl, rfl, rfl, rfl, rfl, rfl, rfl, rfl, rfl, rfl, rfl, rfl, rfl, rfl, rfl, rfl, rfl, rfl, rfl, rfl, trivial⟩), trivial⟩ rfl rfl rfl) <| o_p rfl (p_not rfl) <| o_ek (fr' := [(1, aI), (2, aI), (3, .box 0 0), (6, .box 1 0), (11, aB)]) rfl rfl <| w_ch h2 rfl (fun hb3 h3 => ?_) (fun hb3 h3 => ?_)
 ·
  refine w_sr <| o_p rfl (p_buildc (c0 := [aI, aI, aI, aI, aI, aI, aI, aS, aS, aI, aI, aS, AV.nil, AV.nil, aS, aI, aI, aI, aI, aI, aI, aI, aI, AV.nil]) (cs := [aI, aI, aI, aI, aI, aI, aI, aS, aS, aI, aI, aS, AV.nil, AV.nil, aS, aI, aI, aI, aI, aI, aI, aI, aI, AV.nil]) tb29 rfl fill_nil) <| o_store (v := .agg [aI, aI, aI, aI, aI, aI, aI, aS, aS, aI, aI, aS, AV.nil, AV.nil, aS, aI, aI, aI, aI, aI, aI, aI, aI, AV.nil]) (us := [aI, aI, aI, aI, aI, aI, aI, aS, aS, aI, aI, aS, AV.nil, AV.nil, aS, aI, aI, aI, aI, aI, aI, aI, aI, AV.nil]) (cs := [aI, aI, aI, aI, aI, aI, aI, aS, aS, aI, aI, aS, AV.nil, AV.nil, aS, aI, aI, aI, aI, aI, aI, aI, aI, AV.nil]) (σ' := [aIISSIIISLLSIIIIIIIIL, [aI, aI, aI, aI, aI, aI, aI, aS, aS, aI, aI, aS, AV.nil, AV.nil, aS, aI, aI, aI, aI, aI, aI, aI, aI, AV.nil]]) rfl tv29 rfl rfl rfl rfl rfl rfl rfl rfl <| sB rfl <| o_ek (fr' := [(6, .box 1 0), (7, aB)]) rfl rfl <| w_ret <| e_seq_r ?_
  obtain rfl := sy h3
  exact e_ret (rs' := [.cell 6 29, .tmp 7]) rfl <| r_cells (us := [aI, aI, aI, aI, aI, aI, aI, aS, aS, aI, aI, aS, AV.nil, AV.nil, aS, aI, aI, aI, aI, aI, aI, aI, aI, AV.nil]) (cs := [aI, aI, aI, aI, aI, aI, aI, aS, aS, aI, aI, aS, AV.nil, AV.nil, aS, aI, aI, aI, aI, aI, aI, aI, aI, AV.nil]) tv29 rfl rfl rfl rfl <| r_tmp (v := aB) rfl <| r_nil <| fin_gen [] rfl rfl rfl (le_tupp rfl ⟨(le_aggc rfl ⟨rfl, rfl, rfl, rfl, rfl, rfl, rfl, rfl, rfl, rfl, rfl, rfl, ⟨_, rfl⟩, ⟨_, rfl⟩, rfl, rfl, rfl, rfl, rfl, rfl, rfl, rfl, rfl, ⟨_, rfl⟩, trivial⟩), lr, trivial⟩) st_nil
 ·
  refine w_skip <| e_kw <| w_sr <| o_p rfl (p_fa tf33x6 rfl) <| o_p rfl (p_loads (us := aSIIIIIIIIL) tv27 rfl rfl rfl rfl) <| o_alloc (n := 2) (cs := [aS, aI, aI, aI, aI, aI, aI, aI, aI, AV.nil]) (σ' := [aIISSIIISLLSIIIIIIIIL, [aI, aI, aI, aI, aI, aI, aI, aS, aS, aI, aI, aS, AV.nil, AV.nil, aS, aI, aI, aI, aI, aI, aI, aI, aI, AV.nil], [aS, aI, aI, aI, aI, aI, aI, aI, aI, AV.nil]]) tz27 rfl rfl rfl <| o_store (v := .agg aSIIIIIIIIL) (us := aSIIIIIIIIL) (cs := [aS, aI, aI, aI, aI, aI, aI, aI, aI, AV.nil]) (σ' := [aIISSIIISLLSIIIIIIIIL, [aI, aI, aI, aI, aI, aI, aI, aS, aS, aI, aI, aS, AV.nil, AV.nil, aS, aI, aI, aI, aI, aI, aI, aI, aI, AV.nil], aSIIIIIIIIL]) rfl tv27 rfl rfl rfl rfl rfl rfl rfl rfl <| o_ek (fr' := [(1, aI), (2, aI), (3, .box 0 0), (6, .box 1 0), (8, .box 2 0)]) rfl rfl <| w_sr <| o_rows (row := rowS) (xs := ([] : List (List UInt8))) (rows := []) (σ' := [aIISSIIISLLSIIIIIIIIL, [aI, aI, aI, aI, aI, aI, aI, aS, aS, aI, aI, aS, AV.nil, AV.nil, aS, aI, aI, aI, aI, aI, aI, aI, aI, AV.nil], aSIIIIIIIIL]) [0] ts23 rfl rfl rfl arow_nil rfl rfl <| o_p rfl (p_fa tf27x9 rfl) ?_
  refine o_p rfl (p_load (v := aL) tv23 rfl rfl rfl) ?_
  obtain ⟨x5, hx5, h6⟩ := bind_s h3
  refine o_app (row := rowS) ts23 rfl ti23 rfl (isl_c rfl) (fun _ => rfl) hx5 <| o_p rfl (p_fa tf27x9 rfl) <| o_store (v := aO) (us := [aO]) (cs := aSIIIIIIIIL) (σ' := [aIISSIIISLLSIIIIIIIIL, [aI, aI, aI, aI, aI, aI, aI, aS, aS, aI, aI, aS, AV.nil, AV.nil, aS, aI, aI, aI, aI, aI, aI, aI, aI, AV.nil], [aS, aI, aI, aI, aI, aI, aI, aI, aI, aO]]) rfl tv23 rfl rfl rfl rfl rfl rfl rfl rfl <| o_ek (fr' := [(1, aI), (2, aI), (3, .box 0 0), (6, .box 1 0), (8, .box 2 0)]) rfl rfl <| w_seqw <| w_planT [.q 0, .q 1, .q 2, .q 3, .q 4, .q 5, .q 6, .q 7, .q 8, .q 9, .q 10, .q 11, .q 12, .q 13, .q 14, .q 15, .q 16, .q 17, .n 18 [], .n 19 []] [(some 20, [1]), (some 21, [3]), (some 22, [21]), (some 23, [22]), (some 24, [2]), (some 25, [3]), (some 26, [25]), (some 27, [3]), (some 28, [27]), (some 29, [3]), (some 30, [29]), (some 31, [3]), (some 32, [31]), (some 33, [3]), (some 34, [33]), (some 35, [34]), (some 36, [8]), (some 37, [20, 23, 24, 26, 28, 30, 32, 35, 36]), (none, [6, 37]), (some 7, [])] [0, 0, 2, 6, 0, 0, 32, 0, 128, 0, 512, 0, 2048, 0, 8192, 24590, 0, 131071, 262143, 524287] (by kernel_rfl) <| dq rfl rfl (p_move (v := aI) rfl) <| dq rfl rfl (p_fa tf33x0 rfl) <| dq rfl rfl (p_load (v := aI) tv3 rfl rfl rfl) ?_
  obtain ⟨x7, hx7, h8⟩ := bind_s h6
  refine d_q rfl (qv_call (v := aI) rfl (w_event_eventOf hx7) ⟨lr, trivial⟩ rfl) <| dq rfl rfl (p_move (v := aI) rfl) <| dq rfl rfl (p_fa tf33x1 rfl) <| dq rfl rfl (p_load (v := aI) tv3 rfl rfl rfl) <| dq rfl rfl (p_fa tf33x4 rfl) <| dq rfl rfl (p_load (v := aI) tv3 rfl rfl rfl) <| dq rfl rfl (p_fa tf33x2 rfl) <| dq rfl rfl (p_load (v := aS) tv9 rfl rfl rfl) <| dq rfl rfl (p_fa tf33x3 rfl) <| dq rfl rfl (p_load (v := aS) tv9 rfl rfl rfl) <| dq rfl rfl (p_fa tf33x5 rfl) <| dq rfl rfl (p_loads (us := aIISLL) tv25 rfl rfl rfl rfl) ?_
  obtain ⟨x9, hx9, h10⟩ := bind_s h8
  refine d_q rfl (qv_call (v := .agg aIISLL) rfl (w_value_Copy hx9) ⟨(le_aggc rfl ⟨rfl, rfl, rfl, rfl, rfl, trivial⟩), trivial⟩ rfl) <| dq rfl rfl (p_loads (us := [aS, aI, aI, aI, aI, aI, aI, aI, aI, aO]) tv27 rfl rfl rfl rfl) <| dq rfl rfl (p_buildc (c0 := [aI, aI, aI, aI, aI, aI, aI, aS, aS, aI, aI, aS, AV.nil, AV.nil, aS, aI, aI, aI, aI, aI, aI, aI, aI, AV.nil]) (cs := [aI, aI, aI, aI, aI, aI, aI, aS, aS, aI, aI, aS, aL, aL, aS, aI, aI, aI, aI, aI, aI, aI, aI, aO]) tb29 rfl (fill_cons (v := aI) (us := [_]) (cs' := u24) rfl rfl rfl rfl rfl rfl (fill_cons (v := aI) (us := [_]) (cs' := u24) rfl rfl rfl rfl rfl rfl (fill_cons (v := aI) (us := [_]) (cs' := u24) rfl rfl rfl rfl rfl rfl (fill_cons (v := aI) (us := [_]) (cs' := u24) rfl rfl rfl rfl rfl rfl (fill_cons (v := aI) (us := [_]) (cs' := u24) rfl rfl rfl rfl rfl rfl (fill_cons (v := aS) (us := [_]) (cs' := u24) rfl rfl rfl rfl rfl rfl (fill_cons (v := aS) (us := [_]) (cs' := u24) rfl rfl rfl rfl rfl rfl (fill_cons (v := .agg aIISLL) (us := u5) (cs' := u24) rfl rfl rfl rfl rfl rfl (fill_cons (v := .agg [aS, aI, aI, aI, aI, aI, aI, aI, aI, aO]) (us := u10) (cs' := u24) rfl rfl rfl rfl rfl rfl fill_nil)))))))))) <| d_n rfl ?_ rfl
  refine o_store (v := .agg [aI, aI, aI, aI, aI, aI, aI, aS, aS, aI, aI, aS, aL, aL, aS, aI, aI, aI, aI, aI, aI, aI, aI, aO]) (us := [aI, aI, aI, aI, aI, aI, aI, aS, aS, aI, aI, aS, aL, aL, aS, aI, aI, aI, aI, aI, aI, aI, aI, aO]) (cs := [aI, aI, aI, aI, aI, aI, aI, aS, aS, aI, aI, aS, AV.nil, AV.nil, aS, aI, aI, aI, aI, aI, aI, aI, aI, AV.nil]) (σ' := [aIISSIIISLLSIIIIIIIIL, [aI, aI, aI, aI, aI, aI, aI, aS, aS, aI, aI, aS, aL, aL, aS, aI, aI, aI, aI, aI, aI, aI, aI, aO], [aS, aI, aI, aI, aI, aI, aI, aI, aI, aO]]) rfl tv29 rfl rfl rfl rfl rfl rfl rfl rfl <| o_rc <| ⟨rc_nil, ?_⟩
  refine d_n rfl ?_ rfl
  refine sB rfl <| o_rc <| ⟨rc_nil, ?_⟩
  refine d_ek (fr' := [(6, .box 1 0), (7, aB)]) rfl rfl <| w_ret ?_
  obtain rfl := sy h10
  exact e_ret (rs' := [.cell 6 29, .tmp 7]) rfl <| r_cells (us := [aI, aI, aI, aI, aI, aI, aI, aS, aS, aI, aI, aS, aL, aL, aS, aI, aI, aI, aI, aI, aI, aI, aI, aO]) (cs := [aI, aI, aI, aI, aI, aI, aI, aS, aS, aI, aI, aS, aL, aL, aS, aI, aI, aI, aI, aI, aI, aI, aI, aO]) tv29 rfl rfl rfl rfl <| r_tmp (v := aB) rfl <| r_nil <| fin_gen [] rfl rfl rfl (le_tupp rfl ⟨(le_aggc rfl ⟨rfl, rfl, rfl, rfl, rfl, rfl, rfl, rfl, rfl, rfl, rfl, rfl, rfl, rfl, rfl, rfl, rfl, rfl, rfl, rfl, rfl, rfl, rfl, rfl, trivial⟩), lr, trivial⟩) st_nil
noncomputable def event_names  : Option (List (List UInt8)) :=
 some ([([83, 116, 97, 114, 116, 101, 100] : List UInt8), ([84, 97, 115, 107, 83, 99, 104, 101, 100, 117, 108, 101, 100] : List UInt8), ([84, 97, 115, 107, 83, 116, 97, 114, 116, 101, 100] : List UInt8), ([84, 97, 115, 107, 67, 111, 109, 112, 108, 101, 116, 101, 100] : List UInt8), ([84, 97, 115, 107, 70, 97, 105, 108, 101, 100] : List UInt8), ([84, 97, 115, 107, 84, 105, 109, 101, 100, 79, 117, 116] : List UInt8), ([65, 99, 116, 105, 118, 105, 116, 121, 83, 99, 104, 101, 100, 117, 108, 101, 100] : List UInt8), ([65, 99, 116, 105, 118, 105, 116, 121, 83, 116, 97, 114, 116, 101, 100] : List UInt8), ([65, 99, 116, 105, 118, 105, 116, 121, 67, 111, 109, 112, 108, 101, 116, 101, 100] : List UInt8), ([65, 99, 116, 105, 118, 105, 116, 121, 70, 97, 105, 108, 101, 100] : List UInt8), ([65, 99, 116, 105, 118, 105, 116, 121, 84, 105, 109, 101, 100, 79, 117, 116] : List UInt8), ([65, 99, 116, 105, 118, 105, 116, 121, 67, 97, 110, 99, 101, 108, 65, 115, 107, 101, 100] : List UInt8), ([65, 99, 116, 105, 118, 105, 116, 121, 67, 97, 110, 99, 101, 108, 101, 100] : List UInt8), ([84, 105, 109, 101, 114, 83, 116, 97, 114, 116, 101, 100] : List UInt8), ([84, 105, 109, 101, 114, 70, 105, 114, 101, 100] : List UInt8), ([84, 105, 109, 101, 114, 67, 97, 110, 99, 101, 108, 101, 100] : List UInt8), ([83, 105, 103, 110, 97, 108, 101, 100] : List UInt8), ([77, 97, 114, 107, 101, 114] : List UInt8), ([67, 104, 105, 108, 100, 73, 110, 105, 116, 105, 97, 116, 101, 100] : List UInt8), ([67, 104, 105, 108, 100, 83, 116, 97, 114, 116, 101, 100] : List UInt8), ([67, 104, 105, 108, 100, 67, 111, 109, 112, 108, 101, 116, 101, 100] : List UInt8), ([67, 104, 105, 108, 100, 70, 97, 105, 108, 101, 100] : List UInt8), ([83, 101, 110, 100, 73, 110, 105, 116, 105, 97, 116, 101, 100] : List UInt8), ([83, 101, 110, 100, 68, 111, 110, 101] : List UInt8), ([83, 101, 110, 100, 70, 97, 105, 108, 101, 100] : List UInt8), ([67, 97, 110, 99, 101, 108, 65, 115, 107, 101, 100] : List UInt8), ([85, 112, 100, 97, 116, 101, 65, 99, 99, 101, 112, 116, 101, 100] : List UInt8), ([85, 112, 100, 97, 116, 101, 70, 105, 110, 105, 115, 104, 101, 100] : List UInt8), ([65, 116, 116, 114, 115] : List UInt8), ([67, 111, 109, 112, 108, 101, 116, 101, 100] : List UInt8), ([70, 97, 105, 108, 101, 100] : List UInt8), ([67, 97, 110, 99, 101, 108, 101, 100] : List UInt8), ([84, 101, 114, 109, 105, 110, 97, 116, 101, 100] : List UInt8), ([84, 105, 109, 101, 100, 79, 117, 116] : List UInt8), ([67, 111, 110, 116, 105, 110, 117, 101, 100] : List UInt8)] : List (List UInt8))
theorem w_event_names  {res : (List (List UInt8))} (h : event_names = some res) : ACalls Tryz.prog 77 [] [] (AV.ar rowS res) [] := by
 unfold event_names at h
 refine acalls (fn := Tryz.f77) [0] (by kernel_rfl) Tryz.func77 rfl (by kernel_rfl) (by kernel_rfl) <| w_sr <| o_alloc (n := 0) (cs := (AV.cs ((List.map rowS (List.replicate 35 ([] : List UInt8))).flatten))) (σ' := [(AV.cs ((List.map rowS (List.replicate 35 ([] : List UInt8))).flatten))]) tz90 rfl rfl rfl <| o_ek (fr' := [(0, .box 0 0)]) rfl rfl <| w_sr <| o_p rfl (p_arr (row := rowS) (xs := ([([83, 116, 97, 114, 116, 101, 100] : List UInt8), ([84, 97, 115, 107, 83, 99, 104, 101, 100, 117, 108, 101, 100] : List UInt8), ([84, 97, 115, 107, 83, 116, 97, 114, 116, 101, 100] : List UInt8), ([84, 97, 115, 107, 67, 111, 109, 112, 108, 101, 116, 101, 100] : List UInt8), ([84, 97, 115, 107, 70, 97, 105, 108, 101, 100] : List UInt8), ([84, 97, 115, 107, 84, 105, 109, 101, 100, 79, 117, 116] : List UInt8), ([65, 99, 116, 105, 118, 105, 116, 121, 83, 99, 104, 101, 100, 117, 108, 101, 100] : List UInt8), ([65, 99, 116, 105, 118, 105, 116, 121, 83, 116, 97, 114, 116, 101, 100] : List UInt8), ([65, 99, 116, 105, 118, 105, 116, 121, 67, 111, 109, 112, 108, 101, 116, 101, 100] : List UInt8), ([65, 99, 116, 105, 118, 105, 116, 121, 70, 97, 105, 108, 101, 100] : List UInt8), ([65, 99, 116, 105, 118, 105, 116, 121, 84, 105, 109, 101, 100, 79, 117, 116] : List UInt8), ([65, 99, 116, 105, 118, 105, 116, 121, 67, 97, 110, 99, 101, 108, 65, 115, 107, 101, 100] : List UInt8), ([65, 99, 116, 105, 118, 105, 116, 121, 67, 97, 110, 99, 101, 108, 101, 100] : List UInt8), ([84, 105, 109, 101, 114, 83, 116, 97, 114, 116, 101, 100] : List UInt8), ([84, 105, 109, 101, 114, 70, 105, 114, 101, 100] : List UInt8), ([84, 105, 109, 101, 114, 67, 97, 110, 99, 101, 108, 101, 100] : List UInt8), ([83, 105, 103, 110, 97, 108, 101, 100] : List UInt8), ([77, 97, 114, 107, 101, 114] : List UInt8), ([67, 104, 105, 108, 100, 73, 110, 105, 116, 105, 97, 116, 101, 100] : List UInt8), ([67, 104, 105, 108, 100, 83, 116, 97, 114, 116, 101, 100] : List UInt8), ([67, 104, 105, 108, 100, 67, 111, 109, 112, 108, 101, 116, 101, 100] : List UInt8), ([67, 104, 105, 108, 100, 70, 97, 105, 108, 101, 100] : List UInt8), ([83, 101, 110, 100, 73, 110, 105, 116, 105, 97, 116, 101, 100] : List UInt8), ([83, 101, 110, 100, 68, 111, 110, 101] : List UInt8), ([83, 101, 110, 100, 70, 97, 105, 108, 101, 100] : List UInt8), ([67, 97, 110, 99, 101, 108, 65, 115, 107, 101, 100] : List UInt8), ([85, 112, 100, 97, 116, 101, 65, 99, 99, 101, 112, 116, 101, 100] : List UInt8), ([85, 112, 100, 97, 116, 101, 70, 105, 110, 105, 115, 104, 101, 100] : List UInt8), ([65, 116, 116, 114, 115] : List UInt8), ([67, 111, 109, 112, 108, 101, 116, 101, 100] : List UInt8), ([70, 97, 105, 108, 101, 100] : List UInt8), ([67, 97, 110, 99, 101, 108, 101, 100] : List UInt8), ([84, 101, 114, 109, 105, 110, 97, 116, 101, 100] : List UInt8), ([84, 105, 109, 101, 100, 79, 117, 116] : List UInt8), ([67, 111, 110, 116, 105, 110, 117, 101, 100] : List UInt8)] : List (List UInt8))) (rows := [[_], [_], [_], [_], [_], [_], [_], [_], [_], [_], [_], [_], [_], [_], [_], [_], [_], [_], [_], [_], [_], [_], [_], [_], [_], [_], [_], [_], [_], [_], [_], [_], [_], [_], [_]]) [0] ta90 tz90 rfl rfl (arow_cons rfl (arow_cons rfl (arow_cons rfl (arow_cons rfl (arow_cons rfl (arow_cons rfl (arow_cons rfl (arow_cons rfl (arow_cons rfl (arow_cons rfl (arow_cons rfl (arow_cons rfl (arow_cons rfl (arow_cons rfl (arow_cons rfl (arow_cons rfl (arow_cons rfl (arow_cons rfl (arow_cons rfl (arow_cons rfl (arow_cons rfl (arow_cons rfl (arow_cons rfl (arow_cons rfl (arow_cons rfl (arow_cons rfl (arow_cons rfl (arow_cons rfl (arow_cons rfl (arow_cons rfl (arow_cons rfl (arow_cons rfl (arow_cons rfl (arow_cons rfl (arow_cons rfl arow_nil)))))))))))))))))))))))))))))))))))) <| o_store (v := AV.ar _ _) (us := (AV.cs ((List.map rowS ([([83, 116, 97, 114, 116, 101, 100] : List UInt8), ([84, 97, 115, 107, 83, 99, 104, 101, 100, 117, 108, 101, 100] : List UInt8), ([84, 97, 115, 107, 83, 116, 97, 114, 116, 101, 100] : List UInt8), ([84, 97, 115, 107, 67, 111, 109, 112, 108, 101, 116, 101, 100] : List UInt8), ([84, 97, 115, 107, 70, 97, 105, 108, 101, 100] : List UInt8), ([84, 97, 115, 107, 84, 105, 109, 101, 100, 79, 117, 116] : List UInt8), ([65, 99, 116, 105, 118, 105, 116, 121, 83, 99, 104, 101, 100, 117, 108, 101, 100] : List UInt8), ([65, 99, 116, 105, 118, 105, 116, 121, 83, 116, 97, 114, 116, 101, 100] : List UInt8), ([65, 99, 116, 105, 118, 105, 116, 121, 67, 111, 109, 112, 108, 101, 116, 101, 100] : List UInt8), ([65, 99, 116, 105, 118, 105, 116, 121, 70, 97, 105, 108, 101, 100] : List UInt8), ([65, 99, 116, 105, 118, 105, 116, 121, 84, 105, 109, 101, 100, 79, 117, 116] : List UInt8), ([65, 99, 116, 105, 118, 105, 116, 121, 67, 97, 110, 99, 101, 108, 65, 115, 107, 101, 100] : List UInt8), ([65, 99, 116, 105, 118, 105, 116, 121, 67, 97, 110, 99, 101, 108, 101, 100] : List UInt8), ([84, 105, 109, 101, 114, 83, 116, 97, 114, 116, 101, 100] : List UInt8), ([84, 105, 109, 101, 114, 70, 105, 114, 101, 100] : List UInt8), ([84, 105, 109, 101, 114, 67, 97, 110, 99, 101, 108, 101, 100] : List UInt8), ([83, 105, 103, 110, 97, 108, 101, 100] : List UInt8), ([77, 97, 114, 107, 101, 114] : List UInt8), ([67, 104, 105, 108, 100, 73, 110, 105, 116, 105, 97, 116, 101, 100] : List UInt8), ([67, 104, 105, 108, 100, 83, 116, 97, 114, 116, 101, 100] : List UInt8), ([67, 104, 105, 108, 100, 67, 111, 109, 112, 108, 101, 116, 101, 100] : List UInt8), ([67, 104, 105, 108, 100, 70, 97, 105, 108, 101, 100] : List UInt8), ([83, 101, 110, 100, 73, 110, 105, 116, 105, 97, 116, 101, 100] : List UInt8), ([83, 101, 110, 100, 68, 111, 110, 101] : List UInt8), ([83, 101, 110, 100, 70, 97, 105, 108, 101, 100] : List UInt8), ([67, 97, 110, 99, 101, 108, 65, 115, 107, 101, 100] : List UInt8), ([85, 112, 100, 97, 116, 101, 65, 99, 99, 101, 112, 116, 101, 100] : List UInt8), ([85, 112, 100, 97, 116, 101, 70, 105, 110, 105, 115, 104, 101, 100] : List UInt8), ([65, 116, 116, 114, 115] : List UInt8), ([67, 111, 109, 112, 108, 101, 116, 101, 100] : List UInt8), ([70, 97, 105, 108, 101, 100] : List UInt8), ([67, 97, 110, 99, 101, 108, 101, 100] : List UInt8), ([84, 101, 114, 109, 105, 110, 97, 116, 101, 100] : List UInt8), ([84, 105, 109, 101, 100, 79, 117, 116] : List UInt8), ([67, 111, 110, 116, 105, 110, 117, 101, 100] : List UInt8)] : List (List UInt8))).flatten))) (cs := (AV.cs ((List.map rowS (List.replicate 35 ([] : List UInt8))).flatten))) (σ' := [(AV.cs ((List.map rowS ([([83, 116, 97, 114, 116, 101, 100] : List UInt8), ([84, 97, 115, 107, 83, 99, 104, 101, 100, 117, 108, 101, 100] : List UInt8), ([84, 97, 115, 107, 83, 116, 97, 114, 116, 101, 100] : List UInt8), ([84, 97, 115, 107, 67, 111, 109, 112, 108, 101, 116, 101, 100] : List UInt8), ([84, 97, 115, 107, 70, 97, 105, 108, 101, 100] : List UInt8), ([84, 97, 115, 107, 84, 105, 109, 101, 100, 79, 117, 116] : List UInt8), ([65, 99, 116, 105, 118, 105, 116, 121, 83, 99, 104, 101, 100, 117, 108, 101, 100] : List UInt8), ([65, 99, 116, 105, 118, 105, 116, 121, 83, 116, 97, 114, 116, 101, 100] : List UInt8), ([65, 99, 116, 105, 118, 105, 116, 121, 67, 111, 109, 112, 108, 101, 116, 101, 100] : List UInt8), ([65, 99, 116, 105, 118, 105, 116, 121, 70, 97, 105, 108, 101, 100] : List UInt8), ([65, 99, 116, 105, 118, 105, 116, 121, 84, 105, 109, 101, 100, 79, 117, 116] : List UInt8), ([65, 99, 116, 105, 118, 105, 116, 121, 67, 97, 110, 99, 101, 108, 65, 115, 107, 101, 100] : List UInt8), ([65, 99, 116, 105, 118, 105, 116, 121, 67, 97, 110, 99, 101, 108, 101, 100] : List UInt8), ([84, 105, 109, 101, 114, 83, 116, 97, 114, 116, 101, 100] : List UInt8), ([84, 105, 109, 101, 114, 70, 105, 114, 101, 100] : List UInt8), ([84, 105, 109, 101, 114, 67, 97, 110, 99, 101, 108, 101, 100] : List UInt8), ([83, 105, 103, 110, 97, 108, 101, 100] : List UInt8), ([77, 97, 114, 107, 101, 114] : List UInt8), ([67, 104, 105, 108, 100, 73, 110, 105, 116, 105, 97, 116, 101, 100] : List UInt8), ([67, 104, 105, 108, 100, 83, 116, 97, 114, 116, 101, 100] : List UInt8), ([67, 104, 105, 108, 100, 67, 111, 109, 112, 108, 101, 116, 101, 100] : List UInt8), ([67, 104, 105, 108, 100, 70, 97, 105, 108, 101, 100] : List UInt8), ([83, 101, 110, 100, 73, 110, 105, 116, 105, 97, 116, 101, 100] : List UInt8), ([83, 101, 110, 100, 68, 111, 110, 101] : List UInt8), ([83, 101, 110, 100, 70, 97, 105, 108, 101, 100] : List UInt8), ([67, 97, 110, 99, 101, 108, 65, 115, 107, 101, 100] : List UInt8), ([85, 112, 100, 97, 116, 101, 65, 99, 99, 101, 112, 116, 101, 100] : List UInt8), ([85, 112, 100, 97, 116, 101, 70, 105, 110, 105, 115, 104, 101, 100] : List UInt8), ([65, 116, 116, 114, 115] : List UInt8), ([67, 111, 109, 112, 108, 101, 116, 101, 100] : List UInt8), ([70, 97, 105, 108, 101, 100] : List UInt8), ([67, 97, 110, 99, 101, 108, 101, 100] : List UInt8), ([84, 101, 114, 109, 105, 110, 97, 116, 101, 100] : List UInt8), ([84, 105, 109, 101, 100, 79, 117, 116] : List UInt8), ([67, 111, 110, 116, 105, 110, 117, 101, 100] : List UInt8)] : List (List UInt8))).flatten))]) rfl tv90 rfl rfl rfl rfl rfl rfl rfl rfl <| o_ek (fr' := [(0, .box 0 0)]) rfl rfl <| w_ret ?_
 obtain rfl := sy h
 exact e_ret (rs' := [.cell 0 90]) rfl <| r_cells (us := (AV.cs ((List.map rowS ([([83, 116, 97, 114, 116, 101, 100] : List UInt8), ([84, 97, 115, 107, 83, 99, 104, 101, 100, 117, 108, 101, 100] : List UInt8), ([84, 97, 115, 107, 83, 116, 97, 114, 116, 101, 100] : List UInt8), ([84, 97, 115, 107, 67, 111, 109, 112, 108, 101, 116, 101, 100] : List UInt8), ([84, 97, 115, 107, 70, 97, 105, 108, 101, 100] : List UInt8), ([84, 97, 115, 107, 84, 105, 109, 101, 100, 79, 117, 116] : List UInt8), ([65, 99, 116, 105, 118, 105, 116, 121, 83, 99, 104, 101, 100, 117, 108, 101, 100] : List UInt8), ([65, 99, 116, 105, 118, 105, 116, 121, 83, 116, 97, 114, 116, 101, 100] : List UInt8), ([65, 99, 116, 105, 118, 105, 116, 121, 67, 111, 109, 112, 108, 101, 116, 101, 100] : List UInt8), ([65, 99, 116, 105, 118, 105, 116, 121, 70, 97, 105, 108, 101, 100] : List UInt8), ([65, 99, 116, 105, 118, 105, 116, 121, 84, 105, 109, 101, 100, 79, 117, 116] : List UInt8), ([65, 99, 116, 105, 118, 105, 116, 121, 67, 97, 110, 99, 101, 108, 65, 115, 107, 101, 100] : List UInt8), ([65, 99, 116, 105, 118, 105, 116, 121, 67, 97, 110, 99, 101, 108, 101, 100] : List UInt8), ([84, 105, 109, 101, 114, 83, 116, 97, 114, 116, 101, 100] : List UInt8), ([84, 105, 109, 101, 114, 70, 105, 114, 101, 100] : List UInt8), ([84, 105, 109, 101, 114, 67, 97, 110, 99, 101, 108, 101, 100] : List UInt8), ([83, 105, 103, 110, 97, 108, 101, 100] : List UInt8), ([77, 97, 114, 107, 101, 114] : List UInt8), ([67, 104, 105, 108, 100, 73, 110, 105, 116, 105, 97, 116, 101, 100] : List UInt8), ([67, 104, 105, 108, 100, 83, 116, 97, 114, 116, 101, 100] : List UInt8), ([67, 104, 105, 108, 100, 67, 111, 109, 112, 108, 101, 116, 101, 100] : List UInt8), ([67, 104, 105, 108, 100, 70, 97, 105, 108, 101, 100] : List UInt8), ([83, 101, 110, 100, 73, 110, 105, 116, 105, 97, 116, 101, 100] : List UInt8), ([83, 101, 110, 100, 68, 111, 110, 101] : List UInt8), ([83, 101, 110, 100, 70, 97, 105, 108, 101, 100] : List UInt8), ([67, 97, 110, 99, 101, 108, 65, 115, 107, 101, 100] : List UInt8), ([85, 112, 100, 97, 116, 101, 65, 99, 99, 101, 112, 116, 101, 100] : List UInt8), ([85, 112, 100, 97, 116, 101, 70, 105, 110, 105, 115, 104, 101, 100] : List UInt8), ([65, 116, 116, 114, 115] : List UInt8), ([67, 111, 109, 112, 108, 101, 116, 101, 100] : List UInt8), ([70, 97, 105, 108, 101, 100] : List UInt8), ([67, 97, 110, 99, 101, 108, 101, 100] : List UInt8), ([84, 101, 114, 109, 105, 110, 97, 116, 101, 100] : List UInt8), ([84, 105, 109, 101, 100, 79, 117, 116] : List UInt8), ([67, 111, 110, 116, 105, 110, 117, 101, 100] : List UInt8)] : List (List UInt8))).flatten))) (cs := (AV.cs ((List.map rowS ([([83, 116, 97, 114, 116, 101, 100] : List UInt8), ([84, 97, 115, 107, 83, 99, 104, 101, 100, 117, 108, 101, 100] : List UInt8), ([84, 97, 115, 107, 83, 116, 97, 114, 116, 101, 100] : List UInt8), ([84, 97, 115, 107, 67, 111, 109, 112, 108, 101, 116, 101, 100] : List UInt8), ([84, 97, 115, 107, 70, 97, 105, 108, 101, 100] : List UInt8), ([84, 97, 115, 107, 84, 105, 109, 101, 100, 79, 117, 116] : List UInt8), ([65, 99, 116, 105, 118, 105, 116, 121, 83, 99, 104, 101, 100, 117, 108, 101, 100] : List UInt8), ([65, 99, 116, 105, 118, 105, 116, 121, 83, 116, 97, 114, 116, 101, 100] : List UInt8), ([65, 99, 116, 105, 118, 105, 116, 121, 67, 111, 109, 112, 108, 101, 116, 101, 100] : List UInt8), ([65, 99, 116, 105, 118, 105, 116, 121, 70, 97, 105, 108, 101, 100] : List UInt8), ([65, 99, 116, 105, 118, 105, 116, 121, 84, 105, 109, 101, 100, 79, 117, 116] : List UInt8), ([65, 99, 116, 105, 118, 105, 116, 121, 67, 97, 110, 99, 101, 108, 65, 115, 107, 101, 100] : List UInt8), ([65, 99, 116, 105, 118, 105, 116, 121, 67, 97, 110, 99, 101, 108, 101, 100] : List UInt8), ([84, 105, 109, 101, 114, 83, 116, 97, 114, 116, 101, 100] : List UInt8), ([84, 105, 109, 101, 114, 70, 105, 114, 101, 100] : List UInt8), ([84, 105, 109, 101, 114, 67, 97, 110, 99, 101, 108, 101, 100] : List UInt8), ([83, 105, 103, 110, 97, 108, 101, 100] : List UInt8), ([77, 97, 114, 107, 101, 114] : List UInt8), ([67, 104, 105, 108, 100, 73, 110, 105, 116, 105, 97, 116, 101, 100] : List UInt8), ([67, 104, 105, 108, 100, 83, 116, 97, 114, 116, 101, 100] : List UInt8), ([67, 104, 105, 108, 100, 67, 111, 109, 112, 108, 101, 116, 101, 100] : List UInt8), ([67, 104, 105, 108, 100, 70, 97, 105, 108, 101, 100] : List UInt8), ([83, 101, 110, 100, 73, 110, 105, 116, 105, 97, 116, 101, 100] : List UInt8), ([83, 101, 110, 100, 68, 111, 110, 101] : List UInt8), ([83, 101, 110, 100, 70, 97, 105, 108, 101, 100] : List UInt8), ([67, 97, 110, 99, 101, 108, 65, 115, 107, 101, 100] : List UInt8), ([85, 112, 100, 97, 116, 101, 65, 99, 99, 101, 112, 116, 101, 100] : List UInt8), ([85, 112, 100, 97, 116, 101, 70, 105, 110, 105, 115, 104, 101, 100] : List UInt8), ([65, 116, 116, 114, 115] : List UInt8), ([67, 111, 109, 112, 108, 101, 116, 101, 100] : List UInt8), ([70, 97, 105, 108, 101, 100] : List UInt8), ([67, 97, 110, 99, 101, 108, 101, 100] : List UInt8), ([84, 101, 114, 109, 105, 110, 97, 116, 101, 100] : List UInt8), ([84, 105, 109, 101, 100, 79, 117, 116] : List UInt8), ([67, 111, 110, 116, 105, 110, 117, 101, 100] : List UInt8)] : List (List UInt8))).flatten))) tv90 rfl rfl rfl rfl <| r_nil <| fin_gen [] rfl rfl rfl lr st_nil
noncomputable def event_ByName_l1 (x1 : (List (List UInt8))) (p0name : (List UInt8)) (s6 : Int) : Option (Step Int (Fl (Int × Bool) Unit)) :=
 cond (decide (s6 < (35 : Int))) ((idxA 35 x1 s6).bind fun (x8 : (List UInt8)) => cond (decide (x8 = p0name)) (some (Step.out (Fl.done ((IntKind.wrap .i64 (s6 + (1 : Int))), true)))) (some (Step.next (IntKind.wrap .i64 (s6 + (1 : Int)))))) (some (Step.out (Fl.go ())))
noncomputable def event_ByName (p0name : (List UInt8)) : Option (Int × Bool) :=
 (event_names).bind fun (x1 : (List (List UInt8))) => ((loopO (event_ByName_l1 x1 p0name) ((0 : Int))) : Option (Fl (Int × Bool) Unit)).bind fun (x3 : (Fl (Int × Bool) Unit)) => Fl.next x3 (fun (j5 : Unit) => (some ((0 : Int), false)))
theorem w_event_ByName {p0name : (List UInt8)} {res : (Int × Bool)} (h : event_ByName p0name = some res) : ACalls Tryz.prog 43 [.c (.str p0name)] [] (.tup [.c (.int .i64 res.1), .c (.bool res.2)]) [] := by
 unfold event_ByName at h
 refine acalls (fn := Tryz.f43) [0, 2, 3, 4, 5, 6, 7, 8, 13] (by kernel_rfl) Tryz.func43 rfl (by kernel_rfl) (by kernel_rfl) <| w_sr <| sI rfl <| sB rfl <| o_ek (fr' := [(0, aS)]) rfl rfl <| w_seqw <| w_seqw <| w_region ?_
 obtain ⟨x1, hx1, h2⟩ := bind_s h
 refine o_v (ov_call (v := AV.ar _ _) rfl (w_event_names hx1) trivial rfl rfl lift_ar) <| mI rfl <| o_ek (fr' := [(0, aS), (6, AV.ar _ _), (7, aI)]) rfl rfl ?_
 obtain ⟨x3, hx3, h4⟩ := bind_s h2
 refine w_jtail cl_kw (fun j5 => x3 = Fl.go j5) (fun (j5 : Unit) => ([] : Fr)) (fun (j5 : Unit) => ([] : St)) ?_ ?_
 ·
  refine w_block <| w_loopo _ (fun (s6 : Int) => ([(0, .c (.str p0name)), (6, AV.ar rowS x1), (7, .c (.int .i64 s6))] : Fr)) (fun (s6 : Int) => ([] : St)) hx3 (w_weak [] 0 rfl rfl (by repeat (first | exact inb_nil | refine inb_cons rfl ?_ | refine inb_cons inb_ar ?_)) rfl ⟨lr, le_ar, lr, trivial⟩ st_nil) ?_
  intro s6 st6 hs6 ho6
  unfold event_ByName_l1 at hs6
  refine w_sr <| o_p rfl (p_lss rfl rfl) <| o_ek (fr' := [(0, aS), (6, AV.ar _ _), (7, aI), (8, aB)]) rfl rfl <| w_seqw <| w_ch hs6 rfl (fun hb7 h7 => ?_) (fun hb7 h7 => ?_)
  ·
   refine w_skip <| e_kw <| w_seqw <| w_block <| w_sr <| mI rfl ?_
   obtain ⟨x8, hx8, h9⟩ := bind_s h7
   refine o_p rfl (p_ix1 (p := PV.str _) ta90 (fun _ => rfl) rfl rfl hx8 rfl) <| sI rfl <| sS rfl <| o_ek (fr' := [(0, aS), (4, aI), (5, aS), (6, AV.ar _ _), (7, aI)]) rfl rfl <| w_sr <| mS rfl <| mS rfl <| o_p rfl (p_seql rfl rfl) <| o_ek (fr' := [(0, aS), (4, aI), (6, AV.ar _ _), (7, aI), (13, aB)]) rfl rfl <| w_ch h9 rfl (fun hb10 h10 => ?_) (fun hb10 h10 => ?_)
   ·
    refine w_sr <| mI rfl <| o_p rfl (p_add rfl rfl) <| sI rfl <| sB rfl <| o_ek (fr' := [(2, aI), (3, aB)]) rfl rfl <| w_ret <| e_blk_r <| e_seq_r <| e_seq_r <| e_blk_r <| e_seq_r ?_
    refine e_seq_r ?_
    have h11 := un_out h10 ho6
    have h12 := un_done h11 h4
    obtain rfl := sy h12
    exact e_ret (rs' := [.tmp 2, .tmp 3]) rfl <| r_tmp (v := aI) rfl <| r_tmp (v := aB) rfl <| r_nil <| fin_gen [] rfl rfl rfl (le_tupp rfl ⟨lr, lr, trivial⟩) st_nil
   ·
    exact w_skip <| e_blk_n <| e_kw <| w_region <| o_p rfl (p_add rfl rfl) <| mI rfl <| o_end (fr' := [(0, aS), (4, aI), (6, AV.ar _ _), (7, aI), (13, aB)]) rfl <| e_l _ (sy h10) (w_weak [] 0 rfl rfl (by repeat (first | exact inb_nil | refine inb_cons rfl ?_ | refine inb_cons inb_ar ?_)) rfl ⟨lr, le_ar, lr, trivial⟩ st_nil)
  ·
   refine w_exit <| e_seq_x <| e_seq_x <| e_blk_h ?_
   have h14 := un_out h7 ho6
   exact e_j _ (sy h14) (w_weak [] 0 rfl rfl rfl rfl trivial st_nil)
 ·
  intro j5 hj15
  have h15 := un_go hj15 h4
  refine e_kw <| w_sr <| sI rfl <| sB rfl <| o_ek (fr' := [(2, aI), (3, aB)]) rfl rfl <| w_ret ?_
  obtain rfl := sy h15
  exact e_ret (rs' := [.tmp 2, .tmp 3]) rfl <| r_tmp (v := aI) rfl <| r_tmp (v := aB) rfl <| r_nil <| fin_gen [] rfl rfl rfl (le_tupp rfl ⟨lr, lr, trivial⟩) st_nil
noncomputable def event_Status (p0kind : Int) : Option (Int × Bool) :=
 cond (decide (p0kind = (30 : Int))) (some ((1 : Int), true)) (cond (decide (p0kind = (31 : Int))) (some ((2 : Int), true)) (cond (decide (p0kind = (32 : Int))) (some ((3 : Int), true)) (cond (decide (p0kind = (33 : Int))) (some ((4 : Int), true)) (cond (decide (p0kind = (34 : Int))) (some ((5 : Int), true)) (cond (decide (p0kind = (35 : Int))) (some ((6 : Int), true)) (some ((0 : Int), false)))))))
theorem w_event_Status {p0kind : Int} {res : (Int × Bool)} (h : event_Status p0kind = some res) : ACalls Tryz.prog 44 [.c (.int .i64 p0kind)] [] (.tup [.c (.int .i64 res.1), .c (.bool res.2)]) [] := by
 unfold event_Status at h
 refine acalls (fn := Tryz.f44) [0, 2, 3, 4, 5, 7, 9, 11, 13, 15] (by kernel_rfl) Tryz.func44 rfl (by kernel_rfl) (by kernel_rfl) <| w_sr <| sI rfl <| sB rfl <| o_ek (fr' := [(0, aI)]) rfl rfl <| w_seqw <| w_sr <| mI rfl <| o_ek (fr' := [(4, aI)]) rfl rfl <| w_block <| w_seqw ?_
 refine w_region <| o_p rfl (p_eql rfl rfl) <| sB rfl <| o_ek (fr' := [(4, aI), (5, aB)]) rfl rfl <| w_ch h rfl (fun hb1 h1 => ?_) (fun hb1 h1 => ?_)
 ·
  refine w_sr <| sI rfl <| sB rfl <| o_ek (fr' := [(2, aI), (3, aB)]) rfl rfl <| w_ret <| e_blk_r <| e_seq_r ?_
  obtain rfl := sy h1
  exact e_ret (rs' := [.tmp 2, .tmp 3]) rfl <| r_tmp (v := aI) rfl <| r_tmp (v := aB) rfl <| r_nil <| fin_gen [] rfl rfl rfl (le_tupp rfl ⟨lr, lr, trivial⟩) st_nil
 ·
  refine w_sr <| o_p rfl (p_eql rfl rfl) <| sB rfl <| o_ek (fr' := [(4, aI), (7, aB)]) rfl rfl <| w_ch h1 rfl (fun hb3 h3 => ?_) (fun hb3 h3 => ?_)
  ·
   refine w_sr <| sI rfl <| sB rfl <| o_ek (fr' := [(2, aI), (3, aB)]) rfl rfl <| w_ret <| e_blk_r <| e_seq_r ?_
   obtain rfl := sy h3
   exact e_ret (rs' := [.tmp 2, .tmp 3]) rfl <| r_tmp (v := aI) rfl <| r_tmp (v := aB) rfl <| r_nil <| fin_gen [] rfl rfl rfl (le_tupp rfl ⟨lr, lr, trivial⟩) st_nil
  ·
   refine w_sr <| o_p rfl (p_eql rfl rfl) <| sB rfl <| o_ek (fr' := [(4, aI), (9, aB)]) rfl rfl <| w_ch h3 rfl (fun hb5 h5 => ?_) (fun hb5 h5 => ?_)
   ·
    refine w_sr <| sI rfl <| sB rfl <| o_ek (fr' := [(2, aI), (3, aB)]) rfl rfl <| w_ret <| e_blk_r <| e_seq_r ?_
    obtain rfl := sy h5
    exact e_ret (rs' := [.tmp 2, .tmp 3]) rfl <| r_tmp (v := aI) rfl <| r_tmp (v := aB) rfl <| r_nil <| fin_gen [] rfl rfl rfl (le_tupp rfl ⟨lr, lr, trivial⟩) st_nil
   ·
    refine w_sr <| o_p rfl (p_eql rfl rfl) <| sB rfl <| o_ek (fr' := [(4, aI), (11, aB)]) rfl rfl <| w_ch h5 rfl (fun hb7 h7 => ?_) (fun hb7 h7 => ?_)
    ·
     refine w_sr <| sI rfl <| sB rfl <| o_ek (fr' := [(2, aI), (3, aB)]) rfl rfl <| w_ret <| e_blk_r <| e_seq_r ?_
     obtain rfl := sy h7
     exact e_ret (rs' := [.tmp 2, .tmp 3]) rfl <| r_tmp (v := aI) rfl <| r_tmp (v := aB) rfl <| r_nil <| fin_gen [] rfl rfl rfl (le_tupp rfl ⟨lr, lr, trivial⟩) st_nil
    ·
     refine w_sr <| o_p rfl (p_eql rfl rfl) <| sB rfl <| o_ek (fr' := [(4, aI), (13, aB)]) rfl rfl <| w_ch h7 rfl (fun hb9 h9 => ?_) (fun hb9 h9 => ?_)
     ·
      refine w_sr <| sI rfl <| sB rfl <| o_ek (fr' := [(2, aI), (3, aB)]) rfl rfl <| w_ret <| e_blk_r <| e_seq_r ?_
      obtain rfl := sy h9
      exact e_ret (rs' := [.tmp 2, .tmp 3]) rfl <| r_tmp (v := aI) rfl <| r_tmp (v := aB) rfl <| r_nil <| fin_gen [] rfl rfl rfl (le_tupp rfl ⟨lr, lr, trivial⟩) st_nil
     ·
      refine w_sr <| o_p rfl (p_eql rfl rfl) <| sB rfl <| o_ek (fr' := [(15, aB)]) rfl rfl <| w_ch h9 rfl (fun hb11 h11 => ?_) (fun hb11 h11 => ?_)
      ·
       refine w_sr <| sI rfl <| sB rfl <| o_ek (fr' := [(2, aI), (3, aB)]) rfl rfl <| w_ret <| e_blk_r <| e_seq_r ?_
       obtain rfl := sy h11
       exact e_ret (rs' := [.tmp 2, .tmp 3]) rfl <| r_tmp (v := aI) rfl <| r_tmp (v := aB) rfl <| r_nil <| fin_gen [] rfl rfl rfl (le_tupp rfl ⟨lr, lr, trivial⟩) st_nil
      ·
       refine w_skip <| e_blk_n <| e_kw <| w_sr <| sI rfl <| sB rfl <| o_ek (fr' := [(2, aI), (3, aB)]) rfl rfl <| w_ret ?_
       obtain rfl := sy h11
       exact e_ret (rs' := [.tmp 2, .tmp 3]) rfl <| r_tmp (v := aI) rfl <| r_tmp (v := aB) rfl <| r_nil <| fin_gen [] rfl rfl rfl (le_tupp rfl ⟨lr, lr, trivial⟩) st_nil
noncomputable def event_Name (p0kind : Int) : Option (List UInt8) :=
 cond (cond (decide (p0kind < (1 : Int))) true (decide ((35 : Int) < p0kind))) (some ([] : List UInt8)) ((event_names).bind fun (x3 : (List (List UInt8))) => (idxA 35 x3 (IntKind.wrap .i64 (p0kind - (1 : Int)))).bind fun (x5 : (List UInt8)) => some x5)
theorem w_event_Name {p0kind : Int} {res : (List UInt8)} (h : event_Name p0kind = some res) : ACalls Tryz.prog 45 [.c (.int .i64 p0kind)] [] (.c (.str res)) [] := by
 unfold event_Name at h
 refine acalls (fn := Tryz.f45) [0, 2, 8] (by kernel_rfl) Tryz.func45 rfl (by kernel_rfl) (by kernel_rfl) <| w_sr <| sS rfl <| o_ek (fr' := [(0, aI)]) rfl rfl <| w_seqw <| w_sr <| mI rfl <| o_p rfl (p_lss rfl rfl) <| mB rfl <| og rfl rfl rfl (fun hc => (p_move (v := aI) rfl)) <| og rfl rfl rfl (fun hc => (p_gtr (gx rfl hc) rfl)) ?_
 refine o_p rfl (p_pickz rfl rfl rfl (fun e => keq e)) <| o_ek (fr' := [(0, aI), (8, aB)]) rfl rfl <| w_ch h rfl (fun hb1 h1 => ?_) (fun hb1 h1 => ?_)
 ·
  refine w_sr <| sS rfl <| o_ek (fr' := [(2, aS)]) rfl rfl <| w_ret <| e_seq_r ?_
  obtain rfl := sy h1
  exact e_ret (rs' := [.tmp 2]) rfl <| r_tmp (v := aS) rfl <| r_nil <| fin_gen [] rfl rfl rfl lr st_nil
 ·
  refine w_skip <| e_kw <| w_seqw <| w_region ?_
  obtain ⟨x3, hx3, h4⟩ := bind_s h1
  refine o_v (ov_call (v := AV.ar _ _) rfl (w_event_names hx3) trivial rfl rfl lift_ar) <| mI rfl <| o_p rfl (p_sub rfl rfl) ?_
  obtain ⟨x5, hx5, h6⟩ := bind_s h4
  refine o_p rfl (p_ix1 (p := PV.str _) ta90 (fun _ => rfl) rfl rfl hx5 rfl) <| sS rfl <| o_ek (fr' := [(2, aS)]) rfl rfl <| w_ret ?_
  obtain rfl := sy h6
  exact e_ret (rs' := [.tmp 2]) rfl <| r_tmp (v := aS) rfl <| r_nil <| fin_gen [] rfl rfl rfl lr st_nil
noncomputable def event_within (p0n : Int) (p1low : Int) (p2high : Int) : Option Bool :=
 some (cond (decide (p1low ≤ p0n)) (decide (p0n ≤ p2high)) false)
theorem w_event_within {p0n : Int} {p1low : Int} {p2high : Int} {res : Bool} (h : event_within p0n p1low p2high = some res) : ACalls Tryz.prog 27 [.c (.int .i64 p0n), .c (.int .i64 p1low), .c (.int .i64 p2high)] [] (.c (.bool res)) [] := by
 unfold event_within at h
 refine acalls (fn := Tryz.f27) [0, 1, 2, 6] (by kernel_rfl) Tryz.func27 rfl (by kernel_rfl) (by kernel_rfl) <| w_sr <| sB rfl <| o_ek (fr' := [(0, aI), (1, aI), (2, aI)]) rfl rfl <| w_sr <| mI rfl <| mI rfl <| o_p rfl (p_geq rfl rfl) <| mB rfl <| og rfl rfl rfl (fun hc => (p_move (v := aI) rfl)) <| og rfl rfl rfl (fun hc => (p_move (v := aI) rfl)) ?_
 refine og rfl rfl rfl (fun hc => (p_leq (gx rfl hc) (gx rfl hc))) <| o_p rfl (p_picky rfl rfl rfl (fun e => keq e)) <| sB rfl <| o_ek (fr' := [(6, aB)]) rfl rfl <| w_ret ?_
 obtain rfl := sy h
 exact e_ret (rs' := [.tmp 6]) rfl <| r_tmp (v := aB) rfl <| r_nil <| fin_gen [] rfl rfl rfl lr st_nil
end Go.Proofs.YtngcjjhbimanlaaGreatDoor

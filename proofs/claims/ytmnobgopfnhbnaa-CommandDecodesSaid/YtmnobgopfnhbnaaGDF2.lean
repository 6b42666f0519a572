import Derived.Test.YtmnobgopfnhbnaaGDTy
import Derived.Test.YtmnobgopfnhbnaaGDF0
import Derived.Test.YtmnobgopfnhbnaaGDF1
namespace Go.Proofs.Ytmnobgopfnhbnaa
open Go Abs
set_option maxRecDepth 100000
set_option linter.unusedVariables false
set_option linter.unusedSimpArgs false
noncomputable def command_input (p0v : ApiValue) : Option Bool :=
 (gd ((cond (!decide (p0v.Kind = (4 : Int))) true (!decide (((p0v.Items).length : Int) = (2 : Int)))) == false) (idx p0v.Items (1 : Int))).bind fun (x1 : ApiValue) => cond (cond (cond (!decide (p0v.Kind = (4 : Int))) true (!decide (((p0v.Items).length : Int) = (2 : Int)))) true (!decide (x1.Kind = (4 : Int)))) (some false) ((idx p0v.Items (1 : Int)).bind fun (x5 : ApiValue) => (slices_ContainsFunc_api_Value_api_Value_command_input_1 x5.Items).bind fun (x7 : Bool) => some (!x7))
theorem w_command_input {p0v : ApiValue} {res : Bool} (h : command_input p0v = some res) : ACalls Try.prog 84 [.agg (AV.cs (exApiValue p0v))] [] (.c (.bool res)) [] := by
 unfold command_input at h
 refine acalls (fn := Try.f84) [0, 1, 2, 19] (by kernel_rfl) Try.func84 rfl (by kernel_rfl) (by kernel_rfl) <| w_sr <| o_box (v := .agg aIISLL) (n := 0) (cs := aIISLL) (σ' := [aIISLL]) rfl rfl rfl rfl rfl <| sB rfl <| o_ek (fr' := [(1, .box 0 0)]) rfl rfl <| w_seqw <| w_sr <| o_p rfl (p_fa tf25x0 rfl) <| o_p rfl (p_load (v := aI) tv3 rfl rfl rfl) <| o_p rfl (p_neq rfl rfl) <| mB rfl ?_
 refine og rfl rfl rfl (fun hc => (p_fa tf25x3 rfl)) <| og rfl rfl rfl (fun hc => (p_load (v := aL) tv22 (gx rfl hc) rfl rfl)) <| og rfl rfl rfl (fun hc => (p_len ti22 (isl_c (gx rfl hc)))) <| og rfl rfl rfl (fun hc => (p_neq (gx rfl hc) rfl)) <| o_p rfl (p_pickz rfl rfl rfl (fun e => keq e)) <| mB rfl <| og rfl rfl rfl (fun hc => (p_fa tf25x3 rfl)) <| og rfl rfl rfl (fun hc => (p_load (v := aL) tv22 (gx rfl hc) rfl rfl)) ?_
 obtain ⟨x1, hx1, h2⟩ := bind_s h
 refine og rfl rfl rfl (fun hc => (p_ia (cs := [.int _ _, .int _ _, .str _, PV.ls _ _ _, PV.ls _ _ _]) ts22 (isl_c (gx rfl hc)) rfl (gd_some hx1 hc) (rowApiValue_eq _))) <| og rfl rfl rfl (fun hc => (p_fae tf25x0 (gx rfl hc))) <| og rfl rfl rfl (fun hc => (p_loade (p := .int _ _) tv3 (gx rfl hc) rfl)) <| og rfl rfl rfl (fun hc => (p_neq (gx rfl hc) rfl)) <| o_p rfl (p_pickz rfl rfl rfl (fun e => keq e)) <| o_ek (fr' := [(1, .box 0 0), (19, aB)]) rfl rfl <| w_ch h2 rfl (fun hb3 h3 => ?_) (fun hb3 h3 => ?_)
 ·
  refine w_sr <| sB rfl <| o_ek (fr' := [(2, aB)]) rfl rfl <| w_ret <| e_seq_r ?_
  obtain rfl := sy h3
  exact e_ret (rs' := [.tmp 2]) rfl <| r_tmp (v := aB) rfl <| r_nil <| fin_gen [] rfl rfl rfl lr st_nil
 ·
  refine w_skip <| e_kw <| w_sr <| o_p rfl (p_fa tf25x3 rfl) <| o_p rfl (p_load (v := aL) tv22 rfl rfl rfl) ?_
  obtain ⟨x5, hx5, h6⟩ := bind_s h3
  refine o_p rfl (p_ia (cs := [.int _ _, .int _ _, .str _, PV.ls _ _ _, PV.ls _ _ _]) ts22 (isl_c rfl) rfl hx5 (rowApiValue_eq _)) <| o_p rfl (p_fae tf25x3 rfl) <| o_p rfl (p_loade (p := PV.ls _ _ _) tv22 rfl rfl) ?_
  obtain ⟨x7, hx7, h8⟩ := bind_s h6
  refine o_v (ov_call (v := aB) rfl (w_slices_ContainsFunc_api_Value_api_Value_command_input_1 hx7) ⟨lr, lr, trivial⟩ rfl rfl rfl) <| o_p rfl (p_not rfl) <| sB rfl <| o_ek (fr' := [(2, aB)]) rfl rfl <| w_ret ?_
  obtain rfl := sy h8
  exact e_ret (rs' := [.tmp 2]) rfl <| r_tmp (v := aB) rfl <| r_nil <| fin_gen [] rfl rfl rfl lr st_nil
noncomputable def command_number (p0c : ApiCommand) : Option Bool :=
 cond (decide (p0c.Kind = (3 : Int))) ((command_in p0c.N (1 : Int) (1099511627776 : Int)).bind fun (x2 : Bool) => some x2) (cond (decide (p0c.Kind = (5 : Int))) ((command_in p0c.N (0 : Int) (2 : Int)).bind fun (x6 : Bool) => some x6) (cond (decide (p0c.Kind = (9 : Int))) ((command_in p0c.N (0 : Int) (1 : Int)).bind fun (x10 : Bool) => some x10) (cond (decide (p0c.Kind = (7 : Int))) ((gd ((decide (p0c.N = (-1 : Int))) == false) (command_in p0c.N (0 : Int) (2147483647 : Int))).bind fun (x14 : Bool) => some (cond (decide (p0c.N = (-1 : Int))) true (cond x14 (decide (p0c.Data.Kind = (0 : Int))) false))) (cond (decide (p0c.Kind = (10 : Int))) (some (decide (p0c.Data.Kind = (5 : Int)))) (cond (decide (p0c.Kind = (14 : Int))) ((command_input p0c.Data).bind fun (x20 : Bool) => some x20) (some true))))))
theorem w_command_number {p0c : ApiCommand} {res : Bool} (h : command_number p0c = some res) : ACalls Try.prog 47 [.agg (AV.cs (rowApiCommand p0c))] [] (.c (.bool res)) [] := by
 unfold command_number at h
 refine acalls (fn := Try.f47) [0, 1, 2, 4, 5, 10, 15, 20, 36, 42] (by kernel_rfl) Try.func47 rfl (by kernel_rfl) (by kernel_rfl) <| w_sr <| o_box (v := .agg aIISSIIISLLSIIIIIIIIL) (n := 0) (cs := aIISSIIISLLSIIIIIIIIL) (σ' := [aIISSIIISLLSIIIIIIIIL]) rfl rfl rfl rfl rfl <| sB rfl <| o_ek (fr' := [(1, .box 0 0)]) rfl rfl <| w_seqw <| w_sr <| o_p rfl (p_fa tf29x0 rfl) <| o_p rfl (p_load (v := aI) tv3 rfl rfl rfl) <| o_ek (fr' := [(1, .box 0 0), (4, aI)]) rfl rfl <| w_block ?_
 refine w_sr <| o_p rfl (p_eql rfl rfl) <| sB rfl <| o_ek (fr' := [(1, .box 0 0), (4, aI), (5, aB)]) rfl rfl <| w_ch h rfl (fun hb1 h1 => ?_) (fun hb1 h1 => ?_)
 ·
  refine w_sr <| o_p rfl (p_fa tf29x4 rfl) <| o_p rfl (p_load (v := aI) tv3 rfl rfl rfl) ?_
  obtain ⟨x2, hx2, h3⟩ := bind_s h1
  refine o_v (ov_call (v := aB) rfl (w_command_in hx2) ⟨lr, lr, lr, trivial⟩ rfl rfl rfl) <| sB rfl <| o_ek (fr' := [(2, aB)]) rfl rfl <| w_ret <| e_blk_r <| e_seq_r ?_
  obtain rfl := sy h3
  exact e_ret (rs' := [.tmp 2]) rfl <| r_tmp (v := aB) rfl <| r_nil <| fin_gen [] rfl rfl rfl lr st_nil
 ·
  refine w_sr <| o_p rfl (p_eql rfl rfl) <| sB rfl <| o_ek (fr' := [(1, .box 0 0), (4, aI), (10, aB)]) rfl rfl <| w_ch h1 rfl (fun hb5 h5 => ?_) (fun hb5 h5 => ?_)
  ·
   refine w_sr <| o_p rfl (p_fa tf29x4 rfl) <| o_p rfl (p_load (v := aI) tv3 rfl rfl rfl) ?_
   obtain ⟨x6, hx6, h7⟩ := bind_s h5
   refine o_v (ov_call (v := aB) rfl (w_command_in hx6) ⟨lr, lr, lr, trivial⟩ rfl rfl rfl) <| sB rfl <| o_ek (fr' := [(2, aB)]) rfl rfl <| w_ret <| e_blk_r <| e_seq_r ?_
   obtain rfl := sy h7
   exact e_ret (rs' := [.tmp 2]) rfl <| r_tmp (v := aB) rfl <| r_nil <| fin_gen [] rfl rfl rfl lr st_nil
  ·
   refine w_sr <| o_p rfl (p_eql rfl rfl) <| sB rfl <| o_ek (fr' := [(1, .box 0 0), (4, aI), (15, aB)]) rfl rfl <| w_ch h5 rfl (fun hb9 h9 => ?_) (fun hb9 h9 => ?_)
   ·
    refine w_sr <| o_p rfl (p_fa tf29x4 rfl) <| o_p rfl (p_load (v := aI) tv3 rfl rfl rfl) ?_
    obtain ⟨x10, hx10, h11⟩ := bind_s h9
    refine o_v (ov_call (v := aB) rfl (w_command_in hx10) ⟨lr, lr, lr, trivial⟩ rfl rfl rfl) <| sB rfl <| o_ek (fr' := [(2, aB)]) rfl rfl <| w_ret <| e_blk_r <| e_seq_r ?_
    obtain rfl := sy h11
    exact e_ret (rs' := [.tmp 2]) rfl <| r_tmp (v := aB) rfl <| r_nil <| fin_gen [] rfl rfl rfl lr st_nil
   ·
    refine w_sr <| o_p rfl (p_eql rfl rfl) <| sB rfl <| o_ek (fr' := [(1, .box 0 0), (4, aI), (20, aB)]) rfl rfl <| w_ch h9 rfl (fun hb13 h13 => ?_) (fun hb13 h13 => ?_)
    ·
     refine w_sr <| o_p rfl (p_fa tf29x4 rfl) <| o_p rfl (p_load (v := aI) tv3 rfl rfl rfl) <| o_p rfl (p_eql rfl rfl) <| mB rfl <| og rfl rfl rfl (fun hc => (p_fa tf29x4 rfl)) <| og rfl rfl rfl (fun hc => (p_load (v := aI) tv3 (gx rfl hc) rfl rfl)) ?_
     obtain ⟨x14, hx14, h15⟩ := bind_s h13
     refine o_g rfl rfl (fun hc => ov_call (v := aB) rfl (w_command_in (gd_some hx14 hc)) ⟨(le_gv (gx rfl hc) lr), lr, lr, trivial⟩ (ok_eq (by repeat (first | exact ok_nil | refine ok_cons rfl ?_ | refine ok_cons (dgv rfl) ?_))) rfl rfl) ?_
     refine og rfl rfl rfl (fun hc => (p_move (v := aB) (gx rfl hc))) <| o_gg rfl rfl (fun hc => ov_p rfl (p_fa tf29x5 rfl)) <| o_gg rfl rfl (fun hc => ov_p rfl (p_fa tf25x0 (gx rfl hc))) <| o_gg rfl rfl (fun hc => ov_p rfl (p_load (v := aI) tv3 (gx rfl hc) rfl rfl)) <| o_gg rfl rfl (fun hc => ov_p rfl (p_eql (gx rfl hc) rfl)) <| og rfl rfl rfl (fun hc => (p_picky (gx rfl hc) rfl rfl (fun e => band hc (keq e)))) <| o_p rfl (p_pickz rfl rfl rfl (fun e => keq e)) <| sB rfl <| o_ek (fr' := [(2, aB)]) rfl rfl <| w_ret <| e_blk_r <| e_seq_r ?_
     obtain rfl := sy h15
     exact e_ret (rs' := [.tmp 2]) rfl <| r_tmp (v := aB) rfl <| r_nil <| fin_gen [] rfl rfl rfl lr st_nil
    ·
     refine w_sr <| o_p rfl (p_eql rfl rfl) <| sB rfl <| o_ek (fr' := [(1, .box 0 0), (4, aI), (36, aB)]) rfl rfl <| w_ch h13 rfl (fun hb17 h17 => ?_) (fun hb17 h17 => ?_)
     ·
      refine w_sr <| o_p rfl (p_fa tf29x5 rfl) <| o_p rfl (p_fa tf25x0 rfl) <| o_p rfl (p_load (v := aI) tv3 rfl rfl rfl) <| o_p rfl (p_eql rfl rfl) <| sB rfl <| o_ek (fr' := [(2, aB)]) rfl rfl <| w_ret <| e_blk_r <| e_seq_r ?_
      obtain rfl := sy h17
      exact e_ret (rs' := [.tmp 2]) rfl <| r_tmp (v := aB) rfl <| r_nil <| fin_gen [] rfl rfl rfl lr st_nil
     ·
      refine w_sr <| o_p rfl (p_eql rfl rfl) <| sB rfl <| o_ek (fr' := [(1, .box 0 0), (42, aB)]) rfl rfl <| w_ch h17 rfl (fun hb19 h19 => ?_) (fun hb19 h19 => ?_)
      ·
       refine w_sr <| o_p rfl (p_fa tf29x5 rfl) <| o_p rfl (p_loads (us := aIISLL) tv25 rfl rfl rfl rfl) ?_
       obtain ⟨x20, hx20, h21⟩ := bind_s h19
       refine o_v (ov_call (v := aB) rfl (w_command_input hx20) ⟨(le_aggc rfl ⟨rfl, rfl, rfl, rfl, rfl, trivial⟩), trivial⟩ rfl rfl rfl) <| sB rfl <| o_ek (fr' := [(2, aB)]) rfl rfl <| w_ret <| e_blk_r <| e_seq_r ?_
       obtain rfl := sy h21
       exact e_ret (rs' := [.tmp 2]) rfl <| r_tmp (v := aB) rfl <| r_nil <| fin_gen [] rfl rfl rfl lr st_nil
      ·
       refine w_skip <| e_blk_n <| e_kw <| w_sr <| sB rfl <| o_ek (fr' := [(2, aB)]) rfl rfl <| w_ret ?_
       obtain rfl := sy h19
       exact e_ret (rs' := [.tmp 2]) rfl <| r_tmp (v := aB) rfl <| r_nil <| fin_gen [] rfl rfl rfl lr st_nil
noncomputable def command_Right (p0c : ApiCommand) : Option Bool :=
 (command_fields p0c.Kind).bind fun (x1 : CommandUses) => (command_in p0c.Kind (1 : Int) (14 : Int)).bind fun (x3 : Bool) => (gd ((!x3) == false) (command_bare p0c x1)).bind fun (x5 : Bool) => (gd ((cond (!x3) true (!x5)) == false) (value_Right p0c.Data)).bind fun (x7 : Bool) => (gd ((cond (cond (!x3) true (!x5)) true (!x7)) == false) (command_RightPolicy p0c.Opts)).bind fun (x9 : Bool) => cond (cond (cond (cond (!x3) true (!x5)) true (!x7)) true (!x9)) (some false) ((gd (x1.seq_ == true) (command_in p0c.Seq (1 : Int) (2000 : Int))).bind fun (x13 : Bool) => (gd (((cond x1.seq_ (!x13) false) == false) && (x1.key_ == true)) (command_ident p0c.Key)).bind fun (x15 : Bool) => cond (cond (cond x1.seq_ (!x13) false) true (cond x1.key_ (!x15) false)) (some false) ((gd (((x1.name_ == true) && ((cond (decide (p0c.Kind = (12 : Int))) (decide ((4096 : Int) < ((p0c.Name).length : Int))) false) == false)) && ((!decide (p0c.Kind = (12 : Int))) == true)) (name_Right p0c.Name)).bind fun (x19 : Bool) => cond (cond x1.name_ (cond (cond (decide (p0c.Kind = (12 : Int))) (decide ((4096 : Int) < ((p0c.Name).length : Int))) false) true (cond (!decide (p0c.Kind = (12 : Int))) (!x19) false)) false) (some false) ((command_number p0c).bind fun (x23 : Bool) => some x23)))
theorem w_command_Right {p0c : ApiCommand} {res : Bool} (h : command_Right p0c = some res) : ACalls Try.prog 12 [.agg (AV.cs (rowApiCommand p0c))] [] (.c (.bool res)) [] := by
 unfold command_Right at h
 refine acalls (fn := Try.f12) [0, 1, 2, 3, 28, 46, 70] (by kernel_rfl) Try.func12 rfl (by kernel_rfl) (by kernel_rfl) <| w_sr <| o_box (v := .agg aIISSIIISLLSIIIIIIIIL) (n := 0) (cs := aIISSIIISLLSIIIIIIIIL) (σ' := [aIISSIIISLLSIIIIIIIIL]) rfl rfl rfl rfl rfl <| sB rfl <| o_ek (fr' := [(1, .box 0 0)]) rfl rfl <| w_sr <| o_p rfl (p_fa tf29x0 rfl) <| o_p rfl (p_load (v := aI) tv3 rfl rfl rfl) ?_
 obtain ⟨x1, hx1, h2⟩ := bind_s h
 refine o_v (ov_call (v := .agg aBBBBBB) rfl (w_command_fields hx1) ⟨lr, trivial⟩ rfl rfl rfl) <| o_alloc (n := 1) (cs := aBBBBBB) (σ' := [aIISSIIISLLSIIIIIIIIL, aBBBBBB]) tz59 rfl rfl rfl <| o_store (v := .agg aBBBBBB) (us := aBBBBBB) (cs := aBBBBBB) (σ' := [aIISSIIISLLSIIIIIIIIL, aBBBBBB]) rfl tv59 rfl rfl rfl rfl rfl rfl rfl rfl <| o_ek (fr' := [(1, .box 0 0), (3, .box 1 0)]) rfl rfl <| w_seqw <| w_sr <| o_p rfl (p_fa tf29x0 rfl) <| o_p rfl (p_load (v := aI) tv3 rfl rfl rfl) ?_
 obtain ⟨x3, hx3, h4⟩ := bind_s h2
 refine o_v (ov_call (v := aB) rfl (w_command_in hx3) ⟨lr, lr, lr, trivial⟩ rfl rfl rfl) <| o_p rfl (p_not rfl) <| mB rfl <| og rfl rfl rfl (fun hc => (p_loads (us := aIISSIIISLLSIIIIIIIIL) tv29 rfl rfl rfl rfl)) <| og rfl rfl rfl (fun hc => (p_loads (us := aBBBBBB) tv59 rfl rfl rfl rfl)) ?_
 obtain ⟨x5, hx5, h6⟩ := bind_s h4
 refine o_g rfl rfl (fun hc => ov_call (v := aB) rfl (w_command_bare (gd_some hx5 hc)) ⟨(le_gv (gx rfl hc) (le_aggc rfl ⟨rfl, rfl, rfl, rfl, rfl, rfl, rfl, rfl, rfl, rfl, rfl, rfl, rfl, rfl, rfl, rfl, rfl, rfl, rfl, rfl, trivial⟩)), (le_gv (gx rfl hc) (le_aggc rfl ⟨rfl, rfl, rfl, rfl, rfl, rfl, trivial⟩)), trivial⟩ (ok_eq (by repeat (first | exact ok_nil | refine ok_cons rfl ?_ | refine ok_cons (dgv rfl) ?_))) rfl rfl) ?_
 refine og rfl rfl rfl (fun hc => (p_not (gx rfl hc))) <| o_p rfl (p_pickz rfl rfl rfl (fun e => keq e)) <| mB rfl <| og rfl rfl rfl (fun hc => (p_fa tf29x5 rfl)) <| og rfl rfl rfl (fun hc => (p_loads (us := aIISLL) tv25 (gx rfl hc) rfl rfl rfl)) ?_
 obtain ⟨x7, hx7, h8⟩ := bind_s h6
 refine o_g rfl rfl (fun hc => ov_call (v := aB) rfl (w_value_Right (gd_some hx7 hc)) ⟨(le_gv (gx rfl hc) (le_aggc rfl ⟨rfl, rfl, rfl, rfl, rfl, trivial⟩)), trivial⟩ (ok_eq (by repeat (first | exact ok_nil | refine ok_cons rfl ?_ | refine ok_cons (dgv rfl) ?_))) rfl rfl) ?_
 refine og rfl rfl rfl (fun hc => (p_not (gx rfl hc))) <| o_p rfl (p_pickz rfl rfl rfl (fun e => keq e)) <| mB rfl <| og rfl rfl rfl (fun hc => (p_fa tf29x6 rfl)) <| og rfl rfl rfl (fun hc => (p_loads (us := aSIIIIIIIIL) tv27 (gx rfl hc) rfl rfl rfl)) ?_
 obtain ⟨x9, hx9, h10⟩ := bind_s h8
 refine o_g rfl rfl (fun hc => ov_call (v := aB) rfl (w_command_RightPolicy (gd_some hx9 hc)) ⟨(le_gv (gx rfl hc) (le_aggc rfl ⟨rfl, rfl, rfl, rfl, rfl, rfl, rfl, rfl, rfl, rfl, trivial⟩)), trivial⟩ (ok_eq (by repeat (first | exact ok_nil | refine ok_cons rfl ?_ | refine ok_cons (dgv rfl) ?_))) rfl rfl) ?_
 refine og rfl rfl rfl (fun hc => (p_not (gx rfl hc))) <| o_p rfl (p_pickz rfl rfl rfl (fun e => keq e)) <| o_ek (fr' := [(1, .box 0 0), (3, .box 1 0), (28, aB)]) rfl rfl <| w_ch h10 rfl (fun hb11 h11 => ?_) (fun hb11 h11 => ?_)
 ·
  refine w_sr <| sB rfl <| o_ek (fr' := [(2, aB)]) rfl rfl <| w_ret <| e_seq_r ?_
  obtain rfl := sy h11
  exact e_ret (rs' := [.tmp 2]) rfl <| r_tmp (v := aB) rfl <| r_nil <| fin_gen [] rfl rfl rfl lr st_nil
 ·
  refine w_skip <| e_kw <| w_seqw <| w_sr <| o_p rfl (p_fa tf59x0 rfl) <| o_p rfl (p_load (v := aB) tv4 rfl rfl rfl) <| mB rfl <| og rfl rfl rfl (fun hc => (p_fa tf29x1 rfl)) <| og rfl rfl rfl (fun hc => (p_load (v := aI) tv3 (gx rfl hc) rfl rfl)) ?_
  obtain ⟨x13, hx13, h14⟩ := bind_s h11
  refine o_g rfl rfl (fun hc => ov_call (v := aB) rfl (w_command_in (gd_some hx13 hc)) ⟨(le_gv (gx rfl hc) lr), lr, lr, trivial⟩ (ok_eq (by repeat (first | exact ok_nil | refine ok_cons rfl ?_ | refine ok_cons (dgv rfl) ?_))) rfl rfl) ?_
  refine og rfl rfl rfl (fun hc => (p_not (gx rfl hc))) <| o_p rfl (p_picky rfl rfl rfl (fun e => keq e)) <| mB rfl <| og rfl rfl rfl (fun hc => (p_fa tf59x2 rfl)) <| og rfl rfl rfl (fun hc => (p_load (v := aB) tv4 (gx rfl hc) rfl rfl)) <| og rfl rfl rfl (fun hc => (p_move (v := aB) (gx rfl hc))) <| o_gg rfl rfl (fun hc => ov_p rfl (p_fa tf29x3 rfl)) <| o_gg rfl rfl (fun hc => ov_p rfl (p_load (v := aS) tv9 (gx rfl hc) rfl rfl)) ?_
  obtain ⟨x15, hx15, h16⟩ := bind_s h14
  refine o_gg rfl rfl (fun hc => ov_call (v := aB) rfl (w_command_ident (gd_some hx15 hc)) ⟨(le_gv (gx rfl hc) lr), trivial⟩ (ok_eq (by repeat (first | exact ok_nil | refine ok_cons rfl ?_ | refine ok_cons (dgv rfl) ?_))) rfl rfl) ?_
  refine o_gg rfl rfl (fun hc => ov_p rfl (p_not (gx rfl hc))) <| og rfl rfl rfl (fun hc => (p_picky (gx rfl hc) rfl rfl (fun e => band hc (keq e)))) <| o_p rfl (p_pickz rfl rfl rfl (fun e => keq e)) <| o_ek (fr' := [(1, .box 0 0), (3, .box 1 0), (46, aB)]) rfl rfl <| w_ch h16 rfl (fun hb17 h17 => ?_) (fun hb17 h17 => ?_)
  ·
   refine w_sr <| sB rfl <| o_ek (fr' := [(2, aB)]) rfl rfl <| w_ret <| e_seq_r ?_
   obtain rfl := sy h17
   exact e_ret (rs' := [.tmp 2]) rfl <| r_tmp (v := aB) rfl <| r_nil <| fin_gen [] rfl rfl rfl lr st_nil
  ·
   refine w_skip <| e_kw <| w_seqw <| w_sr <| o_p rfl (p_fa tf59x1 rfl) <| o_p rfl (p_load (v := aB) tv4 rfl rfl rfl) <| mB rfl <| og rfl rfl rfl (fun hc => (p_fa tf29x0 rfl)) <| og rfl rfl rfl (fun hc => (p_load (v := aI) tv3 (gx rfl hc) rfl rfl)) <| og rfl rfl rfl (fun hc => (p_eql (gx rfl hc) rfl)) <| og rfl rfl rfl (fun hc => (p_move (v := aB) (gx rfl hc))) <| o_gg rfl rfl (fun hc => ov_p rfl (p_fa tf29x2 rfl)) ?_
   refine o_gg rfl rfl (fun hc => ov_p rfl (p_load (v := aS) tv9 (gx rfl hc) rfl rfl)) <| o_gg rfl rfl (fun hc => ov_p rfl (p_lens ti9 (gx rfl hc))) <| o_gg rfl rfl (fun hc => ov_p rfl (p_gtr (gx rfl hc) rfl)) <| og rfl rfl rfl (fun hc => (p_picky (gx rfl hc) rfl rfl (fun e => band hc (keq e)))) <| og rfl rfl rfl (fun hc => (p_move (v := aB) (gx rfl hc))) <| o_gg rfl rfl (fun hc => ov_p rfl (p_fa tf29x0 rfl)) <| o_gg rfl rfl (fun hc => ov_p rfl (p_load (v := aI) tv3 (gx rfl hc) rfl rfl)) <| o_gg rfl rfl (fun hc => ov_p rfl (p_neq (gx rfl hc) rfl)) <| o_gg rfl rfl (fun hc => ov_p rfl (p_move (v := aB) (gx rfl hc))) <| o_gg rfl rfl (fun hc => ov_p rfl (p_fa tf29x2 rfl)) <| o_gg rfl rfl (fun hc => ov_p rfl (p_load (v := aS) tv9 (gx rfl hc) rfl rfl)) ?_
   obtain ⟨x19, hx19, h20⟩ := bind_s h17
   refine o_gg rfl rfl (fun hc => ov_call (v := aB) rfl (w_name_Right (gd_some hx19 hc)) ⟨(le_gv (gx rfl hc) lr), trivial⟩ (ok_eq (by repeat (first | exact ok_nil | refine ok_cons rfl ?_ | refine ok_cons (dgv rfl) ?_))) rfl rfl) ?_
   refine o_gg rfl rfl (fun hc => ov_p rfl (p_not (gx rfl hc))) <| o_gg rfl rfl (fun hc => ov_p rfl (p_picky (gx rfl hc) rfl rfl (fun e => band hc (keq e)))) <| og rfl rfl rfl (fun hc => (p_pickz (gx rfl hc) rfl rfl (fun e => band hc (keq e)))) <| o_p rfl (p_picky rfl rfl rfl (fun e => keq e)) <| o_ek (fr' := [(1, .box 0 0), (70, aB)]) rfl rfl <| w_ch h20 rfl (fun hb21 h21 => ?_) (fun hb21 h21 => ?_)
   ·
    refine w_sr <| sB rfl <| o_ek (fr' := [(2, aB)]) rfl rfl <| w_ret <| e_seq_r ?_
    obtain rfl := sy h21
    exact e_ret (rs' := [.tmp 2]) rfl <| r_tmp (v := aB) rfl <| r_nil <| fin_gen [] rfl rfl rfl lr st_nil
   ·
    refine w_skip <| e_kw <| w_sr <| o_p rfl (p_loads (us := aIISSIIISLLSIIIIIIIIL) tv29 rfl rfl rfl rfl) ?_
    obtain ⟨x23, hx23, h24⟩ := bind_s h21
    refine o_v (ov_call (v := aB) rfl (w_command_number hx23) ⟨(le_aggc rfl ⟨rfl, rfl, rfl, rfl, rfl, rfl, rfl, rfl, rfl, rfl, rfl, rfl, rfl, rfl, rfl, rfl, rfl, rfl, rfl, rfl, trivial⟩), trivial⟩ rfl rfl rfl) <| sB rfl <| o_ek (fr' := [(2, aB)]) rfl rfl <| w_ret ?_
    obtain rfl := sy h24
    exact e_ret (rs' := [.tmp 2]) rfl <| r_tmp (v := aB) rfl <| r_nil <| fin_gen [] rfl rfl rfl lr st_nil
noncomputable def slices_Index_string_string_l1 (p0s : (List (List UInt8))) (p1v : (List UInt8)) (s4 : Int) : Option (Step Int (Fl Int Unit)) :=
 cond (decide (s4 < ((p0s).length : Int))) ((idx p0s s4).bind fun (x6 : (List UInt8)) => cond (decide (p1v = x6)) (some (Step.out (Fl.done s4))) (some (Step.next (IntKind.wrap .i64 (s4 + (1 : Int)))))) (some (Step.out (Fl.go ())))
noncomputable def slices_Index_string_string (p0s : (List (List UInt8))) (p1v : (List UInt8)) : Option Int :=
 ((loopO (slices_Index_string_string_l1 p0s p1v) ((0 : Int))) : Option (Fl Int Unit)).bind fun (x1 : (Fl Int Unit)) => Fl.next x1 (fun (j3 : Unit) => (some (-1 : Int)))
theorem w_slices_Index_string_string {p0s : (List (List UInt8))} {p1v : (List UInt8)} {res : Int} (h : slices_Index_string_string p0s p1v = some res) : ACalls Try.prog 57 [.c (PV.ls 1 rowS p0s), .c (.str p1v)] [] (.c (.int .i64 res)) [] := by
 unfold slices_Index_string_string at h
 refine acalls (fn := Try.f57) [0, 1, 4, 5, 7, 8, 9, 16] (by kernel_rfl) Try.func57 rfl (by kernel_rfl) (by kernel_rfl) <| w_sr <| sI rfl <| o_ek (fr' := [(0, aL), (1, aS)]) rfl rfl <| w_seqw <| w_sr <| mL rfl <| o_p rfl (p_len ti23 (isl_c rfl)) <| mI rfl <| o_ek (fr' := [(0, aL), (1, aS), (7, aI), (8, aI)]) rfl rfl ?_
 obtain ⟨x1, hx1, h2⟩ := bind_s h
 refine w_jtail cl_kw (fun j3 => x1 = Fl.go j3) (fun (j3 : Unit) => ([] : Fr)) (fun (j3 : Unit) => ([] : St)) ?_ ?_
 ·
  refine w_block <| w_loopo _ (fun (s4 : Int) => ([(0, .c (PV.ls 1 rowS p0s)), (1, .c (.str p1v)), (7, .c (.int .i64 ((p0s).length : Int))), (8, .c (.int .i64 s4))] : Fr)) (fun (s4 : Int) => ([] : St)) hx1 (w_weak [] 0 rfl rfl rfl rfl ⟨lr, lr, lr, lr, trivial⟩ st_nil) ?_
  intro s4 st4 hs4 ho4
  unfold slices_Index_string_string_l1 at hs4
  refine w_sr <| o_p rfl (p_lss rfl rfl) <| o_ek (fr' := [(0, aL), (1, aS), (7, aI), (8, aI), (9, aB)]) rfl rfl <| w_seqw <| w_ch hs4 rfl (fun hb5 h5 => ?_) (fun hb5 h5 => ?_)
  ·
   refine w_skip <| e_kw <| w_seqw <| w_block <| w_sr <| mI rfl <| sI rfl <| o_ek (fr' := [(0, aL), (1, aS), (5, aI), (7, aI), (8, aI)]) rfl rfl <| w_sr <| mS rfl <| mL rfl ?_
   refine mI rfl ?_
   obtain ⟨x6, hx6, h7⟩ := bind_s h5
   refine o_p rfl (p_ia (cs := [.str _]) ts23 (isl_c rfl) rfl hx6 rfl) <| o_p rfl (p_loade (p := .str _) tv9 rfl rfl) <| o_p rfl (p_seql rfl rfl) <| o_ek (fr' := [(0, aL), (1, aS), (5, aI), (7, aI), (8, aI), (16, aB)]) rfl rfl <| w_ch h7 rfl (fun hb8 h8 => ?_) (fun hb8 h8 => ?_)
   ·
    refine w_sr <| mI rfl <| sI rfl <| o_ek (fr' := [(4, aI)]) rfl rfl <| w_ret <| e_blk_r <| e_seq_r <| e_seq_r <| e_blk_r <| e_seq_r <| e_seq_r ?_
    have h9 := un_out h8 ho4
    have h10 := un_done h9 h2
    obtain rfl := sy h10
    exact e_ret (rs' := [.tmp 4]) rfl <| r_tmp (v := aI) rfl <| r_nil <| fin_gen [] rfl rfl rfl lr st_nil
   ·
    exact w_skip <| e_blk_n <| e_kw <| w_region <| o_p rfl (p_add rfl rfl) <| mI rfl <| o_end (fr' := [(0, aL), (1, aS), (5, aI), (7, aI), (8, aI), (16, aB)]) rfl <| e_l _ (sy h8) (w_weak [] 0 rfl rfl rfl rfl ⟨lr, lr, lr, lr, trivial⟩ st_nil)
  ·
   refine w_exit <| e_seq_x <| e_seq_x <| e_blk_h ?_
   have h12 := un_out h5 ho4
   exact e_j _ (sy h12) (w_weak [] 0 rfl rfl rfl rfl trivial st_nil)
 ·
  intro j3 hj13
  have h13 := un_go hj13 h2
  refine e_kw <| w_sr <| sI rfl <| o_ek (fr' := [(4, aI)]) rfl rfl <| w_ret ?_
  obtain rfl := sy h13
  exact e_ret (rs' := [.tmp 4]) rfl <| r_tmp (v := aI) rfl <| r_nil <| fin_gen [] rfl rfl rfl lr st_nil
noncomputable def command_numbers_v2 (p100vx0 : (List UInt8)) (p100vx1 : Int) (p100vx2 : Int) (p100vx3 : Int) (p100vx4 : Int) (p100vx5 : Int) (p100vx6 : Int) (p100vx7 : Int) (p100vx8 : Int) (p100vx9 : (List (List UInt8))) : Option ((List UInt8) × Int × Int × Int × Int × Int × Int × Int × Int × (List (List UInt8))) :=
 some (p100vx0, p100vx1, p100vx2, p100vx3, p100vx4, p100vx5, p100vx6, p100vx7, p100vx8, p100vx9)
theorem w_command_numbers_v2 {p100vx0 : (List UInt8)} {p100vx1 : Int} {p100vx2 : Int} {p100vx3 : Int} {p100vx4 : Int} {p100vx5 : Int} {p100vx6 : Int} {p100vx7 : Int} {p100vx8 : Int} {p100vx9 : (List (List UInt8))} {res : ((List UInt8) × Int × Int × Int × Int × Int × Int × Int × Int × (List (List UInt8)))} (h : command_numbers_v2 p100vx0 p100vx1 p100vx2 p100vx3 p100vx4 p100vx5 p100vx6 p100vx7 p100vx8 p100vx9 = some res) : ACalls Try.prog 58 [.box 0 0] [[.c (.str p100vx0), .c (.int .i64 p100vx1), .c (.int .i64 p100vx2), .c (.int .i64 p100vx3), .c (.int .i64 p100vx4), .c (.int .i64 p100vx5), .c (.int .i64 p100vx6), .c (.int .i64 p100vx7), .c (.int .i64 p100vx8), AV.os 1600000 1 rowS p100vx9]] (.ptrs [(0, 1), (0, 2), (0, 3), (0, 4), (0, 5), (0, 6), (0, 7), (0, 8)]) [[.c (.str res.1), .c (.int .i64 res.2.1), .c (.int .i64 res.2.2.1), .c (.int .i64 res.2.2.2.1), .c (.int .i64 res.2.2.2.2.1), .c (.int .i64 res.2.2.2.2.2.1), .c (.int .i64 res.2.2.2.2.2.2.1), .c (.int .i64 res.2.2.2.2.2.2.2.1), .c (.int .i64 res.2.2.2.2.2.2.2.2.1), AV.os 0 1 rowS res.2.2.2.2.2.2.2.2.2]] := by
 unfold command_numbers_v2 at h
 refine acalls (fn := Try.f58) [0, 2] (by kernel_rfl) Try.func58 rfl (by kernel_rfl) (by kernel_rfl) <| w_sr <| sV (v := .nil) rfl <| o_ek (fr' := [(0, .box 0 0)]) rfl rfl <| w_seqw <| w_planT [.q 0, .q 1, .q 2, .q 3, .q 4, .q 5, .q 6, .q 7, .q 8, .q 9, .q 10, .q 11, .q 12, .q 13, .q 14, .q 15, .q 16, .q 17, .q 18, .q 19, .q 20, .q 21, .q 22, .q 23, .n 24 [], .n 25 []] [(some 3, [0]), (some 4, [3]), (some 5, [4]), (some 6, [0]), (some 7, [6]), (some 8, [7]), (some 9, [0]), (some 10, [9]), (some 11, [10]), (some 12, [0]), (some 13, [12]), (some 14, [13]), (some 15, [0]), (some 16, [15]), (some 17, [16]), (some 18, [0]), (some 19, [18]), (some 20, [19]), (some 21, [0]), (some 22, [21]), (some 23, [22]), (some 24, [0]), (some 25, [24]), (some 26, [25]), (some 27, [5, 8, 11, 14, 17, 20, 23, 26]), (some 2, [27])] [0, 1, 3, 0, 8, 24, 0, 64, 192, 0, 512, 1536, 0, 4096, 12288, 0, 32768, 98304, 0, 262144, 786432, 0, 2097152, 6291456, 16777215, 33554431] (by kernel_rfl) <| dq rfl rfl (p_move (v := .box 0 0) rfl) <| dq rfl rfl (p_nc rfl) <| dq rfl rfl (p_fa tf27x1 rfl) <| dq rfl rfl (p_move (v := .box 0 0) rfl) <| dq rfl rfl (p_nc rfl) <| dq rfl rfl (p_fa tf27x2 rfl) ?_
 refine dq rfl rfl (p_move (v := .box 0 0) rfl) <| dq rfl rfl (p_nc rfl) <| dq rfl rfl (p_fa tf27x3 rfl) <| dq rfl rfl (p_move (v := .box 0 0) rfl) <| dq rfl rfl (p_nc rfl) <| dq rfl rfl (p_fa tf27x4 rfl) <| dq rfl rfl (p_move (v := .box 0 0) rfl) <| dq rfl rfl (p_nc rfl) <| dq rfl rfl (p_fa tf27x5 rfl) <| dq rfl rfl (p_move (v := .box 0 0) rfl) <| dq rfl rfl (p_nc rfl) <| dq rfl rfl (p_fa tf27x6 rfl) <| dq rfl rfl (p_move (v := .box 0 0) rfl) ?_
 refine dq rfl rfl (p_nc rfl) <| dq rfl rfl (p_fa tf27x7 rfl) <| dq rfl rfl (p_move (v := .box 0 0) rfl) <| dq rfl rfl (p_nc rfl) <| dq rfl rfl (p_fa tf27x8 rfl) <| d_n rfl ?_ rfl
 refine o_ptrs (l := [(0, 1), (0, 2), (0, 3), (0, 4), (0, 5), (0, 6), (0, 7), (0, 8)]) ts70 rfl rfl rfl rfl <| o_rc <| ⟨rc_nil, ?_⟩
 refine d_n rfl ?_ rfl
 refine sV (v := .ptrs [(0, 1), (0, 2), (0, 3), (0, 4), (0, 5), (0, 6), (0, 7), (0, 8)]) rfl <| o_rc <| ⟨rc_nil, ?_⟩
 refine d_ek (fr' := [(2, .ptrs [(0, 1), (0, 2), (0, 3), (0, 4), (0, 5), (0, 6), (0, 7), (0, 8)])]) rfl rfl <| w_ret ?_
 obtain rfl := sy h
 exact e_ret (rs' := [.tmp 2]) rfl <| r_tmp (v := .ptrs [(0, 1), (0, 2), (0, 3), (0, 4), (0, 5), (0, 6), (0, 7), (0, 8)]) rfl <| r_nil <| fin_tok [1600000] rfl rfl rfl lr (st_p ⟨lr, lr, lr, lr, lr, lr, lr, lr, lr, lr, trivial⟩ st_nil)
noncomputable def command_numbers (p100vx0 : (List UInt8)) (p100vx1 : Int) (p100vx2 : Int) (p100vx3 : Int) (p100vx4 : Int) (p100vx5 : Int) (p100vx6 : Int) (p100vx7 : Int) (p100vx8 : Int) : Option Unit :=
 some ()
theorem w_command_numbers {p100vx0 : (List UInt8)} {p100vx1 : Int} {p100vx2 : Int} {p100vx3 : Int} {p100vx4 : Int} {p100vx5 : Int} {p100vx6 : Int} {p100vx7 : Int} {p100vx8 : Int} {res : Unit} (h : command_numbers p100vx0 p100vx1 p100vx2 p100vx3 p100vx4 p100vx5 p100vx6 p100vx7 p100vx8 = some res) : ACalls Try.prog 58 [.box 0 0] [[.c (.str p100vx0), .c (.int .i64 p100vx1), .c (.int .i64 p100vx2), .c (.int .i64 p100vx3), .c (.int .i64 p100vx4), .c (.int .i64 p100vx5), .c (.int .i64 p100vx6), .c (.int .i64 p100vx7), .c (.int .i64 p100vx8), .nil]] (.ptrs [(0, 1), (0, 2), (0, 3), (0, 4), (0, 5), (0, 6), (0, 7), (0, 8)]) [[.c (.str p100vx0), .c (.int .i64 p100vx1), .c (.int .i64 p100vx2), .c (.int .i64 p100vx3), .c (.int .i64 p100vx4), .c (.int .i64 p100vx5), .c (.int .i64 p100vx6), .c (.int .i64 p100vx7), .c (.int .i64 p100vx8), .nil]] := by
 unfold command_numbers at h
 refine acalls (fn := Try.f58) [0, 2] (by kernel_rfl) Try.func58 rfl (by kernel_rfl) (by kernel_rfl) <| w_sr <| sV (v := .nil) rfl <| o_ek (fr' := [(0, .box 0 0)]) rfl rfl <| w_seqw <| w_planT [.q 0, .q 1, .q 2, .q 3, .q 4, .q 5, .q 6, .q 7, .q 8, .q 9, .q 10, .q 11, .q 12, .q 13, .q 14, .q 15, .q 16, .q 17, .q 18, .q 19, .q 20, .q 21, .q 22, .q 23, .n 24 [], .n 25 []] [(some 3, [0]), (some 4, [3]), (some 5, [4]), (some 6, [0]), (some 7, [6]), (some 8, [7]), (some 9, [0]), (some 10, [9]), (some 11, [10]), (some 12, [0]), (some 13, [12]), (some 14, [13]), (some 15, [0]), (some 16, [15]), (some 17, [16]), (some 18, [0]), (some 19, [18]), (some 20, [19]), (some 21, [0]), (some 22, [21]), (some 23, [22]), (some 24, [0]), (some 25, [24]), (some 26, [25]), (some 27, [5, 8, 11, 14, 17, 20, 23, 26]), (some 2, [27])] [0, 1, 3, 0, 8, 24, 0, 64, 192, 0, 512, 1536, 0, 4096, 12288, 0, 32768, 98304, 0, 262144, 786432, 0, 2097152, 6291456, 16777215, 33554431] (by kernel_rfl) <| dq rfl rfl (p_move (v := .box 0 0) rfl) <| dq rfl rfl (p_nc rfl) <| dq rfl rfl (p_fa tf27x1 rfl) <| dq rfl rfl (p_move (v := .box 0 0) rfl) <| dq rfl rfl (p_nc rfl) <| dq rfl rfl (p_fa tf27x2 rfl) ?_
 refine dq rfl rfl (p_move (v := .box 0 0) rfl) <| dq rfl rfl (p_nc rfl) <| dq rfl rfl (p_fa tf27x3 rfl) <| dq rfl rfl (p_move (v := .box 0 0) rfl) <| dq rfl rfl (p_nc rfl) <| dq rfl rfl (p_fa tf27x4 rfl) <| dq rfl rfl (p_move (v := .box 0 0) rfl) <| dq rfl rfl (p_nc rfl) <| dq rfl rfl (p_fa tf27x5 rfl) <| dq rfl rfl (p_move (v := .box 0 0) rfl) <| dq rfl rfl (p_nc rfl) <| dq rfl rfl (p_fa tf27x6 rfl) <| dq rfl rfl (p_move (v := .box 0 0) rfl) ?_
 refine dq rfl rfl (p_nc rfl) <| dq rfl rfl (p_fa tf27x7 rfl) <| dq rfl rfl (p_move (v := .box 0 0) rfl) <| dq rfl rfl (p_nc rfl) <| dq rfl rfl (p_fa tf27x8 rfl) <| d_n rfl ?_ rfl
 refine o_ptrs (l := [(0, 1), (0, 2), (0, 3), (0, 4), (0, 5), (0, 6), (0, 7), (0, 8)]) ts70 rfl rfl rfl rfl <| o_rc <| ⟨rc_nil, ?_⟩
 refine d_n rfl ?_ rfl
 refine sV (v := .ptrs [(0, 1), (0, 2), (0, 3), (0, 4), (0, 5), (0, 6), (0, 7), (0, 8)]) rfl <| o_rc <| ⟨rc_nil, ?_⟩
 refine d_ek (fr' := [(2, .ptrs [(0, 1), (0, 2), (0, 3), (0, 4), (0, 5), (0, 6), (0, 7), (0, 8)])]) rfl rfl <| w_ret ?_
 obtain rfl := sy h
 exact e_ret (rs' := [.tmp 2]) rfl <| r_tmp (v := .ptrs [(0, 1), (0, 2), (0, 3), (0, 4), (0, 5), (0, 6), (0, 7), (0, 8)]) rfl <| r_nil <| fin_tok [] rfl rfl rfl lr (st_r rfl st_nil)
noncomputable def command_Policy_l2 (x12 : ApiValue) (s33 : (Int × (List (List UInt8)))) : Option (Step (Int × (List (List UInt8))) (Fl (Step (Int × (List UInt8) × Int × Int × Int × Int × Int × Int × Int × Int × (List (List UInt8))) (Fl (ApiPolicy × Int) ((List UInt8) × Int × Int × Int × Int × Int × Int × Int × Int × (List (List UInt8))))) (List (List UInt8)))) :=
 cond (decide (s33.1 < ((x12.Items).length : Int))) ((idx x12.Items s33.1).bind fun (x35 : ApiValue) => cond (!decide (x35.Kind = (3 : Int))) (some (Step.out (Fl.done (Step.out (Fl.done ((ApiPolicy.mk ([] : List UInt8) (0 : Int) (0 : Int) (0 : Int) (0 : Int) (0 : Int) (0 : Int) (0 : Int) (0 : Int) ([] : (List (List UInt8)))), (12 : Int))))))) ((app 16 s33.2 ([x35.Text] : List (List UInt8))).bind fun (x43 : (List (List UInt8))) => some (Step.next ((IntKind.wrap .i64 (s33.1 + (1 : Int))), x43)))) (some (Step.out (Fl.go s33.2)))
noncomputable def command_Policy_l1 (p0v : ApiValue) (s8 : (Int × (List UInt8) × Int × Int × Int × Int × Int × Int × Int × Int × (List (List UInt8)))) : Option (Step (Int × (List UInt8) × Int × Int × Int × Int × Int × Int × Int × Int × (List (List UInt8))) (Fl (ApiPolicy × Int) ((List UInt8) × Int × Int × Int × Int × Int × Int × Int × Int × (List (List UInt8))))) :=
 cond (decide (s8.1 < ((p0v.Keys).length : Int))) ((idx p0v.Keys s8.1).bind fun (x10 : (List UInt8)) => (idx p0v.Items s8.1).bind fun (x12 : ApiValue) => (slices_Index_string_string ([([116, 111, 83, 116, 97, 114, 116] : List UInt8), ([116, 111, 67, 108, 111, 115, 101] : List UInt8), ([116, 111, 116, 97, 108] : List UInt8), ([98, 101, 97, 116] : List UInt8), ([102, 105, 114, 115, 116] : List UInt8), ([99, 111, 101, 102] : List UInt8), ([109, 111, 115, 116] : List UInt8), ([97, 116, 116, 101, 109, 112, 116, 115] : List UInt8)] : List (List UInt8)) x10).bind fun (x14 : Int) => cond (cond (decide ((0 : Int) ≤ x14)) (decide (x12.Kind = (2 : Int))) false) ((command_numbers_v2 s8.2.1 s8.2.2.1 s8.2.2.2.1 s8.2.2.2.2.1 s8.2.2.2.2.2.1 s8.2.2.2.2.2.2.1 s8.2.2.2.2.2.2.2.1 s8.2.2.2.2.2.2.2.2.1 s8.2.2.2.2.2.2.2.2.2.1 s8.2.2.2.2.2.2.2.2.2.2).bind fun (x17 : ((List UInt8) × Int × Int × Int × Int × Int × Int × Int × Int × (List (List UInt8)))) => cond (decide (x14 = (0 : Int))) (some (Step.next ((IntKind.wrap .i64 (s8.1 + (1 : Int))), x17.1, x12.Int, x17.2.2.1, x17.2.2.2.1, x17.2.2.2.2.1, x17.2.2.2.2.2.1, x17.2.2.2.2.2.2.1, x17.2.2.2.2.2.2.2.1, x17.2.2.2.2.2.2.2.2.1, x17.2.2.2.2.2.2.2.2.2))) (cond (decide (x14 = (1 : Int))) (some (Step.next ((IntKind.wrap .i64 (s8.1 + (1 : Int))), x17.1, x17.2.1, x12.Int, x17.2.2.2.1, x17.2.2.2.2.1, x17.2.2.2.2.2.1, x17.2.2.2.2.2.2.1, x17.2.2.2.2.2.2.2.1, x17.2.2.2.2.2.2.2.2.1, x17.2.2.2.2.2.2.2.2.2))) (cond (decide (x14 = (2 : Int))) (some (Step.next ((IntKind.wrap .i64 (s8.1 + (1 : Int))), x17.1, x17.2.1, x17.2.2.1, x12.Int, x17.2.2.2.2.1, x17.2.2.2.2.2.1, x17.2.2.2.2.2.2.1, x17.2.2.2.2.2.2.2.1, x17.2.2.2.2.2.2.2.2.1, x17.2.2.2.2.2.2.2.2.2))) (cond (decide (x14 = (3 : Int))) (some (Step.next ((IntKind.wrap .i64 (s8.1 + (1 : Int))), x17.1, x17.2.1, x17.2.2.1, x17.2.2.2.1, x12.Int, x17.2.2.2.2.2.1, x17.2.2.2.2.2.2.1, x17.2.2.2.2.2.2.2.1, x17.2.2.2.2.2.2.2.2.1, x17.2.2.2.2.2.2.2.2.2))) (cond (decide (x14 = (4 : Int))) (some (Step.next ((IntKind.wrap .i64 (s8.1 + (1 : Int))), x17.1, x17.2.1, x17.2.2.1, x17.2.2.2.1, x17.2.2.2.2.1, x12.Int, x17.2.2.2.2.2.2.1, x17.2.2.2.2.2.2.2.1, x17.2.2.2.2.2.2.2.2.1, x17.2.2.2.2.2.2.2.2.2))) (cond (decide (x14 = (5 : Int))) (some (Step.next ((IntKind.wrap .i64 (s8.1 + (1 : Int))), x17.1, x17.2.1, x17.2.2.1, x17.2.2.2.1, x17.2.2.2.2.1, x17.2.2.2.2.2.1, x12.Int, x17.2.2.2.2.2.2.2.1, x17.2.2.2.2.2.2.2.2.1, x17.2.2.2.2.2.2.2.2.2))) (cond (decide (x14 = (6 : Int))) (some (Step.next ((IntKind.wrap .i64 (s8.1 + (1 : Int))), x17.1, x17.2.1, x17.2.2.1, x17.2.2.2.1, x17.2.2.2.2.1, x17.2.2.2.2.2.1, x17.2.2.2.2.2.2.1, x12.Int, x17.2.2.2.2.2.2.2.2.1, x17.2.2.2.2.2.2.2.2.2))) (cond (decide (x14 = (7 : Int))) (some (Step.next ((IntKind.wrap .i64 (s8.1 + (1 : Int))), x17.1, x17.2.1, x17.2.2.1, x17.2.2.2.1, x17.2.2.2.2.1, x17.2.2.2.2.2.1, x17.2.2.2.2.2.2.1, x17.2.2.2.2.2.2.2.1, x12.Int, x17.2.2.2.2.2.2.2.2.2))) (none))))))))) (cond (cond (decide (x10 = ([113, 117, 101, 117, 101] : List UInt8))) (decide (x12.Kind = (3 : Int))) false) (some (Step.next ((IntKind.wrap .i64 (s8.1 + (1 : Int))), x12.Text, s8.2.2.1, s8.2.2.2.1, s8.2.2.2.2.1, s8.2.2.2.2.2.1, s8.2.2.2.2.2.2.1, s8.2.2.2.2.2.2.2.1, s8.2.2.2.2.2.2.2.2.1, s8.2.2.2.2.2.2.2.2.2.1, s8.2.2.2.2.2.2.2.2.2.2))) (cond (cond (decide (x10 = ([102, 97, 116, 97, 108] : List UInt8))) (decide (x12.Kind = (4 : Int))) false) (((loopO (command_Policy_l2 x12) (((0 : Int), s8.2.2.2.2.2.2.2.2.2.2))) : Option (Fl (Step (Int × (List UInt8) × Int × Int × Int × Int × Int × Int × Int × Int × (List (List UInt8))) (Fl (ApiPolicy × Int) ((List UInt8) × Int × Int × Int × Int × Int × Int × Int × Int × (List (List UInt8))))) (List (List UInt8)))).bind fun (x30 : (Fl (Step (Int × (List UInt8) × Int × Int × Int × Int × Int × Int × Int × Int × (List (List UInt8))) (Fl (ApiPolicy × Int) ((List UInt8) × Int × Int × Int × Int × Int × Int × Int × Int × (List (List UInt8))))) (List (List UInt8)))) => Fl.next x30 (fun (j32 : (List (List UInt8))) => (some (Step.next ((IntKind.wrap .i64 (s8.1 + (1 : Int))), s8.2.1, s8.2.2.1, s8.2.2.2.1, s8.2.2.2.2.1, s8.2.2.2.2.2.1, s8.2.2.2.2.2.2.1, s8.2.2.2.2.2.2.2.1, s8.2.2.2.2.2.2.2.2.1, s8.2.2.2.2.2.2.2.2.2.1, j32))))) (cond (cond (cond (decide ((0 : Int) ≤ x14)) true (decide (x10 = ([113, 117, 101, 117, 101] : List UInt8)))) true (decide (x10 = ([102, 97, 116, 97, 108] : List UInt8)))) (some (Step.out (Fl.done ((ApiPolicy.mk ([] : List UInt8) (0 : Int) (0 : Int) (0 : Int) (0 : Int) (0 : Int) (0 : Int) (0 : Int) (0 : Int) ([] : (List (List UInt8)))), (12 : Int))))) (some (Step.out (Fl.done ((ApiPolicy.mk ([] : List UInt8) (0 : Int) (0 : Int) (0 : Int) (0 : Int) (0 : Int) (0 : Int) (0 : Int) (0 : Int) ([] : (List (List UInt8)))), (8 : Int))))))))) (some (Step.out (Fl.go (s8.2.1, s8.2.2.1, s8.2.2.2.1, s8.2.2.2.2.1, s8.2.2.2.2.2.1, s8.2.2.2.2.2.2.1, s8.2.2.2.2.2.2.2.1, s8.2.2.2.2.2.2.2.2.1, s8.2.2.2.2.2.2.2.2.2.1, s8.2.2.2.2.2.2.2.2.2.2))))
noncomputable def command_Policy (p0v : ApiValue) : Option (ApiPolicy × Int) :=
 (gd ((!decide (p0v.Kind = (5 : Int))) == false) (value_Right p0v)).bind fun (x1 : Bool) => cond (cond (!decide (p0v.Kind = (5 : Int))) true (!x1)) (some ((ApiPolicy.mk ([] : List UInt8) (0 : Int) (0 : Int) (0 : Int) (0 : Int) (0 : Int) (0 : Int) (0 : Int) (0 : Int) ([] : (List (List UInt8)))), (12 : Int))) (((loopO (command_Policy_l1 p0v) (((0 : Int), ([] : List UInt8), (0 : Int), (0 : Int), (0 : Int), (0 : Int), (0 : Int), (0 : Int), (0 : Int), (0 : Int), ([] : (List (List UInt8)))))) : Option (Fl (ApiPolicy × Int) ((List UInt8) × Int × Int × Int × Int × Int × Int × Int × Int × (List (List UInt8))))).bind fun (x5 : (Fl (ApiPolicy × Int) ((List UInt8) × Int × Int × Int × Int × Int × Int × Int × Int × (List (List UInt8))))) => Fl.next x5 (fun (j7 : ((List UInt8) × Int × Int × Int × Int × Int × Int × Int × Int × (List (List UInt8)))) => ((command_RightPolicy (ApiPolicy.mk j7.1 j7.2.1 j7.2.2.1 j7.2.2.2.1 j7.2.2.2.2.1 j7.2.2.2.2.2.1 j7.2.2.2.2.2.2.1 j7.2.2.2.2.2.2.2.1 j7.2.2.2.2.2.2.2.2.1 j7.2.2.2.2.2.2.2.2.2)).bind fun (x56 : Bool) => cond (!x56) (some ((ApiPolicy.mk ([] : List UInt8) (0 : Int) (0 : Int) (0 : Int) (0 : Int) (0 : Int) (0 : Int) (0 : Int) (0 : Int) ([] : (List (List UInt8)))), (2 : Int))) (some ((ApiPolicy.mk j7.1 j7.2.1 j7.2.2.1 j7.2.2.2.1 j7.2.2.2.2.1 j7.2.2.2.2.2.1 j7.2.2.2.2.2.2.1 j7.2.2.2.2.2.2.2.1 j7.2.2.2.2.2.2.2.2.1 j7.2.2.2.2.2.2.2.2.2), (0 : Int))))))
theorem w_command_Policy {p0v : ApiValue} {res : (ApiPolicy × Int)} (h : command_Policy p0v = some res) : ACalls Try.prog 17 [.agg (AV.cs (exApiValue p0v))] [] (.tup [.agg (AV.cs (rowApiPolicy res.1)), .c (.int .i64 res.2)]) [] := by
 unfold command_Policy at h
 refine acalls (fn := Try.f17) [0, 1, 2, 3, 4, 5, 6, 7, 8, 9, 11, 19, 23, 24, 25, 26, 39, 54, 65, 74, 75, 76, 77, 82, 92, 107] (by kernel_rfl) Try.func17 rfl (by kernel_rfl) (by kernel_rfl) <| w_sr <| o_box (v := .agg aIISLL) (n := 0) (cs := aIISLL) (σ' := [aIISLL]) rfl rfl rfl rfl rfl <| o_alloc (n := 1) (cs := [aS, aI, aI, aI, aI, aI, aI, aI, aI, .nil]) (σ' := [aIISLL, [aS, aI, aI, aI, aI, aI, aI, aI, aI, .nil]]) tz27 rfl rfl rfl <| sI rfl <| o_ek (fr' := [(1, .box 0 0), (2, .box 1 0)]) rfl rfl <| w_seqw <| w_sr <| o_p rfl (p_fa tf25x0 rfl) <| o_p rfl (p_load (v := aI) tv3 rfl rfl rfl) <| o_p rfl (p_neq rfl rfl) ?_
 refine mB rfl <| og rfl rfl rfl (fun hc => (p_loads (us := aIISLL) tv25 rfl rfl rfl rfl)) ?_
 obtain ⟨x1, hx1, h2⟩ := bind_s h
 refine o_g rfl rfl (fun hc => ov_call (v := aB) rfl (w_value_Right (gd_some hx1 hc)) ⟨(le_gv (gx rfl hc) (le_aggc rfl ⟨rfl, rfl, rfl, rfl, rfl, trivial⟩)), trivial⟩ (ok_eq (by repeat (first | exact ok_nil | refine ok_cons rfl ?_ | refine ok_cons (dgv rfl) ?_))) rfl rfl) ?_
 refine og rfl rfl rfl (fun hc => (p_not (gx rfl hc))) <| o_p rfl (p_pickz rfl rfl rfl (fun e => keq e)) <| o_ek (fr' := [(1, .box 0 0), (2, .box 1 0), (19, aB)]) rfl rfl <| w_ch h2 rfl (fun hb3 h3 => ?_) (fun hb3 h3 => ?_)
 ·
  refine w_sr <| o_p rfl (p_buildc (c0 := [aS, aI, aI, aI, aI, aI, aI, aI, aI, .nil]) (cs := [aS, aI, aI, aI, aI, aI, aI, aI, aI, .nil]) tb27 rfl fill_nil) <| o_store (v := .agg [aS, aI, aI, aI, aI, aI, aI, aI, aI, .nil]) (us := [aS, aI, aI, aI, aI, aI, aI, aI, aI, .nil]) (cs := [aS, aI, aI, aI, aI, aI, aI, aI, aI, .nil]) (σ' := [aIISLL, [aS, aI, aI, aI, aI, aI, aI, aI, aI, .nil]]) rfl tv27 rfl rfl rfl rfl rfl rfl rfl rfl <| sI rfl <| o_ek (fr' := [(2, .box 1 0), (3, aI)]) rfl rfl <| w_ret <| e_seq_r ?_
  obtain rfl := sy h3
  exact e_ret (rs' := [.cell 2 27, .tmp 3]) rfl <| r_cells (us := [aS, aI, aI, aI, aI, aI, aI, aI, aI, .nil]) (cs := [aS, aI, aI, aI, aI, aI, aI, aI, aI, .nil]) tv27 rfl rfl rfl rfl <| r_tmp (v := aI) rfl <| r_nil <| fin_gen [] rfl rfl rfl (le_tupp rfl ⟨(le_aggc rfl ⟨rfl, rfl, rfl, rfl, rfl, rfl, rfl, rfl, rfl, ⟨_, rfl⟩, trivial⟩), lr, trivial⟩) st_nil
 ·
  refine w_skip <| e_kw <| w_sr <| o_alloc (n := 2) (cs := [aS, aI, aI, aI, aI, aI, aI, aI, aI, .nil]) (σ' := [aIISLL, [aS, aI, aI, aI, aI, aI, aI, aI, aI, .nil], [aS, aI, aI, aI, aI, aI, aI, aI, aI, .nil]]) tz27 rfl rfl rfl <| o_ek (fr' := [(1, .box 0 0), (2, .box 1 0), (4, .box 2 0)]) rfl rfl <| w_sr <| o_rows (row := rowS) (xs := ([([116, 111, 83, 116, 97, 114, 116] : List UInt8), ([116, 111, 67, 108, 111, 115, 101] : List UInt8), ([116, 111, 116, 97, 108] : List UInt8), ([98, 101, 97, 116] : List UInt8), ([102, 105, 114, 115, 116] : List UInt8), ([99, 111, 101, 102] : List UInt8), ([109, 111, 115, 116] : List UInt8), ([97, 116, 116, 101, 109, 112, 116, 115] : List UInt8)] : List (List UInt8))) (rows := [[_], [_], [_], [_], [_], [_], [_], [_]]) (σ' := [aIISLL, [aS, aI, aI, aI, aI, aI, aI, aI, aI, .nil], [aS, aI, aI, aI, aI, aI, aI, aI, aI, .nil]]) [0] ts23 rfl rfl rfl (arow_cons rfl (arow_cons rfl (arow_cons rfl (arow_cons rfl (arow_cons rfl (arow_cons rfl (arow_cons rfl (arow_cons rfl arow_nil)))))))) rfl rfl <| sV (v := aO) rfl <| o_ek (fr' := [(1, .box 0 0), (2, .box 1 0), (4, .box 2 0), (5, aO)]) rfl rfl <| w_seqw <| w_seqw ?_
  refine w_region <| o_p rfl (p_fa tf25x4 rfl) <| o_p rfl (p_load (v := aL) tv23 rfl rfl rfl) <| o_p rfl (p_len ti23 (isl_c rfl)) <| mI rfl <| o_ek (fr' := [(1, .box 0 0), (2, .box 1 0), (4, .box 2 0), (5, aO), (23, aL), (24, aI), (25, aI)]) rfl rfl ?_
  obtain ⟨x5, hx5, h6⟩ := bind_s h3
  refine w_jtail cl_kw (fun j7 => x5 = Fl.go j7) (fun (j7 : ((List UInt8) × Int × Int × Int × Int × Int × Int × Int × Int × (List (List UInt8)))) => ([(2, .box 1 0), (4, .box 2 0)] : Fr)) (fun (j7 : ((List UInt8) × Int × Int × Int × Int × Int × Int × Int × Int × (List (List UInt8)))) => ([[.c (.int .i64 p0v.Kind), .c (.int .i64 p0v.Int), .c (.str p0v.Text), .c (PV.ls 5 rowApiValue p0v.Items), .c (PV.ls 1 rowS p0v.Keys)], [.c (.str ([] : List UInt8)), .c (.int .i64 (0 : Int)), .c (.int .i64 (0 : Int)), .c (.int .i64 (0 : Int)), .c (.int .i64 (0 : Int)), .c (.int .i64 (0 : Int)), .c (.int .i64 (0 : Int)), .c (.int .i64 (0 : Int)), .c (.int .i64 (0 : Int)), .nil], [.c (.str j7.1), .c (.int .i64 j7.2.1), .c (.int .i64 j7.2.2.1), .c (.int .i64 j7.2.2.2.1), .c (.int .i64 j7.2.2.2.2.1), .c (.int .i64 j7.2.2.2.2.2.1), .c (.int .i64 j7.2.2.2.2.2.2.1), .c (.int .i64 j7.2.2.2.2.2.2.2.1), .c (.int .i64 j7.2.2.2.2.2.2.2.2.1), AV.os 0 1 rowS j7.2.2.2.2.2.2.2.2.2]] : St)) ?_ ?_
  ·
   refine w_block <| w_loopo _ (fun (s8 : (Int × (List UInt8) × Int × Int × Int × Int × Int × Int × Int × Int × (List (List UInt8)))) => ([(1, .box 0 0), (2, .box 1 0), (4, .box 2 0), (5, AV.os 0 1 rowS ([([116, 111, 83, 116, 97, 114, 116] : List UInt8), ([116, 111, 67, 108, 111, 115, 101] : List UInt8), ([116, 111, 116, 97, 108] : List UInt8), ([98, 101, 97, 116] : List UInt8), ([102, 105, 114, 115, 116] : List UInt8), ([99, 111, 101, 102] : List UInt8), ([109, 111, 115, 116] : List UInt8), ([97, 116, 116, 101, 109, 112, 116, 115] : List UInt8)] : List (List UInt8))), (23, .c (PV.ls 1 rowS p0v.Keys)), (24, .c (.int .i64 ((p0v.Keys).length : Int))), (25, .c (.int .i64 s8.1))] : Fr)) (fun (s8 : (Int × (List UInt8) × Int × Int × Int × Int × Int × Int × Int × Int × (List (List UInt8)))) => ([[.c (.int .i64 p0v.Kind), .c (.int .i64 p0v.Int), .c (.str p0v.Text), .c (PV.ls 5 rowApiValue p0v.Items), .c (PV.ls 1 rowS p0v.Keys)], [.c (.str ([] : List UInt8)), .c (.int .i64 (0 : Int)), .c (.int .i64 (0 : Int)), .c (.int .i64 (0 : Int)), .c (.int .i64 (0 : Int)), .c (.int .i64 (0 : Int)), .c (.int .i64 (0 : Int)), .c (.int .i64 (0 : Int)), .c (.int .i64 (0 : Int)), .nil], [.c (.str s8.2.1), .c (.int .i64 s8.2.2.1), .c (.int .i64 s8.2.2.2.1), .c (.int .i64 s8.2.2.2.2.1), .c (.int .i64 s8.2.2.2.2.2.1), .c (.int .i64 s8.2.2.2.2.2.2.1), .c (.int .i64 s8.2.2.2.2.2.2.2.1), .c (.int .i64 s8.2.2.2.2.2.2.2.2.1), .c (.int .i64 s8.2.2.2.2.2.2.2.2.2.1), AV.os 1 1 rowS s8.2.2.2.2.2.2.2.2.2.2]] : St)) hx5 (w_weak [336, 1000001] 3 rfl rfl rfl rfl ⟨lr, lr, lr, lr, lr, lr, lr, trivial⟩ (st_r rfl (st_r rfl (st_p ⟨lr, lr, lr, lr, lr, lr, lr, lr, lr, (le_nos rfl), trivial⟩ st_nil)))) ?_
   intro s8 st8 hs8 ho8
   unfold command_Policy_l1 at hs8
   refine w_sr <| o_p rfl (p_lss rfl rfl) <| o_ek (fr' := [(1, .box 0 0), (2, .box 1 0), (4, .box 2 0), (5, aO), (23, aL), (24, aI), (25, aI), (26, aB)]) rfl rfl <| w_seqw <| w_ch hs8 rfl (fun hb9 h9 => ?_) (fun hb9 h9 => ?_)
   ·
    refine w_skip <| e_kw <| w_seqw <| w_block <| w_sr <| mI rfl ?_
    obtain ⟨x10, hx10, h11⟩ := bind_s h9
    refine o_p rfl (p_ia (cs := [.str _]) ts23 (isl_c rfl) rfl hx10 rfl) <| o_p rfl (p_loade (p := .str _) tv9 rfl rfl) <| sI rfl <| sS rfl <| o_ek (fr' := [(1, .box 0 0), (2, .box 1 0), (4, .box 2 0), (5, aO), (6, aI), (7, aS), (23, aL), (24, aI), (25, aI)]) rfl rfl <| w_sr <| o_p rfl (p_fa tf25x3 rfl) <| o_p rfl (p_load (v := aL) tv22 rfl rfl rfl) <| mI rfl ?_
    obtain ⟨x12, hx12, h13⟩ := bind_s h11
    refine o_p rfl (p_ia (cs := [.int _ _, .int _ _, .str _, PV.ls _ _ _, PV.ls _ _ _]) ts22 (isl_c rfl) rfl hx12 (rowApiValue_eq _)) <| o_p rfl (p_loades (us := [.int _ _, .int _ _, .str _, PV.ls _ _ _, PV.ls _ _ _]) tv25 rfl rfl rfl) <| o_alloc (n := 3) (cs := [aI, aI, aS, .nil, .nil]) (σ' := [aIISLL, [aS, aI, aI, aI, aI, aI, aI, aI, aI, .nil], [aS, aI, aI, aI, aI, aI, aI, aI, aI, aO], [aI, aI, aS, .nil, .nil]]) tz25 rfl rfl rfl <| o_store (v := .agg aIISLL) (us := aIISLL) (cs := [aI, aI, aS, .nil, .nil]) (σ' := [aIISLL, [aS, aI, aI, aI, aI, aI, aI, aI, aI, .nil], [aS, aI, aI, aI, aI, aI, aI, aI, aI, aO], aIISLL]) rfl tv25 rfl rfl rfl rfl rfl rfl rfl rfl <| o_ek (fr' := [(1, .box 0 0), (2, .box 1 0), (4, .box 2 0), (5, aO), (7, aS), (8, .box 3 0), (23, aL), (24, aI), (25, aI)]) rfl rfl <| w_sr <| mV (v := aO) rfl <| mS rfl ?_
    obtain ⟨x14, hx14, h15⟩ := bind_s h13
    refine o_v (ov_call (v := aI) rfl (w_slices_Index_string_string hx14) ⟨lr, lr, trivial⟩ rfl rfl rfl) <| sI rfl <| o_ek (fr' := [(1, .box 0 0), (2, .box 1 0), (4, .box 2 0), (5, aO), (7, aS), (8, .box 3 0), (9, aI), (23, aL), (24, aI), (25, aI)]) rfl rfl <| w_block <| w_sr <| mI rfl <| o_p rfl (p_geq rfl rfl) <| mB rfl <| og rfl rfl rfl (fun hc => (p_fa tf25x0 rfl)) <| og rfl rfl rfl (fun hc => (p_load (v := aI) tv3 (gx rfl hc) rfl rfl)) <| og rfl rfl rfl (fun hc => (p_eql (gx rfl hc) rfl)) <| o_p rfl (p_picky rfl rfl rfl (fun e => keq e)) ?_
    refine sB rfl <| o_ek (fr' := [(1, .box 0 0), (2, .box 1 0), (4, .box 2 0), (5, aO), (7, aS), (8, .box 3 0), (9, aI), (23, aL), (24, aI), (25, aI), (39, aB)]) rfl rfl <| w_ch h15 rfl (fun hb16 h16 => ?_) (fun hb16 h16 => ?_)
    ·
     refine w_planT [.q 1, .q 4, .q 5, .n 0 [1, 4, 5], .q 2, .q 3, .q 6, .n 7 []] [(some 47, [4]), (some 48, [9]), (some 49, [47, 48]), (some 50, [49]), (some 51, [8]), (some 52, [51]), (some 53, [50]), (none, [53, 52])] [0, 0, 3, 7, 0, 16, 63, 127] (by kernel_rfl) <| dq rfl rfl (p_move (v := aI) rfl) <| dq rfl rfl (p_fa tf25x1 rfl) <| dq rfl rfl (p_load (v := aI) tv3 rfl rfl rfl) <| d_n rfl ?_ rfl
     obtain ⟨x17, hx17, h18⟩ := bind_s h16
     refine o_callT (v := .ptrs [(2, 1), (2, 2), (2, 3), (2, 4), (2, 5), (2, 6), (2, 7), (2, 8)]) (σ' := [aIISLL, [aS, aI, aI, aI, aI, aI, aI, aI, aI, .nil], [aS, aI, aI, aI, aI, aI, aI, aI, aI, aO], aIISLL]) 47 [2] [1] rfl (w_command_numbers_v2 hx17) rfl rfl rfl ⟨lr, trivial⟩ (st_p ⟨lr, lr, lr, lr, lr, lr, lr, lr, lr, lr, trivial⟩ st_nil) rfl rfl rfl <| o_rc <| ⟨(rc_q (v := aI) rfl rfl (qv_p rfl (p_move (v := aI) rfl)) (rc_q (v := .box 3 1) rfl rfl (qv_p rfl (p_fa tf25x1 rfl)) (rc_q (v := aI) rfl rfl (qv_p rfl (p_load (v := aI) tv3 rfl rfl rfl)) rc_nil))), ?_⟩
     refine r_ch h18 (fun hb20 h20 => ?_) (fun hb20 h20 => ?_)
     ·
      refine dq rfl rfl (p_iap (p := (2, 1)) ts70 rfl rfl (by rw [of_dec hb20]; rfl)) <| dq rfl rfl (p_loadp tv69 rfl) <| dq rfl rfl (p_nc rfl) <| d_n rfl ?_ rfl
      refine o_store (v := aI) (us := [aI]) (cs := [aS, aI, aI, aI, aI, aI, aI, aI, aI, aO]) (σ' := [aIISLL, [aS, aI, aI, aI, aI, aI, aI, aI, aI, .nil], [aS, aI, aI, aI, aI, aI, aI, aI, aI, aO], aIISLL]) rfl tv3 rfl rfl rfl rfl rfl rfl rfl rfl <| o_rc <| ⟨rc_nil, ?_⟩
      exact d_end (fr' := [(1, .box 0 0), (2, .box 1 0), (4, .box 2 0), (5, aO), (7, aS), (8, .box 3 0), (9, aI), (23, aL), (24, aI), (25, aI), (39, aB)]) rfl <| e_blk_n <| e_blk_n <| e_kw <| w_region <| o_p rfl (p_add rfl rfl) <| mI rfl <| o_end (fr' := [(1, .box 0 0), (2, .box 1 0), (4, .box 2 0), (5, aO), (7, aS), (8, .box 3 0), (9, aI), (23, aL), (24, aI), (25, aI), (39, aB)]) rfl <| e_l _ (sy h20) (w_weak [0, 752] 3 rfl rfl rfl rfl ⟨lr, lr, lr, lr, lr, lr, lr, trivial⟩ (st_r rfl (st_r rfl (st_r rfl st_nil))))
     ·
      refine r_ch h20 (fun hb21 h21 => ?_) (fun hb21 h21 => ?_)
      ·
       refine dq rfl rfl (p_iap (p := (2, 2)) ts70 rfl rfl (by rw [of_dec hb21]; rfl)) <| dq rfl rfl (p_loadp tv69 rfl) <| dq rfl rfl (p_nc rfl) <| d_n rfl ?_ rfl
       refine o_store (v := aI) (us := [aI]) (cs := [aS, aI, aI, aI, aI, aI, aI, aI, aI, aO]) (σ' := [aIISLL, [aS, aI, aI, aI, aI, aI, aI, aI, aI, .nil], [aS, aI, aI, aI, aI, aI, aI, aI, aI, aO], aIISLL]) rfl tv3 rfl rfl rfl rfl rfl rfl rfl rfl <| o_rc <| ⟨rc_nil, ?_⟩
       exact d_end (fr' := [(1, .box 0 0), (2, .box 1 0), (4, .box 2 0), (5, aO), (7, aS), (8, .box 3 0), (9, aI), (23, aL), (24, aI), (25, aI), (39, aB)]) rfl <| e_blk_n <| e_blk_n <| e_kw <| w_region <| o_p rfl (p_add rfl rfl) <| mI rfl <| o_end (fr' := [(1, .box 0 0), (2, .box 1 0), (4, .box 2 0), (5, aO), (7, aS), (8, .box 3 0), (9, aI), (23, aL), (24, aI), (25, aI), (39, aB)]) rfl <| e_l _ (sy h21) (w_weak [0, 752] 3 rfl rfl rfl rfl ⟨lr, lr, lr, lr, lr, lr, lr, trivial⟩ (st_r rfl (st_r rfl (st_r rfl st_nil))))
      ·
       refine r_ch h21 (fun hb22 h22 => ?_) (fun hb22 h22 => ?_)
       ·
        refine dq rfl rfl (p_iap (p := (2, 3)) ts70 rfl rfl (by rw [of_dec hb22]; rfl)) <| dq rfl rfl (p_loadp tv69 rfl) <| dq rfl rfl (p_nc rfl) <| d_n rfl ?_ rfl
        refine o_store (v := aI) (us := [aI]) (cs := [aS, aI, aI, aI, aI, aI, aI, aI, aI, aO]) (σ' := [aIISLL, [aS, aI, aI, aI, aI, aI, aI, aI, aI, .nil], [aS, aI, aI, aI, aI, aI, aI, aI, aI, aO], aIISLL]) rfl tv3 rfl rfl rfl rfl rfl rfl rfl rfl <| o_rc <| ⟨rc_nil, ?_⟩
        exact d_end (fr' := [(1, .box 0 0), (2, .box 1 0), (4, .box 2 0), (5, aO), (7, aS), (8, .box 3 0), (9, aI), (23, aL), (24, aI), (25, aI), (39, aB)]) rfl <| e_blk_n <| e_blk_n <| e_kw <| w_region <| o_p rfl (p_add rfl rfl) <| mI rfl <| o_end (fr' := [(1, .box 0 0), (2, .box 1 0), (4, .box 2 0), (5, aO), (7, aS), (8, .box 3 0), (9, aI), (23, aL), (24, aI), (25, aI), (39, aB)]) rfl <| e_l _ (sy h22) (w_weak [0, 752] 3 rfl rfl rfl rfl ⟨lr, lr, lr, lr, lr, lr, lr, trivial⟩ (st_r rfl (st_r rfl (st_r rfl st_nil))))
       ·
        refine r_ch h22 (fun hb23 h23 => ?_) (fun hb23 h23 => ?_)
        ·
         refine dq rfl rfl (p_iap (p := (2, 4)) ts70 rfl rfl (by rw [of_dec hb23]; rfl)) <| dq rfl rfl (p_loadp tv69 rfl) <| dq rfl rfl (p_nc rfl) <| d_n rfl ?_ rfl
         refine o_store (v := aI) (us := [aI]) (cs := [aS, aI, aI, aI, aI, aI, aI, aI, aI, aO]) (σ' := [aIISLL, [aS, aI, aI, aI, aI, aI, aI, aI, aI, .nil], [aS, aI, aI, aI, aI, aI, aI, aI, aI, aO], aIISLL]) rfl tv3 rfl rfl rfl rfl rfl rfl rfl rfl <| o_rc <| ⟨rc_nil, ?_⟩
         exact d_end (fr' := [(1, .box 0 0), (2, .box 1 0), (4, .box 2 0), (5, aO), (7, aS), (8, .box 3 0), (9, aI), (23, aL), (24, aI), (25, aI), (39, aB)]) rfl <| e_blk_n <| e_blk_n <| e_kw <| w_region <| o_p rfl (p_add rfl rfl) <| mI rfl <| o_end (fr' := [(1, .box 0 0), (2, .box 1 0), (4, .box 2 0), (5, aO), (7, aS), (8, .box 3 0), (9, aI), (23, aL), (24, aI), (25, aI), (39, aB)]) rfl <| e_l _ (sy h23) (w_weak [0, 752] 3 rfl rfl rfl rfl ⟨lr, lr, lr, lr, lr, lr, lr, trivial⟩ (st_r rfl (st_r rfl (st_r rfl st_nil))))
        ·
         refine r_ch h23 (fun hb24 h24 => ?_) (fun hb24 h24 => ?_)
         ·
          refine dq rfl rfl (p_iap (p := (2, 5)) ts70 rfl rfl (by rw [of_dec hb24]; rfl)) <| dq rfl rfl (p_loadp tv69 rfl) <| dq rfl rfl (p_nc rfl) <| d_n rfl ?_ rfl
          refine o_store (v := aI) (us := [aI]) (cs := [aS, aI, aI, aI, aI, aI, aI, aI, aI, aO]) (σ' := [aIISLL, [aS, aI, aI, aI, aI, aI, aI, aI, aI, .nil], [aS, aI, aI, aI, aI, aI, aI, aI, aI, aO], aIISLL]) rfl tv3 rfl rfl rfl rfl rfl rfl rfl rfl <| o_rc <| ⟨rc_nil, ?_⟩
          exact d_end (fr' := [(1, .box 0 0), (2, .box 1 0), (4, .box 2 0), (5, aO), (7, aS), (8, .box 3 0), (9, aI), (23, aL), (24, aI), (25, aI), (39, aB)]) rfl <| e_blk_n <| e_blk_n <| e_kw <| w_region <| o_p rfl (p_add rfl rfl) <| mI rfl <| o_end (fr' := [(1, .box 0 0), (2, .box 1 0), (4, .box 2 0), (5, aO), (7, aS), (8, .box 3 0), (9, aI), (23, aL), (24, aI), (25, aI), (39, aB)]) rfl <| e_l _ (sy h24) (w_weak [0, 752] 3 rfl rfl rfl rfl ⟨lr, lr, lr, lr, lr, lr, lr, trivial⟩ (st_r rfl (st_r rfl (st_r rfl st_nil))))
         ·
          refine r_ch h24 (fun hb25 h25 => ?_) (fun hb25 h25 => ?_)
          ·
           refine dq rfl rfl (p_iap (p := (2, 6)) ts70 rfl rfl (by rw [of_dec hb25]; rfl)) <| dq rfl rfl (p_loadp tv69 rfl) <| dq rfl rfl (p_nc rfl) <| d_n rfl ?_ rfl
           refine o_store (v := aI) (us := [aI]) (cs := [aS, aI, aI, aI, aI, aI, aI, aI, aI, aO]) (σ' := [aIISLL, [aS, aI, aI, aI, aI, aI, aI, aI, aI, .nil], [aS, aI, aI, aI, aI, aI, aI, aI, aI, aO], aIISLL]) rfl tv3 rfl rfl rfl rfl rfl rfl rfl rfl <| o_rc <| ⟨rc_nil, ?_⟩
           exact d_end (fr' := [(1, .box 0 0), (2, .box 1 0), (4, .box 2 0), (5, aO), (7, aS), (8, .box 3 0), (9, aI), (23, aL), (24, aI), (25, aI), (39, aB)]) rfl <| e_blk_n <| e_blk_n <| e_kw <| w_region <| o_p rfl (p_add rfl rfl) <| mI rfl <| o_end (fr' := [(1, .box 0 0), (2, .box 1 0), (4, .box 2 0), (5, aO), (7, aS), (8, .box 3 0), (9, aI), (23, aL), (24, aI), (25, aI), (39, aB)]) rfl <| e_l _ (sy h25) (w_weak [0, 752] 3 rfl rfl rfl rfl ⟨lr, lr, lr, lr, lr, lr, lr, trivial⟩ (st_r rfl (st_r rfl (st_r rfl st_nil))))
          ·
           refine r_ch h25 (fun hb26 h26 => ?_) (fun hb26 h26 => ?_)
           ·
            refine dq rfl rfl (p_iap (p := (2, 7)) ts70 rfl rfl (by rw [of_dec hb26]; rfl)) <| dq rfl rfl (p_loadp tv69 rfl) <| dq rfl rfl (p_nc rfl) <| d_n rfl ?_ rfl
            refine o_store (v := aI) (us := [aI]) (cs := [aS, aI, aI, aI, aI, aI, aI, aI, aI, aO]) (σ' := [aIISLL, [aS, aI, aI, aI, aI, aI, aI, aI, aI, .nil], [aS, aI, aI, aI, aI, aI, aI, aI, aI, aO], aIISLL]) rfl tv3 rfl rfl rfl rfl rfl rfl rfl rfl <| o_rc <| ⟨rc_nil, ?_⟩
            exact d_end (fr' := [(1, .box 0 0), (2, .box 1 0), (4, .box 2 0), (5, aO), (7, aS), (8, .box 3 0), (9, aI), (23, aL), (24, aI), (25, aI), (39, aB)]) rfl <| e_blk_n <| e_blk_n <| e_kw <| w_region <| o_p rfl (p_add rfl rfl) <| mI rfl <| o_end (fr' := [(1, .box 0 0), (2, .box 1 0), (4, .box 2 0), (5, aO), (7, aS), (8, .box 3 0), (9, aI), (23, aL), (24, aI), (25, aI), (39, aB)]) rfl <| e_l _ (sy h26) (w_weak [0, 752] 3 rfl rfl rfl rfl ⟨lr, lr, lr, lr, lr, lr, lr, trivial⟩ (st_r rfl (st_r rfl (st_r rfl st_nil))))
           ·
            refine r_ch h26 (fun hb27 h27 => ?_) (fun hb27 h27 => ?_)
            ·
             refine dq rfl rfl (p_iap (p := (2, 8)) ts70 rfl rfl (by rw [of_dec hb27]; rfl)) <| dq rfl rfl (p_loadp tv69 rfl) <| dq rfl rfl (p_nc rfl) <| d_n rfl ?_ rfl
             refine o_store (v := aI) (us := [aI]) (cs := [aS, aI, aI, aI, aI, aI, aI, aI, aI, aO]) (σ' := [aIISLL, [aS, aI, aI, aI, aI, aI, aI, aI, aI, .nil], [aS, aI, aI, aI, aI, aI, aI, aI, aI, aO], aIISLL]) rfl tv3 rfl rfl rfl rfl rfl rfl rfl rfl <| o_rc <| ⟨rc_nil, ?_⟩
             exact d_end (fr' := [(1, .box 0 0), (2, .box 1 0), (4, .box 2 0), (5, aO), (7, aS), (8, .box 3 0), (9, aI), (23, aL), (24, aI), (25, aI), (39, aB)]) rfl <| e_blk_n <| e_blk_n <| e_kw <| w_region <| o_p rfl (p_add rfl rfl) <| mI rfl <| o_end (fr' := [(1, .box 0 0), (2, .box 1 0), (4, .box 2 0), (5, aO), (7, aS), (8, .box 3 0), (9, aI), (23, aL), (24, aI), (25, aI), (39, aB)]) rfl <| e_l _ (sy h27) (w_weak [0, 752] 3 rfl rfl rfl rfl ⟨lr, lr, lr, lr, lr, lr, lr, trivial⟩ (st_r rfl (st_r rfl (st_r rfl st_nil))))
            ·
             exact none_ne h27
    ·
     refine w_sr <| mS rfl <| o_p rfl (p_seql rfl rfl) <| mB rfl <| og rfl rfl rfl (fun hc => (p_fa tf25x0 rfl)) <| og rfl rfl rfl (fun hc => (p_load (v := aI) tv3 (gx rfl hc) rfl rfl)) <| og rfl rfl rfl (fun hc => (p_eql (gx rfl hc) rfl)) <| o_p rfl (p_picky rfl rfl rfl (fun e => keq e)) <| sB rfl <| o_ek (fr' := [(1, .box 0 0), (2, .box 1 0), (4, .box 2 0), (5, aO), (7, aS), (8, .box 3 0), (9, aI), (23, aL), (24, aI), (25, aI), (54, aB)]) rfl rfl <| w_ch h16 rfl (fun hb28 h28 => ?_) (fun hb28 h28 => ?_)
     ·
      refine w_region <| o_p rfl (p_fa tf25x2 rfl) <| o_p rfl (p_load (v := aS) tv9 rfl rfl rfl) <| o_p rfl (p_fa tf27x0 rfl) <| o_store (v := aS) (us := [aS]) (cs := [aS, aI, aI, aI, aI, aI, aI, aI, aI, aO]) (σ' := [aIISLL, [aS, aI, aI, aI, aI, aI, aI, aI, aI, .nil], [aS, aI, aI, aI, aI, aI, aI, aI, aI, aO], aIISLL]) rfl tv9 rfl rfl rfl rfl rfl rfl rfl rfl <| o_end (fr' := [(1, .box 0 0), (2, .box 1 0), (4, .box 2 0), (5, aO), (7, aS), (8, .box 3 0), (9, aI), (23, aL), (24, aI), (25, aI), (54, aB)]) rfl <| e_blk_n <| e_blk_n <| e_kw <| w_region <| o_p rfl (p_add rfl rfl) <| mI rfl <| o_end (fr' := [(1, .box 0 0), (2, .box 1 0), (4, .box 2 0), (5, aO), (7, aS), (8, .box 3 0), (9, aI), (23, aL), (24, aI), (25, aI), (54, aB)]) rfl ?_
      exact e_l _ (sy h28) (w_weak [0, 1] 3 rfl rfl rfl rfl ⟨lr, lr, lr, lr, lr, lr, lr, trivial⟩ (st_r rfl (st_r rfl (st_r rfl st_nil))))
     ·
      refine w_sr <| mS rfl <| o_p rfl (p_seql rfl rfl) <| mB rfl <| og rfl rfl rfl (fun hc => (p_fa tf25x0 rfl)) <| og rfl rfl rfl (fun hc => (p_load (v := aI) tv3 (gx rfl hc) rfl rfl)) <| og rfl rfl rfl (fun hc => (p_eql (gx rfl hc) rfl)) <| o_p rfl (p_picky rfl rfl rfl (fun e => keq e)) <| sB rfl <| o_ek (fr' := [(1, .box 0 0), (2, .box 1 0), (4, .box 2 0), (5, aO), (7, aS), (8, .box 3 0), (9, aI), (23, aL), (24, aI), (25, aI), (65, aB)]) rfl rfl <| w_ch h28 rfl (fun hb29 h29 => ?_) (fun hb29 h29 => ?_)
      ·
       refine w_sr <| o_p rfl (p_fa tf25x3 rfl) <| o_p rfl (p_load (v := aL) tv22 rfl rfl rfl) <| o_p rfl (p_len ti22 (isl_c rfl)) <| mI rfl <| o_ek (fr' := [(1, .box 0 0), (2, .box 1 0), (4, .box 2 0), (5, aO), (23, aL), (24, aI), (25, aI), (74, aL), (75, aI), (76, aI)]) rfl rfl ?_
       obtain ⟨x30, hx30, h31⟩ := bind_s h29
       refine w_jtail (cl_b (cl_b cl_kw)) (fun j32 => x30 = Fl.go j32) (fun (j32 : (List (List UInt8))) => ([(1, .box 0 0), (2, .box 1 0), (4, .box 2 0), (5, AV.os 0 1 rowS ([([116, 111, 83, 116, 97, 114, 116] : List UInt8), ([116, 111, 67, 108, 111, 115, 101] : List UInt8), ([116, 111, 116, 97, 108] : List UInt8), ([98, 101, 97, 116] : List UInt8), ([102, 105, 114, 115, 116] : List UInt8), ([99, 111, 101, 102] : List UInt8), ([109, 111, 115, 116] : List UInt8), ([97, 116, 116, 101, 109, 112, 116, 115] : List UInt8)] : List (List UInt8))), (23, .c (PV.ls 1 rowS p0v.Keys)), (24, .c (.int .i64 ((p0v.Keys).length : Int))), (25, .c (.int .i64 s8.1))] : Fr)) (fun (j32 : (List (List UInt8))) => ([[.c (.int .i64 p0v.Kind), .c (.int .i64 p0v.Int), .c (.str p0v.Text), .c (PV.ls 5 rowApiValue p0v.Items), .c (PV.ls 1 rowS p0v.Keys)], [.c (.str ([] : List UInt8)), .c (.int .i64 (0 : Int)), .c (.int .i64 (0 : Int)), .c (.int .i64 (0 : Int)), .c (.int .i64 (0 : Int)), .c (.int .i64 (0 : Int)), .c (.int .i64 (0 : Int)), .c (.int .i64 (0 : Int)), .c (.int .i64 (0 : Int)), .nil], [.c (.str s8.2.1), .c (.int .i64 s8.2.2.1), .c (.int .i64 s8.2.2.2.1), .c (.int .i64 s8.2.2.2.2.1), .c (.int .i64 s8.2.2.2.2.2.1), .c (.int .i64 s8.2.2.2.2.2.2.1), .c (.int .i64 s8.2.2.2.2.2.2.2.1), .c (.int .i64 s8.2.2.2.2.2.2.2.2.1), .c (.int .i64 s8.2.2.2.2.2.2.2.2.2.1), AV.os 1 1 rowS j32], [.c (.int .i64 x12.Kind), .c (.int .i64 x12.Int), .c (.str x12.Text), .c (PV.ls 5 rowApiValue x12.Items), .c (PV.ls 1 rowS x12.Keys)]] : St)) ?_ ?_
       ·
        refine w_block <| w_loopo _ (fun (s33 : (Int × (List (List UInt8)))) => ([(1, .box 0 0), (2, .box 1 0), (4, .box 2 0), (5, AV.os 0 1 rowS ([([116, 111, 83, 116, 97, 114, 116] : List UInt8), ([116, 111, 67, 108, 111, 115, 101] : List UInt8), ([116, 111, 116, 97, 108] : List UInt8), ([98, 101, 97, 116] : List UInt8), ([102, 105, 114, 115, 116] : List UInt8), ([99, 111, 101, 102] : List UInt8), ([109, 111, 115, 116] : List UInt8), ([97, 116, 116, 101, 109, 112, 116, 115] : List UInt8)] : List (List UInt8))), (23, .c (PV.ls 1 rowS p0v.Keys)), (24, .c (.int .i64 ((p0v.Keys).length : Int))), (25, .c (.int .i64 s8.1)), (74, .c (PV.ls 5 rowApiValue x12.Items)), (75, .c (.int .i64 ((x12.Items).length : Int))), (76, .c (.int .i64 s33.1))] : Fr)) (fun (s33 : (Int × (List (List UInt8)))) => ([[.c (.int .i64 p0v.Kind), .c (.int .i64 p0v.Int), .c (.str p0v.Text), .c (PV.ls 5 rowApiValue p0v.Items), .c (PV.ls 1 rowS p0v.Keys)], [.c (.str ([] : List UInt8)), .c (.int .i64 (0 : Int)), .c (.int .i64 (0 : Int)), .c (.int .i64 (0 : Int)), .c (.int .i64 (0 : Int)), .c (.int .i64 (0 : Int)), .c (.int .i64 (0 : Int)), .c (.int .i64 (0 : Int)), .c (.int .i64 (0 : Int)), .nil], [.c (.str s8.2.1), .c (.int .i64 s8.2.2.1), .c (.int .i64 s8.2.2.2.1), .c (.int .i64 s8.2.2.2.2.1), .c (.int .i64 s8.2.2.2.2.2.1), .c (.int .i64 s8.2.2.2.2.2.2.1), .c (.int .i64 s8.2.2.2.2.2.2.2.1), .c (.int .i64 s8.2.2.2.2.2.2.2.2.1), .c (.int .i64 s8.2.2.2.2.2.2.2.2.2.1), AV.os 1 1 rowS s33.2], [.c (.int .i64 x12.Kind), .c (.int .i64 x12.Int), .c (.str x12.Text), .c (PV.ls 5 rowApiValue x12.Items), .c (PV.ls 1 rowS x12.Keys)]] : St)) hx30 (w_weak [0, 1] 4 rfl rfl rfl rfl ⟨lr, lr, lr, lr, lr, lr, lr, lr, lr, lr, trivial⟩ (st_r rfl (st_r rfl (st_r rfl (st_r rfl st_nil))))) ?_
        intro s33 st33 hs33 ho33
        unfold command_Policy_l2 at hs33
        refine w_sr <| o_p rfl (p_lss rfl rfl) <| o_ek (fr' := [(1, .box 0 0), (2, .box 1 0), (4, .box 2 0), (5, aO), (23, aL), (24, aI), (25, aI), (74, aL), (75, aI), (76, aI), (77, aB)]) rfl rfl <| w_seqw <| w_ch hs33 rfl (fun hb34 h34 => ?_) (fun hb34 h34 => ?_)
        ·
         refine w_skip <| e_kw <| w_seqw <| w_block <| w_seqw <| w_region ?_
         obtain ⟨x35, hx35, h36⟩ := bind_s h34
         refine o_p rfl (p_ia (cs := [.int _ _, .int _ _, .str _, PV.ls _ _ _, PV.ls _ _ _]) ts22 (isl_c rfl) rfl hx35 (rowApiValue_eq _)) <| o_p rfl (p_loades (us := [.int _ _, .int _ _, .str _, PV.ls _ _ _, PV.ls _ _ _]) tv25 rfl rfl rfl) <| o_alloc (n := 4) (cs := [aI, aI, aS, .nil, .nil]) (σ' := [aIISLL, [aS, aI, aI, aI, aI, aI, aI, aI, aI, .nil], [aS, aI, aI, aI, aI, aI, aI, aI, aI, aO], aIISLL, [aI, aI, aS, .nil, .nil]]) tz25 rfl rfl rfl <| o_store (v := .agg aIISLL) (us := aIISLL) (cs := [aI, aI, aS, .nil, .nil]) (σ' := [aIISLL, [aS, aI, aI, aI, aI, aI, aI, aI, aI, .nil], [aS, aI, aI, aI, aI, aI, aI, aI, aI, aO], aIISLL, aIISLL]) rfl tv25 rfl rfl rfl rfl rfl rfl rfl rfl <| o_ek (fr' := [(1, .box 0 0), (2, .box 1 0), (4, .box 2 0), (5, aO), (11, .box 4 0), (23, aL), (24, aI), (25, aI), (74, aL), (75, aI), (76, aI)]) rfl rfl <| w_seqw <| w_sr <| o_p rfl (p_fa tf25x0 rfl) <| o_p rfl (p_load (v := aI) tv3 rfl rfl rfl) <| o_p rfl (p_neq rfl rfl) <| o_ek (fr' := [(1, .box 0 0), (2, .box 1 0), (4, .box 2 0), (5, aO), (11, .box 4 0), (23, aL), (24, aI), (25, aI), (74, aL), (75, aI), (76, aI), (82, aB)]) rfl rfl <| w_ch h36 rfl (fun hb37 h37 => ?_) (fun hb37 h37 => ?_)
         ·
          refine w_sr <| o_p rfl (p_buildc (c0 := [aS, aI, aI, aI, aI, aI, aI, aI, aI, .nil]) (cs := [aS, aI, aI, aI, aI, aI, aI, aI, aI, .nil]) tb27 rfl fill_nil) <| o_store (v := .agg [aS, aI, aI, aI, aI, aI, aI, aI, aI, .nil]) (us := [aS, aI, aI, aI, aI, aI, aI, aI, aI, .nil]) (cs := [aS, aI, aI, aI, aI, aI, aI, aI, aI, .nil]) (σ' := [aIISLL, [aS, aI, aI, aI, aI, aI, aI, aI, aI, .nil], [aS, aI, aI, aI, aI, aI, aI, aI, aI, aO], aIISLL, aIISLL]) rfl tv27 rfl rfl rfl rfl rfl rfl rfl rfl <| sI rfl <| o_ek (fr' := [(2, .box 1 0), (3, aI)]) rfl rfl <| w_ret <| e_seq_r <| e_blk_r <| e_seq_r <| e_seq_r <| e_blk_r <| e_seq_r ?_
          refine e_blk_r <| e_blk_r <| e_seq_r <| e_seq_r <| e_blk_r <| e_seq_r <| e_seq_r ?_
          have h38 := un_out h37 ho33
          have h39 := un_done h38 h31
          have h40 := un_out h39 ho8
          have h41 := un_done h40 h6
          obtain rfl := sy h41
          exact e_ret (rs' := [.cell 2 27, .tmp 3]) rfl <| r_cells (us := [aS, aI, aI, aI, aI, aI, aI, aI, aI, .nil]) (cs := [aS, aI, aI, aI, aI, aI, aI, aI, aI, .nil]) tv27 rfl rfl rfl rfl <| r_tmp (v := aI) rfl <| r_nil <| fin_gen [] rfl rfl rfl (le_tupp rfl ⟨(le_aggc rfl ⟨rfl, rfl, rfl, rfl, rfl, rfl, rfl, rfl, rfl, ⟨_, rfl⟩, trivial⟩), lr, trivial⟩) st_nil
         ·
          refine w_skip <| e_kw <| w_region <| o_p rfl (p_fa tf27x9 rfl) <| o_p rfl (p_load (v := aO) tv23 rfl rfl rfl) <| o_p rfl (p_fa tf25x2 rfl) <| o_p rfl (p_load (v := aS) tv9 rfl rfl rfl) <| o_rows (row := rowS) (xs := ([x35.Text] : List (List UInt8))) (rows := [[_]]) (σ' := [aIISLL, [aS, aI, aI, aI, aI, aI, aI, aI, aI, .nil], [aS, aI, aI, aI, aI, aI, aI, aI, aI, aO], aIISLL, aIISLL]) [0] ts23 rfl rfl rfl (arow_cons rfl arow_nil) rfl rfl ?_
          obtain ⟨x43, hx43, h44⟩ := bind_s h37
          exact o_app (row := rowS) ts23 rfl ti23 rfl (isl_o rfl) (fun _ => rfl) hx43 <| o_p rfl (p_fa tf27x9 rfl) <| o_store (v := aO) (us := [aO]) (cs := aSIIIIIIIIL) (σ' := [aIISLL, [aS, aI, aI, aI, aI, aI, aI, aI, aI, .nil], [aS, aI, aI, aI, aI, aI, aI, aI, aI, aO], aIISLL, aIISLL]) rfl tv23 rfl rfl rfl rfl rfl rfl rfl rfl <| o_end (fr' := [(1, .box 0 0), (2, .box 1 0), (4, .box 2 0), (5, aO), (11, .box 4 0), (23, aL), (24, aI), (25, aI), (74, aL), (75, aI), (76, aI), (82, aB)]) rfl <| e_blk_n <| e_kw <| w_region <| o_p rfl (p_add rfl rfl) <| mI rfl <| o_end (fr' := [(1, .box 0 0), (2, .box 1 0), (4, .box 2 0), (5, aO), (11, .box 4 0), (23, aL), (24, aI), (25, aI), (74, aL), (75, aI), (76, aI), (82, aB)]) rfl <| e_l _ (sy h44) (w_weak [0, 1424] 4 rfl rfl rfl rfl ⟨lr, lr, lr, lr, lr, lr, lr, lr, lr, lr, trivial⟩ (st_r rfl (st_r rfl (st_r rfl (st_r rfl st_nil)))))
        ·
         refine w_exit <| e_seq_x <| e_seq_x <| e_blk_h ?_
         have h45 := un_out h34 ho33
         exact e_j _ (sy h45) (w_weak [0, 1] 4 rfl rfl rfl rfl ⟨lr, lr, lr, lr, lr, lr, lr, trivial⟩ (st_r rfl (st_r rfl (st_r rfl (st_r rfl st_nil)))))
       ·
        intro j32 hj46
        have h46 := un_go hj46 h31
        exact e_blk_n <| e_blk_n <| e_kw <| w_region <| o_p rfl (p_add rfl rfl) <| mI rfl <| o_end (fr' := [(1, .box 0 0), (2, .box 1 0), (4, .box 2 0), (5, aO), (23, aL), (24, aI), (25, aI)]) rfl <| e_l _ (sy h46) (w_weak [0, 1] 3 rfl rfl rfl rfl ⟨lr, lr, lr, lr, lr, lr, lr, trivial⟩ (st_r rfl (st_r rfl (st_r rfl st_nil))))
      ·
       refine w_sr <| mI rfl <| o_p rfl (p_geq rfl rfl) <| mB rfl <| og rfl rfl rfl (fun hc => (p_move (v := aS) rfl)) <| og rfl rfl rfl (fun hc => (p_seql (gx rfl hc) rfl)) <| o_p rfl (p_pickz rfl rfl rfl (fun e => keq e)) <| mB rfl <| og rfl rfl rfl (fun hc => (p_move (v := aS) rfl)) <| og rfl rfl rfl (fun hc => (p_seql (gx rfl hc) rfl)) <| o_p rfl (p_pickz rfl rfl rfl (fun e => keq e)) <| sB rfl ?_
       refine o_ek (fr' := [(2, .box 1 0), (92, aB)]) rfl rfl <| w_ch h29 rfl (fun hb47 h47 => ?_) (fun hb47 h47 => ?_)
       ·
        refine w_sr <| o_p rfl (p_buildc (c0 := [aS, aI, aI, aI, aI, aI, aI, aI, aI, .nil]) (cs := [aS, aI, aI, aI, aI, aI, aI, aI, aI, .nil]) tb27 rfl fill_nil) <| o_store (v := .agg [aS, aI, aI, aI, aI, aI, aI, aI, aI, .nil]) (us := [aS, aI, aI, aI, aI, aI, aI, aI, aI, .nil]) (cs := [aS, aI, aI, aI, aI, aI, aI, aI, aI, .nil]) (σ' := [aIISLL, [aS, aI, aI, aI, aI, aI, aI, aI, aI, .nil], [aS, aI, aI, aI, aI, aI, aI, aI, aI, aO], aIISLL]) rfl tv27 rfl rfl rfl rfl rfl rfl rfl rfl <| sI rfl <| o_ek (fr' := [(2, .box 1 0), (3, aI)]) rfl rfl <| w_ret <| e_blk_r <| e_blk_r <| e_seq_r <| e_seq_r <| e_blk_r <| e_seq_r ?_
        refine e_seq_r ?_
        have h48 := un_out h47 ho8
        have h49 := un_done h48 h6
        obtain rfl := sy h49
        exact e_ret (rs' := [.cell 2 27, .tmp 3]) rfl <| r_cells (us := [aS, aI, aI, aI, aI, aI, aI, aI, aI, .nil]) (cs := [aS, aI, aI, aI, aI, aI, aI, aI, aI, .nil]) tv27 rfl rfl rfl rfl <| r_tmp (v := aI) rfl <| r_nil <| fin_gen [] rfl rfl rfl (le_tupp rfl ⟨(le_aggc rfl ⟨rfl, rfl, rfl, rfl, rfl, rfl, rfl, rfl, rfl, ⟨_, rfl⟩, trivial⟩), lr, trivial⟩) st_nil
       ·
        refine w_sr <| o_p rfl (p_buildc (c0 := [aS, aI, aI, aI, aI, aI, aI, aI, aI, .nil]) (cs := [aS, aI, aI, aI, aI, aI, aI, aI, aI, .nil]) tb27 rfl fill_nil) <| o_store (v := .agg [aS, aI, aI, aI, aI, aI, aI, aI, aI, .nil]) (us := [aS, aI, aI, aI, aI, aI, aI, aI, aI, .nil]) (cs := [aS, aI, aI, aI, aI, aI, aI, aI, aI, .nil]) (σ' := [aIISLL, [aS, aI, aI, aI, aI, aI, aI, aI, aI, .nil], [aS, aI, aI, aI, aI, aI, aI, aI, aI, aO], aIISLL]) rfl tv27 rfl rfl rfl rfl rfl rfl rfl rfl <| sI rfl <| o_ek (fr' := [(2, .box 1 0), (3, aI)]) rfl rfl <| w_ret <| e_blk_r <| e_blk_r <| e_seq_r <| e_seq_r <| e_blk_r <| e_seq_r ?_
        refine e_seq_r ?_
        have h51 := un_out h47 ho8
        have h52 := un_done h51 h6
        obtain rfl := sy h52
        exact e_ret (rs' := [.cell 2 27, .tmp 3]) rfl <| r_cells (us := [aS, aI, aI, aI, aI, aI, aI, aI, aI, .nil]) (cs := [aS, aI, aI, aI, aI, aI, aI, aI, aI, .nil]) tv27 rfl rfl rfl rfl <| r_tmp (v := aI) rfl <| r_nil <| fin_gen [] rfl rfl rfl (le_tupp rfl ⟨(le_aggc rfl ⟨rfl, rfl, rfl, rfl, rfl, rfl, rfl, rfl, rfl, ⟨_, rfl⟩, trivial⟩), lr, trivial⟩) st_nil
   ·
    refine w_exit <| e_seq_x <| e_seq_x <| e_blk_h ?_
    have h54 := un_out h9 ho8
    exact e_j _ (sy h54) (w_weak [1] 3 rfl rfl rfl rfl ⟨lr, lr, trivial⟩ (st_r rfl (st_r rfl (st_r rfl st_nil))))
  ·
   intro j7 hj55
   have h55 := un_go hj55 h6
   refine e_kw <| w_seqw <| w_sr <| o_p rfl (p_loads (us := [aS, aI, aI, aI, aI, aI, aI, aI, aI, aO]) tv27 rfl rfl rfl rfl) ?_
   obtain ⟨x56, hx56, h57⟩ := bind_s h55
   refine o_v (ov_call (v := aB) rfl (w_command_RightPolicy hx56) ⟨(le_aggc rfl ⟨rfl, rfl, rfl, rfl, rfl, rfl, rfl, rfl, rfl, rfl, trivial⟩), trivial⟩ rfl rfl rfl) <| o_p rfl (p_not rfl) <| o_ek (fr' := [(2, .box 1 0), (4, .box 2 0), (107, aB)]) rfl rfl <| w_ch h57 rfl (fun hb58 h58 => ?_) (fun hb58 h58 => ?_)
   ·
    refine w_sr <| o_p rfl (p_buildc (c0 := [aS, aI, aI, aI, aI, aI, aI, aI, aI, .nil]) (cs := [aS, aI, aI, aI, aI, aI, aI, aI, aI, .nil]) tb27 rfl fill_nil) <| o_store (v := .agg [aS, aI, aI, aI, aI, aI, aI, aI, aI, .nil]) (us := [aS, aI, aI, aI, aI, aI, aI, aI, aI, .nil]) (cs := [aS, aI, aI, aI, aI, aI, aI, aI, aI, .nil]) (σ' := [aIISLL, [aS, aI, aI, aI, aI, aI, aI, aI, aI, .nil], [aS, aI, aI, aI, aI, aI, aI, aI, aI, aO]]) rfl tv27 rfl rfl rfl rfl rfl rfl rfl rfl <| sI rfl <| o_ek (fr' := [(2, .box 1 0), (3, aI)]) rfl rfl <| w_ret <| e_seq_r ?_
    obtain rfl := sy h58
    exact e_ret (rs' := [.cell 2 27, .tmp 3]) rfl <| r_cells (us := [aS, aI, aI, aI, aI, aI, aI, aI, aI, .nil]) (cs := [aS, aI, aI, aI, aI, aI, aI, aI, aI, .nil]) tv27 rfl rfl rfl rfl <| r_tmp (v := aI) rfl <| r_nil <| fin_gen [] rfl rfl rfl (le_tupp rfl ⟨(le_aggc rfl ⟨rfl, rfl, rfl, rfl, rfl, rfl, rfl, rfl, rfl, ⟨_, rfl⟩, trivial⟩), lr, trivial⟩) st_nil
   ·
    refine w_skip <| e_kw <| w_sr <| o_p rfl (p_loads (us := [aS, aI, aI, aI, aI, aI, aI, aI, aI, aO]) tv27 rfl rfl rfl rfl) <| o_store (v := .agg [aS, aI, aI, aI, aI, aI, aI, aI, aI, aO]) (us := [aS, aI, aI, aI, aI, aI, aI, aI, aI, aO]) (cs := [aS, aI, aI, aI, aI, aI, aI, aI, aI, .nil]) (σ' := [aIISLL, [aS, aI, aI, aI, aI, aI, aI, aI, aI, aO], [aS, aI, aI, aI, aI, aI, aI, aI, aI, aO]]) rfl tv27 rfl rfl rfl rfl rfl rfl rfl rfl <| sI rfl <| o_ek (fr' := [(2, .box 1 0), (3, aI)]) rfl rfl <| w_ret ?_
    obtain rfl := sy h58
    exact e_ret (rs' := [.cell 2 27, .tmp 3]) rfl <| r_cells (us := [aS, aI, aI, aI, aI, aI, aI, aI, aI, aO]) (cs := [aS, aI, aI, aI, aI, aI, aI, aI, aI, aO]) tv27 rfl rfl rfl rfl <| r_tmp (v := aI) rfl <| r_nil <| fin_gen [] rfl rfl rfl (le_tupp rfl ⟨(le_aggc rfl ⟨rfl, rfl, rfl, rfl, rfl, rfl, rfl, rfl, rfl, rfl, trivial⟩), lr, trivial⟩) st_nil
end Go.Proofs.Ytmnobgopfnhbnaa

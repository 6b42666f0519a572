import Derived.Test.YtmbdbdhdcbdcpaaDoorGHTy
import Derived.Test.YtmbdbdhdcbdcpaaDoorGHF0
import Derived.Test.YtmbdbdhdcbdcpaaDoorGHF1
namespace Go.Proofs.YtmbdbdhdcbdcpaaDoor
open Go Abs
set_option maxRecDepth 100000
set_option linter.unusedVariables false
set_option linter.unusedSimpArgs false
noncomputable def command_input (p0v : ApiValue) : Option Bool :=
 (gd ((cond (!decide (p0v.Kind = (4 : Int))) true (!decide (((p0v.Items).length : Int) = (2 : Int)))) == false) (idx p0v.Items (1 : Int))).bind fun (x1 : ApiValue) => cond (cond (cond (!decide (p0v.Kind = (4 : Int))) true (!decide (((p0v.Items).length : Int) = (2 : Int)))) true (!decide (x1.Kind = (4 : Int)))) (some false) ((idx p0v.Items (1 : Int)).bind fun (x5 : ApiValue) => (slices_ContainsFunc_api_Value_api_Value_command_input_1 x5.Items).bind fun (x7 : Bool) => some (!x7))
theorem w_command_input {p0v : ApiValue} {res : Bool} (h : command_input p0v = some res) : ACalls Tryd.prog 179 [.agg (AV.cs (exApiValue p0v))] [] (.c (.bool res)) [] := by
 unfold command_input at h
 refine acalls (fn := Tryd.f179) [0, 1, 2, 19] (by kernel_rfl) Tryd.func179 rfl (by kernel_rfl) (by kernel_rfl) <| w_sr <| o_box (v := .agg aIISLL) (n := 0) (cs := aIISLL) (σ' := [aIISLL]) rfl rfl rfl rfl rfl <| sB rfl <| o_ek (fr' := [(1, .box 0 0)]) rfl rfl <| w_seqw <| w_sr <| o_p rfl (p_fa tf112x0 rfl) <| o_p rfl (p_load (v := aI) tv3 rfl rfl rfl) <| o_p rfl (p_neq rfl rfl) <| mB rfl ?_
 refine og rfl rfl rfl (fun hc => (p_fa tf112x3 rfl)) <| og rfl rfl rfl (fun hc => (p_load (v := aL) tv109 (gx rfl hc) rfl rfl)) <| og rfl rfl rfl (fun hc => (p_len ti109 (isl_c (gx rfl hc)))) <| og rfl rfl rfl (fun hc => (p_neq (gx rfl hc) rfl)) <| o_p rfl (p_pickz rfl rfl rfl (fun e => keq e)) <| mB rfl <| og rfl rfl rfl (fun hc => (p_fa tf112x3 rfl)) <| og rfl rfl rfl (fun hc => (p_load (v := aL) tv109 (gx rfl hc) rfl rfl)) ?_
 obtain ⟨x1, hx1, h2⟩ := bind_s h
 refine og rfl rfl rfl (fun hc => (p_ia (cs := [PV.int _ _, PV.int _ _, PV.str _, PV.ls _ _ _, PV.ls _ _ _]) ts109 (isl_c (gx rfl hc)) rfl (gd_some hx1 hc) (rowApiValue_eq _))) <| og rfl rfl rfl (fun hc => (p_fae tf112x0 (gx rfl hc))) <| og rfl rfl rfl (fun hc => (p_loade (p := PV.int _ _) tv3 (gx rfl hc) rfl)) <| og rfl rfl rfl (fun hc => (p_neq (gx rfl hc) rfl)) <| o_p rfl (p_pickz rfl rfl rfl (fun e => keq e)) <| o_ek (fr' := [(1, .box 0 0), (19, aB)]) rfl rfl <| w_ch h2 rfl (fun hb3 h3 => ?_) (fun hb3 h3 => ?_)
 ·
  refine w_sr <| sB rfl <| o_ek (fr' := [(2, aB)]) rfl rfl <| w_ret <| e_seq_r ?_
  obtain rfl := sy h3
  exact e_ret (rs' := [.tmp 2]) rfl <| r_tmp (v := aB) rfl <| r_nil <| fin_gen [] rfl rfl rfl lr st_nil
 ·
  refine w_skip <| e_kw <| w_sr <| o_p rfl (p_fa tf112x3 rfl) <| o_p rfl (p_load (v := aL) tv109 rfl rfl rfl) ?_
  obtain ⟨x5, hx5, h6⟩ := bind_s h3
  refine o_p rfl (p_ia (cs := [PV.int _ _, PV.int _ _, PV.str _, PV.ls _ _ _, PV.ls _ _ _]) ts109 (isl_c rfl) rfl hx5 (rowApiValue_eq _)) <| o_p rfl (p_fae tf112x3 rfl) <| o_p rfl (p_loade (p := PV.ls _ _ _) tv109 rfl rfl) ?_
  obtain ⟨x7, hx7, h8⟩ := bind_s h6
  refine o_v (ov_call (v := aB) rfl (w_slices_ContainsFunc_api_Value_api_Value_command_input_1 hx7) ⟨lr, lr, trivial⟩ rfl rfl rfl) <| o_p rfl (p_not rfl) <| sB rfl <| o_ek (fr' := [(2, aB)]) rfl rfl <| w_ret ?_
  obtain rfl := sy h8
  exact e_ret (rs' := [.tmp 2]) rfl <| r_tmp (v := aB) rfl <| r_nil <| fin_gen [] rfl rfl rfl lr st_nil
noncomputable def command_number (p0c : ApiCommand) : Option Bool :=
 cond (decide (p0c.Kind = (3 : Int))) ((command_in p0c.N (1 : Int) (1099511627776 : Int)).bind fun (x2 : Bool) => some x2) (cond (decide (p0c.Kind = (5 : Int))) ((command_in p0c.N (0 : Int) (2 : Int)).bind fun (x6 : Bool) => some x6) (cond (decide (p0c.Kind = (9 : Int))) ((command_in p0c.N (0 : Int) (1 : Int)).bind fun (x10 : Bool) => some x10) (cond (decide (p0c.Kind = (7 : Int))) ((gd ((decide (p0c.N = (-1 : Int))) == false) (command_in p0c.N (0 : Int) (2147483647 : Int))).bind fun (x14 : Bool) => some (cond (decide (p0c.N = (-1 : Int))) true (cond x14 (decide (p0c.Data.Kind = (0 : Int))) false))) (cond (decide (p0c.Kind = (10 : Int))) (some (decide (p0c.Data.Kind = (5 : Int)))) (cond (decide (p0c.Kind = (14 : Int))) ((command_input p0c.Data).bind fun (x20 : Bool) => some x20) (some true))))))
theorem w_command_number {p0c : ApiCommand} {res : Bool} (h : command_number p0c = some res) : ACalls Tryd.prog 160 [.agg (AV.cs (rowApiCommand p0c))] [] (.c (.bool res)) [] := by
 unfold command_number at h
 refine acalls (fn := Tryd.f160) [0, 1, 2, 4, 5, 10, 15, 20, 36, 42] (by kernel_rfl) Tryd.func160 rfl (by kernel_rfl) (by kernel_rfl) <| w_sr <| o_box (v := .agg aIISSIIISLLSIIIIIIIIL) (n := 0) (cs := aIISSIIISLLSIIIIIIIIL) (σ' := [aIISSIIISLLSIIIIIIIIL]) rfl rfl rfl rfl rfl <| sB rfl <| o_ek (fr' := [(1, .box 0 0)]) rfl rfl <| w_seqw <| w_sr <| o_p rfl (p_fa tf194x0 rfl) <| o_p rfl (p_load (v := aI) tv3 rfl rfl rfl) <| o_ek (fr' := [(1, .box 0 0), (4, aI)]) rfl rfl <| w_block ?_
 refine w_sr <| o_p rfl (p_eql rfl rfl) <| sB rfl <| o_ek (fr' := [(1, .box 0 0), (4, aI), (5, aB)]) rfl rfl <| w_ch h rfl (fun hb1 h1 => ?_) (fun hb1 h1 => ?_)
 ·
  refine w_sr <| o_p rfl (p_fa tf194x4 rfl) <| o_p rfl (p_load (v := aI) tv3 rfl rfl rfl) ?_
  obtain ⟨x2, hx2, h3⟩ := bind_s h1
  refine o_v (ov_call (v := aB) rfl (w_command_in hx2) ⟨lr, lr, lr, trivial⟩ rfl rfl rfl) <| sB rfl <| o_ek (fr' := [(2, aB)]) rfl rfl <| w_ret <| e_blk_r <| e_seq_r ?_
  obtain rfl := sy h3
  exact e_ret (rs' := [.tmp 2]) rfl <| r_tmp (v := aB) rfl <| r_nil <| fin_gen [] rfl rfl rfl lr st_nil
 ·
  refine w_sr <| o_p rfl (p_eql rfl rfl) <| sB rfl <| o_ek (fr' := [(1, .box 0 0), (4, aI), (10, aB)]) rfl rfl <| w_ch h1 rfl (fun hb5 h5 => ?_) (fun hb5 h5 => ?_)
  ·
   refine w_sr <| o_p rfl (p_fa tf194x4 rfl) <| o_p rfl (p_load (v := aI) tv3 rfl rfl rfl) ?_
   obtain ⟨x6, hx6, h7⟩ := bind_s h5
   refine o_v (ov_call (v := aB) rfl (w_command_in hx6) ⟨lr, lr, lr, trivial⟩ rfl rfl rfl) <| sB rfl <| o_ek (fr' := [(2, aB)]) rfl rfl <| w_ret <| e_blk_r <| e_seq_r ?_
   obtain rfl := sy h7
   exact e_ret (rs' := [.tmp 2]) rfl <| r_tmp (v := aB) rfl <| r_nil <| fin_gen [] rfl rfl rfl lr st_nil
  ·
   refine w_sr <| o_p rfl (p_eql rfl rfl) <| sB rfl <| o_ek (fr' := [(1, .box 0 0), (4, aI), (15, aB)]) rfl rfl <| w_ch h5 rfl (fun hb9 h9 => ?_) (fun hb9 h9 => ?_)
   ·
    refine w_sr <| o_p rfl (p_fa tf194x4 rfl) <| o_p rfl (p_load (v := aI) tv3 rfl rfl rfl) ?_
    obtain ⟨x10, hx10, h11⟩ := bind_s h9
    refine o_v (ov_call (v := aB) rfl (w_command_in hx10) ⟨lr, lr, lr, trivial⟩ rfl rfl rfl) <| sB rfl <| o_ek (fr' := [(2, aB)]) rfl rfl <| w_ret <| e_blk_r <| e_seq_r ?_
    obtain rfl := sy h11
    exact e_ret (rs' := [.tmp 2]) rfl <| r_tmp (v := aB) rfl <| r_nil <| fin_gen [] rfl rfl rfl lr st_nil
   ·
    refine w_sr <| o_p rfl (p_eql rfl rfl) <| sB rfl <| o_ek (fr' := [(1, .box 0 0), (4, aI), (20, aB)]) rfl rfl <| w_ch h9 rfl (fun hb13 h13 => ?_) (fun hb13 h13 => ?_)
    ·
     refine w_sr <| o_p rfl (p_fa tf194x4 rfl) <| o_p rfl (p_load (v := aI) tv3 rfl rfl rfl) <| o_p rfl (p_eql rfl rfl) <| mB rfl <| og rfl rfl rfl (fun hc => (p_fa tf194x4 rfl)) <| og rfl rfl rfl (fun hc => (p_load (v := aI) tv3 (gx rfl hc) rfl rfl)) ?_
     obtain ⟨x14, hx14, h15⟩ := bind_s h13
     refine o_g rfl rfl (fun hc => ov_call (v := aB) rfl (w_command_in (gd_some hx14 hc)) ⟨(le_gv (gx rfl hc) lr), lr, lr, trivial⟩ (ok_eq (by repeat (first | exact ok_nil | refine ok_cons rfl ?_ | refine ok_cons (dgv rfl) ?_ | refine ok_cons dar ?_))) rfl rfl) ?_
     refine og rfl rfl rfl (fun hc => (p_move (v := aB) (gx rfl hc))) <| o_gg rfl rfl (fun hc => ov_p rfl (p_fa tf194x5 rfl)) <| o_gg rfl rfl (fun hc => ov_p rfl (p_fa tf112x0 (gx rfl hc))) <| o_gg rfl rfl (fun hc => ov_p rfl (p_load (v := aI) tv3 (gx rfl hc) rfl rfl)) <| o_gg rfl rfl (fun hc => ov_p rfl (p_eql (gx rfl hc) rfl)) <| og rfl rfl rfl (fun hc => (p_picky (gx rfl hc) rfl rfl (fun e => band hc (keq e)))) <| o_p rfl (p_pickz rfl rfl rfl (fun e => keq e)) <| sB rfl <| o_ek (fr' := [(2, aB)]) rfl rfl <| w_ret <| e_blk_r <| e_seq_r ?_
     obtain rfl := sy h15
     exact e_ret (rs' := [.tmp 2]) rfl <| r_tmp (v := aB) rfl <| r_nil <| fin_gen [] rfl rfl rfl lr st_nil
    ·
     refine w_sr <| o_p rfl (p_eql rfl rfl) <| sB rfl <| o_ek (fr' := [(1, .box 0 0), (4, aI), (36, aB)]) rfl rfl <| w_ch h13 rfl (fun hb17 h17 => ?_) (fun hb17 h17 => ?_)
     ·
      refine w_sr <| o_p rfl (p_fa tf194x5 rfl) <| o_p rfl (p_fa tf112x0 rfl) <| o_p rfl (p_load (v := aI) tv3 rfl rfl rfl) <| o_p rfl (p_eql rfl rfl) <| sB rfl <| o_ek (fr' := [(2, aB)]) rfl rfl <| w_ret <| e_blk_r <| e_seq_r ?_
      obtain rfl := sy h17
      exact e_ret (rs' := [.tmp 2]) rfl <| r_tmp (v := aB) rfl <| r_nil <| fin_gen [] rfl rfl rfl lr st_nil
     ·
      refine w_sr <| o_p rfl (p_eql rfl rfl) <| sB rfl <| o_ek (fr' := [(1, .box 0 0), (42, aB)]) rfl rfl <| w_ch h17 rfl (fun hb19 h19 => ?_) (fun hb19 h19 => ?_)
      ·
       refine w_sr <| o_p rfl (p_fa tf194x5 rfl) <| o_p rfl (p_loads (us := aIISLL) tv112 rfl rfl rfl rfl) ?_
       obtain ⟨x20, hx20, h21⟩ := bind_s h19
       refine o_v (ov_call (v := aB) rfl (w_command_input hx20) ⟨(le_aggc rfl ⟨rfl, rfl, rfl, rfl, rfl, trivial⟩), trivial⟩ rfl rfl rfl) <| sB rfl <| o_ek (fr' := [(2, aB)]) rfl rfl <| w_ret <| e_blk_r <| e_seq_r ?_
       obtain rfl := sy h21
       exact e_ret (rs' := [.tmp 2]) rfl <| r_tmp (v := aB) rfl <| r_nil <| fin_gen [] rfl rfl rfl lr st_nil
      ·
       refine w_skip <| e_blk_n <| e_kw <| w_sr <| sB rfl <| o_ek (fr' := [(2, aB)]) rfl rfl <| w_ret ?_
       obtain rfl := sy h19
       exact e_ret (rs' := [.tmp 2]) rfl <| r_tmp (v := aB) rfl <| r_nil <| fin_gen [] rfl rfl rfl lr st_nil
noncomputable def command_Right (p0c : ApiCommand) : Option Bool :=
 (command_fields p0c.Kind).bind fun (x1 : CommandUses) => (command_in p0c.Kind (1 : Int) (14 : Int)).bind fun (x3 : Bool) => (gd ((!x3) == false) (command_bare p0c x1)).bind fun (x5 : Bool) => (gd ((cond (!x3) true (!x5)) == false) (value_Right p0c.Data)).bind fun (x7 : Bool) => (gd ((cond (cond (!x3) true (!x5)) true (!x7)) == false) (command_RightPolicy p0c.Opts)).bind fun (x9 : Bool) => cond (cond (cond (cond (!x3) true (!x5)) true (!x7)) true (!x9)) (some false) ((gd (x1.seq_ == true) (command_in p0c.Seq (1 : Int) (2000 : Int))).bind fun (x13 : Bool) => (gd (((cond x1.seq_ (!x13) false) == false) && (x1.key_ == true)) (command_ident p0c.Key)).bind fun (x15 : Bool) => cond (cond (cond x1.seq_ (!x13) false) true (cond x1.key_ (!x15) false)) (some false) ((gd (((x1.name_ == true) && ((cond (decide (p0c.Kind = (12 : Int))) (decide ((4096 : Int) < ((p0c.Name).length : Int))) false) == false)) && ((!decide (p0c.Kind = (12 : Int))) == true)) (name_Right p0c.Name)).bind fun (x19 : Bool) => cond (cond x1.name_ (cond (cond (decide (p0c.Kind = (12 : Int))) (decide ((4096 : Int) < ((p0c.Name).length : Int))) false) true (cond (!decide (p0c.Kind = (12 : Int))) (!x19) false)) false) (some false) ((command_number p0c).bind fun (x23 : Bool) => some x23)))
theorem w_command_Right {p0c : ApiCommand} {res : Bool} (h : command_Right p0c = some res) : ACalls Tryd.prog 132 [.agg (AV.cs (rowApiCommand p0c))] [] (.c (.bool res)) [] := by
 unfold command_Right at h
 refine acalls (fn := Tryd.f132) [0, 1, 2, 3, 28, 46, 70] (by kernel_rfl) Tryd.func132 rfl (by kernel_rfl) (by kernel_rfl) <| w_sr <| o_box (v := .agg aIISSIIISLLSIIIIIIIIL) (n := 0) (cs := aIISSIIISLLSIIIIIIIIL) (σ' := [aIISSIIISLLSIIIIIIIIL]) rfl rfl rfl rfl rfl <| sB rfl <| o_ek (fr' := [(1, .box 0 0)]) rfl rfl <| w_sr <| o_p rfl (p_fa tf194x0 rfl) <| o_p rfl (p_load (v := aI) tv3 rfl rfl rfl) ?_
 obtain ⟨x1, hx1, h2⟩ := bind_s h
 refine o_v (ov_call (v := .agg aBBBBBB) rfl (w_command_fields hx1) ⟨lr, trivial⟩ rfl rfl rfl) <| o_alloc (n := 1) (cs := aBBBBBB) (σ' := [aIISSIIISLLSIIIIIIIIL, aBBBBBB]) tz216 rfl rfl rfl <| o_store (v := .agg aBBBBBB) (us := aBBBBBB) (cs := aBBBBBB) (σ' := [aIISSIIISLLSIIIIIIIIL, aBBBBBB]) rfl tv216 rfl rfl rfl rfl rfl rfl rfl rfl <| o_ek (fr' := [(1, .box 0 0), (3, .box 1 0)]) rfl rfl <| w_seqw <| w_sr <| o_p rfl (p_fa tf194x0 rfl) <| o_p rfl (p_load (v := aI) tv3 rfl rfl rfl) ?_
 obtain ⟨x3, hx3, h4⟩ := bind_s h2
 refine o_v (ov_call (v := aB) rfl (w_command_in hx3) ⟨lr, lr, lr, trivial⟩ rfl rfl rfl) <| o_p rfl (p_not rfl) <| mB rfl <| og rfl rfl rfl (fun hc => (p_loads (us := aIISSIIISLLSIIIIIIIIL) tv194 rfl rfl rfl rfl)) <| og rfl rfl rfl (fun hc => (p_loads (us := aBBBBBB) tv216 rfl rfl rfl rfl)) ?_
 obtain ⟨x5, hx5, h6⟩ := bind_s h4
 refine o_g rfl rfl (fun hc => ov_call (v := aB) rfl (w_command_bare (gd_some hx5 hc)) ⟨(le_gv (gx rfl hc) (le_aggc rfl ⟨rfl, rfl, rfl, rfl, rfl, rfl, rfl, rfl, rfl, rfl, rfl, rfl, rfl, rfl, rfl, rfl, rfl, rfl, rfl, rfl, trivial⟩)), (le_gv (gx rfl hc) (le_aggc rfl ⟨rfl, rfl, rfl, rfl, rfl, rfl, trivial⟩)), trivial⟩ (ok_eq (by repeat (first | exact ok_nil | refine ok_cons rfl ?_ | refine ok_cons (dgv rfl) ?_ | refine ok_cons dar ?_))) rfl rfl) ?_
 refine og rfl rfl rfl (fun hc => (p_not (gx rfl hc))) <| o_p rfl (p_pickz rfl rfl rfl (fun e => keq e)) <| mB rfl <| og rfl rfl rfl (fun hc => (p_fa tf194x5 rfl)) <| og rfl rfl rfl (fun hc => (p_loads (us := aIISLL) tv112 (gx rfl hc) rfl rfl rfl)) ?_
 obtain ⟨x7, hx7, h8⟩ := bind_s h6
 refine o_g rfl rfl (fun hc => ov_call (v := aB) rfl (w_value_Right (gd_some hx7 hc)) ⟨(le_gv (gx rfl hc) (le_aggc rfl ⟨rfl, rfl, rfl, rfl, rfl, trivial⟩)), trivial⟩ (ok_eq (by repeat (first | exact ok_nil | refine ok_cons rfl ?_ | refine ok_cons (dgv rfl) ?_ | refine ok_cons dar ?_))) rfl rfl) ?_
 refine og rfl rfl rfl (fun hc => (p_not (gx rfl hc))) <| o_p rfl (p_pickz rfl rfl rfl (fun e => keq e)) <| mB rfl <| og rfl rfl rfl (fun hc => (p_fa tf194x6 rfl)) <| og rfl rfl rfl (fun hc => (p_loads (us := aSIIIIIIIIL) tv114 (gx rfl hc) rfl rfl rfl)) ?_
 obtain ⟨x9, hx9, h10⟩ := bind_s h8
 refine o_g rfl rfl (fun hc => ov_call (v := aB) rfl (w_command_RightPolicy (gd_some hx9 hc)) ⟨(le_gv (gx rfl hc) (le_aggc rfl ⟨rfl, rfl, rfl, rfl, rfl, rfl, rfl, rfl, rfl, rfl, trivial⟩)), trivial⟩ (ok_eq (by repeat (first | exact ok_nil | refine ok_cons rfl ?_ | refine ok_cons (dgv rfl) ?_ | refine ok_cons dar ?_))) rfl rfl) ?_
 refine og rfl rfl rfl (fun hc => (p_not (gx rfl hc))) <| o_p rfl (p_pickz rfl rfl rfl (fun e => keq e)) <| o_ek (fr' := [(1, .box 0 0), (3, .box 1 0), (28, aB)]) rfl rfl <| w_ch h10 rfl (fun hb11 h11 => ?_) (fun hb11 h11 => ?_)
 ·
  refine w_sr <| sB rfl <| o_ek (fr' := [(2, aB)]) rfl rfl <| w_ret <| e_seq_r ?_
  obtain rfl := sy h11
  exact e_ret (rs' := [.tmp 2]) rfl <| r_tmp (v := aB) rfl <| r_nil <| fin_gen [] rfl rfl rfl lr st_nil
 ·
  refine w_skip <| e_kw <| w_seqw <| w_sr <| o_p rfl (p_fa tf216x0 rfl) <| o_p rfl (p_load (v := aB) tv4 rfl rfl rfl) <| mB rfl <| og rfl rfl rfl (fun hc => (p_fa tf194x1 rfl)) <| og rfl rfl rfl (fun hc => (p_load (v := aI) tv3 (gx rfl hc) rfl rfl)) ?_
  obtain ⟨x13, hx13, h14⟩ := bind_s h11
  refine o_g rfl rfl (fun hc => ov_call (v := aB) rfl (w_command_in (gd_some hx13 hc)) ⟨(le_gv (gx rfl hc) lr), lr, lr, trivial⟩ (ok_eq (by repeat (first | exact ok_nil | refine ok_cons rfl ?_ | refine ok_cons (dgv rfl) ?_ | refine ok_cons dar ?_))) rfl rfl) ?_
  refine og rfl rfl rfl (fun hc => (p_not (gx rfl hc))) <| o_p rfl (p_picky rfl rfl rfl (fun e => keq e)) <| mB rfl <| og rfl rfl rfl (fun hc => (p_fa tf216x2 rfl)) <| og rfl rfl rfl (fun hc => (p_load (v := aB) tv4 (gx rfl hc) rfl rfl)) <| og rfl rfl rfl (fun hc => (p_move (v := aB) (gx rfl hc))) <| o_gg rfl rfl (fun hc => ov_p rfl (p_fa tf194x3 rfl)) <| o_gg rfl rfl (fun hc => ov_p rfl (p_load (v := aS) tv9 (gx rfl hc) rfl rfl)) ?_
  obtain ⟨x15, hx15, h16⟩ := bind_s h14
  refine o_gg rfl rfl (fun hc => ov_call (v := aB) rfl (w_command_ident (gd_some hx15 hc)) ⟨(le_gv (gx rfl hc) lr), trivial⟩ (ok_eq (by repeat (first | exact ok_nil | refine ok_cons rfl ?_ | refine ok_cons (dgv rfl) ?_ | refine ok_cons dar ?_))) rfl rfl) ?_
  refine o_gg rfl rfl (fun hc => ov_p rfl (p_not (gx rfl hc))) <| og rfl rfl rfl (fun hc => (p_picky (gx rfl hc) rfl rfl (fun e => band hc (keq e)))) <| o_p rfl (p_pickz rfl rfl rfl (fun e => keq e)) <| o_ek (fr' := [(1, .box 0 0), (3, .box 1 0), (46, aB)]) rfl rfl <| w_ch h16 rfl (fun hb17 h17 => ?_) (fun hb17 h17 => ?_)
  ·
   refine w_sr <| sB rfl <| o_ek (fr' := [(2, aB)]) rfl rfl <| w_ret <| e_seq_r ?_
   obtain rfl := sy h17
   exact e_ret (rs' := [.tmp 2]) rfl <| r_tmp (v := aB) rfl <| r_nil <| fin_gen [] rfl rfl rfl lr st_nil
  ·
   refine w_skip <| e_kw <| w_seqw <| w_sr <| o_p rfl (p_fa tf216x1 rfl) <| o_p rfl (p_load (v := aB) tv4 rfl rfl rfl) <| mB rfl <| og rfl rfl rfl (fun hc => (p_fa tf194x0 rfl)) <| og rfl rfl rfl (fun hc => (p_load (v := aI) tv3 (gx rfl hc) rfl rfl)) <| og rfl rfl rfl (fun hc => (p_eql (gx rfl hc) rfl)) <| og rfl rfl rfl (fun hc => (p_move (v := aB) (gx rfl hc))) <| o_gg rfl rfl (fun hc => ov_p rfl (p_fa tf194x2 rfl)) ?_
   refine o_gg rfl rfl (fun hc => ov_p rfl (p_load (v := aS) tv9 (gx rfl hc) rfl rfl)) <| o_gg rfl rfl (fun hc => ov_p rfl (p_lens ti9 (gx rfl hc))) <| o_gg rfl rfl (fun hc => ov_p rfl (p_gtr (gx rfl hc) rfl)) <| og rfl rfl rfl (fun hc => (p_picky (gx rfl hc) rfl rfl (fun e => band hc (keq e)))) <| og rfl rfl rfl (fun hc => (p_move (v := aB) (gx rfl hc))) <| o_gg rfl rfl (fun hc => ov_p rfl (p_fa tf194x0 rfl)) <| o_gg rfl rfl (fun hc => ov_p rfl (p_load (v := aI) tv3 (gx rfl hc) rfl rfl)) <| o_gg rfl rfl (fun hc => ov_p rfl (p_neq (gx rfl hc) rfl)) <| o_gg rfl rfl (fun hc => ov_p rfl (p_move (v := aB) (gx rfl hc))) <| o_gg rfl rfl (fun hc => ov_p rfl (p_fa tf194x2 rfl)) <| o_gg rfl rfl (fun hc => ov_p rfl (p_load (v := aS) tv9 (gx rfl hc) rfl rfl)) ?_
   obtain ⟨x19, hx19, h20⟩ := bind_s h17
   refine o_gg rfl rfl (fun hc => ov_call (v := aB) rfl (w_name_Right (gd_some hx19 hc)) ⟨(le_gv (gx rfl hc) lr), trivial⟩ (ok_eq (by repeat (first | exact ok_nil | refine ok_cons rfl ?_ | refine ok_cons (dgv rfl) ?_ | refine ok_cons dar ?_))) rfl rfl) ?_
   refine o_gg rfl rfl (fun hc => ov_p rfl (p_not (gx rfl hc))) <| o_gg rfl rfl (fun hc => ov_p rfl (p_picky (gx rfl hc) rfl rfl (fun e => band hc (keq e)))) <| og rfl rfl rfl (fun hc => (p_pickz (gx rfl hc) rfl rfl (fun e => band hc (keq e)))) <| o_p rfl (p_picky rfl rfl rfl (fun e => keq e)) <| o_ek (fr' := [(1, .box 0 0), (70, aB)]) rfl rfl <| w_ch h20 rfl (fun hb21 h21 => ?_) (fun hb21 h21 => ?_)
   ·
    refine w_sr <| sB rfl <| o_ek (fr' := [(2, aB)]) rfl rfl <| w_ret <| e_seq_r ?_
    obtain rfl := sy h21
    exact e_ret (rs' := [.tmp 2]) rfl <| r_tmp (v := aB) rfl <| r_nil <| fin_gen [] rfl rfl rfl lr st_nil
   ·
    refine w_skip <| e_kw <| w_sr <| o_p rfl (p_loads (us := aIISSIIISLLSIIIIIIIIL) tv194 rfl rfl rfl rfl) ?_
    obtain ⟨x23, hx23, h24⟩ := bind_s h21
    refine o_v (ov_call (v := aB) rfl (w_command_number hx23) ⟨(le_aggc rfl ⟨rfl, rfl, rfl, rfl, rfl, rfl, rfl, rfl, rfl, rfl, rfl, rfl, rfl, rfl, rfl, rfl, rfl, rfl, rfl, rfl, trivial⟩), trivial⟩ rfl rfl rfl) <| sB rfl <| o_ek (fr' := [(2, aB)]) rfl rfl <| w_ret ?_
    obtain rfl := sy h24
    exact e_ret (rs' := [.tmp 2]) rfl <| r_tmp (v := aB) rfl <| r_nil <| fin_gen [] rfl rfl rfl lr st_nil
noncomputable def event_commanded (p0e : ApiEvent) (p1kind : Int) : Option Bool :=
 (gd (((decide (p0e.Code = (0 : Int))) == true) && ((cond (decide (p1kind = (2 : Int))) true (decide (p1kind = (4 : Int)))) == true)) (event_within p0e.Ref (1 : Int) (2000 : Int))).bind fun (x1 : Bool) => (gd ((cond (decide (p0e.Code = (0 : Int))) (cond (cond (cond (decide (p1kind = (2 : Int))) true (decide (p1kind = (4 : Int)))) x1 false) true (cond (!(cond (decide (p1kind = (2 : Int))) true (decide (p1kind = (4 : Int))))) (decide (p0e.Ref = (0 : Int))) false)) false) == true) (command_Right (ApiCommand.mk p1kind p0e.Seq p0e.Name p0e.Key p0e.N p0e.Data p0e.Opts))).bind fun (x3 : Bool) => some (cond (cond (decide (p0e.Code = (0 : Int))) (cond (cond (cond (decide (p1kind = (2 : Int))) true (decide (p1kind = (4 : Int)))) x1 false) true (cond (!(cond (decide (p1kind = (2 : Int))) true (decide (p1kind = (4 : Int))))) (decide (p0e.Ref = (0 : Int))) false)) false) x3 false)
theorem w_event_commanded {p0e : ApiEvent} {p1kind : Int} {res : Bool} (h : event_commanded p0e p1kind = some res) : ACalls Tryd.prog 113 [.agg (AV.cs (rowApiEvent p0e)), .c (.int .i64 p1kind)] [] (.c (.bool res)) [] := by
 unfold event_commanded at h
 refine acalls (fn := Tryd.f113) [0, 1, 2, 4, 5, 6] (by kernel_rfl) Tryd.func113 rfl (by kernel_rfl) (by kernel_rfl) <| w_sr <| o_box (v := .agg aIIIIIIISSIISLLSIIIIIIIIL) (n := 0) (cs := aIIIIIIISSIISLLSIIIIIIIIL) (σ' := [aIIIIIIISSIISLLSIIIIIIIIL]) rfl rfl rfl rfl rfl <| sB rfl <| o_ek (fr' := [(1, aI), (2, .box 0 0)]) rfl rfl <| w_sr <| mI rfl <| o_p rfl (p_fa tf116x3 rfl) <| o_p rfl (p_load (v := aI) tv3 rfl rfl rfl) <| o_p rfl (p_fa tf116x7 rfl) <| o_p rfl (p_load (v := aS) tv9 rfl rfl rfl) ?_
 refine o_p rfl (p_fa tf116x8 rfl) <| o_p rfl (p_load (v := aS) tv9 rfl rfl rfl) <| o_p rfl (p_fa tf116x5 rfl) <| o_p rfl (p_load (v := aI) tv3 rfl rfl rfl) <| o_p rfl (p_fa tf116x9 rfl) <| o_p rfl (p_loads (us := aIISLL) tv112 rfl rfl rfl rfl) <| o_p rfl (p_fa tf116x10 rfl) <| o_p rfl (p_loads (us := aSIIIIIIIIL) tv114 rfl rfl rfl rfl) <| o_p rfl (p_buildc (c0 := [aI, aI, aS, aS, aI, aI, aI, aS, AV.nil, AV.nil, aS, aI, aI, aI, aI, aI, aI, aI, aI, AV.nil]) (cs := aIISSIIISLLSIIIIIIIIL) tb194 rfl (fill_cons (v := aI) (us := [_]) (cs' := u20) rfl rfl rfl rfl rfl rfl (fill_cons (v := aI) (us := [_]) (cs' := u20) rfl rfl rfl rfl rfl rfl (fill_cons (v := aS) (us := [_]) (cs' := u20) rfl rfl rfl rfl rfl rfl (fill_cons (v := aS) (us := [_]) (cs' := u20) rfl rfl rfl rfl rfl rfl (fill_cons (v := aI) (us := [_]) (cs' := u20) rfl rfl rfl rfl rfl rfl (fill_cons (v := .agg aIISLL) (us := u5) (cs' := u20) rfl rfl rfl rfl rfl rfl (fill_cons (v := .agg aSIIIIIIIIL) (us := u10) (cs' := u20) rfl rfl rfl rfl rfl rfl fill_nil)))))))) <| o_alloc (n := 1) (cs := [aI, aI, aS, aS, aI, aI, aI, aS, AV.nil, AV.nil, aS, aI, aI, aI, aI, aI, aI, aI, aI, AV.nil]) (σ' := [aIIIIIIISSIISLLSIIIIIIIIL, [aI, aI, aS, aS, aI, aI, aI, aS, AV.nil, AV.nil, aS, aI, aI, aI, aI, aI, aI, aI, aI, AV.nil]]) tz194 rfl rfl rfl <| o_store (v := .agg aIISSIIISLLSIIIIIIIIL) (us := aIISSIIISLLSIIIIIIIIL) (cs := [aI, aI, aS, aS, aI, aI, aI, aS, AV.nil, AV.nil, aS, aI, aI, aI, aI, aI, aI, aI, aI, AV.nil]) (σ' := [aIIIIIIISSIISLLSIIIIIIIIL, aIISSIIISLLSIIIIIIIIL]) rfl tv194 rfl rfl rfl rfl rfl rfl rfl rfl <| o_ek (fr' := [(1, aI), (2, .box 0 0), (5, .box 1 0)]) rfl rfl <| w_seqw ?_
 refine w_region <| mI rfl <| o_p rfl (p_eql rfl rfl) <| mB rfl <| og rfl rfl rfl (fun hc => (p_move (v := aI) rfl)) <| og rfl rfl rfl (fun hc => (p_eql (gx rfl hc) rfl)) <| o_p rfl (p_pickz rfl rfl rfl (fun e => keq e)) <| sB rfl <| o_ek (fr' := [(2, .box 0 0), (5, .box 1 0), (6, aB)]) rfl rfl <| w_sr <| o_p rfl (p_fa tf116x6 rfl) <| o_p rfl (p_load (v := aI) tv3 rfl rfl rfl) ?_
 refine o_p rfl (p_eql rfl rfl) <| mB rfl <| og rfl rfl rfl (fun hc => (p_move (v := aB) rfl)) <| og rfl rfl rfl (fun hc => (p_move (v := aB) (gx rfl hc))) <| o_gg rfl rfl (fun hc => ov_p rfl (p_fa tf116x4 rfl)) <| o_gg rfl rfl (fun hc => ov_p rfl (p_load (v := aI) tv3 (gx rfl hc) rfl rfl)) ?_
 obtain ⟨x1, hx1, h2⟩ := bind_s h
 refine o_gg rfl rfl (fun hc => ov_call (v := aB) rfl (w_event_within (gd_some hx1 hc)) ⟨(le_gv (gx rfl hc) lr), lr, lr, trivial⟩ (ok_eq (by repeat (first | exact ok_nil | refine ok_cons rfl ?_ | refine ok_cons (dgv rfl) ?_ | refine ok_cons dar ?_))) rfl rfl) ?_
 refine og rfl rfl rfl (fun hc => (p_picky (gx rfl hc) rfl rfl (fun e => band hc (keq e)))) <| og rfl rfl rfl (fun hc => (p_move (v := aB) (gx rfl hc))) <| o_gg rfl rfl (fun hc => ov_p rfl (p_move (v := aB) rfl)) <| o_gg rfl rfl (fun hc => ov_p rfl (p_not (gx rfl hc))) <| o_gg rfl rfl (fun hc => ov_p rfl (p_move (v := aB) (gx rfl hc))) <| o_gg rfl rfl (fun hc => ov_p rfl (p_fa tf116x4 rfl)) <| o_gg rfl rfl (fun hc => ov_p rfl (p_load (v := aI) tv3 (gx rfl hc) rfl rfl)) <| o_gg rfl rfl (fun hc => ov_p rfl (p_eql (gx rfl hc) rfl)) <| o_gg rfl rfl (fun hc => ov_p rfl (p_picky (gx rfl hc) rfl rfl (fun e => band hc (keq e)))) <| og rfl rfl rfl (fun hc => (p_pickz (gx rfl hc) rfl rfl (fun e => band hc (keq e)))) <| o_p rfl (p_picky rfl rfl rfl (fun e => keq e)) <| mB rfl <| og rfl rfl rfl (fun hc => (p_loads (us := aIISSIIISLLSIIIIIIIIL) tv194 rfl rfl rfl rfl)) ?_
 obtain ⟨x3, hx3, h4⟩ := bind_s h2
 refine o_g rfl rfl (fun hc => ov_call (v := aB) rfl (w_command_Right (gd_some hx3 hc)) ⟨(le_gv (gx rfl hc) (le_aggc rfl ⟨rfl, rfl, rfl, rfl, rfl, rfl, rfl, rfl, rfl, rfl, rfl, rfl, rfl, rfl, rfl, rfl, rfl, rfl, rfl, rfl, trivial⟩)), trivial⟩ (ok_eq (by repeat (first | exact ok_nil | refine ok_cons rfl ?_ | refine ok_cons (dgv rfl) ?_ | refine ok_cons dar ?_))) rfl rfl) ?_
 refine o_p rfl (p_picky rfl rfl rfl (fun e => keq e)) <| sB rfl <| o_ek (fr' := [(4, aB)]) rfl rfl <| w_ret ?_
 obtain rfl := sy h4
 exact e_ret (rs' := [.tmp 4]) rfl <| r_tmp (v := aB) rfl <| r_nil <| fin_gen [] rfl rfl rfl lr st_nil
noncomputable def event_used (p0kind : Int) : Option EventUses :=
 cond (decide (p0kind = (1 : Int))) (some (EventUses.mk false false true false true true true)) (cond (decide (p0kind = (2 : Int))) (some (EventUses.mk false false true false false false false)) (((cond (decide (p0kind = (3 : Int))) (some (decide (p0kind = (3 : Int)))) (cond (decide (p0kind = (4 : Int))) (some (decide (p0kind = (4 : Int)))) (some (decide (p0kind = (6 : Int)))))) : Option Bool).bind fun (x5 : Bool) => (cond x5 (some (EventUses.mk false true false false false false false)) (cond (decide (p0kind = (5 : Int))) (some (EventUses.mk false true false true false false false)) (cond (decide (p0kind = (8 : Int))) (some (EventUses.mk true true true false false false false)) (((cond (decide (p0kind = (9 : Int))) (some (decide (p0kind = (9 : Int)))) (cond (decide (p0kind = (13 : Int))) (some (decide (p0kind = (13 : Int)))) (some (decide (p0kind = (21 : Int)))))) : Option Bool).bind fun (x17 : Bool) => (cond x17 (some (EventUses.mk true true false false false false true)) (((cond (decide (p0kind = (10 : Int))) (some (decide (p0kind = (10 : Int)))) (some (decide (p0kind = (22 : Int))))) : Option Bool).bind fun (x25 : Bool) => (cond x25 (some (EventUses.mk true true false false true false true)) (cond (decide (p0kind = (11 : Int))) (some (EventUses.mk true true false true false false false)) (((cond (decide (p0kind = (15 : Int))) (some (decide (p0kind = (15 : Int)))) (some (decide (p0kind = (24 : Int))))) : Option Bool).bind fun (x34 : Bool) => (cond x34 (some (EventUses.mk true true false false false false false)) (cond (decide (p0kind = (17 : Int))) (some (EventUses.mk false false false false true true true)) (cond (decide (p0kind = (20 : Int))) (some (EventUses.mk true true false false false true false)) (cond (decide (p0kind = (25 : Int))) (some (EventUses.mk true true false false true false false)) (cond (decide (p0kind = (26 : Int))) (some (EventUses.mk false false false false false true false)) (cond (decide (p0kind = (33 : Int))) (some (EventUses.mk false false false false true false false)) (some (EventUses.mk false false false false false false false)))))))))))))))))))
theorem w_event_used {p0kind : Int} {res : EventUses} (h : event_used p0kind = some res) : ACalls Tryd.prog 114 [.c (.int .i64 p0kind)] [] (.agg (AV.cs (rowEventUses res))) [] := by
 unfold event_used at h
 refine acalls (fn := Tryd.f114) [0, 2, 3, 4, 7, 10, 15, 18, 21, 26, 30, 33, 37, 40, 43, 46, 49] (by kernel_rfl) Tryd.func114 rfl (by kernel_rfl) (by kernel_rfl) <| w_sr <| o_alloc (n := 0) (cs := aBBBBBBB) (σ' := [aBBBBBBB]) tz179 rfl rfl rfl <| o_ek (fr' := [(0, aI), (2, .box 0 0)]) rfl rfl <| w_seqw <| w_sr <| mI rfl <| o_ek (fr' := [(2, .box 0 0), (3, aI)]) rfl rfl <| w_block <| w_seqw <| w_region ?_
 refine o_p rfl (p_eql rfl rfl) <| sB rfl <| o_ek (fr' := [(2, .box 0 0), (3, aI), (4, aB)]) rfl rfl <| w_ch h rfl (fun hb1 h1 => ?_) (fun hb1 h1 => ?_)
 ·
  refine w_sr <| o_p rfl (p_build (cs := aBBBBBBB) tb179 rfl) <| o_store (v := .agg aBBBBBBB) (us := aBBBBBBB) (cs := aBBBBBBB) (σ' := [aBBBBBBB]) rfl tv179 rfl rfl rfl rfl rfl rfl rfl rfl <| o_ek (fr' := [(2, .box 0 0)]) rfl rfl <| w_ret <| e_blk_r <| e_seq_r ?_
  obtain rfl := sy h1
  exact e_ret (rs' := [.cell 2 179]) rfl <| r_cells (us := aBBBBBBB) (cs := aBBBBBBB) tv179 rfl rfl rfl rfl <| r_nil <| fin_gen [] rfl rfl rfl (le_aggc rfl ⟨rfl, rfl, rfl, rfl, rfl, rfl, rfl, trivial⟩) st_nil
 ·
  refine w_sr <| o_p rfl (p_eql rfl rfl) <| sB rfl <| o_ek (fr' := [(2, .box 0 0), (3, aI), (7, aB)]) rfl rfl <| w_ch h1 rfl (fun hb3 h3 => ?_) (fun hb3 h3 => ?_)
  ·
   refine w_sr <| o_p rfl (p_build (cs := aBBBBBBB) tb179 rfl) <| o_store (v := .agg aBBBBBBB) (us := aBBBBBBB) (cs := aBBBBBBB) (σ' := [aBBBBBBB]) rfl tv179 rfl rfl rfl rfl rfl rfl rfl rfl <| o_ek (fr' := [(2, .box 0 0)]) rfl rfl <| w_ret <| e_blk_r <| e_seq_r ?_
   obtain rfl := sy h3
   exact e_ret (rs' := [.cell 2 179]) rfl <| r_cells (us := aBBBBBBB) (cs := aBBBBBBB) tv179 rfl rfl rfl rfl <| r_nil <| fin_gen [] rfl rfl rfl (le_aggc rfl ⟨rfl, rfl, rfl, rfl, rfl, rfl, rfl, trivial⟩) st_nil
  ·
   obtain ⟨x5, hx5, h6⟩ := bind_s h3
   refine w_join (fun j7 => x5 = j7) (fun (j7 : Bool) => ([(2, .box 0 0), (3, .c (.int .i64 p0kind)), (10, .c (.bool j7))] : Fr)) (fun (j7 : Bool) => ([[.c (.bool false), .c (.bool false), .c (.bool false), .c (.bool false), .c (.bool false), .c (.bool false), .c (.bool false)]] : St)) ?_ ?_
   ·
    refine w_sr <| o_p rfl (p_eql rfl rfl) <| sB rfl <| o_ek (fr' := [(2, .box 0 0), (3, aI), (10, aB)]) rfl rfl <| w_ch hx5 rfl (fun hb8 h8 => ?_) (fun hb8 h8 => ?_)
    ·
     exact w_skip <| e_j _ (sy h8) (w_weak [] 1 rfl rfl rfl rfl ⟨lr, lr, lr, trivial⟩ (st_r rfl st_nil))
    ·
     refine w_sr <| o_p rfl (p_eql rfl rfl) <| sB rfl <| o_ek (fr' := [(2, .box 0 0), (3, aI), (10, aB)]) rfl rfl <| w_ch h8 rfl (fun hb9 h9 => ?_) (fun hb9 h9 => ?_)
     ·
      exact w_skip <| e_j _ (sy h9) (w_weak [] 1 rfl rfl rfl rfl ⟨lr, lr, lr, trivial⟩ (st_r rfl st_nil))
     ·
      exact w_region <| o_p rfl (p_eql rfl rfl) <| sB rfl <| o_end (fr' := [(2, .box 0 0), (3, aI), (10, aB)]) rfl <| e_j _ (sy h9) (w_weak [] 1 rfl rfl rfl rfl ⟨lr, lr, lr, trivial⟩ (st_r rfl st_nil))
   ·
    intro j7 hj10
    subst hj10
    refine w_ch h6 rfl (fun hb11 h11 => ?_) (fun hb11 h11 => ?_)
    ·
     refine w_sr <| o_p rfl (p_build (cs := aBBBBBBB) tb179 rfl) <| o_store (v := .agg aBBBBBBB) (us := aBBBBBBB) (cs := aBBBBBBB) (σ' := [aBBBBBBB]) rfl tv179 rfl rfl rfl rfl rfl rfl rfl rfl <| o_ek (fr' := [(2, .box 0 0)]) rfl rfl <| w_ret <| e_blk_r <| e_seq_r ?_
     obtain rfl := sy h11
     exact e_ret (rs' := [.cell 2 179]) rfl <| r_cells (us := aBBBBBBB) (cs := aBBBBBBB) tv179 rfl rfl rfl rfl <| r_nil <| fin_gen [] rfl rfl rfl (le_aggc rfl ⟨rfl, rfl, rfl, rfl, rfl, rfl, rfl, trivial⟩) st_nil
    ·
     refine w_sr <| o_p rfl (p_eql rfl rfl) <| sB rfl <| o_ek (fr' := [(2, .box 0 0), (3, aI), (15, aB)]) rfl rfl <| w_ch h11 rfl (fun hb13 h13 => ?_) (fun hb13 h13 => ?_)
     ·
      refine w_sr <| o_p rfl (p_build (cs := aBBBBBBB) tb179 rfl) <| o_store (v := .agg aBBBBBBB) (us := aBBBBBBB) (cs := aBBBBBBB) (σ' := [aBBBBBBB]) rfl tv179 rfl rfl rfl rfl rfl rfl rfl rfl <| o_ek (fr' := [(2, .box 0 0)]) rfl rfl <| w_ret <| e_blk_r <| e_seq_r ?_
      obtain rfl := sy h13
      exact e_ret (rs' := [.cell 2 179]) rfl <| r_cells (us := aBBBBBBB) (cs := aBBBBBBB) tv179 rfl rfl rfl rfl <| r_nil <| fin_gen [] rfl rfl rfl (le_aggc rfl ⟨rfl, rfl, rfl, rfl, rfl, rfl, rfl, trivial⟩) st_nil
     ·
      refine w_sr <| o_p rfl (p_eql rfl rfl) <| sB rfl <| o_ek (fr' := [(2, .box 0 0), (3, aI), (18, aB)]) rfl rfl <| w_ch h13 rfl (fun hb15 h15 => ?_) (fun hb15 h15 => ?_)
      ·
       refine w_sr <| o_p rfl (p_build (cs := aBBBBBBB) tb179 rfl) <| o_store (v := .agg aBBBBBBB) (us := aBBBBBBB) (cs := aBBBBBBB) (σ' := [aBBBBBBB]) rfl tv179 rfl rfl rfl rfl rfl rfl rfl rfl <| o_ek (fr' := [(2, .box 0 0)]) rfl rfl <| w_ret <| e_blk_r <| e_seq_r ?_
       obtain rfl := sy h15
       exact e_ret (rs' := [.cell 2 179]) rfl <| r_cells (us := aBBBBBBB) (cs := aBBBBBBB) tv179 rfl rfl rfl rfl <| r_nil <| fin_gen [] rfl rfl rfl (le_aggc rfl ⟨rfl, rfl, rfl, rfl, rfl, rfl, rfl, trivial⟩) st_nil
      ·
       obtain ⟨x17, hx17, h18⟩ := bind_s h15
       refine w_join (fun j19 => x17 = j19) (fun (j19 : Bool) => ([(2, .box 0 0), (3, .c (.int .i64 p0kind)), (21, .c (.bool j19))] : Fr)) (fun (j19 : Bool) => ([[.c (.bool false), .c (.bool false), .c (.bool false), .c (.bool false), .c (.bool false), .c (.bool false), .c (.bool false)]] : St)) ?_ ?_
       ·
        refine w_sr <| o_p rfl (p_eql rfl rfl) <| sB rfl <| o_ek (fr' := [(2, .box 0 0), (3, aI), (21, aB)]) rfl rfl <| w_ch hx17 rfl (fun hb20 h20 => ?_) (fun hb20 h20 => ?_)
        ·
         exact w_skip <| e_j _ (sy h20) (w_weak [] 1 rfl rfl rfl rfl ⟨lr, lr, lr, trivial⟩ (st_r rfl st_nil))
        ·
         refine w_sr <| o_p rfl (p_eql rfl rfl) <| sB rfl <| o_ek (fr' := [(2, .box 0 0), (3, aI), (21, aB)]) rfl rfl <| w_ch h20 rfl (fun hb21 h21 => ?_) (fun hb21 h21 => ?_)
         ·
          exact w_skip <| e_j _ (sy h21) (w_weak [] 1 rfl rfl rfl rfl ⟨lr, lr, lr, trivial⟩ (st_r rfl st_nil))
         ·
          exact w_region <| o_p rfl (p_eql rfl rfl) <| sB rfl <| o_end (fr' := [(2, .box 0 0), (3, aI), (21, aB)]) rfl <| e_j _ (sy h21) (w_weak [] 1 rfl rfl rfl rfl ⟨lr, lr, lr, trivial⟩ (st_r rfl st_nil))
       ·
        intro j19 hj22
        subst hj22
        refine w_ch h18 rfl (fun hb23 h23 => ?_) (fun hb23 h23 => ?_)
        ·
         refine w_sr <| o_p rfl (p_build (cs := aBBBBBBB) tb179 rfl) <| o_store (v := .agg aBBBBBBB) (us := aBBBBBBB) (cs := aBBBBBBB) (σ' := [aBBBBBBB]) rfl tv179 rfl rfl rfl rfl rfl rfl rfl rfl <| o_ek (fr' := [(2, .box 0 0)]) rfl rfl <| w_ret <| e_blk_r <| e_seq_r ?_
         obtain rfl := sy h23
         exact e_ret (rs' := [.cell 2 179]) rfl <| r_cells (us := aBBBBBBB) (cs := aBBBBBBB) tv179 rfl rfl rfl rfl <| r_nil <| fin_gen [] rfl rfl rfl (le_aggc rfl ⟨rfl, rfl, rfl, rfl, rfl, rfl, rfl, trivial⟩) st_nil
        ·
         obtain ⟨x25, hx25, h26⟩ := bind_s h23
         refine w_join (fun j27 => x25 = j27) (fun (j27 : Bool) => ([(2, .box 0 0), (3, .c (.int .i64 p0kind)), (26, .c (.bool j27))] : Fr)) (fun (j27 : Bool) => ([[.c (.bool false), .c (.bool false), .c (.bool false), .c (.bool false), .c (.bool false), .c (.bool false), .c (.bool false)]] : St)) ?_ ?_
         ·
          refine w_sr <| o_p rfl (p_eql rfl rfl) <| sB rfl <| o_ek (fr' := [(2, .box 0 0), (3, aI), (26, aB)]) rfl rfl <| w_ch hx25 rfl (fun hb28 h28 => ?_) (fun hb28 h28 => ?_)
          ·
           exact w_skip <| e_j _ (sy h28) (w_weak [] 1 rfl rfl rfl rfl ⟨lr, lr, lr, trivial⟩ (st_r rfl st_nil))
          ·
           exact w_region <| o_p rfl (p_eql rfl rfl) <| sB rfl <| o_end (fr' := [(2, .box 0 0), (3, aI), (26, aB)]) rfl <| e_j _ (sy h28) (w_weak [] 1 rfl rfl rfl rfl ⟨lr, lr, lr, trivial⟩ (st_r rfl st_nil))
         ·
          intro j27 hj29
          subst hj29
          refine w_ch h26 rfl (fun hb30 h30 => ?_) (fun hb30 h30 => ?_)
          ·
           refine w_sr <| o_p rfl (p_build (cs := aBBBBBBB) tb179 rfl) <| o_store (v := .agg aBBBBBBB) (us := aBBBBBBB) (cs := aBBBBBBB) (σ' := [aBBBBBBB]) rfl tv179 rfl rfl rfl rfl rfl rfl rfl rfl <| o_ek (fr' := [(2, .box 0 0)]) rfl rfl <| w_ret <| e_blk_r <| e_seq_r ?_
           obtain rfl := sy h30
           exact e_ret (rs' := [.cell 2 179]) rfl <| r_cells (us := aBBBBBBB) (cs := aBBBBBBB) tv179 rfl rfl rfl rfl <| r_nil <| fin_gen [] rfl rfl rfl (le_aggc rfl ⟨rfl, rfl, rfl, rfl, rfl, rfl, rfl, trivial⟩) st_nil
          ·
           refine w_sr <| o_p rfl (p_eql rfl rfl) <| sB rfl <| o_ek (fr' := [(2, .box 0 0), (3, aI), (30, aB)]) rfl rfl <| w_ch h30 rfl (fun hb32 h32 => ?_) (fun hb32 h32 => ?_)
           ·
            refine w_sr <| o_p rfl (p_build (cs := aBBBBBBB) tb179 rfl) <| o_store (v := .agg aBBBBBBB) (us := aBBBBBBB) (cs := aBBBBBBB) (σ' := [aBBBBBBB]) rfl tv179 rfl rfl rfl rfl rfl rfl rfl rfl <| o_ek (fr' := [(2, .box 0 0)]) rfl rfl <| w_ret <| e_blk_r <| e_seq_r ?_
            obtain rfl := sy h32
            exact e_ret (rs' := [.cell 2 179]) rfl <| r_cells (us := aBBBBBBB) (cs := aBBBBBBB) tv179 rfl rfl rfl rfl <| r_nil <| fin_gen [] rfl rfl rfl (le_aggc rfl ⟨rfl, rfl, rfl, rfl, rfl, rfl, rfl, trivial⟩) st_nil
           ·
            obtain ⟨x34, hx34, h35⟩ := bind_s h32
            refine w_join (fun j36 => x34 = j36) (fun (j36 : Bool) => ([(2, .box 0 0), (3, .c (.int .i64 p0kind)), (33, .c (.bool j36))] : Fr)) (fun (j36 : Bool) => ([[.c (.bool false), .c (.bool false), .c (.bool false), .c (.bool false), .c (.bool false), .c (.bool false), .c (.bool false)]] : St)) ?_ ?_
            ·
             refine w_sr <| o_p rfl (p_eql rfl rfl) <| sB rfl <| o_ek (fr' := [(2, .box 0 0), (3, aI), (33, aB)]) rfl rfl <| w_ch hx34 rfl (fun hb37 h37 => ?_) (fun hb37 h37 => ?_)
             ·
              exact w_skip <| e_j _ (sy h37) (w_weak [] 1 rfl rfl rfl rfl ⟨lr, lr, lr, trivial⟩ (st_r rfl st_nil))
             ·
              exact w_region <| o_p rfl (p_eql rfl rfl) <| sB rfl <| o_end (fr' := [(2, .box 0 0), (3, aI), (33, aB)]) rfl <| e_j _ (sy h37) (w_weak [] 1 rfl rfl rfl rfl ⟨lr, lr, lr, trivial⟩ (st_r rfl st_nil))
            ·
             intro j36 hj38
             subst hj38
             refine w_ch h35 rfl (fun hb39 h39 => ?_) (fun hb39 h39 => ?_)
             ·
              refine w_sr <| o_p rfl (p_build (cs := aBBBBBBB) tb179 rfl) <| o_store (v := .agg aBBBBBBB) (us := aBBBBBBB) (cs := aBBBBBBB) (σ' := [aBBBBBBB]) rfl tv179 rfl rfl rfl rfl rfl rfl rfl rfl <| o_ek (fr' := [(2, .box 0 0)]) rfl rfl <| w_ret <| e_blk_r <| e_seq_r ?_
              obtain rfl := sy h39
              exact e_ret (rs' := [.cell 2 179]) rfl <| r_cells (us := aBBBBBBB) (cs := aBBBBBBB) tv179 rfl rfl rfl rfl <| r_nil <| fin_gen [] rfl rfl rfl (le_aggc rfl ⟨rfl, rfl, rfl, rfl, rfl, rfl, rfl, trivial⟩) st_nil
             ·
              refine w_sr <| o_p rfl (p_eql rfl rfl) <| sB rfl <| o_ek (fr' := [(2, .box 0 0), (3, aI), (37, aB)]) rfl rfl <| w_ch h39 rfl (fun hb41 h41 => ?_) (fun hb41 h41 => ?_)
              ·
               refine w_sr <| o_p rfl (p_build (cs := aBBBBBBB) tb179 rfl) <| o_store (v := .agg aBBBBBBB) (us := aBBBBBBB) (cs := aBBBBBBB) (σ' := [aBBBBBBB]) rfl tv179 rfl rfl rfl rfl rfl rfl rfl rfl <| o_ek (fr' := [(2, .box 0 0)]) rfl rfl <| w_ret <| e_blk_r <| e_seq_r ?_
               obtain rfl := sy h41
               exact e_ret (rs' := [.cell 2 179]) rfl <| r_cells (us := aBBBBBBB) (cs := aBBBBBBB) tv179 rfl rfl rfl rfl <| r_nil <| fin_gen [] rfl rfl rfl (le_aggc rfl ⟨rfl, rfl, rfl, rfl, rfl, rfl, rfl, trivial⟩) st_nil
              ·
               refine w_sr <| o_p rfl (p_eql rfl rfl) <| sB rfl <| o_ek (fr' := [(2, .box 0 0), (3, aI), (40, aB)]) rfl rfl <| w_ch h41 rfl (fun hb43 h43 => ?_) (fun hb43 h43 => ?_)
               ·
                refine w_sr <| o_p rfl (p_build (cs := aBBBBBBB) tb179 rfl) <| o_store (v := .agg aBBBBBBB) (us := aBBBBBBB) (cs := aBBBBBBB) (σ' := [aBBBBBBB]) rfl tv179 rfl rfl rfl rfl rfl rfl rfl rfl <| o_ek (fr' := [(2, .box 0 0)]) rfl rfl <| w_ret <| e_blk_r <| e_seq_r ?_
                obtain rfl := sy h43
                exact e_ret (rs' := [.cell 2 179]) rfl <| r_cells (us := aBBBBBBB) (cs := aBBBBBBB) tv179 rfl rfl rfl rfl <| r_nil <| fin_gen [] rfl rfl rfl (le_aggc rfl ⟨rfl, rfl, rfl, rfl, rfl, rfl, rfl, trivial⟩) st_nil
               ·
                refine w_sr <| o_p rfl (p_eql rfl rfl) <| sB rfl <| o_ek (fr' := [(2, .box 0 0), (3, aI), (43, aB)]) rfl rfl <| w_ch h43 rfl (fun hb45 h45 => ?_) (fun hb45 h45 => ?_)
                ·
                 refine w_sr <| o_p rfl (p_build (cs := aBBBBBBB) tb179 rfl) <| o_store (v := .agg aBBBBBBB) (us := aBBBBBBB) (cs := aBBBBBBB) (σ' := [aBBBBBBB]) rfl tv179 rfl rfl rfl rfl rfl rfl rfl rfl <| o_ek (fr' := [(2, .box 0 0)]) rfl rfl <| w_ret <| e_blk_r <| e_seq_r ?_
                 obtain rfl := sy h45
                 exact e_ret (rs' := [.cell 2 179]) rfl <| r_cells (us := aBBBBBBB) (cs := aBBBBBBB) tv179 rfl rfl rfl rfl <| r_nil <| fin_gen [] rfl rfl rfl (le_aggc rfl ⟨rfl, rfl, rfl, rfl, rfl, rfl, rfl, trivial⟩) st_nil
                ·
                 refine w_sr <| o_p rfl (p_eql rfl rfl) <| sB rfl <| o_ek (fr' := [(2, .box 0 0), (3, aI), (46, aB)]) rfl rfl <| w_ch h45 rfl (fun hb47 h47 => ?_) (fun hb47 h47 => ?_)
                 ·
                  refine w_sr <| o_p rfl (p_build (cs := aBBBBBBB) tb179 rfl) <| o_store (v := .agg aBBBBBBB) (us := aBBBBBBB) (cs := aBBBBBBB) (σ' := [aBBBBBBB]) rfl tv179 rfl rfl rfl rfl rfl rfl rfl rfl <| o_ek (fr' := [(2, .box 0 0)]) rfl rfl <| w_ret <| e_blk_r <| e_seq_r ?_
                  obtain rfl := sy h47
                  exact e_ret (rs' := [.cell 2 179]) rfl <| r_cells (us := aBBBBBBB) (cs := aBBBBBBB) tv179 rfl rfl rfl rfl <| r_nil <| fin_gen [] rfl rfl rfl (le_aggc rfl ⟨rfl, rfl, rfl, rfl, rfl, rfl, rfl, trivial⟩) st_nil
                 ·
                  refine w_sr <| o_p rfl (p_eql rfl rfl) <| sB rfl <| o_ek (fr' := [(2, .box 0 0), (49, aB)]) rfl rfl <| w_ch h47 rfl (fun hb49 h49 => ?_) (fun hb49 h49 => ?_)
                  ·
                   refine w_sr <| o_p rfl (p_build (cs := aBBBBBBB) tb179 rfl) <| o_store (v := .agg aBBBBBBB) (us := aBBBBBBB) (cs := aBBBBBBB) (σ' := [aBBBBBBB]) rfl tv179 rfl rfl rfl rfl rfl rfl rfl rfl <| o_ek (fr' := [(2, .box 0 0)]) rfl rfl <| w_ret <| e_blk_r <| e_seq_r ?_
                   obtain rfl := sy h49
                   exact e_ret (rs' := [.cell 2 179]) rfl <| r_cells (us := aBBBBBBB) (cs := aBBBBBBB) tv179 rfl rfl rfl rfl <| r_nil <| fin_gen [] rfl rfl rfl (le_aggc rfl ⟨rfl, rfl, rfl, rfl, rfl, rfl, rfl, trivial⟩) st_nil
                  ·
                   refine w_skip <| e_blk_n <| e_kw <| w_sr <| o_p rfl (p_build (cs := aBBBBBBB) tb179 rfl) <| o_store (v := .agg aBBBBBBB) (us := aBBBBBBB) (cs := aBBBBBBB) (σ' := [aBBBBBBB]) rfl tv179 rfl rfl rfl rfl rfl rfl rfl rfl <| o_ek (fr' := [(2, .box 0 0)]) rfl rfl <| w_ret ?_
                   obtain rfl := sy h49
                   exact e_ret (rs' := [.cell 2 179]) rfl <| r_cells (us := aBBBBBBB) (cs := aBBBBBBB) tv179 rfl rfl rfl rfl <| r_nil <| fin_gen [] rfl rfl rfl (le_aggc rfl ⟨rfl, rfl, rfl, rfl, rfl, rfl, rfl, trivial⟩) st_nil
noncomputable def event_uses_empty (p0u : EventUses) (p1e : ApiEvent) : Option Bool :=
 (gd (((cond (cond (cond (cond (cond (cond p0u.seq_ true (decide (p1e.Seq = (0 : Int)))) (cond p0u.ref_ true (decide (p1e.Ref = (0 : Int)))) false) (cond p0u.n_ true (decide (p1e.N = (0 : Int)))) false) (cond p0u.code_ true (decide (p1e.Code = (0 : Int)))) false) (cond p0u.name_ true (decide (p1e.Name = ([] : List UInt8)))) false) (cond p0u.key_ true (decide (p1e.Key = ([] : List UInt8)))) false) == true) && (p0u.data_ == false)) (value_Same p1e.Data (ApiValue.mk (0 : Int) (0 : Int) ([] : List UInt8) ([] : (List ApiValue)) ([] : (List (List UInt8)))))).bind fun (x1 : Bool) => (gd ((cond (cond (cond (cond (cond (cond (cond p0u.seq_ true (decide (p1e.Seq = (0 : Int)))) (cond p0u.ref_ true (decide (p1e.Ref = (0 : Int)))) false) (cond p0u.n_ true (decide (p1e.N = (0 : Int)))) false) (cond p0u.code_ true (decide (p1e.Code = (0 : Int)))) false) (cond p0u.name_ true (decide (p1e.Name = ([] : List UInt8)))) false) (cond p0u.key_ true (decide (p1e.Key = ([] : List UInt8)))) false) (cond p0u.data_ true x1) false) == true) (command_SamePolicy p1e.Opts (ApiPolicy.mk ([] : List UInt8) (0 : Int) (0 : Int) (0 : Int) (0 : Int) (0 : Int) (0 : Int) (0 : Int) (0 : Int) ([] : (List (List UInt8)))))).bind fun (x3 : Bool) => some (cond (cond (cond (cond (cond (cond (cond (cond p0u.seq_ true (decide (p1e.Seq = (0 : Int)))) (cond p0u.ref_ true (decide (p1e.Ref = (0 : Int)))) false) (cond p0u.n_ true (decide (p1e.N = (0 : Int)))) false) (cond p0u.code_ true (decide (p1e.Code = (0 : Int)))) false) (cond p0u.name_ true (decide (p1e.Name = ([] : List UInt8)))) false) (cond p0u.key_ true (decide (p1e.Key = ([] : List UInt8)))) false) (cond p0u.data_ true x1) false) x3 false)
theorem w_event_uses_empty {p0u : EventUses} {p1e : ApiEvent} {res : Bool} (h : event_uses_empty p0u p1e = some res) : ACalls Tryd.prog 115 [.agg (AV.cs (rowEventUses p0u)), .agg (AV.cs (rowApiEvent p1e))] [] (.c (.bool res)) [] := by
 unfold event_uses_empty at h
 refine acalls (fn := Tryd.f115) [0, 1, 2, 3, 4] (by kernel_rfl) Tryd.func115 rfl (by kernel_rfl) (by kernel_rfl) <| w_sr <| o_box (v := .agg aBBBBBBB) (n := 0) (cs := aBBBBBBB) (σ' := [aBBBBBBB]) rfl rfl rfl rfl rfl <| o_box (v := .agg aIIIIIIISSIISLLSIIIIIIIIL) (n := 1) (cs := aIIIIIIISSIISLLSIIIIIIIIL) (σ' := [aBBBBBBB, aIIIIIIISSIISLLSIIIIIIIIL]) rfl rfl rfl rfl rfl <| sB rfl <| o_ek (fr' := [(2, .box 0 0), (3, .box 1 0)]) rfl rfl <| w_sr <| o_p rfl (p_fa tf179x0 rfl) <| o_p rfl (p_load (v := aB) tv4 rfl rfl rfl) <| mB rfl <| og rfl rfl rfl (fun hc => (p_fa tf116x3 rfl)) ?_
 refine og rfl rfl rfl (fun hc => (p_load (v := aI) tv3 (gx rfl hc) rfl rfl)) <| og rfl rfl rfl (fun hc => (p_eql (gx rfl hc) rfl)) <| o_p rfl (p_pickz rfl rfl rfl (fun e => keq e)) <| mB rfl <| og rfl rfl rfl (fun hc => (p_fa tf179x1 rfl)) <| og rfl rfl rfl (fun hc => (p_load (v := aB) tv4 (gx rfl hc) rfl rfl)) <| og rfl rfl rfl (fun hc => (p_move (v := aB) (gx rfl hc))) <| o_gg rfl rfl (fun hc => ov_p rfl (p_fa tf116x4 rfl)) <| o_gg rfl rfl (fun hc => ov_p rfl (p_load (v := aI) tv3 (gx rfl hc) rfl rfl)) <| o_gg rfl rfl (fun hc => ov_p rfl (p_eql (gx rfl hc) rfl)) <| og rfl rfl rfl (fun hc => (p_pickz (gx rfl hc) rfl rfl (fun e => band hc (keq e)))) <| o_p rfl (p_picky rfl rfl rfl (fun e => keq e)) <| mB rfl ?_
 refine og rfl rfl rfl (fun hc => (p_fa tf179x2 rfl)) <| og rfl rfl rfl (fun hc => (p_load (v := aB) tv4 (gx rfl hc) rfl rfl)) <| og rfl rfl rfl (fun hc => (p_move (v := aB) (gx rfl hc))) <| o_gg rfl rfl (fun hc => ov_p rfl (p_fa tf116x5 rfl)) <| o_gg rfl rfl (fun hc => ov_p rfl (p_load (v := aI) tv3 (gx rfl hc) rfl rfl)) <| o_gg rfl rfl (fun hc => ov_p rfl (p_eql (gx rfl hc) rfl)) <| og rfl rfl rfl (fun hc => (p_pickz (gx rfl hc) rfl rfl (fun e => band hc (keq e)))) <| o_p rfl (p_picky rfl rfl rfl (fun e => keq e)) <| mB rfl <| og rfl rfl rfl (fun hc => (p_fa tf179x3 rfl)) <| og rfl rfl rfl (fun hc => (p_load (v := aB) tv4 (gx rfl hc) rfl rfl)) <| og rfl rfl rfl (fun hc => (p_move (v := aB) (gx rfl hc))) <| o_gg rfl rfl (fun hc => ov_p rfl (p_fa tf116x6 rfl)) ?_
 refine o_gg rfl rfl (fun hc => ov_p rfl (p_load (v := aI) tv3 (gx rfl hc) rfl rfl)) <| o_gg rfl rfl (fun hc => ov_p rfl (p_eql (gx rfl hc) rfl)) <| og rfl rfl rfl (fun hc => (p_pickz (gx rfl hc) rfl rfl (fun e => band hc (keq e)))) <| o_p rfl (p_picky rfl rfl rfl (fun e => keq e)) <| mB rfl <| og rfl rfl rfl (fun hc => (p_fa tf179x4 rfl)) <| og rfl rfl rfl (fun hc => (p_load (v := aB) tv4 (gx rfl hc) rfl rfl)) <| og rfl rfl rfl (fun hc => (p_move (v := aB) (gx rfl hc))) <| o_gg rfl rfl (fun hc => ov_p rfl (p_fa tf116x7 rfl)) <| o_gg rfl rfl (fun hc => ov_p rfl (p_load (v := aS) tv9 (gx rfl hc) rfl rfl)) <| o_gg rfl rfl (fun hc => ov_p rfl (p_seql (gx rfl hc) rfl)) <| og rfl rfl rfl (fun hc => (p_pickz (gx rfl hc) rfl rfl (fun e => band hc (keq e)))) <| o_p rfl (p_picky rfl rfl rfl (fun e => keq e)) ?_
 refine mB rfl <| og rfl rfl rfl (fun hc => (p_fa tf179x5 rfl)) <| og rfl rfl rfl (fun hc => (p_load (v := aB) tv4 (gx rfl hc) rfl rfl)) <| og rfl rfl rfl (fun hc => (p_move (v := aB) (gx rfl hc))) <| o_gg rfl rfl (fun hc => ov_p rfl (p_fa tf116x8 rfl)) <| o_gg rfl rfl (fun hc => ov_p rfl (p_load (v := aS) tv9 (gx rfl hc) rfl rfl)) <| o_gg rfl rfl (fun hc => ov_p rfl (p_seql (gx rfl hc) rfl)) <| og rfl rfl rfl (fun hc => (p_pickz (gx rfl hc) rfl rfl (fun e => band hc (keq e)))) <| o_p rfl (p_picky rfl rfl rfl (fun e => keq e)) <| mB rfl <| og rfl rfl rfl (fun hc => (p_fa tf179x6 rfl)) <| og rfl rfl rfl (fun hc => (p_load (v := aB) tv4 (gx rfl hc) rfl rfl)) <| og rfl rfl rfl (fun hc => (p_move (v := aB) (gx rfl hc))) ?_
 refine o_gg rfl rfl (fun hc => ov_p rfl (p_fa tf116x9 rfl)) <| o_gg rfl rfl (fun hc => ov_p rfl (p_loads (us := aIISLL) tv112 (gx rfl hc) rfl rfl rfl)) <| o_gg rfl rfl (fun hc => ov_p rfl (p_build (cs := [aI, aI, aS, AV.nil, AV.nil]) tb112 rfl)) ?_
 obtain ⟨x1, hx1, h2⟩ := bind_s h
 refine o_gg rfl rfl (fun hc => ov_call (v := aB) rfl (w_value_Same (gd_some hx1 hc)) ⟨(le_gv (gx rfl hc) (le_aggc rfl ⟨rfl, rfl, rfl, rfl, rfl, trivial⟩)), (le_gv (gx rfl hc) (le_aggc rfl ⟨rfl, rfl, rfl, ⟨_, rfl⟩, ⟨_, rfl⟩, trivial⟩)), trivial⟩ (ok_eq (by repeat (first | exact ok_nil | refine ok_cons rfl ?_ | refine ok_cons (dgv rfl) ?_ | refine ok_cons dar ?_))) rfl rfl) ?_
 refine og rfl rfl rfl (fun hc => (p_pickz (gx rfl hc) rfl rfl (fun e => band hc (keq e)))) <| o_p rfl (p_picky rfl rfl rfl (fun e => keq e)) <| mB rfl <| og rfl rfl rfl (fun hc => (p_fa tf116x10 rfl)) <| og rfl rfl rfl (fun hc => (p_loads (us := aSIIIIIIIIL) tv114 (gx rfl hc) rfl rfl rfl)) <| og rfl rfl rfl (fun hc => (p_buildc (c0 := [aS, aI, aI, aI, aI, aI, aI, aI, aI, AV.nil]) (cs := [aS, aI, aI, aI, aI, aI, aI, aI, aI, AV.nil]) tb114 rfl fill_nil)) ?_
 obtain ⟨x3, hx3, h4⟩ := bind_s h2
 refine o_g rfl rfl (fun hc => ov_call (v := aB) rfl (w_command_SamePolicy (gd_some hx3 hc)) ⟨(le_gv (gx rfl hc) (le_aggc rfl ⟨rfl, rfl, rfl, rfl, rfl, rfl, rfl, rfl, rfl, rfl, trivial⟩)), (le_gv (gx rfl hc) (le_aggc rfl ⟨rfl, rfl, rfl, rfl, rfl, rfl, rfl, rfl, rfl, ⟨_, rfl⟩, trivial⟩)), trivial⟩ (ok_eq (by repeat (first | exact ok_nil | refine ok_cons rfl ?_ | refine ok_cons (dgv rfl) ?_ | refine ok_cons dar ?_))) rfl rfl) ?_
 refine o_p rfl (p_picky rfl rfl rfl (fun e => keq e)) <| sB rfl <| o_ek (fr' := [(4, aB)]) rfl rfl <| w_ret ?_
 obtain rfl := sy h4
 exact e_ret (rs' := [.tmp 4]) rfl <| r_tmp (v := aB) rfl <| r_nil <| fin_gen [] rfl rfl rfl lr st_nil
noncomputable def event_identifier_l1 (p0s : (List UInt8)) (s4 : Int) : Option (Step Int (Fl Bool Unit)) :=
 cond (decide (s4 < ((p0s).length : Int))) ((idx p0s s4).bind fun (x6 : UInt8) => (gd ((decide (((x6).toNat : Int) < (33 : Int))) == false) (idx p0s s4)).bind fun (x8 : UInt8) => (gd ((cond (decide (((x6).toNat : Int) < (33 : Int))) true (decide ((126 : Int) < ((x8).toNat : Int)))) == false) (idx p0s s4)).bind fun (x10 : UInt8) => (gd ((cond (cond (decide (((x6).toNat : Int) < (33 : Int))) true (decide ((126 : Int) < ((x8).toNat : Int)))) true (decide (((x10).toNat : Int) = (47 : Int)))) == false) (idx p0s s4)).bind fun (x12 : UInt8) => cond (cond (cond (cond (decide (((x6).toNat : Int) < (33 : Int))) true (decide ((126 : Int) < ((x8).toNat : Int)))) true (decide (((x10).toNat : Int) = (47 : Int)))) true (decide (((x12).toNat : Int) = (34 : Int)))) (some (Step.out (Fl.done false))) (some (Step.next (IntKind.wrap .i64 (s4 + (1 : Int)))))) (some (Step.out (Fl.go ())))
noncomputable def event_identifier (p0s : (List UInt8)) : Option Bool :=
 ((loopO (event_identifier_l1 p0s) ((0 : Int))) : Option (Fl Bool Unit)).bind fun (x1 : (Fl Bool Unit)) => Fl.next x1 (fun (j3 : Unit) => ((event_within ((p0s).length : Int) (1 : Int) (64 : Int)).bind fun (x20 : Bool) => some x20))
theorem w_event_identifier {p0s : (List UInt8)} {res : Bool} (h : event_identifier p0s = some res) : ACalls Tryd.prog 136 [.c (.str p0s)] [] (.c (.bool res)) [] := by
 unfold event_identifier at h
 refine acalls (fn := Tryd.f136) [0, 2, 3, 5, 6, 7, 30] (by kernel_rfl) Tryd.func136 rfl (by kernel_rfl) (by kernel_rfl) <| w_sr <| sB rfl <| o_ek (fr' := [(0, aS)]) rfl rfl <| w_seqw <| w_sr <| mS rfl <| o_p rfl (p_lens ti9 rfl) <| mI rfl <| o_ek (fr' := [(0, aS), (5, aI), (6, aI)]) rfl rfl ?_
 obtain ⟨x1, hx1, h2⟩ := bind_s h
 refine w_jtail cl_kw (fun j3 => x1 = Fl.go j3) (fun (j3 : Unit) => ([(0, .c (.str p0s))] : Fr)) (fun (j3 : Unit) => ([] : St)) ?_ ?_
 ·
  refine w_block <| w_loopo _ (fun (s4 : Int) => ([(0, .c (.str p0s)), (5, .c (.int .i64 ((p0s).length : Int))), (6, .c (.int .i64 s4))] : Fr)) (fun (s4 : Int) => ([] : St)) hx1 (w_weak [] 0 rfl rfl rfl rfl ⟨lr, lr, lr, trivial⟩ st_nil) ?_
  intro s4 st4 hs4 ho4
  unfold event_identifier_l1 at hs4
  refine w_sr <| o_p rfl (p_lss rfl rfl) <| o_ek (fr' := [(0, aS), (5, aI), (6, aI), (7, aB)]) rfl rfl <| w_seqw <| w_ch hs4 rfl (fun hb5 h5 => ?_) (fun hb5 h5 => ?_)
  ·
   refine w_skip <| e_kw <| w_seqw <| w_block <| w_sr <| mI rfl <| sI rfl <| o_ek (fr' := [(0, aS), (3, aI), (5, aI), (6, aI)]) rfl rfl <| w_sr <| mS rfl <| mI rfl ?_
   obtain ⟨x6, hx6, h7⟩ := bind_s h5
   refine o_p rfl (p_is ti9 rfl rfl hx6) <| o_p rfl (p_lss rfl rfl) <| mB rfl <| og rfl rfl rfl (fun hc => (p_move (v := aS) rfl)) <| og rfl rfl rfl (fun hc => (p_move (v := aI) rfl)) ?_
   obtain ⟨x8, hx8, h9⟩ := bind_s h7
   refine og rfl rfl rfl (fun hc => (p_is ti9 (gx rfl hc) (gx rfl hc) (gd_some hx8 hc))) <| og rfl rfl rfl (fun hc => (p_gtr (gx rfl hc) rfl)) <| o_p rfl (p_pickz rfl rfl rfl (fun e => keq e)) <| mB rfl <| og rfl rfl rfl (fun hc => (p_move (v := aS) rfl)) <| og rfl rfl rfl (fun hc => (p_move (v := aI) rfl)) ?_
   obtain ⟨x10, hx10, h11⟩ := bind_s h9
   refine og rfl rfl rfl (fun hc => (p_is ti9 (gx rfl hc) (gx rfl hc) (gd_some hx10 hc))) <| og rfl rfl rfl (fun hc => (p_eql (gx rfl hc) rfl)) <| o_p rfl (p_pickz rfl rfl rfl (fun e => keq e)) <| mB rfl <| og rfl rfl rfl (fun hc => (p_move (v := aS) rfl)) <| og rfl rfl rfl (fun hc => (p_move (v := aI) rfl)) ?_
   obtain ⟨x12, hx12, h13⟩ := bind_s h11
   refine og rfl rfl rfl (fun hc => (p_is ti9 (gx rfl hc) (gx rfl hc) (gd_some hx12 hc))) <| og rfl rfl rfl (fun hc => (p_eql (gx rfl hc) rfl)) <| o_p rfl (p_pickz rfl rfl rfl (fun e => keq e)) <| o_ek (fr' := [(0, aS), (5, aI), (6, aI), (30, aB)]) rfl rfl <| w_ch h13 rfl (fun hb14 h14 => ?_) (fun hb14 h14 => ?_)
   ·
    refine w_sr <| sB rfl <| o_ek (fr' := [(2, aB)]) rfl rfl <| w_ret <| e_blk_r <| e_seq_r <| e_seq_r <| e_blk_r <| e_seq_r <| e_seq_r ?_
    have h15 := un_out h14 ho4
    have h16 := un_done h15 h2
    obtain rfl := sy h16
    exact e_ret (rs' := [.tmp 2]) rfl <| r_tmp (v := aB) rfl <| r_nil <| fin_gen [] rfl rfl rfl lr st_nil
   ·
    exact w_skip <| e_blk_n <| e_kw <| w_region <| o_p rfl (p_add rfl rfl) <| mI rfl <| o_end (fr' := [(0, aS), (5, aI), (6, aI), (30, aB)]) rfl <| e_l _ (sy h14) (w_weak [] 0 rfl rfl rfl rfl ⟨lr, lr, lr, trivial⟩ st_nil)
  ·
   refine w_exit <| e_seq_x <| e_seq_x <| e_blk_h ?_
   have h18 := un_out h5 ho4
   exact e_j _ (sy h18) (w_weak [] 0 rfl rfl rfl rfl ⟨lr, trivial⟩ st_nil)
 ·
  intro j3 hj19
  have h19 := un_go hj19 h2
  refine e_kw <| w_sr <| mS rfl <| o_p rfl (p_lens ti9 rfl) ?_
  obtain ⟨x20, hx20, h21⟩ := bind_s h19
  refine o_v (ov_call (v := aB) rfl (w_event_within hx20) ⟨lr, lr, lr, trivial⟩ rfl rfl rfl) <| sB rfl <| o_ek (fr' := [(2, aB)]) rfl rfl <| w_ret ?_
  obtain rfl := sy h21
  exact e_ret (rs' := [.tmp 2]) rfl <| r_tmp (v := aB) rfl <| r_nil <| fin_gen [] rfl rfl rfl lr st_nil
noncomputable def event_input_l1 (x5 : ApiValue) (s10 : Int) : Option (Step Int (Fl Bool Unit)) :=
 cond (decide (s10 < ((x5.Items).length : Int))) ((idx x5.Items s10).bind fun (x12 : ApiValue) => (gd ((cond (!decide (x12.Kind = (4 : Int))) true (!decide (((x12.Items).length : Int) = (2 : Int)))) == false) (idx x12.Items (0 : Int))).bind fun (x14 : ApiValue) => (gd ((cond (cond (!decide (x12.Kind = (4 : Int))) true (!decide (((x12.Items).length : Int) = (2 : Int)))) true (!decide (x14.Kind = (3 : Int)))) == false) (idx x12.Items (0 : Int))).bind fun (x16 : ApiValue) => (gd ((cond (cond (!decide (x12.Kind = (4 : Int))) true (!decide (((x12.Items).length : Int) = (2 : Int)))) true (!decide (x14.Kind = (3 : Int)))) == false) (name_Right x16.Text)).bind fun (x18 : Bool) => cond (cond (cond (cond (!decide (x12.Kind = (4 : Int))) true (!decide (((x12.Items).length : Int) = (2 : Int)))) true (!decide (x14.Kind = (3 : Int)))) true (!x18)) (some (Step.out (Fl.done false))) (some (Step.next (IntKind.wrap .i64 (s10 + (1 : Int)))))) (some (Step.out (Fl.go ())))
noncomputable def event_input (p0v : ApiValue) : Option Bool :=
 (gd ((cond (!decide (p0v.Kind = (4 : Int))) true (!decide (((p0v.Items).length : Int) = (2 : Int)))) == false) (idx p0v.Items (1 : Int))).bind fun (x1 : ApiValue) => cond (cond (cond (!decide (p0v.Kind = (4 : Int))) true (!decide (((p0v.Items).length : Int) = (2 : Int)))) true (!decide (x1.Kind = (4 : Int)))) (some false) ((idx p0v.Items (1 : Int)).bind fun (x5 : ApiValue) => ((loopO (event_input_l1 x5) ((0 : Int))) : Option (Fl Bool Unit)).bind fun (x7 : (Fl Bool Unit)) => Fl.next x7 (fun (j9 : Unit) => (some true)))
theorem w_event_input {p0v : ApiValue} {res : Bool} (h : event_input p0v = some res) : ACalls Tryd.prog 137 [.agg (AV.cs (exApiValue p0v))] [] (.c (.bool res)) [] := by
 unfold event_input at h
 refine acalls (fn := Tryd.f137) [0, 1, 2, 4, 21, 26, 27, 28, 29, 57] (by kernel_rfl) Tryd.func137 rfl (by kernel_rfl) (by kernel_rfl) <| w_sr <| o_box (v := .agg aIISLL) (n := 0) (cs := aIISLL) (σ' := [aIISLL]) rfl rfl rfl rfl rfl <| sB rfl <| o_ek (fr' := [(1, .box 0 0)]) rfl rfl <| w_seqw <| w_sr <| o_p rfl (p_fa tf112x0 rfl) <| o_p rfl (p_load (v := aI) tv3 rfl rfl rfl) <| o_p rfl (p_neq rfl rfl) <| mB rfl ?_
 refine og rfl rfl rfl (fun hc => (p_fa tf112x3 rfl)) <| og rfl rfl rfl (fun hc => (p_load (v := aL) tv109 (gx rfl hc) rfl rfl)) <| og rfl rfl rfl (fun hc => (p_len ti109 (isl_c (gx rfl hc)))) <| og rfl rfl rfl (fun hc => (p_neq (gx rfl hc) rfl)) <| o_p rfl (p_pickz rfl rfl rfl (fun e => keq e)) <| mB rfl <| og rfl rfl rfl (fun hc => (p_fa tf112x3 rfl)) <| og rfl rfl rfl (fun hc => (p_load (v := aL) tv109 (gx rfl hc) rfl rfl)) ?_
 obtain ⟨x1, hx1, h2⟩ := bind_s h
 refine og rfl rfl rfl (fun hc => (p_ia (cs := [PV.int _ _, PV.int _ _, PV.str _, PV.ls _ _ _, PV.ls _ _ _]) ts109 (isl_c (gx rfl hc)) rfl (gd_some hx1 hc) (rowApiValue_eq _))) <| og rfl rfl rfl (fun hc => (p_fae tf112x0 (gx rfl hc))) <| og rfl rfl rfl (fun hc => (p_loade (p := PV.int _ _) tv3 (gx rfl hc) rfl)) <| og rfl rfl rfl (fun hc => (p_neq (gx rfl hc) rfl)) <| o_p rfl (p_pickz rfl rfl rfl (fun e => keq e)) <| o_ek (fr' := [(1, .box 0 0), (21, aB)]) rfl rfl <| w_ch h2 rfl (fun hb3 h3 => ?_) (fun hb3 h3 => ?_)
 ·
  refine w_sr <| sB rfl <| o_ek (fr' := [(2, aB)]) rfl rfl <| w_ret <| e_seq_r ?_
  obtain rfl := sy h3
  exact e_ret (rs' := [.tmp 2]) rfl <| r_tmp (v := aB) rfl <| r_nil <| fin_gen [] rfl rfl rfl lr st_nil
 ·
  refine w_skip <| e_kw <| w_seqw <| w_sr <| o_p rfl (p_fa tf112x3 rfl) <| o_p rfl (p_load (v := aL) tv109 rfl rfl rfl) ?_
  obtain ⟨x5, hx5, h6⟩ := bind_s h3
  refine o_p rfl (p_ia (cs := [PV.int _ _, PV.int _ _, PV.str _, PV.ls _ _ _, PV.ls _ _ _]) ts109 (isl_c rfl) rfl hx5 (rowApiValue_eq _)) <| o_p rfl (p_fae tf112x3 rfl) <| o_p rfl (p_loade (p := PV.ls _ _ _) tv109 rfl rfl) <| o_p rfl (p_len ti109 (isl_c rfl)) <| mI rfl <| o_ek (fr' := [(26, aL), (27, aI), (28, aI)]) rfl rfl ?_
  obtain ⟨x7, hx7, h8⟩ := bind_s h6
  refine w_jtail cl_kw (fun j9 => x7 = Fl.go j9) (fun (j9 : Unit) => ([] : Fr)) (fun (j9 : Unit) => ([[.c (.int .i64 p0v.Kind), .c (.int .i64 p0v.Int), .c (.str p0v.Text), .c (PV.ls 5 rowApiValue p0v.Items), .c (PV.ls 1 rowS p0v.Keys)]] : St)) ?_ ?_
  ·
   refine w_block <| w_loopo _ (fun (s10 : Int) => ([(26, .c (PV.ls 5 rowApiValue x5.Items)), (27, .c (.int .i64 ((x5.Items).length : Int))), (28, .c (.int .i64 s10))] : Fr)) (fun (s10 : Int) => ([[.c (.int .i64 p0v.Kind), .c (.int .i64 p0v.Int), .c (.str p0v.Text), .c (PV.ls 5 rowApiValue p0v.Items), .c (PV.ls 1 rowS p0v.Keys)]] : St)) hx7 (w_weak [] 1 rfl rfl rfl rfl ⟨lr, lr, lr, trivial⟩ (st_r rfl st_nil)) ?_
   intro s10 st10 hs10 ho10
   unfold event_input_l1 at hs10
   refine w_sr <| o_p rfl (p_lss rfl rfl) <| o_ek (fr' := [(26, aL), (27, aI), (28, aI), (29, aB)]) rfl rfl <| w_seqw <| w_ch hs10 rfl (fun hb11 h11 => ?_) (fun hb11 h11 => ?_)
   ·
    refine w_skip <| e_kw <| w_seqw <| w_block <| w_seqw <| w_region ?_
    obtain ⟨x12, hx12, h13⟩ := bind_s h11
    refine o_p rfl (p_ia (cs := [PV.int _ _, PV.int _ _, PV.str _, PV.ls _ _ _, PV.ls _ _ _]) ts109 (isl_c rfl) rfl hx12 (rowApiValue_eq _)) <| o_p rfl (p_loades (us := [PV.int _ _, PV.int _ _, PV.str _, PV.ls _ _ _, PV.ls _ _ _]) tv112 rfl rfl rfl) <| o_alloc (n := 1) (cs := [aI, aI, aS, AV.nil, AV.nil]) (σ' := [aIISLL, [aI, aI, aS, AV.nil, AV.nil]]) tz112 rfl rfl rfl <| o_store (v := .agg aIISLL) (us := aIISLL) (cs := [aI, aI, aS, AV.nil, AV.nil]) (σ' := [aIISLL, aIISLL]) rfl tv112 rfl rfl rfl rfl rfl rfl rfl rfl <| o_ek (fr' := [(4, .box 1 0), (26, aL), (27, aI), (28, aI)]) rfl rfl <| w_sr <| o_p rfl (p_fa tf112x0 rfl) <| o_p rfl (p_load (v := aI) tv3 rfl rfl rfl) <| o_p rfl (p_neq rfl rfl) <| mB rfl <| og rfl rfl rfl (fun hc => (p_fa tf112x3 rfl)) <| og rfl rfl rfl (fun hc => (p_load (v := aL) tv109 (gx rfl hc) rfl rfl)) ?_
    refine og rfl rfl rfl (fun hc => (p_len ti109 (isl_c (gx rfl hc)))) <| og rfl rfl rfl (fun hc => (p_neq (gx rfl hc) rfl)) <| o_p rfl (p_pickz rfl rfl rfl (fun e => keq e)) <| mB rfl <| og rfl rfl rfl (fun hc => (p_fa tf112x3 rfl)) <| og rfl rfl rfl (fun hc => (p_load (v := aL) tv109 (gx rfl hc) rfl rfl)) ?_
    obtain ⟨x14, hx14, h15⟩ := bind_s h13
    refine og rfl rfl rfl (fun hc => (p_ia (cs := [PV.int _ _, PV.int _ _, PV.str _, PV.ls _ _ _, PV.ls _ _ _]) ts109 (isl_c (gx rfl hc)) rfl (gd_some hx14 hc) (rowApiValue_eq _))) <| og rfl rfl rfl (fun hc => (p_fae tf112x0 (gx rfl hc))) <| og rfl rfl rfl (fun hc => (p_loade (p := PV.int _ _) tv3 (gx rfl hc) rfl)) <| og rfl rfl rfl (fun hc => (p_neq (gx rfl hc) rfl)) <| o_p rfl (p_pickz rfl rfl rfl (fun e => keq e)) <| mB rfl <| og rfl rfl rfl (fun hc => (p_fa tf112x3 rfl)) <| og rfl rfl rfl (fun hc => (p_load (v := aL) tv109 (gx rfl hc) rfl rfl)) ?_
    obtain ⟨x16, hx16, h17⟩ := bind_s h15
    refine og rfl rfl rfl (fun hc => (p_ia (cs := [PV.int _ _, PV.int _ _, PV.str _, PV.ls _ _ _, PV.ls _ _ _]) ts109 (isl_c (gx rfl hc)) rfl (gd_some hx16 hc) (rowApiValue_eq _))) <| og rfl rfl rfl (fun hc => (p_fae tf112x2 (gx rfl hc))) <| og rfl rfl rfl (fun hc => (p_loade (p := PV.str _) tv9 (gx rfl hc) rfl)) ?_
    obtain ⟨x18, hx18, h19⟩ := bind_s h17
    refine o_g rfl rfl (fun hc => ov_call (v := aB) rfl (w_name_Right (gd_some hx18 hc)) ⟨(le_gv (gx rfl hc) lr), trivial⟩ (ok_eq (by repeat (first | exact ok_nil | refine ok_cons rfl ?_ | refine ok_cons (dgv rfl) ?_ | refine ok_cons dar ?_))) rfl rfl) ?_
    refine og rfl rfl rfl (fun hc => (p_not (gx rfl hc))) <| o_p rfl (p_pickz rfl rfl rfl (fun e => keq e)) <| o_ek (fr' := [(26, aL), (27, aI), (28, aI), (57, aB)]) rfl rfl <| w_ch h19 rfl (fun hb20 h20 => ?_) (fun hb20 h20 => ?_)
    ·
     refine w_sr <| sB rfl <| o_ek (fr' := [(2, aB)]) rfl rfl <| w_ret <| e_blk_r <| e_seq_r <| e_seq_r <| e_blk_r <| e_seq_r <| e_seq_r ?_
     have h21 := un_out h20 ho10
     have h22 := un_done h21 h8
     obtain rfl := sy h22
     exact e_ret (rs' := [.tmp 2]) rfl <| r_tmp (v := aB) rfl <| r_nil <| fin_gen [] rfl rfl rfl lr st_nil
    ·
     exact w_skip <| e_blk_n <| e_kw <| w_region <| o_p rfl (p_add rfl rfl) <| mI rfl <| o_end (fr' := [(26, aL), (27, aI), (28, aI), (57, aB)]) rfl <| e_l _ (sy h20) (w_weak [] 1 rfl rfl rfl rfl ⟨lr, lr, lr, trivial⟩ (st_r rfl st_nil))
   ·
    refine w_exit <| e_seq_x <| e_seq_x <| e_blk_h ?_
    have h24 := un_out h11 ho10
    exact e_j _ (sy h24) (w_weak [] 1 rfl rfl rfl rfl trivial (st_r rfl st_nil))
  ·
   intro j9 hj25
   have h25 := un_go hj25 h8
   refine e_kw <| w_sr <| sB rfl <| o_ek (fr' := [(2, aB)]) rfl rfl <| w_ret ?_
   obtain rfl := sy h25
   exact e_ret (rs' := [.tmp 2]) rfl <| r_tmp (v := aB) rfl <| r_nil <| fin_gen [] rfl rfl rfl lr st_nil
noncomputable def name_Number (p0run : (List UInt8)) : Option (Int × Bool) :=
 if p0run.length ≤ 140737488355328 then some (numberS p0run) else none
theorem w_name_Number {p0run : (List UInt8)} {res : (Int × Bool)} (h : name_Number p0run = some res) : ACalls Tryd.prog 138 [.c (.str p0run)] [] (.tup [.c (.int .i64 res.1), .c (.bool res.2)]) [] := by
 unfold name_Number at h
 obtain ⟨hl, rfl⟩ := ite_some h
 refine acalls_lib (by kernel_rfl) fun g w vs hv hI hg => ?_
 rw [rc_str hv]
 refine (number_calls hl w hI hg).mono fun e w' => ?_
 rintro ⟨rfl, hb⟩
 exact ⟨_, rfl, hb, fun g' => rav_pair (.c (.int _ _)) (.c (.bool _))⟩
end Go.Proofs.YtmbdbdhdcbdcpaaDoor

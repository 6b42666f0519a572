import Derived.Test.YtmnobgopfnhbnaaGETy
import Derived.Test.YtmnobgopfnhbnaaGEF0
import Derived.Test.YtmnobgopfnhbnaaGEF6
import Derived.Test.YtmnobgopfnhbnaaGEF8
namespace Go.Proofs.Ytmnobgopfnhbnaa
open Go Abs
set_option maxRecDepth 100000
set_option linter.unusedVariables false
set_option linter.unusedSimpArgs false
noncomputable def law20xCommandEncodes (p0b : (List UInt8)) (p1c : ApiCommand) : Option Bool :=
 (gd ((decide ((100 : Int) < ((p0b).length : Int))) == false) (ref20xSmall p1c)).bind fun (x1 : Bool) => cond (cond (decide ((100 : Int) < ((p0b).length : Int))) true (!x1)) ((law20xworks).bind fun (x4 : Bool) => some x4) ((command_Encode p0b p1c).bind fun (x7 : (List UInt8)) => (ref20xEncode p0b p1c).bind fun (x9 : (List UInt8)) => (gd ((decide (x7 = x9)) == true) (command_EncodePolicy p0b p1c.Opts)).bind fun (x11 : (List UInt8)) => (gd ((decide (x7 = x9)) == true) (ref20xEncodePolicy p0b p1c.Opts)).bind fun (x13 : (List UInt8)) => (gd ((cond (decide (x7 = x9)) (decide (x11 = x13)) false) == true) (law20xworks)).bind fun (x15 : Bool) => some (cond (cond (decide (x7 = x9)) (decide (x11 = x13)) false) x15 false))
theorem w_law20xCommandEncodes {p0b : (List UInt8)} {p1c : ApiCommand} {res : Bool} (h : law20xCommandEncodes p0b p1c = some res) : ACalls Try.prog 8 [.c (PV.ls 1 brow p0b), .agg (AV.cs (rowApiCommand p1c))] [] (.c (.bool res)) [] := by
 unfold law20xCommandEncodes at h
 refine acalls (fn := Try.f8) [0, 1, 3, 4, 12] (by kernel_rfl) Try.func8 rfl (by kernel_rfl) (by kernel_rfl) <| w_sr <| o_box (v := .agg aIISSIIISLLSIIIIIIIIL) (n := 0) (cs := aIISSIIISLLSIIIIIIIIL) (σ' := [aIISSIIISLLSIIIIIIIIL]) rfl rfl rfl rfl rfl <| sB rfl <| o_ek (fr' := [(0, aL), (3, .box 0 0)]) rfl rfl <| w_seqw <| w_sr <| mL rfl <| o_p rfl (p_len ti40 (isl_c rfl)) <| o_p rfl (p_gtr rfl rfl) <| mB rfl ?_
 refine og rfl rfl rfl (fun hc => (p_loads (us := aIISSIIISLLSIIIIIIIIL) tv29 rfl rfl rfl rfl)) ?_
 obtain ⟨x1, hx1, h2⟩ := bind_s h
 refine o_g rfl rfl (fun hc => ov_call (v := aB) rfl (w_ref20xSmall (gd_some hx1 hc)) ⟨(le_gv (gx rfl hc) (le_aggc rfl ⟨rfl, rfl, rfl, rfl, rfl, rfl, rfl, rfl, rfl, rfl, rfl, rfl, rfl, rfl, rfl, rfl, rfl, rfl, rfl, rfl, trivial⟩)), trivial⟩ (ok_eq (by repeat (first | exact ok_nil | refine ok_cons rfl ?_ | refine ok_cons (dgv rfl) ?_))) rfl rfl) ?_
 refine og rfl rfl rfl (fun hc => (p_not (gx rfl hc))) <| o_p rfl (p_pickz rfl rfl rfl (fun e => keq e)) <| o_ek (fr' := [(0, aL), (3, .box 0 0), (12, aB)]) rfl rfl <| w_ch h2 rfl (fun hb3 h3 => ?_) (fun hb3 h3 => ?_)
 ·
  refine w_seqw <| w_region ?_
  obtain ⟨x4, hx4, h5⟩ := bind_s h3
  refine o_v (ov_call (v := aB) rfl (w_law20xworks hx4) trivial rfl rfl rfl) <| sB rfl <| o_ek (fr' := [(4, aB)]) rfl rfl <| w_ret <| e_seq_r ?_
  obtain rfl := sy h5
  exact e_ret (rs' := [.tmp 4]) rfl <| r_tmp (v := aB) rfl <| r_nil <| fin_gen [] rfl rfl rfl lr st_nil
 ·
  refine w_skip <| e_kw <| w_seqw <| w_planT [.q 0, .q 1, .q 2, .q 3, .q 4, .q 5, .q 6, .q 7, .q 8, .q 9, .q 10, .q 11, .q 12, .q 13, .q 14, .q 15, .q 16, .q 17, .q 18, .q 19, .q 20, .q 21, .q 22, .q 23, .q 24, .n 25 []] [(some 14, [0]), (some 15, [3]), (some 16, [14, 15]), (some 17, [16]), (some 18, [0]), (some 19, [3]), (some 20, [18, 19]), (some 21, [20]), (some 22, [17, 21]), (some 23, [22]), (some 24, [0, 23]), (some 25, [3, 23]), (some 26, [25, 23]), (some 27, [24, 26, 23]), (some 28, [27, 23]), (some 29, [0, 23]), (some 30, [3, 23]), (some 31, [30, 23]), (some 32, [29, 31, 23]), (some 33, [32, 23]), (some 34, [28, 33, 23]), (some 35, [23, 34]), (some 36, [35]), (some 37, [36]), (some 38, [36, 37]), (some 4, [38])] [0, 0, 3, 7, 0, 0, 55, 119, 255, 511, 1023, 1023, 3071, 8191, 16383, 1023, 1023, 66559, 245759, 507903, 1048575, 2097151, 4194303, 8388607, 16777215, 33554431] (by kernel_rfl) <| dq rfl rfl (p_move (v := aL) rfl) <| dq rfl rfl (p_loads (us := aIISSIIISLLSIIIIIIIIL) tv29 rfl rfl rfl rfl) ?_
  obtain ⟨x7, hx7, h8⟩ := bind_s h3
  refine d_q rfl (qv_call (v := aL) rfl (w_command_Encode hx7) ⟨lr, (le_aggc rfl ⟨rfl, rfl, rfl, rfl, rfl, rfl, rfl, rfl, rfl, rfl, rfl, rfl, rfl, rfl, rfl, rfl, rfl, rfl, rfl, rfl, trivial⟩), trivial⟩ rfl) <| dq rfl rfl (p_convbs tby40 ti9 (isl_c rfl)) <| dq rfl rfl (p_move (v := aL) rfl) <| dq rfl rfl (p_loads (us := aIISSIIISLLSIIIIIIIIL) tv29 rfl rfl rfl rfl) ?_
  obtain ⟨x9, hx9, h10⟩ := bind_s h8
  refine d_q rfl (qv_call (v := aL) rfl (w_ref20xEncode hx9) ⟨lr, (le_aggc rfl ⟨rfl, rfl, rfl, rfl, rfl, rfl, rfl, rfl, rfl, rfl, rfl, rfl, rfl, rfl, rfl, rfl, rfl, rfl, rfl, rfl, trivial⟩), trivial⟩ rfl) <| dq rfl rfl (p_convbs tby40 ti9 (isl_c rfl)) <| dq rfl rfl (p_seql rfl rfl) <| dq rfl rfl (p_move (v := aB) rfl) <| d_g rfl rfl rfl (fun hc => qv_p rfl (p_move (v := aL) rfl)) <| d_g rfl rfl rfl (fun hc => qv_p rfl (p_fa tf29x6 rfl)) <| d_g rfl rfl rfl (fun hc => qv_p rfl (p_loads (us := aSIIIIIIIIL) tv27 (gx rfl hc) rfl rfl rfl)) ?_
  obtain ⟨x11, hx11, h12⟩ := bind_s h10
  refine d_g rfl rfl rfl (fun hc => qv_call (v := aL) rfl (w_command_EncodePolicy (gd_some hx11 hc)) ⟨(le_gv (gx rfl hc) lr), (le_gv (gx rfl hc) (le_aggc rfl ⟨rfl, rfl, rfl, rfl, rfl, rfl, rfl, rfl, rfl, rfl, trivial⟩)), trivial⟩ rfl) <| d_g rfl rfl rfl (fun hc => qv_p rfl (p_convbs tby40 ti9 (isl_c (gx rfl hc)))) <| d_g rfl rfl rfl (fun hc => qv_p rfl (p_move (v := aL) rfl)) <| d_g rfl rfl rfl (fun hc => qv_p rfl (p_fa tf29x6 rfl)) <| d_g rfl rfl rfl (fun hc => qv_p rfl (p_loads (us := aSIIIIIIIIL) tv27 (gx rfl hc) rfl rfl rfl)) ?_
  obtain ⟨x13, hx13, h14⟩ := bind_s h12
  refine d_g rfl rfl rfl (fun hc => qv_call (v := aL) rfl (w_ref20xEncodePolicy (gd_some hx13 hc)) ⟨(le_gv (gx rfl hc) lr), (le_gv (gx rfl hc) (le_aggc rfl ⟨rfl, rfl, rfl, rfl, rfl, rfl, rfl, rfl, rfl, rfl, trivial⟩)), trivial⟩ rfl) <| d_g rfl rfl rfl (fun hc => qv_p rfl (p_convbs tby40 ti9 (isl_c (gx rfl hc)))) <| d_g rfl rfl rfl (fun hc => qv_p rfl (p_seql (gx rfl hc) (gx rfl hc))) <| dq rfl rfl (p_picky rfl rfl rfl (fun e => keq e)) <| dq rfl rfl (p_move (v := aB) rfl) ?_
  obtain ⟨x15, hx15, h16⟩ := bind_s h14
  refine d_g rfl rfl rfl (fun hc => qv_call (v := aB) rfl (w_law20xworks (gd_some hx15 hc)) trivial rfl) <| dq rfl rfl (p_picky rfl rfl rfl (fun e => keq e)) <| d_n rfl ?_ rfl
  refine sB rfl <| o_rc <| ⟨rc_nil, ?_⟩
  refine d_ek (fr' := [(4, aB)]) rfl rfl <| w_ret ?_
  obtain rfl := sy h16
  exact e_ret (rs' := [.tmp 4]) rfl <| r_tmp (v := aB) rfl <| r_nil <| fin_gen [] rfl rfl rfl lr st_nil
end Go.Proofs.Ytmnobgopfnhbnaa

import Derived.Test.YtmnobgopfnhbnaaDoorGBTy
namespace Go.Proofs.YtmnobgopfnhbnaaDoor
open Go Abs
set_option maxRecDepth 100000
set_option linter.unusedVariables false
set_option linter.unusedSimpArgs false
noncomputable def name_letter (p0c : Int) : Option Bool :=
 some (cond (cond (cond (decide ((97 : Int) ≤ p0c)) (decide (p0c ≤ (122 : Int))) false) true (cond (decide ((65 : Int) ≤ p0c)) (decide (p0c ≤ (90 : Int))) false)) true (decide (p0c = (95 : Int))))
theorem w_name_letter {p0c : Int} {res : Bool} (h : name_letter p0c = some res) : ACalls Tryd.prog 18 [.c (.int .u8 p0c)] [] (.c (.bool res)) [] := by
 unfold name_letter at h
 refine acalls (fn := Tryd.f18) [0, 2] (by kernel_rfl) Tryd.func18 rfl (by kernel_rfl) (by kernel_rfl) <| w_sr <| sB rfl <| o_ek (fr' := [(0, aI)]) rfl rfl <| w_sr <| mI rfl <| o_p rfl (p_geq rfl rfl) <| mB rfl <| og rfl rfl rfl (fun hc => (p_move (v := aI) rfl)) <| og rfl rfl rfl (fun hc => (p_leq (gx rfl hc) rfl)) <| o_p rfl (p_picky rfl rfl rfl (fun e => keq e)) ?_
 refine mB rfl <| og rfl rfl rfl (fun hc => (p_move (v := aI) rfl)) <| og rfl rfl rfl (fun hc => (p_geq (gx rfl hc) rfl)) <| og rfl rfl rfl (fun hc => (p_move (v := aB) (gx rfl hc))) <| o_gg rfl rfl (fun hc => ov_p rfl (p_move (v := aI) rfl)) <| o_gg rfl rfl (fun hc => ov_p rfl (p_leq (gx rfl hc) rfl)) <| og rfl rfl rfl (fun hc => (p_picky (gx rfl hc) rfl rfl (fun e => band hc (keq e)))) <| o_p rfl (p_pickz rfl rfl rfl (fun e => keq e)) <| mB rfl <| og rfl rfl rfl (fun hc => (p_move (v := aI) rfl)) <| og rfl rfl rfl (fun hc => (p_eql (gx rfl hc) rfl)) <| o_p rfl (p_pickz rfl rfl rfl (fun e => keq e)) <| sB rfl ?_
 refine o_ek (fr' := [(2, aB)]) rfl rfl <| w_ret ?_
 obtain rfl := sy h
 exact e_ret (rs' := [.tmp 2]) rfl <| r_tmp (v := aB) rfl <| r_nil <| fin_gen [] rfl rfl rfl lr st_nil
noncomputable def name_Right_l1 (p0s : (List UInt8)) (s6 : Int) : Option (Step Int (Fl Bool Unit)) :=
 cond (decide (s6 < ((p0s).length : Int))) ((idx p0s s6).bind fun (x8 : UInt8) => (name_letter ((x8).toNat : Int)).bind fun (x10 : Bool) => (gd (((!x10) == true) && ((decide (s6 = (0 : Int))) == false)) (idx p0s s6)).bind fun (x12 : UInt8) => (gd (((!x10) == true) && ((cond (decide (s6 = (0 : Int))) true (decide (((x12).toNat : Int) < (48 : Int)))) == false)) (idx p0s s6)).bind fun (x14 : UInt8) => cond (cond (!x10) (cond (cond (decide (s6 = (0 : Int))) true (decide (((x12).toNat : Int) < (48 : Int)))) true (decide ((57 : Int) < ((x14).toNat : Int)))) false) (some (Step.out (Fl.done false))) (some (Step.next (IntKind.wrap .i64 (s6 + (1 : Int)))))) (some (Step.out (Fl.go ())))
noncomputable def name_Right (p0s : (List UInt8)) : Option Bool :=
 cond (cond (decide (p0s = ([] : List UInt8))) true (decide ((64 : Int) < ((p0s).length : Int)))) (some false) (((loopO (name_Right_l1 p0s) ((0 : Int))) : Option (Fl Bool Unit)).bind fun (x3 : (Fl Bool Unit)) => Fl.next x3 (fun (j5 : Unit) => (some true)))
theorem w_name_Right {p0s : (List UInt8)} {res : Bool} (h : name_Right p0s = some res) : ACalls Tryd.prog 7 [.c (.str p0s)] [] (.c (.bool res)) [] := by
 unfold name_Right at h
 refine acalls (fn := Tryd.f7) [0, 2, 3, 10, 12, 13, 14, 36] (by kernel_rfl) Tryd.func7 rfl (by kernel_rfl) (by kernel_rfl) <| w_sr <| sB rfl <| o_ek (fr' := [(0, aS)]) rfl rfl <| w_seqw <| w_sr <| mS rfl <| o_p rfl (p_seql rfl rfl) <| mB rfl <| og rfl rfl rfl (fun hc => (p_move (v := aS) rfl)) <| og rfl rfl rfl (fun hc => (p_lens ti9 (gx rfl hc))) ?_
 refine og rfl rfl rfl (fun hc => (p_gtr (gx rfl hc) rfl)) <| o_p rfl (p_pickz rfl rfl rfl (fun e => keq e)) <| o_ek (fr' := [(0, aS), (10, aB)]) rfl rfl <| w_ch h rfl (fun hb1 h1 => ?_) (fun hb1 h1 => ?_)
 ·
  refine w_sr <| sB rfl <| o_ek (fr' := [(2, aB)]) rfl rfl <| w_ret <| e_seq_r ?_
  obtain rfl := sy h1
  exact e_ret (rs' := [.tmp 2]) rfl <| r_tmp (v := aB) rfl <| r_nil <| fin_gen [] rfl rfl rfl lr st_nil
 ·
  refine w_skip <| e_kw <| w_seqw <| w_sr <| mS rfl <| o_p rfl (p_lens ti9 rfl) <| mI rfl <| o_ek (fr' := [(0, aS), (12, aI), (13, aI)]) rfl rfl ?_
  obtain ⟨x3, hx3, h4⟩ := bind_s h1
  refine w_jtail cl_kw (fun j5 => x3 = Fl.go j5) (fun (j5 : Unit) => ([] : Fr)) (fun (j5 : Unit) => ([] : St)) ?_ ?_
  ·
   refine w_block <| w_loopo _ (fun (s6 : Int) => ([(0, .c (.str p0s)), (12, .c (.int .i64 ((p0s).length : Int))), (13, .c (.int .i64 s6))] : Fr)) (fun (s6 : Int) => ([] : St)) hx3 (w_weak [] 0 rfl rfl rfl rfl ⟨lr, lr, lr, trivial⟩ st_nil) ?_
   intro s6 st6 hs6 ho6
   unfold name_Right_l1 at hs6
   refine w_sr <| o_p rfl (p_lss rfl rfl) <| o_ek (fr' := [(0, aS), (12, aI), (13, aI), (14, aB)]) rfl rfl <| w_seqw <| w_ch hs6 rfl (fun hb7 h7 => ?_) (fun hb7 h7 => ?_)
   ·
    refine w_skip <| e_kw <| w_seqw <| w_block <| w_sr <| mI rfl <| sI rfl <| o_ek (fr' := [(0, aS), (3, aI), (12, aI), (13, aI)]) rfl rfl <| w_sr <| mS rfl <| mI rfl ?_
    obtain ⟨x8, hx8, h9⟩ := bind_s h7
    refine o_p rfl (p_is ti9 rfl rfl hx8) ?_
    obtain ⟨x10, hx10, h11⟩ := bind_s h9
    refine o_v (ov_call (v := aB) rfl (w_name_letter hx10) ⟨lr, trivial⟩ rfl rfl rfl) <| o_p rfl (p_not rfl) <| mB rfl <| og rfl rfl rfl (fun hc => (p_move (v := aI) rfl)) <| og rfl rfl rfl (fun hc => (p_eql (gx rfl hc) rfl)) <| og rfl rfl rfl (fun hc => (p_move (v := aB) (gx rfl hc))) <| o_gg rfl rfl (fun hc => ov_p rfl (p_move (v := aS) rfl)) <| o_gg rfl rfl (fun hc => ov_p rfl (p_move (v := aI) rfl)) ?_
    obtain ⟨x12, hx12, h13⟩ := bind_s h11
    refine o_gg rfl rfl (fun hc => ov_p rfl (p_is ti9 (gx rfl hc) (gx rfl hc) (gd_some hx12 hc))) <| o_gg rfl rfl (fun hc => ov_p rfl (p_lss (gx rfl hc) rfl)) <| og rfl rfl rfl (fun hc => (p_pickz (gx rfl hc) rfl rfl (fun e => band hc (keq e)))) <| og rfl rfl rfl (fun hc => (p_move (v := aB) (gx rfl hc))) <| o_gg rfl rfl (fun hc => ov_p rfl (p_move (v := aS) rfl)) <| o_gg rfl rfl (fun hc => ov_p rfl (p_move (v := aI) rfl)) ?_
    obtain ⟨x14, hx14, h15⟩ := bind_s h13
    refine o_gg rfl rfl (fun hc => ov_p rfl (p_is ti9 (gx rfl hc) (gx rfl hc) (gd_some hx14 hc))) <| o_gg rfl rfl (fun hc => ov_p rfl (p_gtr (gx rfl hc) rfl)) <| og rfl rfl rfl (fun hc => (p_pickz (gx rfl hc) rfl rfl (fun e => band hc (keq e)))) <| o_p rfl (p_picky rfl rfl rfl (fun e => keq e)) <| o_ek (fr' := [(0, aS), (12, aI), (13, aI), (36, aB)]) rfl rfl <| w_ch h15 rfl (fun hb16 h16 => ?_) (fun hb16 h16 => ?_)
    ·
     refine w_sr <| sB rfl <| o_ek (fr' := [(2, aB)]) rfl rfl <| w_ret <| e_blk_r <| e_seq_r <| e_seq_r <| e_blk_r <| e_seq_r <| e_seq_r ?_
     have h17 := un_out h16 ho6
     have h18 := un_done h17 h4
     obtain rfl := sy h18
     exact e_ret (rs' := [.tmp 2]) rfl <| r_tmp (v := aB) rfl <| r_nil <| fin_gen [] rfl rfl rfl lr st_nil
    ·
     exact w_skip <| e_blk_n <| e_kw <| w_region <| o_p rfl (p_add rfl rfl) <| mI rfl <| o_end (fr' := [(0, aS), (12, aI), (13, aI), (36, aB)]) rfl <| e_l _ (sy h16) (w_weak [] 0 rfl rfl rfl rfl ⟨lr, lr, lr, trivial⟩ st_nil)
   ·
    refine w_exit <| e_seq_x <| e_seq_x <| e_blk_h ?_
    have h20 := un_out h7 ho6
    exact e_j _ (sy h20) (w_weak [] 0 rfl rfl rfl rfl trivial st_nil)
  ·
   intro j5 hj21
   have h21 := un_go hj21 h4
   refine e_kw <| w_sr <| sB rfl <| o_ek (fr' := [(2, aB)]) rfl rfl <| w_ret ?_
   obtain rfl := sy h21
   exact e_ret (rs' := [.tmp 2]) rfl <| r_tmp (v := aB) rfl <| r_nil <| fin_gen [] rfl rfl rfl lr st_nil
noncomputable def ref06xletter (p0c : Int) : Option Bool :=
 some (cond (cond (cond (cond (decide ((97 : Int) ≤ p0c)) (decide (p0c ≤ (122 : Int))) false) true (cond (decide ((65 : Int) ≤ p0c)) (decide (p0c ≤ (90 : Int))) false)) true (cond (decide ((48 : Int) ≤ p0c)) (decide (p0c ≤ (57 : Int))) false)) true (decide (p0c = (95 : Int))))
theorem w_ref06xletter {p0c : Int} {res : Bool} (h : ref06xletter p0c = some res) : ACalls Tryd.prog 19 [.c (.int .u8 p0c)] [] (.c (.bool res)) [] := by
 unfold ref06xletter at h
 refine acalls (fn := Tryd.f19) [0, 2] (by kernel_rfl) Tryd.func19 rfl (by kernel_rfl) (by kernel_rfl) <| w_sr <| sB rfl <| o_ek (fr' := [(0, aI)]) rfl rfl <| w_sr <| mI rfl <| o_p rfl (p_geq rfl rfl) <| mB rfl <| og rfl rfl rfl (fun hc => (p_move (v := aI) rfl)) <| og rfl rfl rfl (fun hc => (p_leq (gx rfl hc) rfl)) <| o_p rfl (p_picky rfl rfl rfl (fun e => keq e)) ?_
 refine mB rfl <| og rfl rfl rfl (fun hc => (p_move (v := aI) rfl)) <| og rfl rfl rfl (fun hc => (p_geq (gx rfl hc) rfl)) <| og rfl rfl rfl (fun hc => (p_move (v := aB) (gx rfl hc))) <| o_gg rfl rfl (fun hc => ov_p rfl (p_move (v := aI) rfl)) <| o_gg rfl rfl (fun hc => ov_p rfl (p_leq (gx rfl hc) rfl)) <| og rfl rfl rfl (fun hc => (p_picky (gx rfl hc) rfl rfl (fun e => band hc (keq e)))) <| o_p rfl (p_pickz rfl rfl rfl (fun e => keq e)) <| mB rfl <| og rfl rfl rfl (fun hc => (p_move (v := aI) rfl)) <| og rfl rfl rfl (fun hc => (p_geq (gx rfl hc) rfl)) <| og rfl rfl rfl (fun hc => (p_move (v := aB) (gx rfl hc))) <| o_gg rfl rfl (fun hc => ov_p rfl (p_move (v := aI) rfl)) ?_
 refine o_gg rfl rfl (fun hc => ov_p rfl (p_leq (gx rfl hc) rfl)) <| og rfl rfl rfl (fun hc => (p_picky (gx rfl hc) rfl rfl (fun e => band hc (keq e)))) <| o_p rfl (p_pickz rfl rfl rfl (fun e => keq e)) <| mB rfl <| og rfl rfl rfl (fun hc => (p_move (v := aI) rfl)) <| og rfl rfl rfl (fun hc => (p_eql (gx rfl hc) rfl)) <| o_p rfl (p_pickz rfl rfl rfl (fun e => keq e)) <| sB rfl <| o_ek (fr' := [(2, aB)]) rfl rfl <| w_ret ?_
 obtain rfl := sy h
 exact e_ret (rs' := [.tmp 2]) rfl <| r_tmp (v := aB) rfl <| r_nil <| fin_gen [] rfl rfl rfl lr st_nil
noncomputable def ref06xRight_l1 (p0s : (List UInt8)) (s10 : Int) : Option (Step Int (Fl Bool Unit)) :=
 cond (decide (s10 < ((p0s).length : Int))) ((idx p0s s10).bind fun (x12 : UInt8) => (ref06xletter ((x12).toNat : Int)).bind fun (x14 : Bool) => cond (!x14) (some (Step.out (Fl.done false))) (some (Step.next (IntKind.wrap .i64 (s10 + (1 : Int)))))) (some (Step.out (Fl.go ())))
noncomputable def ref06xRight (p0s : (List UInt8)) : Option Bool :=
 (gd ((cond (decide (((p0s).length : Int) < (1 : Int))) true (decide ((64 : Int) < ((p0s).length : Int)))) == false) (idx p0s (0 : Int))).bind fun (x1 : UInt8) => (gd (((cond (decide (((p0s).length : Int) < (1 : Int))) true (decide ((64 : Int) < ((p0s).length : Int)))) == false) && ((decide ((48 : Int) ≤ ((x1).toNat : Int))) == true)) (idx p0s (0 : Int))).bind fun (x3 : UInt8) => cond (cond (cond (decide (((p0s).length : Int) < (1 : Int))) true (decide ((64 : Int) < ((p0s).length : Int)))) true (cond (decide ((48 : Int) ≤ ((x1).toNat : Int))) (decide (((x3).toNat : Int) ≤ (57 : Int))) false)) (some false) (((loopO (ref06xRight_l1 p0s) ((0 : Int))) : Option (Fl Bool Unit)).bind fun (x7 : (Fl Bool Unit)) => Fl.next x7 (fun (j9 : Unit) => (some true)))
theorem w_ref06xRight {p0s : (List UInt8)} {res : Bool} (h : ref06xRight p0s = some res) : ACalls Tryd.prog 8 [.c (.str p0s)] [] (.c (.bool res)) [] := by
 unfold ref06xRight at h
 refine acalls (fn := Tryd.f8) [0, 2, 3, 21, 25, 32] (by kernel_rfl) Tryd.func8 rfl (by kernel_rfl) (by kernel_rfl) <| w_sr <| sB rfl <| o_ek (fr' := [(0, aS)]) rfl rfl <| w_seqw <| w_sr <| mS rfl <| o_p rfl (p_lens ti9 rfl) <| o_p rfl (p_lss rfl rfl) <| mB rfl <| og rfl rfl rfl (fun hc => (p_move (v := aS) rfl)) ?_
 refine og rfl rfl rfl (fun hc => (p_lens ti9 (gx rfl hc))) <| og rfl rfl rfl (fun hc => (p_gtr (gx rfl hc) rfl)) <| o_p rfl (p_pickz rfl rfl rfl (fun e => keq e)) <| mB rfl <| og rfl rfl rfl (fun hc => (p_move (v := aS) rfl)) ?_
 obtain ⟨x1, hx1, h2⟩ := bind_s h
 refine og rfl rfl rfl (fun hc => (p_is ti9 (gx rfl hc) rfl (gd_some hx1 hc))) <| og rfl rfl rfl (fun hc => (p_geq (gx rfl hc) rfl)) <| og rfl rfl rfl (fun hc => (p_move (v := aB) (gx rfl hc))) <| o_gg rfl rfl (fun hc => ov_p rfl (p_move (v := aS) rfl)) ?_
 obtain ⟨x3, hx3, h4⟩ := bind_s h2
 refine o_gg rfl rfl (fun hc => ov_p rfl (p_is ti9 (gx rfl hc) rfl (gd_some hx3 hc))) <| o_gg rfl rfl (fun hc => ov_p rfl (p_leq (gx rfl hc) rfl)) <| og rfl rfl rfl (fun hc => (p_picky (gx rfl hc) rfl rfl (fun e => band hc (keq e)))) <| o_p rfl (p_pickz rfl rfl rfl (fun e => keq e)) <| o_ek (fr' := [(0, aS), (21, aB)]) rfl rfl <| w_ch h4 rfl (fun hb5 h5 => ?_) (fun hb5 h5 => ?_)
 ·
  refine w_sr <| sB rfl <| o_ek (fr' := [(2, aB)]) rfl rfl <| w_ret <| e_seq_r ?_
  obtain rfl := sy h5
  exact e_ret (rs' := [.tmp 2]) rfl <| r_tmp (v := aB) rfl <| r_nil <| fin_gen [] rfl rfl rfl lr st_nil
 ·
  refine w_skip <| e_kw <| w_seqw <| w_sr <| sI rfl <| o_ek (fr' := [(0, aS), (3, aI)]) rfl rfl ?_
  obtain ⟨x7, hx7, h8⟩ := bind_s h5
  refine w_jtail cl_kw (fun j9 => x7 = Fl.go j9) (fun (j9 : Unit) => ([] : Fr)) (fun (j9 : Unit) => ([] : St)) ?_ ?_
  ·
   refine w_block <| w_loopo _ (fun (s10 : Int) => ([(0, .c (.str p0s)), (3, .c (.int .i64 s10))] : Fr)) (fun (s10 : Int) => ([] : St)) hx7 (w_weak [] 0 rfl rfl rfl rfl ⟨lr, lr, trivial⟩ st_nil) ?_
   intro s10 st10 hs10 ho10
   unfold ref06xRight_l1 at hs10
   refine w_seqw <| w_sr <| mI rfl <| mS rfl <| o_p rfl (p_lens ti9 rfl) <| o_p rfl (p_lss rfl rfl) <| o_ek (fr' := [(0, aS), (3, aI), (25, aB)]) rfl rfl <| w_ch hs10 rfl (fun hb11 h11 => ?_) (fun hb11 h11 => ?_)
   ·
    refine w_skip <| e_kw <| w_seqw <| w_block <| w_sr <| mS rfl <| mI rfl ?_
    obtain ⟨x12, hx12, h13⟩ := bind_s h11
    refine o_p rfl (p_is ti9 rfl rfl hx12) ?_
    obtain ⟨x14, hx14, h15⟩ := bind_s h13
    refine o_v (ov_call (v := aB) rfl (w_ref06xletter hx14) ⟨lr, trivial⟩ rfl rfl rfl) <| o_p rfl (p_not rfl) <| o_ek (fr' := [(0, aS), (3, aI), (32, aB)]) rfl rfl <| w_ch h15 rfl (fun hb16 h16 => ?_) (fun hb16 h16 => ?_)
    ·
     refine w_sr <| sB rfl <| o_ek (fr' := [(2, aB)]) rfl rfl <| w_ret <| e_blk_r <| e_seq_r <| e_seq_r <| e_blk_r <| e_seq_r <| e_seq_r ?_
     have h17 := un_out h16 ho10
     have h18 := un_done h17 h8
     obtain rfl := sy h18
     exact e_ret (rs' := [.tmp 2]) rfl <| r_tmp (v := aB) rfl <| r_nil <| fin_gen [] rfl rfl rfl lr st_nil
    ·
     exact w_skip <| e_blk_n <| e_kw <| w_region <| mI rfl <| o_p rfl (p_add rfl rfl) <| sI rfl <| o_end (fr' := [(0, aS), (3, aI), (32, aB)]) rfl <| e_l _ (sy h16) (w_weak [] 0 rfl rfl rfl rfl ⟨lr, lr, trivial⟩ st_nil)
   ·
    refine w_exit <| e_seq_x <| e_seq_x <| e_blk_h ?_
    have h20 := un_out h11 ho10
    exact e_j _ (sy h20) (w_weak [] 0 rfl rfl rfl rfl trivial st_nil)
  ·
   intro j9 hj21
   have h21 := un_go hj21 h8
   refine e_kw <| w_sr <| sB rfl <| o_ek (fr' := [(2, aB)]) rfl rfl <| w_ret ?_
   obtain rfl := sy h21
   exact e_ret (rs' := [.tmp 2]) rfl <| r_tmp (v := aB) rfl <| r_nil <| fin_gen [] rfl rfl rfl lr st_nil
noncomputable def name_Number (p0run : (List UInt8)) : Option (Int × Bool) :=
 if p0run.length ≤ 140737488355328 then some (numberS p0run) else none
theorem w_name_Number {p0run : (List UInt8)} {res : (Int × Bool)} (h : name_Number p0run = some res) : ACalls Tryd.prog 10 [.c (.str p0run)] [] (.tup [.c (.int .i64 res.1), .c (.bool res.2)]) [] := by
 unfold name_Number at h
 obtain ⟨hl, rfl⟩ := ite_some h
 refine acalls_lib (by kernel_rfl) fun g w vs hv hI hg => ?_
 rw [rc_str hv]
 refine (number_calls hl w hI hg).mono fun e w' => ?_
 rintro ⟨rfl, hb⟩
 exact ⟨_, rfl, hb, fun g' => rav_pair (.c (.int _ _)) (.c (.bool _))⟩
noncomputable def strconv_Itoa (p0i : Int) : Option (List UInt8) :=
 if -9223372036854775808 ≤ p0i ∧ p0i ≤ 9223372036854775807 then some (Lib.itoa p0i) else none
theorem w_strconv_Itoa {p0i : Int} {res : (List UInt8)} (h : strconv_Itoa p0i = some res) : ACalls Tryd.prog 22 [.c (.int .i64 p0i)] [] (.c (.str res)) [] := by
 unfold strconv_Itoa at h
 obtain ⟨⟨h0, h1⟩, rfl⟩ := ite_some h
 refine acalls_lib (by kernel_rfl) fun g w vs hv hI hg => ?_
 rw [rc_int hv]
 refine (Tryd.strconv_Itoa p0i h0 h1 w (glo_tab hg)).mono fun e w' => ?_
 rintro ⟨he, k, os, rfl⟩
 exact ⟨_, he, Lib.below_grow _ _ (Nat.le_refl _) k os, fun g' => .c (.str _)⟩
noncomputable def name_Run (p0n : Int) : Option (List UInt8) :=
 cond (decide (p0n < (1 : Int))) (some ([] : List UInt8)) ((strconv_Itoa p0n).bind fun (x3 : (List UInt8)) => (cat ([114] : List UInt8) x3).bind fun (x5 : (List UInt8)) => some (([114] : List UInt8) ++ x3))
theorem w_name_Run {p0n : Int} {res : (List UInt8)} (h : name_Run p0n = some res) : ACalls Tryd.prog 12 [.c (.int .i64 p0n)] [] (.c (.str res)) [] := by
 unfold name_Run at h
 refine acalls (fn := Tryd.f12) [0, 2, 4] (by kernel_rfl) Tryd.func12 rfl (by kernel_rfl) (by kernel_rfl) <| w_sr <| sS rfl <| o_ek (fr' := [(0, aI)]) rfl rfl <| w_seqw <| w_sr <| mI rfl <| o_p rfl (p_lss rfl rfl) <| o_ek (fr' := [(0, aI), (4, aB)]) rfl rfl <| w_ch h rfl (fun hb1 h1 => ?_) (fun hb1 h1 => ?_)
 ·
  refine w_sr <| sS rfl <| o_ek (fr' := [(2, aS)]) rfl rfl <| w_ret <| e_seq_r ?_
  obtain rfl := sy h1
  exact e_ret (rs' := [.tmp 2]) rfl <| r_tmp (v := aS) rfl <| r_nil <| fin_gen [] rfl rfl rfl lr st_nil
 ·
  refine w_skip <| e_kw <| w_sr <| mI rfl ?_
  obtain ⟨x3, hx3, h4⟩ := bind_s h1
  refine o_v (ov_call (v := aS) rfl (w_strconv_Itoa hx3) ⟨lr, trivial⟩ rfl rfl rfl) ?_
  obtain ⟨x5, hx5, h6⟩ := bind_s h4
  refine o_p rfl (p_sadd rfl rfl (cat_some hx5).1) <| sS rfl <| o_ek (fr' := [(2, aS)]) rfl rfl <| w_ret ?_
  obtain rfl := sy h6
  exact e_ret (rs' := [.tmp 2]) rfl <| r_tmp (v := aS) rfl <| r_nil <| fin_gen [] rfl rfl rfl lr st_nil
noncomputable def name_Key (p0workflow : (List UInt8)) (p1run : (List UInt8)) : Option (List UInt8) :=
 (cat p0workflow ([47] : List UInt8)).bind fun (x1 : (List UInt8)) => (cat (p0workflow ++ ([47] : List UInt8)) p1run).bind fun (x3 : (List UInt8)) => some ((p0workflow ++ ([47] : List UInt8)) ++ p1run)
theorem w_name_Key {p0workflow : (List UInt8)} {p1run : (List UInt8)} {res : (List UInt8)} (h : name_Key p0workflow p1run = some res) : ACalls Tryd.prog 14 [.c (.str p0workflow), .c (.str p1run)] [] (.c (.str res)) [] := by
 unfold name_Key at h
 refine acalls (fn := Tryd.f14) [0, 1, 4] (by kernel_rfl) Tryd.func14 rfl (by kernel_rfl) (by kernel_rfl) <| w_sr <| sS rfl <| o_ek (fr' := [(0, aS), (1, aS)]) rfl rfl <| w_sr <| mS rfl ?_
 obtain ⟨x1, hx1, h2⟩ := bind_s h
 refine o_p rfl (p_sadd rfl rfl (cat_some hx1).1) <| mS rfl ?_
 obtain ⟨x3, hx3, h4⟩ := bind_s h2
 refine o_p rfl (p_sadd rfl rfl (cat_some hx3).1) <| sS rfl <| o_ek (fr' := [(4, aS)]) rfl rfl <| w_ret ?_
 obtain rfl := sy h4
 exact e_ret (rs' := [.tmp 4]) rfl <| r_tmp (v := aS) rfl <| r_nil <| fin_gen [] rfl rfl rfl lr st_nil
noncomputable def stringslite_Index (p0C : (List UInt8)) (p1o : (List UInt8)) : Option Int :=
 match p1o with
 | [c] => some (Lib.indexByte p0C c)
 | _ => none
theorem w_stringslite_Index {p0C : (List UInt8)} {p1o : (List UInt8)} {res : Int} (h : stringslite_Index p0C p1o = some res) : ACalls Tryd.prog 40 [.c (.str p0C), .c (.str p1o)] [] (.c (.int .i64 res)) [] := by
 unfold stringslite_Index at h
 split at h
 ·
  rename_i c
  cases h
  refine acalls_lib (by kernel_rfl) fun g w vs hv hI hg => ?_
  rw [rc_strs hv]
  refine (Tryd.stringslite_Index_one ⟨p0C.toArray⟩ c w).mono fun e w' => ?_
  rintro ⟨rfl, rfl⟩
  exact ⟨_, rfl, RowKit.Below.refl _ _, fun g' => .c (.int _ _)⟩
 ·
  cases h
noncomputable def stringslite_Cut (p0s : (List UInt8)) (p1sep : (List UInt8)) : Option ((List UInt8) × (List UInt8) × Bool) :=
 (stringslite_Index p0s p1sep).bind fun (x1 : Int) => cond (decide ((0 : Int) ≤ x1)) ((slcH p0s x1).bind fun (x4 : (List UInt8)) => (slcL p0s (IntKind.wrap .i64 (x1 + ((p1sep).length : Int)))).bind fun (x6 : (List UInt8)) => some ((List.take (Int.toNat x1) p0s), (List.drop (Int.toNat (IntKind.wrap .i64 (x1 + ((p1sep).length : Int)))) p0s), true)) (some (p0s, ([] : List UInt8), false))
theorem w_stringslite_Cut {p0s : (List UInt8)} {p1sep : (List UInt8)} {res : ((List UInt8) × (List UInt8) × Bool)} (h : stringslite_Cut p0s p1sep = some res) : ACalls Tryd.prog 31 [.c (.str p0s), .c (.str p1sep)] [] (.tup [.c (.str res.1), .c (.str res.2.1), .c (.bool res.2.2)]) [] := by
 unfold stringslite_Cut at h
 refine acalls (fn := Tryd.f31) [0, 1, 4, 5, 6, 7, 12] (by kernel_rfl) Tryd.func31 rfl (by kernel_rfl) (by kernel_rfl) <| w_sr <| sS rfl <| sS rfl <| sB rfl <| o_ek (fr' := [(0, aS), (1, aS)]) rfl rfl <| w_seqw <| w_sr <| mS rfl <| mS rfl ?_
 obtain ⟨x1, hx1, h2⟩ := bind_s h
 refine o_v (ov_call (v := aI) rfl (w_stringslite_Index hx1) ⟨lr, lr, trivial⟩ rfl rfl rfl) <| sI rfl <| o_ek (fr' := [(0, aS), (1, aS), (7, aI)]) rfl rfl <| w_sr <| mI rfl <| o_p rfl (p_geq rfl rfl) <| o_ek (fr' := [(0, aS), (1, aS), (7, aI), (12, aB)]) rfl rfl <| w_ch h2 rfl (fun hb3 h3 => ?_) (fun hb3 h3 => ?_)
 ·
  refine w_seqw <| w_planT [.q 0, .q 1, .q 2, .q 3, .q 4, .q 5, .q 6, .q 7, .q 8, .n 9 [3, 4, 5, 6, 7, 8], .n 10 [], .n 11 []] [(some 13, [0]), (some 14, [7]), (some 15, [13, 14]), (some 16, [0]), (some 17, [7]), (some 18, [1]), (some 19, [18]), (some 20, [17, 19]), (some 21, [16, 20]), (some 4, [15]), (some 5, [21]), (some 6, [])] [0, 0, 3, 0, 0, 0, 32, 112, 248, 7, 1023, 2047] (by kernel_rfl) <| dq rfl rfl (p_move (v := aS) rfl) <| dq rfl rfl (p_move (v := aI) rfl) ?_
  obtain ⟨x4, hx4, h5⟩ := bind_s h3
  refine dq rfl rfl (p_slS_h ti9 rfl rfl (slcH_some hx4).1) <| dq rfl rfl (p_move (v := aS) rfl) <| dq rfl rfl (p_move (v := aI) rfl) <| dq rfl rfl (p_move (v := aS) rfl) <| dq rfl rfl (p_lens ti9 rfl) <| dq rfl rfl (p_add rfl rfl) ?_
  obtain ⟨x6, hx6, h7⟩ := bind_s h5
  refine dq rfl rfl (p_slS_l ti9 rfl rfl (slcL_some hx6).1) <| d_n rfl ?_ rfl
  refine sS rfl <| o_rc <| ⟨(rc_q (v := aS) rfl rfl (qv_p rfl (p_move (v := aS) rfl)) (rc_q (v := aI) rfl rfl (qv_p rfl (p_move (v := aI) rfl)) (rc_q (v := aS) rfl rfl (qv_p rfl (p_move (v := aS) rfl)) (rc_q (v := aI) rfl rfl (qv_p rfl (p_lens ti9 rfl)) (rc_q (v := aI) rfl rfl (qv_p rfl (p_add rfl rfl)) (rc_q (v := aS) rfl rfl (qv_p rfl (p_slS_l ti9 rfl rfl (slcL_some hx6).1)) rc_nil)))))), ?_⟩
  refine d_n rfl ?_ rfl
  refine sS rfl <| o_rc <| ⟨rc_nil, ?_⟩
  refine d_n rfl ?_ rfl
  refine sB rfl <| o_rc <| ⟨rc_nil, ?_⟩
  refine d_ek (fr' := [(4, aS), (5, aS), (6, aB)]) rfl rfl <| w_ret <| e_seq_r ?_
  obtain rfl := sy h7
  exact e_ret (rs' := [.tmp 4, .tmp 5, .tmp 6]) rfl <| r_tmp (v := aS) rfl <| r_tmp (v := aS) rfl <| r_tmp (v := aB) rfl <| r_nil <| fin_gen [] rfl rfl rfl (le_tupp rfl ⟨lr, lr, lr, trivial⟩) st_nil
 ·
  refine w_skip <| e_kw <| w_sr <| mS rfl <| sS rfl <| sS rfl <| sB rfl <| o_ek (fr' := [(4, aS), (5, aS), (6, aB)]) rfl rfl <| w_ret ?_
  obtain rfl := sy h3
  exact e_ret (rs' := [.tmp 4, .tmp 5, .tmp 6]) rfl <| r_tmp (v := aS) rfl <| r_tmp (v := aS) rfl <| r_tmp (v := aB) rfl <| r_nil <| fin_gen [] rfl rfl rfl (le_tupp rfl ⟨lr, lr, lr, trivial⟩) st_nil
noncomputable def strings_Cut (p0s : (List UInt8)) (p1sep : (List UInt8)) : Option ((List UInt8) × (List UInt8) × Bool) :=
 (stringslite_Cut p0s p1sep).bind fun (x1 : ((List UInt8) × (List UInt8) × Bool)) => some (x1.1, x1.2.1, x1.2.2)
theorem w_strings_Cut {p0s : (List UInt8)} {p1sep : (List UInt8)} {res : ((List UInt8) × (List UInt8) × Bool)} (h : strings_Cut p0s p1sep = some res) : ACalls Tryd.prog 24 [.c (.str p0s), .c (.str p1sep)] [] (.tup [.c (.str res.1), .c (.str res.2.1), .c (.bool res.2.2)]) [] := by
 unfold strings_Cut at h
 refine acalls (fn := Tryd.f24) [0, 1, 4, 5, 6] (by kernel_rfl) Tryd.func24 rfl (by kernel_rfl) (by kernel_rfl) <| w_sr <| sS rfl <| sS rfl <| sB rfl <| o_ek (fr' := [(0, aS), (1, aS)]) rfl rfl <| w_sr <| mS rfl <| mS rfl ?_
 obtain ⟨x1, hx1, h2⟩ := bind_s h
 refine o_v (ov_call (v := .tup [aS, aS, aB]) rfl (w_stringslite_Cut hx1) ⟨lr, lr, trivial⟩ rfl rfl rfl) <| o_p rfl (p_ex (v := aS) rfl rfl) <| o_p rfl (p_ex (v := aS) rfl rfl) <| o_p rfl (p_ex (v := aB) rfl rfl) <| sS rfl <| sS rfl <| sB rfl <| o_ek (fr' := [(4, aS), (5, aS), (6, aB)]) rfl rfl <| w_ret ?_
 obtain rfl := sy h2
 exact e_ret (rs' := [.tmp 4, .tmp 5, .tmp 6]) rfl <| r_tmp (v := aS) rfl <| r_tmp (v := aS) rfl <| r_tmp (v := aB) rfl <| r_nil <| fin_gen [] rfl rfl rfl (le_tupp rfl ⟨lr, lr, lr, trivial⟩) st_nil
noncomputable def strings_Contains (p0s : (List UInt8)) (p1substr : (List UInt8)) : Option Bool :=
 match p1substr with
 | [c] => some (decide (0 ≤ Lib.indexByte p0s c))
 | _ => none
theorem w_strings_Contains {p0s : (List UInt8)} {p1substr : (List UInt8)} {res : Bool} (h : strings_Contains p0s p1substr = some res) : ACalls Tryd.prog 25 [.c (.str p0s), .c (.str p1substr)] [] (.c (.bool res)) [] := by
 unfold strings_Contains at h
 split at h
 ·
  rename_i c
  cases h
  refine acalls_lib (by kernel_rfl) fun g w vs hv hI hg => ?_
  rw [rc_strs hv]
  refine (Tryd.strings_Contains_one ⟨p0s.toArray⟩ c w).mono fun e w' => ?_
  rintro ⟨rfl, rfl⟩
  exact ⟨_, rfl, RowKit.Below.refl _ _, fun g' => .c (.bool _)⟩
 ·
  cases h
noncomputable def name_Split (p0key : (List UInt8)) : Option ((List UInt8) × (List UInt8) × Bool) :=
 (strings_Cut p0key ([47] : List UInt8)).bind fun (x1 : ((List UInt8) × (List UInt8) × Bool)) => (gd ((!x1.2.2) == false) (strings_Contains x1.2.1 ([47] : List UInt8))).bind fun (x3 : Bool) => cond (cond (!x1.2.2) true x3) (some (([] : List UInt8), ([] : List UInt8), false)) (some (x1.1, x1.2.1, true))
theorem w_name_Split {p0key : (List UInt8)} {res : ((List UInt8) × (List UInt8) × Bool)} (h : name_Split p0key = some res) : ACalls Tryd.prog 15 [.c (.str p0key)] [] (.tup [.c (.str res.1), .c (.str res.2.1), .c (.bool res.2.2)]) [] := by
 unfold name_Split at h
 refine acalls (fn := Tryd.f15) [0, 2, 3, 4, 5, 6, 7, 19] (by kernel_rfl) Tryd.func15 rfl (by kernel_rfl) (by kernel_rfl) <| w_sr <| sS rfl <| sS rfl <| sB rfl <| o_ek (fr' := [(0, aS)]) rfl rfl <| w_sr <| mS rfl ?_
 obtain ⟨x1, hx1, h2⟩ := bind_s h
 refine o_v (ov_call (v := .tup [aS, aS, aB]) rfl (w_strings_Cut hx1) ⟨lr, lr, trivial⟩ rfl rfl rfl) <| mV (v := .tup [aS, aS, aB]) rfl <| o_p rfl (p_ex (v := aS) rfl rfl) <| o_p rfl (p_ex (v := aS) rfl rfl) <| o_p rfl (p_ex (v := aB) rfl rfl) <| sS rfl <| sS rfl <| sB rfl <| o_ek (fr' := [(5, aS), (6, aS), (7, aB)]) rfl rfl <| w_seqw <| w_sr <| mB rfl ?_
 refine o_p rfl (p_not rfl) <| mB rfl <| og rfl rfl rfl (fun hc => (p_move (v := aS) rfl)) ?_
 obtain ⟨x3, hx3, h4⟩ := bind_s h2
 refine o_g rfl rfl (fun hc => ov_call (v := aB) rfl (w_strings_Contains (gd_some hx3 hc)) ⟨(le_gv (gx rfl hc) lr), lr, trivial⟩ (ok_eq (by repeat (first | exact ok_nil | refine ok_cons rfl ?_ | refine ok_cons (dgv rfl) ?_))) rfl rfl) ?_
 refine o_p rfl (p_pickz rfl rfl rfl (fun e => keq e)) <| o_ek (fr' := [(5, aS), (6, aS), (19, aB)]) rfl rfl <| w_ch h4 rfl (fun hb5 h5 => ?_) (fun hb5 h5 => ?_)
 ·
  refine w_sr <| sS rfl <| sS rfl <| sB rfl <| o_ek (fr' := [(2, aS), (3, aS), (4, aB)]) rfl rfl <| w_ret <| e_seq_r ?_
  obtain rfl := sy h5
  exact e_ret (rs' := [.tmp 2, .tmp 3, .tmp 4]) rfl <| r_tmp (v := aS) rfl <| r_tmp (v := aS) rfl <| r_tmp (v := aB) rfl <| r_nil <| fin_gen [] rfl rfl rfl (le_tupp rfl ⟨lr, lr, lr, trivial⟩) st_nil
 ·
  refine w_skip <| e_kw <| w_sr <| mS rfl <| mS rfl <| sS rfl <| sS rfl <| sB rfl <| o_ek (fr' := [(2, aS), (3, aS), (4, aB)]) rfl rfl <| w_ret ?_
  obtain rfl := sy h5
  exact e_ret (rs' := [.tmp 2, .tmp 3, .tmp 4]) rfl <| r_tmp (v := aS) rfl <| r_tmp (v := aS) rfl <| r_tmp (v := aB) rfl <| r_nil <| fin_gen [] rfl rfl rfl (le_tupp rfl ⟨lr, lr, lr, trivial⟩) st_nil
noncomputable def law06xlives  : Option Bool :=
 (name_Number ([114, 49, 50] : List UInt8)).bind fun (x1 : (Int × Bool)) => (name_Split ([111, 114, 100, 101, 114, 45, 55, 47, 114, 50] : List UInt8)).bind fun (x3 : ((List UInt8) × (List UInt8) × Bool)) => (name_Split ([97, 47, 98, 47, 99] : List UInt8)).bind fun (x5 : ((List UInt8) × (List UInt8) × Bool)) => (name_Right ([95, 97, 49] : List UInt8)).bind fun (x7 : Bool) => (gd (x7 == true) (name_Right ([49, 97] : List UInt8))).bind fun (x9 : Bool) => (gd ((cond x7 (!x9) false) == true) (name_Right ([] : List UInt8))).bind fun (x11 : Bool) => (gd ((cond (cond x7 (!x9) false) (!x11) false) == true) (name_Run (3 : Int))).bind fun (x13 : (List UInt8)) => (gd ((cond (cond (cond x7 (!x9) false) (!x11) false) (decide (x13 = ([114, 51] : List UInt8))) false) == true) (name_Run (0 : Int))).bind fun (x15 : (List UInt8)) => (gd ((cond (cond (cond (cond (cond (cond (cond (cond (cond (cond x7 (!x9) false) (!x11) false) (decide (x13 = ([114, 51] : List UInt8))) false) (decide (x15 = ([] : List UInt8))) false) (decide (x1.1 = (12 : Int))) false) x1.2 false) (decide (x3.1 = ([111, 114, 100, 101, 114, 45, 55] : List UInt8))) false) (decide (x3.2.1 = ([114, 50] : List UInt8))) false) x3.2.2 false) (!x5.2.2) false) == true) (name_Key ([97] : List UInt8) ([114, 49] : List UInt8))).bind fun (x17 : (List UInt8)) => some (cond (cond (cond (cond (cond (cond (cond (cond (cond (cond (cond x7 (!x9) false) (!x11) false) (decide (x13 = ([114, 51] : List UInt8))) false) (decide (x15 = ([] : List UInt8))) false) (decide (x1.1 = (12 : Int))) false) x1.2 false) (decide (x3.1 = ([111, 114, 100, 101, 114, 45, 55] : List UInt8))) false) (decide (x3.2.1 = ([114, 50] : List UInt8))) false) x3.2.2 false) (!x5.2.2) false) (decide (x17 = ([97, 47, 114, 49] : List UInt8))) false)
theorem w_law06xlives  {res : Bool} (h : law06xlives = some res) : ACalls Tryd.prog 9 [] [] (.c (.bool res)) [] := by
 unfold law06xlives at h
 refine acalls (fn := Tryd.f9) [0, 1, 2, 3, 4, 5, 8] (by kernel_rfl) Tryd.func9 rfl (by kernel_rfl) (by kernel_rfl) <| w_sr <| sB rfl <| o_ek (fr' := []) rfl rfl <| w_seqw <| w_region ?_
 obtain ⟨x1, hx1, h2⟩ := bind_s h
 refine o_v (ov_call (v := .tup [aI, aB]) rfl (w_name_Number hx1) ⟨lr, trivial⟩ rfl rfl rfl) <| mV (v := .tup [aI, aB]) rfl <| o_p rfl (p_ex (v := aI) rfl rfl) <| o_p rfl (p_ex (v := aB) rfl rfl) <| sI rfl <| sB rfl <| o_ek (fr' := [(1, aI), (2, aB)]) rfl rfl <| w_seqw <| w_region ?_
 obtain ⟨x3, hx3, h4⟩ := bind_s h2
 refine o_v (ov_call (v := .tup [aS, aS, aB]) rfl (w_name_Split hx3) ⟨lr, trivial⟩ rfl rfl rfl) <| mV (v := .tup [aS, aS, aB]) rfl <| o_p rfl (p_ex (v := aS) rfl rfl) <| o_p rfl (p_ex (v := aS) rfl rfl) <| o_p rfl (p_ex (v := aB) rfl rfl) <| sS rfl <| sS rfl <| sB rfl <| o_ek (fr' := [(1, aI), (2, aB), (3, aS), (4, aS), (5, aB)]) rfl rfl <| w_seqw <| w_region ?_
 obtain ⟨x5, hx5, h6⟩ := bind_s h4
 refine o_v (ov_call (v := .tup [aS, aS, aB]) rfl (w_name_Split hx5) ⟨lr, trivial⟩ rfl rfl rfl) <| mV (v := .tup [aS, aS, aB]) rfl <| o_p rfl (p_ex (v := aS) rfl rfl) <| o_p rfl (p_ex (v := aS) rfl rfl) <| o_p rfl (p_ex (v := aB) rfl rfl) <| sS rfl <| sS rfl <| sB rfl <| o_ek (fr' := [(1, aI), (2, aB), (3, aS), (4, aS), (5, aB), (8, aB)]) rfl rfl <| w_seqw <| w_region ?_
 obtain ⟨x7, hx7, h8⟩ := bind_s h6
 refine o_v (ov_call (v := aB) rfl (w_name_Right hx7) ⟨lr, trivial⟩ rfl rfl rfl) <| mB rfl ?_
 obtain ⟨x9, hx9, h10⟩ := bind_s h8
 refine o_g rfl rfl (fun hc => ov_call (v := aB) rfl (w_name_Right (gd_some hx9 hc)) ⟨lr, trivial⟩ rfl rfl rfl) <| og rfl rfl rfl (fun hc => (p_not (gx rfl hc))) <| o_p rfl (p_picky rfl rfl rfl (fun e => keq e)) <| mB rfl ?_
 obtain ⟨x11, hx11, h12⟩ := bind_s h10
 refine o_g rfl rfl (fun hc => ov_call (v := aB) rfl (w_name_Right (gd_some hx11 hc)) ⟨lr, trivial⟩ (ok_eq (by repeat (first | exact ok_nil | refine ok_cons rfl ?_ | refine ok_cons (dgv rfl) ?_))) rfl rfl) ?_
 refine og rfl rfl rfl (fun hc => (p_not (gx rfl hc))) <| o_p rfl (p_picky rfl rfl rfl (fun e => keq e)) <| mB rfl ?_
 obtain ⟨x13, hx13, h14⟩ := bind_s h12
 refine o_g rfl rfl (fun hc => ov_call (v := aS) rfl (w_name_Run (gd_some hx13 hc)) ⟨lr, trivial⟩ (ok_eq (by repeat (first | exact ok_nil | refine ok_cons rfl ?_ | refine ok_cons (dgv rfl) ?_))) rfl rfl) ?_
 refine og rfl rfl rfl (fun hc => (p_seql (gx rfl hc) rfl)) <| o_p rfl (p_picky rfl rfl rfl (fun e => keq e)) <| mB rfl ?_
 obtain ⟨x15, hx15, h16⟩ := bind_s h14
 refine o_g rfl rfl (fun hc => ov_call (v := aS) rfl (w_name_Run (gd_some hx15 hc)) ⟨lr, trivial⟩ (ok_eq (by repeat (first | exact ok_nil | refine ok_cons rfl ?_ | refine ok_cons (dgv rfl) ?_))) rfl rfl) ?_
 refine og rfl rfl rfl (fun hc => (p_seql (gx rfl hc) rfl)) <| o_p rfl (p_picky rfl rfl rfl (fun e => keq e)) <| mB rfl <| og rfl rfl rfl (fun hc => (p_move (v := aI) rfl)) <| og rfl rfl rfl (fun hc => (p_eql (gx rfl hc) rfl)) <| o_p rfl (p_picky rfl rfl rfl (fun e => keq e)) <| mB rfl <| og rfl rfl rfl (fun hc => (p_move (v := aB) rfl)) <| o_p rfl (p_picky rfl rfl rfl (fun e => keq e)) <| mB rfl <| og rfl rfl rfl (fun hc => (p_move (v := aS) rfl)) <| og rfl rfl rfl (fun hc => (p_seql (gx rfl hc) rfl)) <| o_p rfl (p_picky rfl rfl rfl (fun e => keq e)) ?_
 refine mB rfl <| og rfl rfl rfl (fun hc => (p_move (v := aS) rfl)) <| og rfl rfl rfl (fun hc => (p_seql (gx rfl hc) rfl)) <| o_p rfl (p_picky rfl rfl rfl (fun e => keq e)) <| mB rfl <| og rfl rfl rfl (fun hc => (p_move (v := aB) rfl)) <| o_p rfl (p_picky rfl rfl rfl (fun e => keq e)) <| mB rfl <| og rfl rfl rfl (fun hc => (p_move (v := aB) rfl)) <| og rfl rfl rfl (fun hc => (p_not (gx rfl hc))) <| o_p rfl (p_picky rfl rfl rfl (fun e => keq e)) <| mB rfl ?_
 obtain ⟨x17, hx17, h18⟩ := bind_s h16
 refine o_g rfl rfl (fun hc => ov_call (v := aS) rfl (w_name_Key (gd_some hx17 hc)) ⟨lr, lr, trivial⟩ (ok_eq (by repeat (first | exact ok_nil | refine ok_cons rfl ?_ | refine ok_cons (dgv rfl) ?_))) rfl rfl) ?_
 refine og rfl rfl rfl (fun hc => (p_seql (gx rfl hc) rfl)) <| o_p rfl (p_picky rfl rfl rfl (fun e => keq e)) <| sB rfl <| o_ek (fr' := [(0, aB)]) rfl rfl <| w_ret ?_
 obtain rfl := sy h18
 exact e_ret (rs' := [.tmp 0]) rfl <| r_tmp (v := aB) rfl <| r_nil <| fin_gen [] rfl rfl rfl lr st_nil
noncomputable def law06xNameChecks (p0s : (List UInt8)) : Option Bool :=
 (gd ((decide ((10000 : Int) < ((p0s).length : Int))) == false) (name_Right p0s)).bind fun (x1 : Bool) => (gd ((decide ((10000 : Int) < ((p0s).length : Int))) == false) (ref06xRight p0s)).bind fun (x3 : Bool) => (gd (((decide ((10000 : Int) < ((p0s).length : Int))) == false) && ((x1 == x3) == true)) (law06xlives)).bind fun (x5 : Bool) => some (cond (decide ((10000 : Int) < ((p0s).length : Int))) true (cond (x1 == x3) x5 false))
theorem w_law06xNameChecks {p0s : (List UInt8)} {res : Bool} (h : law06xNameChecks p0s = some res) : ACalls Tryd.prog 3 [.c (.str p0s)] [] (.c (.bool res)) [] := by
 unfold law06xNameChecks at h
 refine acalls (fn := Tryd.f3) [0, 2] (by kernel_rfl) Tryd.func3 rfl (by kernel_rfl) (by kernel_rfl) <| w_sr <| sB rfl <| o_ek (fr' := [(0, aS)]) rfl rfl <| w_sr <| mS rfl <| o_p rfl (p_lens ti9 rfl) <| o_p rfl (p_gtr rfl rfl) <| mB rfl <| og rfl rfl rfl (fun hc => (p_move (v := aS) rfl)) ?_
 obtain ⟨x1, hx1, h2⟩ := bind_s h
 refine o_g rfl rfl (fun hc => ov_call (v := aB) rfl (w_name_Right (gd_some hx1 hc)) ⟨(le_gv (gx rfl hc) lr), trivial⟩ (ok_eq (by repeat (first | exact ok_nil | refine ok_cons rfl ?_ | refine ok_cons (dgv rfl) ?_))) rfl rfl) ?_
 refine og rfl rfl rfl (fun hc => (p_move (v := aS) rfl)) ?_
 obtain ⟨x3, hx3, h4⟩ := bind_s h2
 refine o_g rfl rfl (fun hc => ov_call (v := aB) rfl (w_ref06xRight (gd_some hx3 hc)) ⟨(le_gv (gx rfl hc) lr), trivial⟩ (ok_eq (by repeat (first | exact ok_nil | refine ok_cons rfl ?_ | refine ok_cons (dgv rfl) ?_))) rfl rfl) ?_
 refine og rfl rfl rfl (fun hc => (p_beql ti4 (gx rfl hc) (gx rfl hc))) <| og rfl rfl rfl (fun hc => (p_move (v := aB) (gx rfl hc))) ?_
 obtain ⟨x5, hx5, h6⟩ := bind_s h4
 refine o_gg rfl rfl (fun hc => ov_call (v := aB) rfl (w_law06xlives (gd_some hx5 hc)) trivial (ok_eq (by repeat (first | exact ok_nil | refine ok_cons rfl ?_ | refine ok_cons (dgv rfl) ?_))) rfl rfl) ?_
 refine og rfl rfl rfl (fun hc => (p_picky (gx rfl hc) rfl rfl (fun e => band hc (keq e)))) <| o_p rfl (p_pickz rfl rfl rfl (fun e => keq e)) <| sB rfl <| o_ek (fr' := [(2, aB)]) rfl rfl <| w_ret ?_
 obtain rfl := sy h6
 exact e_ret (rs' := [.tmp 2]) rfl <| r_tmp (v := aB) rfl <| r_nil <| fin_gen [] rfl rfl rfl lr st_nil
noncomputable def ref03xdigitsF : Nat → Int → Option (List UInt8)
 | 0, _ => none
 | n + 1, p0n =>
  (byteOf (IntKind.wrap .u8 (IntKind.wrap .i64 ((48 : Int) + (IntKind.wrap .i64 (0 - (Int.tmod p0n (10 : Int)))))))).bind fun (x1 : UInt8) => cond (decide ((-10 : Int) < p0n)) (some ([x1] : List UInt8)) (((ref03xdigitsF n) (IntKind.wrap .i64 (Int.tdiv p0n (10 : Int)))).bind fun (x5 : (List UInt8)) => (cat x5 ([x1] : List UInt8)).bind fun (x7 : (List UInt8)) => some (x5 ++ ([x1] : List UInt8)))
theorem wF_ref03xdigits : ∀ n : Nat, (∀ {p0n : Int} {res : (List UInt8)}, ref03xdigitsF n p0n = some res → ACalls Tryd.prog 30 [.c (.int .i64 p0n)] [] (.c (.str res)) []) := by
 intro n
 induction n with
 | zero => exact fun {p0n res} h => absurd h (by simp [ref03xdigitsF])
 | succ n ih =>
  have ih_ref03xdigits := @ih
  intro p0n res h
  rw [ref03xdigitsF] at h
  refine acalls (fn := Tryd.f30) [0, 2, 3, 4, 14] (by kernel_rfl) Tryd.func30 rfl (by kernel_rfl) (by kernel_rfl) <| w_sr <| sS rfl <| o_ek (fr' := [(0, aI)]) rfl rfl <| w_sr <| mI rfl <| o_p rfl (p_rem rfl rfl (by decide)) <| o_p rfl (p_neg rfl) <| sI rfl <| o_ek (fr' := [(0, aI), (3, aI)]) rfl rfl <| w_seqw ?_
  refine w_region <| mI rfl <| o_p rfl (p_add rfl rfl) <| o_p rfl (p_conv tk3 tk5 rfl) ?_
  obtain ⟨x1, hx1, h2⟩ := bind_s h
  refine o_rows (row := brow) (xs := ([x1] : List UInt8)) (rows := [[_]]) (σ' := []) [0] ts32 rfl rfl rfl (arow_cons (brow_of hx1) arow_nil) rfl rfl <| o_p rfl (p_convbs tby32 ti9 (isl_o rfl)) <| sS rfl <| o_ek (fr' := [(0, aI), (4, aS)]) rfl rfl <| w_seqw <| w_sr <| mI rfl <| o_p rfl (p_gtr rfl rfl) <| o_ek (fr' := [(0, aI), (4, aS), (14, aB)]) rfl rfl <| w_ch h2 rfl (fun hb3 h3 => ?_) (fun hb3 h3 => ?_)
  ·
   refine w_sr <| mS rfl <| sS rfl <| o_ek (fr' := [(2, aS)]) rfl rfl <| w_ret <| e_seq_r ?_
   obtain rfl := sy h3
   exact e_ret (rs' := [.tmp 2]) rfl <| r_tmp (v := aS) rfl <| r_nil <| fin_gen [] rfl rfl rfl lr st_nil
  ·
   refine w_skip <| e_kw <| w_sr <| mI rfl <| o_p rfl (p_quo rfl rfl (by decide)) ?_
   obtain ⟨x5, hx5, h6⟩ := bind_s h3
   refine o_v (ov_call (v := aS) rfl (ih_ref03xdigits hx5) ⟨lr, trivial⟩ rfl rfl rfl) <| mS rfl ?_
   obtain ⟨x7, hx7, h8⟩ := bind_s h6
   refine o_p rfl (p_sadd rfl rfl (cat_some hx7).1) <| sS rfl <| o_ek (fr' := [(2, aS)]) rfl rfl <| w_ret ?_
   obtain rfl := sy h8
   exact e_ret (rs' := [.tmp 2]) rfl <| r_tmp (v := aS) rfl <| r_nil <| fin_gen [] rfl rfl rfl lr st_nil
noncomputable def ref03xdigits (p0n : Int) : Option (List UInt8) := lim fun n => ref03xdigitsF n p0n
theorem w_ref03xdigits {p0n : Int} {res : (List UInt8)} (h : ref03xdigits p0n = some res) : ACalls Tryd.prog 30 [.c (.int .i64 p0n)] [] (.c (.str res)) [] := by
 obtain ⟨n, hn⟩ := lim_some h
 exact (wF_ref03xdigits n) hn
noncomputable def ref03xDecimal (p0n : Int) : Option (List UInt8) :=
 cond (decide (p0n < (0 : Int))) ((ref03xdigits p0n).bind fun (x2 : (List UInt8)) => (cat ([45] : List UInt8) x2).bind fun (x4 : (List UInt8)) => some (([45] : List UInt8) ++ x2)) ((ref03xdigits (IntKind.wrap .i64 (0 - p0n))).bind fun (x7 : (List UInt8)) => some x7)
theorem w_ref03xDecimal {p0n : Int} {res : (List UInt8)} (h : ref03xDecimal p0n = some res) : ACalls Tryd.prog 23 [.c (.int .i64 p0n)] [] (.c (.str res)) [] := by
 unfold ref03xDecimal at h
 refine acalls (fn := Tryd.f23) [0, 2, 4] (by kernel_rfl) Tryd.func23 rfl (by kernel_rfl) (by kernel_rfl) <| w_sr <| sS rfl <| o_ek (fr' := [(0, aI)]) rfl rfl <| w_seqw <| w_sr <| mI rfl <| o_p rfl (p_lss rfl rfl) <| o_ek (fr' := [(0, aI), (4, aB)]) rfl rfl <| w_ch h rfl (fun hb1 h1 => ?_) (fun hb1 h1 => ?_)
 ·
  refine w_sr <| mI rfl ?_
  obtain ⟨x2, hx2, h3⟩ := bind_s h1
  refine o_v (ov_call (v := aS) rfl (w_ref03xdigits hx2) ⟨lr, trivial⟩ rfl rfl rfl) ?_
  obtain ⟨x4, hx4, h5⟩ := bind_s h3
  refine o_p rfl (p_sadd rfl rfl (cat_some hx4).1) <| sS rfl <| o_ek (fr' := [(2, aS)]) rfl rfl <| w_ret <| e_seq_r ?_
  obtain rfl := sy h5
  exact e_ret (rs' := [.tmp 2]) rfl <| r_tmp (v := aS) rfl <| r_nil <| fin_gen [] rfl rfl rfl lr st_nil
 ·
  refine w_skip <| e_kw <| w_sr <| mI rfl <| o_p rfl (p_neg rfl) ?_
  obtain ⟨x7, hx7, h8⟩ := bind_s h1
  refine o_v (ov_call (v := aS) rfl (w_ref03xdigits hx7) ⟨lr, trivial⟩ rfl rfl rfl) <| sS rfl <| o_ek (fr' := [(2, aS)]) rfl rfl <| w_ret ?_
  obtain rfl := sy h8
  exact e_ret (rs' := [.tmp 2]) rfl <| r_tmp (v := aS) rfl <| r_nil <| fin_gen [] rfl rfl rfl lr st_nil
noncomputable def ref06xRun (p0n : Int) : Option (List UInt8) :=
 cond (decide (p0n < (1 : Int))) (some ([] : List UInt8)) ((ref03xDecimal p0n).bind fun (x3 : (List UInt8)) => (cat ([114] : List UInt8) x3).bind fun (x5 : (List UInt8)) => some (([114] : List UInt8) ++ x3))
theorem w_ref06xRun {p0n : Int} {res : (List UInt8)} (h : ref06xRun p0n = some res) : ACalls Tryd.prog 13 [.c (.int .i64 p0n)] [] (.c (.str res)) [] := by
 unfold ref06xRun at h
 refine acalls (fn := Tryd.f13) [0, 2, 4] (by kernel_rfl) Tryd.func13 rfl (by kernel_rfl) (by kernel_rfl) <| w_sr <| sS rfl <| o_ek (fr' := [(0, aI)]) rfl rfl <| w_seqw <| w_sr <| mI rfl <| o_p rfl (p_lss rfl rfl) <| o_ek (fr' := [(0, aI), (4, aB)]) rfl rfl <| w_ch h rfl (fun hb1 h1 => ?_) (fun hb1 h1 => ?_)
 ·
  refine w_sr <| sS rfl <| o_ek (fr' := [(2, aS)]) rfl rfl <| w_ret <| e_seq_r ?_
  obtain rfl := sy h1
  exact e_ret (rs' := [.tmp 2]) rfl <| r_tmp (v := aS) rfl <| r_nil <| fin_gen [] rfl rfl rfl lr st_nil
 ·
  refine w_skip <| e_kw <| w_sr <| mI rfl ?_
  obtain ⟨x3, hx3, h4⟩ := bind_s h1
  refine o_v (ov_call (v := aS) rfl (w_ref03xDecimal hx3) ⟨lr, trivial⟩ rfl rfl rfl) ?_
  obtain ⟨x5, hx5, h6⟩ := bind_s h4
  refine o_p rfl (p_sadd rfl rfl (cat_some hx5).1) <| sS rfl <| o_ek (fr' := [(2, aS)]) rfl rfl <| w_ret ?_
  obtain rfl := sy h6
  exact e_ret (rs' := [.tmp 2]) rfl <| r_tmp (v := aS) rfl <| r_nil <| fin_gen [] rfl rfl rfl lr st_nil
noncomputable def ref06xNumber_l1 (p0run : (List UInt8)) (s4 : (Int × Int)) : Option (Step (Int × Int) Int) :=
 cond (cond (decide (s4.2 < ((p0run).length : Int))) (decide (((p0run).length : Int) ≤ (20 : Int))) false) ((idx p0run s4.2).bind fun (x6 : UInt8) => some (Step.next ((IntKind.wrap .i64 ((IntKind.wrap .i64 ((IntKind.wrap .i64 ((10 : Int) * s4.1)) + (IntKind.wrap .i64 ((x6).toNat : Int)))) - (48 : Int))), (IntKind.wrap .i64 (s4.2 + (1 : Int)))))) (some (Step.out s4.1))
noncomputable def ref06xNumber (p0run : (List UInt8)) : Option (Int × Bool) :=
 ((loopO (ref06xNumber_l1 p0run) (((0 : Int), (1 : Int)))) : Option Int).bind fun (x1 : Int) => ((gd ((decide (x1 < (1 : Int))) == false) (ref06xRun x1)).bind fun (x10 : (List UInt8)) => cond (cond (decide (x1 < (1 : Int))) true (!decide (x10 = p0run))) (some ((0 : Int), false)) (some (x1, true)))
theorem w_ref06xNumber {p0run : (List UInt8)} {res : (Int × Bool)} (h : ref06xNumber p0run = some res) : ACalls Tryd.prog 11 [.c (.str p0run)] [] (.tup [.c (.int .i64 res.1), .c (.bool res.2)]) [] := by
 unfold ref06xNumber at h
 refine acalls (fn := Tryd.f11) [0, 2, 3, 4, 5, 14, 32] (by kernel_rfl) Tryd.func11 rfl (by kernel_rfl) (by kernel_rfl) <| w_sr <| sI rfl <| sB rfl <| o_ek (fr' := [(0, aS)]) rfl rfl <| w_sr <| sI rfl <| o_ek (fr' := [(0, aS), (4, aI)]) rfl rfl <| w_seqw <| w_seqw <| w_region ?_
 refine sI rfl <| o_ek (fr' := [(0, aS), (4, aI), (5, aI)]) rfl rfl ?_
 obtain ⟨x1, hx1, h2⟩ := bind_s h
 refine w_jtail cl_kw (fun j3 => x1 = j3) (fun (j3 : Int) => ([(0, .c (.str p0run)), (4, .c (.int .i64 j3))] : Fr)) (fun (j3 : Int) => ([] : St)) ?_ ?_
 ·
  refine w_block <| w_loopo _ (fun (s4 : (Int × Int)) => ([(0, .c (.str p0run)), (4, .c (.int .i64 s4.1)), (5, .c (.int .i64 s4.2))] : Fr)) (fun (s4 : (Int × Int)) => ([] : St)) hx1 (w_weak [] 0 rfl rfl rfl rfl ⟨lr, lr, lr, trivial⟩ st_nil) ?_
  intro s4 st4 hs4 ho4
  unfold ref06xNumber_l1 at hs4
  refine w_seqw <| w_sr <| mI rfl <| mS rfl <| o_p rfl (p_lens ti9 rfl) <| o_p rfl (p_lss rfl rfl) <| mB rfl <| og rfl rfl rfl (fun hc => (p_move (v := aS) rfl)) <| og rfl rfl rfl (fun hc => (p_lens ti9 (gx rfl hc))) <| og rfl rfl rfl (fun hc => (p_leq (gx rfl hc) rfl)) <| o_p rfl (p_picky rfl rfl rfl (fun e => keq e)) <| o_ek (fr' := [(0, aS), (4, aI), (5, aI), (14, aB)]) rfl rfl ?_
  refine w_ch hs4 rfl (fun hb5 h5 => ?_) (fun hb5 h5 => ?_)
  ·
   refine w_skip <| e_kw <| w_seqw <| w_block <| w_region <| mI rfl <| o_p rfl (p_mul rfl rfl) <| mS rfl <| mI rfl ?_
   obtain ⟨x6, hx6, h7⟩ := bind_s h5
   refine o_p rfl (p_is ti9 rfl rfl hx6) <| o_p rfl (p_conv tk5 tk3 rfl) <| o_p rfl (p_add rfl rfl) <| o_p rfl (p_sub rfl rfl) <| sI rfl <| o_end (fr' := [(0, aS), (4, aI), (5, aI), (14, aB)]) rfl <| e_blk_n <| e_kw <| w_region <| mI rfl <| o_p rfl (p_add rfl rfl) <| sI rfl <| o_end (fr' := [(0, aS), (4, aI), (5, aI), (14, aB)]) rfl ?_
   exact e_l _ (sy h7) (w_weak [] 0 rfl rfl rfl rfl ⟨lr, lr, lr, trivial⟩ st_nil)
  ·
   refine w_exit <| e_seq_x <| e_seq_x <| e_blk_h ?_
   have h8 := un_out h5 ho4
   exact e_j _ (sy h8) (w_weak [] 0 rfl rfl rfl rfl ⟨lr, lr, trivial⟩ st_nil)
 ·
  intro j3 hj9
  subst hj9
  refine e_kw <| w_seqw <| w_sr <| mI rfl <| o_p rfl (p_lss rfl rfl) <| mB rfl <| og rfl rfl rfl (fun hc => (p_move (v := aI) rfl)) ?_
  obtain ⟨x10, hx10, h11⟩ := bind_s h2
  refine o_g rfl rfl (fun hc => ov_call (v := aS) rfl (w_ref06xRun (gd_some hx10 hc)) ⟨(le_gv (gx rfl hc) lr), trivial⟩ (ok_eq (by repeat (first | exact ok_nil | refine ok_cons rfl ?_ | refine ok_cons (dgv rfl) ?_))) rfl rfl) ?_
  refine og rfl rfl rfl (fun hc => (p_move (v := aS) rfl)) <| og rfl rfl rfl (fun hc => (p_sneq (gx rfl hc) (gx rfl hc))) <| o_p rfl (p_pickz rfl rfl rfl (fun e => keq e)) <| o_ek (fr' := [(4, aI), (32, aB)]) rfl rfl <| w_ch h11 rfl (fun hb12 h12 => ?_) (fun hb12 h12 => ?_)
  ·
   refine w_sr <| sI rfl <| sB rfl <| o_ek (fr' := [(2, aI), (3, aB)]) rfl rfl <| w_ret <| e_seq_r ?_
   obtain rfl := sy h12
   exact e_ret (rs' := [.tmp 2, .tmp 3]) rfl <| r_tmp (v := aI) rfl <| r_tmp (v := aB) rfl <| r_nil <| fin_gen [] rfl rfl rfl (le_tupp rfl ⟨lr, lr, trivial⟩) st_nil
  ·
   refine w_skip <| e_kw <| w_sr <| mI rfl <| sI rfl <| sB rfl <| o_ek (fr' := [(2, aI), (3, aB)]) rfl rfl <| w_ret ?_
   obtain rfl := sy h12
   exact e_ret (rs' := [.tmp 2, .tmp 3]) rfl <| r_tmp (v := aI) rfl <| r_tmp (v := aB) rfl <| r_nil <| fin_gen [] rfl rfl rfl (le_tupp rfl ⟨lr, lr, trivial⟩) st_nil
noncomputable def law06xNameRuns (p0n : Int) (p1s : (List UInt8)) : Option Bool :=
 cond (decide ((10000 : Int) < ((p1s).length : Int))) ((law06xlives).bind fun (x2 : Bool) => some x2) ((name_Number p1s).bind fun (x5 : (Int × Bool)) => (ref06xNumber p1s).bind fun (x7 : (Int × Bool)) => (name_Run p0n).bind fun (x9 : (List UInt8)) => (ref06xRun p0n).bind fun (x11 : (List UInt8)) => (gd (((cond (cond (!decide (x9 = x11)) true (!decide (x5.1 = x7.1))) true (!(x5.2 == x7.2))) == false) && (x5.2 == true)) (name_Run x5.1)).bind fun (x13 : (List UInt8)) => cond (cond (cond (cond (!decide (x9 = x11)) true (!decide (x5.1 = x7.1))) true (!(x5.2 == x7.2))) true (cond x5.2 (!decide (x13 = p1s)) false)) (some false) ((name_Run p0n).bind fun (x17 : (List UInt8)) => (name_Number x17).bind fun (x19 : (Int × Bool)) => cond (decide (p0n < (1 : Int))) ((gd ((cond (!x19.2) (decide (x19.1 = (0 : Int))) false) == true) (law06xlives)).bind fun (x22 : Bool) => some (cond (cond (!x19.2) (decide (x19.1 = (0 : Int))) false) x22 false)) ((gd ((cond x19.2 (decide (x19.1 = p0n)) false) == true) (law06xlives)).bind fun (x25 : Bool) => some (cond (cond x19.2 (decide (x19.1 = p0n)) false) x25 false))))
theorem w_law06xNameRuns {p0n : Int} {p1s : (List UInt8)} {res : Bool} (h : law06xNameRuns p0n p1s = some res) : ACalls Tryd.prog 4 [.c (.int .i64 p0n), .c (.str p1s)] [] (.c (.bool res)) [] := by
 unfold law06xNameRuns at h
 refine acalls (fn := Tryd.f4) [0, 1, 4, 5, 6, 7, 8, 9, 10, 13, 48, 56] (by kernel_rfl) Tryd.func4 rfl (by kernel_rfl) (by kernel_rfl) <| w_sr <| sB rfl <| o_ek (fr' := [(0, aI), (1, aS)]) rfl rfl <| w_seqw <| w_sr <| mS rfl <| o_p rfl (p_lens ti9 rfl) <| o_p rfl (p_gtr rfl rfl) <| o_ek (fr' := [(0, aI), (1, aS), (13, aB)]) rfl rfl <| w_ch h rfl (fun hb1 h1 => ?_) (fun hb1 h1 => ?_)
 ·
  refine w_seqw <| w_region ?_
  obtain ⟨x2, hx2, h3⟩ := bind_s h1
  refine o_v (ov_call (v := aB) rfl (w_law06xlives hx2) trivial rfl rfl rfl) <| sB rfl <| o_ek (fr' := [(4, aB)]) rfl rfl <| w_ret <| e_seq_r ?_
  obtain rfl := sy h3
  exact e_ret (rs' := [.tmp 4]) rfl <| r_tmp (v := aB) rfl <| r_nil <| fin_gen [] rfl rfl rfl lr st_nil
 ·
  refine w_skip <| e_kw <| w_sr <| mS rfl ?_
  obtain ⟨x5, hx5, h6⟩ := bind_s h1
  refine o_v (ov_call (v := .tup [aI, aB]) rfl (w_name_Number hx5) ⟨lr, trivial⟩ rfl rfl rfl) <| mV (v := .tup [aI, aB]) rfl <| o_p rfl (p_ex (v := aI) rfl rfl) <| o_p rfl (p_ex (v := aB) rfl rfl) <| sI rfl <| sB rfl <| o_ek (fr' := [(0, aI), (1, aS), (5, aI), (6, aB)]) rfl rfl <| w_sr <| mS rfl ?_
  obtain ⟨x7, hx7, h8⟩ := bind_s h6
  refine o_v (ov_call (v := .tup [aI, aB]) rfl (w_ref06xNumber hx7) ⟨lr, trivial⟩ rfl rfl rfl) <| mV (v := .tup [aI, aB]) rfl <| o_p rfl (p_ex (v := aI) rfl rfl) <| o_p rfl (p_ex (v := aB) rfl rfl) <| sI rfl <| sB rfl <| o_ek (fr' := [(0, aI), (1, aS), (5, aI), (6, aB), (7, aI), (8, aB)]) rfl rfl <| w_seqw <| w_sr <| mI rfl ?_
  obtain ⟨x9, hx9, h10⟩ := bind_s h8
  refine o_v (ov_call (v := aS) rfl (w_name_Run hx9) ⟨lr, trivial⟩ rfl rfl rfl) <| mI rfl ?_
  obtain ⟨x11, hx11, h12⟩ := bind_s h10
  refine o_v (ov_call (v := aS) rfl (w_ref06xRun hx11) ⟨lr, trivial⟩ rfl rfl rfl) <| o_p rfl (p_sneq rfl rfl) <| mB rfl <| og rfl rfl rfl (fun hc => (p_move (v := aI) rfl)) <| og rfl rfl rfl (fun hc => (p_move (v := aI) rfl)) <| og rfl rfl rfl (fun hc => (p_neq (gx rfl hc) (gx rfl hc))) <| o_p rfl (p_pickz rfl rfl rfl (fun e => keq e)) <| mB rfl <| og rfl rfl rfl (fun hc => (p_move (v := aB) rfl)) <| og rfl rfl rfl (fun hc => (p_move (v := aB) rfl)) <| og rfl rfl rfl (fun hc => (p_bneq ti4 (gx rfl hc) (gx rfl hc))) <| o_p rfl (p_pickz rfl rfl rfl (fun e => keq e)) <| mB rfl ?_
  refine og rfl rfl rfl (fun hc => (p_move (v := aB) rfl)) <| og rfl rfl rfl (fun hc => (p_move (v := aB) (gx rfl hc))) <| o_gg rfl rfl (fun hc => ov_p rfl (p_move (v := aI) rfl)) ?_
  obtain ⟨x13, hx13, h14⟩ := bind_s h12
  refine o_gg rfl rfl (fun hc => ov_call (v := aS) rfl (w_name_Run (gd_some hx13 hc)) ⟨(le_gv (gx rfl hc) lr), trivial⟩ (ok_eq (by repeat (first | exact ok_nil | refine ok_cons rfl ?_ | refine ok_cons (dgv rfl) ?_))) rfl rfl) ?_
  refine o_gg rfl rfl (fun hc => ov_p rfl (p_move (v := aS) rfl)) <| o_gg rfl rfl (fun hc => ov_p rfl (p_sneq (gx rfl hc) (gx rfl hc))) <| og rfl rfl rfl (fun hc => (p_picky (gx rfl hc) rfl rfl (fun e => band hc (keq e)))) <| o_p rfl (p_pickz rfl rfl rfl (fun e => keq e)) <| o_ek (fr' := [(0, aI), (48, aB)]) rfl rfl <| w_ch h14 rfl (fun hb15 h15 => ?_) (fun hb15 h15 => ?_)
  ·
   refine w_sr <| sB rfl <| o_ek (fr' := [(4, aB)]) rfl rfl <| w_ret <| e_seq_r ?_
   obtain rfl := sy h15
   exact e_ret (rs' := [.tmp 4]) rfl <| r_tmp (v := aB) rfl <| r_nil <| fin_gen [] rfl rfl rfl lr st_nil
  ·
   refine w_skip <| e_kw <| w_sr <| mI rfl ?_
   obtain ⟨x17, hx17, h18⟩ := bind_s h15
   refine o_v (ov_call (v := aS) rfl (w_name_Run hx17) ⟨lr, trivial⟩ rfl rfl rfl) ?_
   obtain ⟨x19, hx19, h20⟩ := bind_s h18
   refine o_v (ov_call (v := .tup [aI, aB]) rfl (w_name_Number hx19) ⟨lr, trivial⟩ rfl rfl rfl) <| mV (v := .tup [aI, aB]) rfl <| o_p rfl (p_ex (v := aI) rfl rfl) <| o_p rfl (p_ex (v := aB) rfl rfl) <| sI rfl <| sB rfl <| o_ek (fr' := [(0, aI), (9, aI), (10, aB)]) rfl rfl <| w_seqw <| w_sr <| mI rfl <| o_p rfl (p_lss rfl rfl) <| o_ek (fr' := [(0, aI), (9, aI), (10, aB), (56, aB)]) rfl rfl ?_
   refine w_ch h20 rfl (fun hb21 h21 => ?_) (fun hb21 h21 => ?_)
   ·
    refine w_sr <| mB rfl <| o_p rfl (p_not rfl) <| mB rfl <| og rfl rfl rfl (fun hc => (p_move (v := aI) rfl)) <| og rfl rfl rfl (fun hc => (p_eql (gx rfl hc) rfl)) <| o_p rfl (p_picky rfl rfl rfl (fun e => keq e)) <| mB rfl ?_
    obtain ⟨x22, hx22, h23⟩ := bind_s h21
    refine o_g rfl rfl (fun hc => ov_call (v := aB) rfl (w_law06xlives (gd_some hx22 hc)) trivial (ok_eq (by repeat (first | exact ok_nil | refine ok_cons rfl ?_ | refine ok_cons (dgv rfl) ?_))) rfl rfl) ?_
    refine o_p rfl (p_picky rfl rfl rfl (fun e => keq e)) <| sB rfl <| o_ek (fr' := [(4, aB)]) rfl rfl <| w_ret <| e_seq_r ?_
    obtain rfl := sy h23
    exact e_ret (rs' := [.tmp 4]) rfl <| r_tmp (v := aB) rfl <| r_nil <| fin_gen [] rfl rfl rfl lr st_nil
   ·
    refine w_skip <| e_kw <| w_sr <| mB rfl <| mB rfl <| og rfl rfl rfl (fun hc => (p_move (v := aI) rfl)) <| og rfl rfl rfl (fun hc => (p_move (v := aI) rfl)) <| og rfl rfl rfl (fun hc => (p_eql (gx rfl hc) (gx rfl hc))) <| o_p rfl (p_picky rfl rfl rfl (fun e => keq e)) <| mB rfl ?_
    obtain ⟨x25, hx25, h26⟩ := bind_s h21
    refine o_g rfl rfl (fun hc => ov_call (v := aB) rfl (w_law06xlives (gd_some hx25 hc)) trivial (ok_eq (by repeat (first | exact ok_nil | refine ok_cons rfl ?_ | refine ok_cons (dgv rfl) ?_))) rfl rfl) ?_
    refine o_p rfl (p_picky rfl rfl rfl (fun e => keq e)) <| sB rfl <| o_ek (fr' := [(4, aB)]) rfl rfl <| w_ret ?_
    obtain rfl := sy h26
    exact e_ret (rs' := [.tmp 4]) rfl <| r_tmp (v := aB) rfl <| r_nil <| fin_gen [] rfl rfl rfl lr st_nil
noncomputable def ref06xSplit_l1 (p0key : (List UInt8)) (s4 : (Int × Int)) : Option (Step (Int × Int) (Fl ((List UInt8) × (List UInt8) × Bool) Int)) :=
 cond (decide (s4.2 < ((p0key).length : Int))) ((idx p0key s4.2).bind fun (x6 : UInt8) => cond (cond (decide (((x6).toNat : Int) = (47 : Int))) (decide ((0 : Int) ≤ s4.1)) false) (some (Step.out (Fl.done (([] : List UInt8), ([] : List UInt8), false)))) ((idx p0key s4.2).bind fun (x12 : UInt8) => cond (decide (((x12).toNat : Int) = (47 : Int))) (some (Step.next (s4.2, (IntKind.wrap .i64 (s4.2 + (1 : Int)))))) (some (Step.next (s4.1, (IntKind.wrap .i64 (s4.2 + (1 : Int)))))))) (some (Step.out (Fl.go s4.1)))
noncomputable def ref06xSplit (p0key : (List UInt8)) : Option ((List UInt8) × (List UInt8) × Bool) :=
 ((loopO (ref06xSplit_l1 p0key) (((-1 : Int), (0 : Int)))) : Option (Fl ((List UInt8) × (List UInt8) × Bool) Int)).bind fun (x1 : (Fl ((List UInt8) × (List UInt8) × Bool) Int)) => Fl.next x1 (fun (j3 : Int) => (cond (decide (j3 < (0 : Int))) (some (([] : List UInt8), ([] : List UInt8), false)) ((slcH p0key j3).bind fun (x19 : (List UInt8)) => (slcL p0key (IntKind.wrap .i64 (j3 + (1 : Int)))).bind fun (x21 : (List UInt8)) => some ((List.take (Int.toNat j3) p0key), (List.drop (Int.toNat (IntKind.wrap .i64 (j3 + (1 : Int)))) p0key), true))))
theorem w_ref06xSplit {p0key : (List UInt8)} {res : ((List UInt8) × (List UInt8) × Bool)} (h : ref06xSplit p0key = some res) : ACalls Tryd.prog 16 [.c (.str p0key)] [] (.tup [.c (.str res.1), .c (.str res.2.1), .c (.bool res.2.2)]) [] := by
 unfold ref06xSplit at h
 refine acalls (fn := Tryd.f16) [0, 2, 3, 4, 5, 6, 10, 20, 24, 27] (by kernel_rfl) Tryd.func16 rfl (by kernel_rfl) (by kernel_rfl) <| w_sr <| sS rfl <| sS rfl <| sB rfl <| o_ek (fr' := [(0, aS)]) rfl rfl <| w_sr <| sI rfl <| o_ek (fr' := [(0, aS), (5, aI)]) rfl rfl <| w_seqw <| w_seqw ?_
 refine w_region <| sI rfl <| o_ek (fr' := [(0, aS), (5, aI), (6, aI)]) rfl rfl ?_
 obtain ⟨x1, hx1, h2⟩ := bind_s h
 refine w_jtail cl_kw (fun j3 => x1 = Fl.go j3) (fun (j3 : Int) => ([(0, .c (.str p0key)), (5, .c (.int .i64 j3))] : Fr)) (fun (j3 : Int) => ([] : St)) ?_ ?_
 ·
  refine w_block <| w_loopo _ (fun (s4 : (Int × Int)) => ([(0, .c (.str p0key)), (5, .c (.int .i64 s4.1)), (6, .c (.int .i64 s4.2))] : Fr)) (fun (s4 : (Int × Int)) => ([] : St)) hx1 (w_weak [] 0 rfl rfl rfl rfl ⟨lr, lr, lr, trivial⟩ st_nil) ?_
  intro s4 st4 hs4 ho4
  unfold ref06xSplit_l1 at hs4
  refine w_seqw <| w_sr <| mI rfl <| mS rfl <| o_p rfl (p_lens ti9 rfl) <| o_p rfl (p_lss rfl rfl) <| o_ek (fr' := [(0, aS), (5, aI), (6, aI), (10, aB)]) rfl rfl <| w_ch hs4 rfl (fun hb5 h5 => ?_) (fun hb5 h5 => ?_)
  ·
   refine w_skip <| e_kw <| w_seqw <| w_block <| w_seqw <| w_sr <| mS rfl <| mI rfl ?_
   obtain ⟨x6, hx6, h7⟩ := bind_s h5
   refine o_p rfl (p_is ti9 rfl rfl hx6) <| o_p rfl (p_eql rfl rfl) <| mB rfl <| og rfl rfl rfl (fun hc => (p_move (v := aI) rfl)) <| og rfl rfl rfl (fun hc => (p_geq (gx rfl hc) rfl)) <| o_p rfl (p_picky rfl rfl rfl (fun e => keq e)) <| o_ek (fr' := [(0, aS), (5, aI), (6, aI), (20, aB)]) rfl rfl <| w_ch h7 rfl (fun hb8 h8 => ?_) (fun hb8 h8 => ?_)
   ·
    refine w_sr <| sS rfl <| sS rfl <| sB rfl <| o_ek (fr' := [(2, aS), (3, aS), (4, aB)]) rfl rfl <| w_ret <| e_seq_r <| e_blk_r <| e_seq_r <| e_seq_r <| e_blk_r <| e_seq_r ?_
    refine e_seq_r ?_
    have h9 := un_out h8 ho4
    have h10 := un_done h9 h2
    obtain rfl := sy h10
    exact e_ret (rs' := [.tmp 2, .tmp 3, .tmp 4]) rfl <| r_tmp (v := aS) rfl <| r_tmp (v := aS) rfl <| r_tmp (v := aB) rfl <| r_nil <| fin_gen [] rfl rfl rfl (le_tupp rfl ⟨lr, lr, lr, trivial⟩) st_nil
   ·
    refine w_skip <| e_kw <| w_sr <| mS rfl <| mI rfl ?_
    obtain ⟨x12, hx12, h13⟩ := bind_s h8
    refine o_p rfl (p_is ti9 rfl rfl hx12) <| o_p rfl (p_eql rfl rfl) <| o_ek (fr' := [(0, aS), (5, aI), (6, aI), (24, aB)]) rfl rfl <| w_ch h13 rfl (fun hb14 h14 => ?_) (fun hb14 h14 => ?_)
    ·
     exact w_region <| mI rfl <| sI rfl <| o_end (fr' := [(0, aS), (5, aI), (6, aI), (24, aB)]) rfl <| e_blk_n <| e_kw <| w_region <| mI rfl <| o_p rfl (p_add rfl rfl) <| sI rfl <| o_end (fr' := [(0, aS), (5, aI), (6, aI), (24, aB)]) rfl <| e_l _ (sy h14) (w_weak [] 0 rfl rfl rfl rfl ⟨lr, lr, lr, trivial⟩ st_nil)
    ·
     exact w_skip <| e_blk_n <| e_kw <| w_region <| mI rfl <| o_p rfl (p_add rfl rfl) <| sI rfl <| o_end (fr' := [(0, aS), (5, aI), (6, aI), (24, aB)]) rfl <| e_l _ (sy h14) (w_weak [] 0 rfl rfl rfl rfl ⟨lr, lr, lr, trivial⟩ st_nil)
  ·
   refine w_exit <| e_seq_x <| e_seq_x <| e_blk_h ?_
   have h15 := un_out h5 ho4
   exact e_j _ (sy h15) (w_weak [] 0 rfl rfl rfl rfl ⟨lr, lr, trivial⟩ st_nil)
 ·
  intro j3 hj16
  have h16 := un_go hj16 h2
  refine e_kw <| w_seqw <| w_sr <| mI rfl <| o_p rfl (p_lss rfl rfl) <| o_ek (fr' := [(0, aS), (5, aI), (27, aB)]) rfl rfl <| w_ch h16 rfl (fun hb17 h17 => ?_) (fun hb17 h17 => ?_)
  ·
   refine w_sr <| sS rfl <| sS rfl <| sB rfl <| o_ek (fr' := [(2, aS), (3, aS), (4, aB)]) rfl rfl <| w_ret <| e_seq_r ?_
   obtain rfl := sy h17
   exact e_ret (rs' := [.tmp 2, .tmp 3, .tmp 4]) rfl <| r_tmp (v := aS) rfl <| r_tmp (v := aS) rfl <| r_tmp (v := aB) rfl <| r_nil <| fin_gen [] rfl rfl rfl (le_tupp rfl ⟨lr, lr, lr, trivial⟩) st_nil
  ·
   refine w_skip <| e_kw <| w_seqw <| w_planT [.q 0, .q 1, .q 2, .q 3, .q 4, .q 5, .q 6, .n 7 [3, 4, 5, 6], .n 8 [], .n 9 []] [(some 28, [0]), (some 29, [5]), (some 30, [28, 29]), (some 31, [0]), (some 32, [5]), (some 33, [32]), (some 34, [31, 33]), (some 2, [30]), (some 3, [34]), (some 4, [])] [0, 0, 3, 0, 0, 16, 56, 7, 255, 511] (by kernel_rfl) <| dq rfl rfl (p_move (v := aS) rfl) <| dq rfl rfl (p_move (v := aI) rfl) ?_
   obtain ⟨x19, hx19, h20⟩ := bind_s h17
   refine dq rfl rfl (p_slS_h ti9 rfl rfl (slcH_some hx19).1) <| dq rfl rfl (p_move (v := aS) rfl) <| dq rfl rfl (p_move (v := aI) rfl) <| dq rfl rfl (p_add rfl rfl) ?_
   obtain ⟨x21, hx21, h22⟩ := bind_s h20
   refine dq rfl rfl (p_slS_l ti9 rfl rfl (slcL_some hx21).1) <| d_n rfl ?_ rfl
   refine sS rfl <| o_rc <| ⟨(rc_q (v := aS) rfl rfl (qv_p rfl (p_move (v := aS) rfl)) (rc_q (v := aI) rfl rfl (qv_p rfl (p_move (v := aI) rfl)) (rc_q (v := aI) rfl rfl (qv_p rfl (p_add rfl rfl)) (rc_q (v := aS) rfl rfl (qv_p rfl (p_slS_l ti9 rfl rfl (slcL_some hx21).1)) rc_nil)))), ?_⟩
   refine d_n rfl ?_ rfl
   refine sS rfl <| o_rc <| ⟨rc_nil, ?_⟩
   refine d_n rfl ?_ rfl
   refine sB rfl <| o_rc <| ⟨rc_nil, ?_⟩
   refine d_ek (fr' := [(2, aS), (3, aS), (4, aB)]) rfl rfl <| w_ret ?_
   obtain rfl := sy h22
   exact e_ret (rs' := [.tmp 2, .tmp 3, .tmp 4]) rfl <| r_tmp (v := aS) rfl <| r_tmp (v := aS) rfl <| r_tmp (v := aB) rfl <| r_nil <| fin_gen [] rfl rfl rfl (le_tupp rfl ⟨lr, lr, lr, trivial⟩) st_nil
noncomputable def ref06xKey (p0workflow : (List UInt8)) (p1run : (List UInt8)) : Option (List UInt8) :=
 (cat p0workflow ([47] : List UInt8)).bind fun (x1 : (List UInt8)) => (cat (p0workflow ++ ([47] : List UInt8)) p1run).bind fun (x3 : (List UInt8)) => some ((p0workflow ++ ([47] : List UInt8)) ++ p1run)
theorem w_ref06xKey {p0workflow : (List UInt8)} {p1run : (List UInt8)} {res : (List UInt8)} (h : ref06xKey p0workflow p1run = some res) : ACalls Tryd.prog 17 [.c (.str p0workflow), .c (.str p1run)] [] (.c (.str res)) [] := by
 unfold ref06xKey at h
 refine acalls (fn := Tryd.f17) [0, 1, 4] (by kernel_rfl) Tryd.func17 rfl (by kernel_rfl) (by kernel_rfl) <| w_sr <| sS rfl <| o_ek (fr' := [(0, aS), (1, aS)]) rfl rfl <| w_sr <| mS rfl ?_
 obtain ⟨x1, hx1, h2⟩ := bind_s h
 refine o_p rfl (p_sadd rfl rfl (cat_some hx1).1) <| mS rfl ?_
 obtain ⟨x3, hx3, h4⟩ := bind_s h2
 refine o_p rfl (p_sadd rfl rfl (cat_some hx3).1) <| sS rfl <| o_ek (fr' := [(4, aS)]) rfl rfl <| w_ret ?_
 obtain rfl := sy h4
 exact e_ret (rs' := [.tmp 4]) rfl <| r_tmp (v := aS) rfl <| r_nil <| fin_gen [] rfl rfl rfl lr st_nil
noncomputable def law06xNameKeys (p0a : (List UInt8)) (p1b : (List UInt8)) : Option Bool :=
 cond (cond (decide ((10000 : Int) < ((p0a).length : Int))) true (decide ((10000 : Int) < ((p1b).length : Int)))) ((law06xlives).bind fun (x2 : Bool) => some x2) ((name_Key p0a p1b).bind fun (x5 : (List UInt8)) => (name_Split x5).bind fun (x7 : ((List UInt8) × (List UInt8) × Bool)) => (ref06xSplit x5).bind fun (x9 : ((List UInt8) × (List UInt8) × Bool)) => (ref06xKey p0a p1b).bind fun (x11 : (List UInt8)) => cond (cond (cond (cond (cond (!decide (x5 = x11)) true (!decide (x7.1 = x9.1))) true (!decide (x7.2.1 = x9.2.1))) true (!(x7.2.2 == x9.2.2))) true (cond x7.2.2 (cond (!decide (x7.1 = p0a)) true (!decide (x7.2.1 = p1b))) false)) (some false) ((name_Split p0a).bind fun (x15 : ((List UInt8) × (List UInt8) × Bool)) => (gd ((!x15.2.2) == false) (name_Key x15.1 x15.2.1)).bind fun (x17 : (List UInt8)) => (gd ((cond (!x15.2.2) true (decide (x17 = p0a))) == true) (law06xlives)).bind fun (x19 : Bool) => some (cond (cond (!x15.2.2) true (decide (x17 = p0a))) x19 false)))
theorem w_law06xNameKeys {p0a : (List UInt8)} {p1b : (List UInt8)} {res : Bool} (h : law06xNameKeys p0a p1b = some res) : ACalls Tryd.prog 5 [.c (.str p0a), .c (.str p1b)] [] (.c (.bool res)) [] := by
 unfold law06xNameKeys at h
 refine acalls (fn := Tryd.f5) [0, 1, 4, 5, 6, 7, 8, 9, 10, 11, 12, 13, 14, 22, 71] (by kernel_rfl) Tryd.func5 rfl (by kernel_rfl) (by kernel_rfl) <| w_sr <| sB rfl <| o_ek (fr' := [(0, aS), (1, aS)]) rfl rfl <| w_seqw <| w_sr <| mS rfl <| o_p rfl (p_lens ti9 rfl) <| o_p rfl (p_gtr rfl rfl) <| mB rfl <| og rfl rfl rfl (fun hc => (p_move (v := aS) rfl)) ?_
 refine og rfl rfl rfl (fun hc => (p_lens ti9 (gx rfl hc))) <| og rfl rfl rfl (fun hc => (p_gtr (gx rfl hc) rfl)) <| o_p rfl (p_pickz rfl rfl rfl (fun e => keq e)) <| o_ek (fr' := [(0, aS), (1, aS), (22, aB)]) rfl rfl <| w_ch h rfl (fun hb1 h1 => ?_) (fun hb1 h1 => ?_)
 ·
  refine w_seqw <| w_region ?_
  obtain ⟨x2, hx2, h3⟩ := bind_s h1
  refine o_v (ov_call (v := aB) rfl (w_law06xlives hx2) trivial rfl rfl rfl) <| sB rfl <| o_ek (fr' := [(4, aB)]) rfl rfl <| w_ret <| e_seq_r ?_
  obtain rfl := sy h3
  exact e_ret (rs' := [.tmp 4]) rfl <| r_tmp (v := aB) rfl <| r_nil <| fin_gen [] rfl rfl rfl lr st_nil
 ·
  refine w_skip <| e_kw <| w_sr <| mS rfl <| mS rfl ?_
  obtain ⟨x5, hx5, h6⟩ := bind_s h1
  refine o_v (ov_call (v := aS) rfl (w_name_Key hx5) ⟨lr, lr, trivial⟩ rfl rfl rfl) <| sS rfl <| o_ek (fr' := [(0, aS), (1, aS), (5, aS)]) rfl rfl <| w_sr <| mS rfl ?_
  obtain ⟨x7, hx7, h8⟩ := bind_s h6
  refine o_v (ov_call (v := .tup [aS, aS, aB]) rfl (w_name_Split hx7) ⟨lr, trivial⟩ rfl rfl rfl) <| mV (v := .tup [aS, aS, aB]) rfl <| o_p rfl (p_ex (v := aS) rfl rfl) <| o_p rfl (p_ex (v := aS) rfl rfl) <| o_p rfl (p_ex (v := aB) rfl rfl) <| sS rfl <| sS rfl <| sB rfl <| o_ek (fr' := [(0, aS), (1, aS), (5, aS), (6, aS), (7, aS), (8, aB)]) rfl rfl <| w_sr <| mS rfl ?_
  obtain ⟨x9, hx9, h10⟩ := bind_s h8
  refine o_v (ov_call (v := .tup [aS, aS, aB]) rfl (w_ref06xSplit hx9) ⟨lr, trivial⟩ rfl rfl rfl) <| mV (v := .tup [aS, aS, aB]) rfl <| o_p rfl (p_ex (v := aS) rfl rfl) <| o_p rfl (p_ex (v := aS) rfl rfl) <| o_p rfl (p_ex (v := aB) rfl rfl) <| sS rfl <| sS rfl <| sB rfl <| o_ek (fr' := [(0, aS), (1, aS), (5, aS), (6, aS), (7, aS), (8, aB), (9, aS), (10, aS), (11, aB)]) rfl rfl <| w_seqw <| w_sr <| mS rfl ?_
  refine mS rfl <| mS rfl ?_
  obtain ⟨x11, hx11, h12⟩ := bind_s h10
  refine o_v (ov_call (v := aS) rfl (w_ref06xKey hx11) ⟨lr, lr, trivial⟩ rfl rfl rfl) <| o_p rfl (p_sneq rfl rfl) <| mB rfl <| og rfl rfl rfl (fun hc => (p_move (v := aS) rfl)) <| og rfl rfl rfl (fun hc => (p_move (v := aS) rfl)) <| og rfl rfl rfl (fun hc => (p_sneq (gx rfl hc) (gx rfl hc))) <| o_p rfl (p_pickz rfl rfl rfl (fun e => keq e)) <| mB rfl <| og rfl rfl rfl (fun hc => (p_move (v := aS) rfl)) <| og rfl rfl rfl (fun hc => (p_move (v := aS) rfl)) <| og rfl rfl rfl (fun hc => (p_sneq (gx rfl hc) (gx rfl hc))) <| o_p rfl (p_pickz rfl rfl rfl (fun e => keq e)) <| mB rfl ?_
  refine og rfl rfl rfl (fun hc => (p_move (v := aB) rfl)) <| og rfl rfl rfl (fun hc => (p_move (v := aB) rfl)) <| og rfl rfl rfl (fun hc => (p_bneq ti4 (gx rfl hc) (gx rfl hc))) <| o_p rfl (p_pickz rfl rfl rfl (fun e => keq e)) <| mB rfl <| og rfl rfl rfl (fun hc => (p_move (v := aB) rfl)) <| og rfl rfl rfl (fun hc => (p_move (v := aB) (gx rfl hc))) <| o_gg rfl rfl (fun hc => ov_p rfl (p_move (v := aS) rfl)) <| o_gg rfl rfl (fun hc => ov_p rfl (p_move (v := aS) rfl)) <| o_gg rfl rfl (fun hc => ov_p rfl (p_sneq (gx rfl hc) (gx rfl hc))) <| o_gg rfl rfl (fun hc => ov_p rfl (p_move (v := aB) (gx rfl hc))) <| o_gg rfl rfl (fun hc => ov_p rfl (p_move (v := aS) rfl)) <| o_gg rfl rfl (fun hc => ov_p rfl (p_move (v := aS) rfl)) ?_
  refine o_gg rfl rfl (fun hc => ov_p rfl (p_sneq (gx rfl hc) (gx rfl hc))) <| o_gg rfl rfl (fun hc => ov_p rfl (p_pickz (gx rfl hc) rfl rfl (fun e => band hc (keq e)))) <| og rfl rfl rfl (fun hc => (p_picky (gx rfl hc) rfl rfl (fun e => band hc (keq e)))) <| o_p rfl (p_pickz rfl rfl rfl (fun e => keq e)) <| o_ek (fr' := [(0, aS), (71, aB)]) rfl rfl <| w_ch h12 rfl (fun hb13 h13 => ?_) (fun hb13 h13 => ?_)
  ·
   refine w_sr <| sB rfl <| o_ek (fr' := [(4, aB)]) rfl rfl <| w_ret <| e_seq_r ?_
   obtain rfl := sy h13
   exact e_ret (rs' := [.tmp 4]) rfl <| r_tmp (v := aB) rfl <| r_nil <| fin_gen [] rfl rfl rfl lr st_nil
  ·
   refine w_skip <| e_kw <| w_sr <| mS rfl ?_
   obtain ⟨x15, hx15, h16⟩ := bind_s h13
   refine o_v (ov_call (v := .tup [aS, aS, aB]) rfl (w_name_Split hx15) ⟨lr, trivial⟩ rfl rfl rfl) <| mV (v := .tup [aS, aS, aB]) rfl <| o_p rfl (p_ex (v := aS) rfl rfl) <| o_p rfl (p_ex (v := aS) rfl rfl) <| o_p rfl (p_ex (v := aB) rfl rfl) <| sS rfl <| sS rfl <| sB rfl <| o_ek (fr' := [(0, aS), (12, aS), (13, aS), (14, aB)]) rfl rfl <| w_sr <| mB rfl <| o_p rfl (p_not rfl) ?_
   refine mB rfl <| og rfl rfl rfl (fun hc => (p_move (v := aS) rfl)) <| og rfl rfl rfl (fun hc => (p_move (v := aS) rfl)) ?_
   obtain ⟨x17, hx17, h18⟩ := bind_s h16
   refine o_g rfl rfl (fun hc => ov_call (v := aS) rfl (w_name_Key (gd_some hx17 hc)) ⟨(le_gv (gx rfl hc) lr), (le_gv (gx rfl hc) lr), trivial⟩ (ok_eq (by repeat (first | exact ok_nil | refine ok_cons rfl ?_ | refine ok_cons (dgv rfl) ?_))) rfl rfl) ?_
   refine og rfl rfl rfl (fun hc => (p_move (v := aS) rfl)) <| og rfl rfl rfl (fun hc => (p_seql (gx rfl hc) (gx rfl hc))) <| o_p rfl (p_pickz rfl rfl rfl (fun e => keq e)) <| mB rfl ?_
   obtain ⟨x19, hx19, h20⟩ := bind_s h18
   refine o_g rfl rfl (fun hc => ov_call (v := aB) rfl (w_law06xlives (gd_some hx19 hc)) trivial (ok_eq (by repeat (first | exact ok_nil | refine ok_cons rfl ?_ | refine ok_cons (dgv rfl) ?_))) rfl rfl) ?_
   refine o_p rfl (p_picky rfl rfl rfl (fun e => keq e)) <| sB rfl <| o_ek (fr' := [(4, aB)]) rfl rfl <| w_ret ?_
   obtain rfl := sy h20
   exact e_ret (rs' := [.tmp 4]) rfl <| r_tmp (v := aB) rfl <| r_nil <| fin_gen [] rfl rfl rfl lr st_nil
noncomputable def law06xNameGrows (p0s : (List UInt8)) (p1c : Int) : Option Bool :=
 (gd ((decide ((1000 : Int) < ((p0s).length : Int))) == false) (name_Right p0s)).bind fun (x1 : Bool) => cond (cond (decide ((1000 : Int) < ((p0s).length : Int))) true (!x1)) ((law06xlives).bind fun (x4 : Bool) => some x4) ((byteOf p1c).bind fun (x7 : UInt8) => (cat p0s ([x7] : List UInt8)).bind fun (x9 : (List UInt8)) => (name_Right (p0s ++ ([x7] : List UInt8))).bind fun (x11 : Bool) => (gd ((x11 == (cond (cond (cond (cond (cond (decide ((97 : Int) ≤ p1c)) (decide (p1c ≤ (122 : Int))) false) true (cond (decide ((65 : Int) ≤ p1c)) (decide (p1c ≤ (90 : Int))) false)) true (cond (decide ((48 : Int) ≤ p1c)) (decide (p1c ≤ (57 : Int))) false)) true (decide (p1c = (95 : Int)))) (decide (((p0s).length : Int) < (64 : Int))) false)) == true) (cat ([55] : List UInt8) p0s)).bind fun (x13 : (List UInt8)) => (gd ((x11 == (cond (cond (cond (cond (cond (decide ((97 : Int) ≤ p1c)) (decide (p1c ≤ (122 : Int))) false) true (cond (decide ((65 : Int) ≤ p1c)) (decide (p1c ≤ (90 : Int))) false)) true (cond (decide ((48 : Int) ≤ p1c)) (decide (p1c ≤ (57 : Int))) false)) true (decide (p1c = (95 : Int)))) (decide (((p0s).length : Int) < (64 : Int))) false)) == true) (name_Right (([55] : List UInt8) ++ p0s))).bind fun (x15 : Bool) => (gd ((cond (x11 == (cond (cond (cond (cond (cond (decide ((97 : Int) ≤ p1c)) (decide (p1c ≤ (122 : Int))) false) true (cond (decide ((65 : Int) ≤ p1c)) (decide (p1c ≤ (90 : Int))) false)) true (cond (decide ((48 : Int) ≤ p1c)) (decide (p1c ≤ (57 : Int))) false)) true (decide (p1c = (95 : Int)))) (decide (((p0s).length : Int) < (64 : Int))) false)) (!x15) false) == true) (law06xlives)).bind fun (x17 : Bool) => some (cond (cond (x11 == (cond (cond (cond (cond (cond (decide ((97 : Int) ≤ p1c)) (decide (p1c ≤ (122 : Int))) false) true (cond (decide ((65 : Int) ≤ p1c)) (decide (p1c ≤ (90 : Int))) false)) true (cond (decide ((48 : Int) ≤ p1c)) (decide (p1c ≤ (57 : Int))) false)) true (decide (p1c = (95 : Int)))) (decide (((p0s).length : Int) < (64 : Int))) false)) (!x15) false) x17 false))
theorem w_law06xNameGrows {p0s : (List UInt8)} {p1c : Int} {res : Bool} (h : law06xNameGrows p0s p1c = some res) : ACalls Tryd.prog 6 [.c (.str p0s), .c (.int .u8 p1c)] [] (.c (.bool res)) [] := by
 unfold law06xNameGrows at h
 refine acalls (fn := Tryd.f6) [0, 1, 4, 5, 13] (by kernel_rfl) Tryd.func6 rfl (by kernel_rfl) (by kernel_rfl) <| w_sr <| sB rfl <| o_ek (fr' := [(0, aS), (1, aI)]) rfl rfl <| w_seqw <| w_sr <| mS rfl <| o_p rfl (p_lens ti9 rfl) <| o_p rfl (p_gtr rfl rfl) <| mB rfl <| og rfl rfl rfl (fun hc => (p_move (v := aS) rfl)) ?_
 obtain ⟨x1, hx1, h2⟩ := bind_s h
 refine o_g rfl rfl (fun hc => ov_call (v := aB) rfl (w_name_Right (gd_some hx1 hc)) ⟨(le_gv (gx rfl hc) lr), trivial⟩ (ok_eq (by repeat (first | exact ok_nil | refine ok_cons rfl ?_ | refine ok_cons (dgv rfl) ?_))) rfl rfl) ?_
 refine og rfl rfl rfl (fun hc => (p_not (gx rfl hc))) <| o_p rfl (p_pickz rfl rfl rfl (fun e => keq e)) <| o_ek (fr' := [(0, aS), (1, aI), (13, aB)]) rfl rfl <| w_ch h2 rfl (fun hb3 h3 => ?_) (fun hb3 h3 => ?_)
 ·
  refine w_seqw <| w_region ?_
  obtain ⟨x4, hx4, h5⟩ := bind_s h3
  refine o_v (ov_call (v := aB) rfl (w_law06xlives hx4) trivial rfl rfl rfl) <| sB rfl <| o_ek (fr' := [(4, aB)]) rfl rfl <| w_ret <| e_seq_r ?_
  obtain rfl := sy h5
  exact e_ret (rs' := [.tmp 4]) rfl <| r_tmp (v := aB) rfl <| r_nil <| fin_gen [] rfl rfl rfl lr st_nil
 ·
  refine w_skip <| e_kw <| w_sr <| mI rfl <| o_p rfl (p_geq rfl rfl) <| mB rfl <| og rfl rfl rfl (fun hc => (p_move (v := aI) rfl)) <| og rfl rfl rfl (fun hc => (p_leq (gx rfl hc) rfl)) <| o_p rfl (p_picky rfl rfl rfl (fun e => keq e)) <| mB rfl <| og rfl rfl rfl (fun hc => (p_move (v := aI) rfl)) <| og rfl rfl rfl (fun hc => (p_geq (gx rfl hc) rfl)) ?_
  refine og rfl rfl rfl (fun hc => (p_move (v := aB) (gx rfl hc))) <| o_gg rfl rfl (fun hc => ov_p rfl (p_move (v := aI) rfl)) <| o_gg rfl rfl (fun hc => ov_p rfl (p_leq (gx rfl hc) rfl)) <| og rfl rfl rfl (fun hc => (p_picky (gx rfl hc) rfl rfl (fun e => band hc (keq e)))) <| o_p rfl (p_pickz rfl rfl rfl (fun e => keq e)) <| mB rfl <| og rfl rfl rfl (fun hc => (p_move (v := aI) rfl)) <| og rfl rfl rfl (fun hc => (p_geq (gx rfl hc) rfl)) <| og rfl rfl rfl (fun hc => (p_move (v := aB) (gx rfl hc))) <| o_gg rfl rfl (fun hc => ov_p rfl (p_move (v := aI) rfl)) <| o_gg rfl rfl (fun hc => ov_p rfl (p_leq (gx rfl hc) rfl)) <| og rfl rfl rfl (fun hc => (p_picky (gx rfl hc) rfl rfl (fun e => band hc (keq e)))) <| o_p rfl (p_pickz rfl rfl rfl (fun e => keq e)) ?_
  refine mB rfl <| og rfl rfl rfl (fun hc => (p_move (v := aI) rfl)) <| og rfl rfl rfl (fun hc => (p_eql (gx rfl hc) rfl)) <| o_p rfl (p_pickz rfl rfl rfl (fun e => keq e)) <| sB rfl <| o_ek (fr' := [(0, aS), (1, aI), (5, aB)]) rfl rfl <| w_sr <| mS rfl <| mI rfl ?_
  obtain ⟨x7, hx7, h8⟩ := bind_s h3
  refine o_rows (row := brow) (xs := ([x7] : List UInt8)) (rows := [[_]]) (σ' := []) [0] ts32 rfl rfl rfl (arow_cons (brow_of hx7) arow_nil) rfl rfl <| o_p rfl (p_convbs tby32 ti9 (isl_o rfl)) ?_
  obtain ⟨x9, hx9, h10⟩ := bind_s h8
  refine o_p rfl (p_sadd rfl rfl (cat_some hx9).1) ?_
  obtain ⟨x11, hx11, h12⟩ := bind_s h10
  refine o_v (ov_call (v := aB) rfl (w_name_Right hx11) ⟨lr, trivial⟩ rfl rfl rfl) <| mB rfl <| mB rfl <| og rfl rfl rfl (fun hc => (p_move (v := aS) rfl)) <| og rfl rfl rfl (fun hc => (p_lens ti9 (gx rfl hc))) <| og rfl rfl rfl (fun hc => (p_lss (gx rfl hc) rfl)) <| o_p rfl (p_picky rfl rfl rfl (fun e => keq e)) <| o_p rfl (p_beql ti4 rfl rfl) <| mB rfl <| og rfl rfl rfl (fun hc => (p_move (v := aS) rfl)) ?_
  obtain ⟨x13, hx13, h14⟩ := bind_s h12
  refine og rfl rfl rfl (fun hc => (p_sadd rfl (gx rfl hc) (cat_some (gd_some hx13 hc)).1)) ?_
  obtain ⟨x15, hx15, h16⟩ := bind_s h14
  refine o_g rfl rfl (fun hc => ov_call (v := aB) rfl (w_name_Right (gd_some hx15 hc)) ⟨(le_gv (gx rfl hc) lr), trivial⟩ (ok_eq (by repeat (first | exact ok_nil | refine ok_cons rfl ?_ | refine ok_cons (dgv rfl) ?_))) rfl rfl) ?_
  refine og rfl rfl rfl (fun hc => (p_not (gx rfl hc))) <| o_p rfl (p_picky rfl rfl rfl (fun e => keq e)) <| mB rfl ?_
  obtain ⟨x17, hx17, h18⟩ := bind_s h16
  refine o_g rfl rfl (fun hc => ov_call (v := aB) rfl (w_law06xlives (gd_some hx17 hc)) trivial (ok_eq (by repeat (first | exact ok_nil | refine ok_cons rfl ?_ | refine ok_cons (dgv rfl) ?_))) rfl rfl) ?_
  refine o_p rfl (p_picky rfl rfl rfl (fun e => keq e)) <| sB rfl <| o_ek (fr' := [(4, aB)]) rfl rfl <| w_ret ?_
  obtain rfl := sy h18
  exact e_ret (rs' := [.tmp 4]) rfl <| r_tmp (v := aB) rfl <| r_nil <| fin_gen [] rfl rfl rfl lr st_nil
end Go.Proofs.YtmnobgopfnhbnaaDoor

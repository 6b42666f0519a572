import Derived.Test.YtngcjjhbimanlaaGreatDoorGKTy
import Derived.Test.YtngcjjhbimanlaaGreatDoorGKF4
import Derived.Test.YtngcjjhbimanlaaGreatDoorGKF6
import Derived.Test.YtngcjjhbimanlaaGreatDoorGKF8
namespace Go.Proofs.YtngcjjhbimanlaaGreatDoor
open Go Abs
set_option maxRecDepth 100000
set_option linter.unusedVariables false
set_option linter.unusedSimpArgs false
noncomputable def ref24xCheck_l1 (p0l : (List ApiEvent)) (s6 : Int) : Option (Step Int (Fl Int Unit)) :=
 cond (decide (s6 < ((p0l).length : Int))) ((idx p0l s6).bind fun (x8 : ApiEvent) => (ref22xRight x8).bind fun (x10 : Bool) => cond (!x10) (some (Step.out (Fl.done (11 : Int)))) ((idx p0l s6).bind fun (x16 : ApiEvent) => (gd (((!decide (x16.ID = (IntKind.wrap .i64 (s6 + (1 : Int))))) == false) && ((decide ((0 : Int) < s6)) == true)) (idx p0l s6)).bind fun (x18 : ApiEvent) => (gd (((!decide (x16.ID = (IntKind.wrap .i64 (s6 + (1 : Int))))) == false) && ((decide ((0 : Int) < s6)) == true)) (idx p0l (IntKind.wrap .i64 (s6 - (1 : Int))))).bind fun (x20 : ApiEvent) => cond (cond (!decide (x16.ID = (IntKind.wrap .i64 (s6 + (1 : Int))))) true (cond (decide ((0 : Int) < s6)) (decide (x18.Time < x20.Time)) false)) (some (Step.out (Fl.done (30 : Int)))) ((ref24xallowed p0l s6).bind fun (x26 : Bool) => cond (!x26) (some (Step.out (Fl.done (16 : Int)))) (some (Step.next (IntKind.wrap .i64 (s6 + (1 : Int)))))))) (some (Step.out (Fl.go ())))
noncomputable def ref24xCheck (p0l : (List ApiEvent)) : Option Int :=
 cond (decide ((2000 : Int) < ((p0l).length : Int))) (some (6 : Int)) (((loopO (ref24xCheck_l1 p0l) ((0 : Int))) : Option (Fl Int Unit)).bind fun (x3 : (Fl Int Unit)) => Fl.next x3 (fun (j5 : Unit) => (some (0 : Int))))
theorem w_ref24xCheck {p0l : (List ApiEvent)} {res : Int} (h : ref24xCheck p0l = some res) : ACalls Tryz.prog 20 [.c (PV.ls 24 rowApiEvent p0l)] [] (.c (.int .i64 res)) [] := by
 unfold ref24xCheck at h
 refine acalls (fn := Tryz.f20) [0, 2, 3, 6, 10, 18, 44, 48] (by kernel_rfl) Tryz.func20 rfl (by kernel_rfl) (by kernel_rfl) <| w_sr <| sI rfl <| o_ek (fr' := [(0, aL)]) rfl rfl <| w_seqw <| w_sr <| mL rfl <| o_p rfl (p_len ti40 (isl_c rfl)) <| o_p rfl (p_gtr rfl rfl) <| o_ek (fr' := [(0, aL), (6, aB)]) rfl rfl <| w_ch h rfl (fun hb1 h1 => ?_) (fun hb1 h1 => ?_)
 ·
  refine w_sr <| sI rfl <| o_ek (fr' := [(2, aI)]) rfl rfl <| w_ret <| e_seq_r ?_
  obtain rfl := sy h1
  exact e_ret (rs' := [.tmp 2]) rfl <| r_tmp (v := aI) rfl <| r_nil <| fin_gen [] rfl rfl rfl lr st_nil
 ·
  refine w_skip <| e_kw <| w_seqw <| w_sr <| sI rfl <| o_ek (fr' := [(0, aL), (3, aI)]) rfl rfl ?_
  obtain ⟨x3, hx3, h4⟩ := bind_s h1
  refine w_jtail cl_kw (fun j5 => x3 = Fl.go j5) (fun (j5 : Unit) => ([] : Fr)) (fun (j5 : Unit) => ([] : St)) ?_ ?_
  ·
   refine w_block <| w_loopo _ (fun (s6 : Int) => ([(0, .c (PV.ls 24 rowApiEvent p0l)), (3, .c (.int .i64 s6))] : Fr)) (fun (s6 : Int) => ([] : St)) hx3 (w_weak [] 0 rfl rfl rfl rfl ⟨lr, lr, trivial⟩ st_nil) ?_
   intro s6 st6 hs6 ho6
   unfold ref24xCheck_l1 at hs6
   refine w_seqw <| w_sr <| mI rfl <| mL rfl <| o_p rfl (p_len ti40 (isl_c rfl)) <| o_p rfl (p_lss rfl rfl) <| o_ek (fr' := [(0, aL), (3, aI), (10, aB)]) rfl rfl <| w_ch hs6 rfl (fun hb7 h7 => ?_) (fun hb7 h7 => ?_)
   ·
    refine w_skip <| e_kw <| w_seqw <| w_block <| w_seqw <| w_sr <| mL rfl <| mI rfl ?_
    obtain ⟨x8, hx8, h9⟩ := bind_s h7
    refine o_p rfl (p_ia (cs := [PV.int _ _, PV.int _ _, PV.int _ _, PV.int _ _, PV.int _ _, PV.int _ _, PV.int _ _, PV.str _, PV.str _, PV.int _ _, PV.int _ _, PV.str _, PV.ls _ _ _, PV.ls _ _ _, PV.str _, PV.int _ _, PV.int _ _, PV.int _ _, PV.int _ _, PV.int _ _, PV.int _ _, PV.int _ _, PV.int _ _, PV.ls _ _ _]) ts40 (isl_c rfl) rfl hx8 rfl) <| o_p rfl (p_loades (us := [PV.int _ _, PV.int _ _, PV.int _ _, PV.int _ _, PV.int _ _, PV.int _ _, PV.int _ _, PV.str _, PV.str _, PV.int _ _, PV.int _ _, PV.str _, PV.ls _ _ _, PV.ls _ _ _, PV.str _, PV.int _ _, PV.int _ _, PV.int _ _, PV.int _ _, PV.int _ _, PV.int _ _, PV.int _ _, PV.int _ _, PV.ls _ _ _]) tv29 rfl rfl rfl) ?_
    obtain ⟨x10, hx10, h11⟩ := bind_s h9
    refine o_v (ov_call (v := aB) rfl (w_ref22xRight hx10) ⟨(le_aggc rfl ⟨rfl, rfl, rfl, rfl, rfl, rfl, rfl, rfl, rfl, rfl, rfl, rfl, rfl, rfl, rfl, rfl, rfl, rfl, rfl, rfl, rfl, rfl, rfl, rfl, trivial⟩), trivial⟩ rfl rfl rfl) <| o_p rfl (p_not rfl) <| o_ek (fr' := [(0, aL), (3, aI), (18, aB)]) rfl rfl <| w_ch h11 rfl (fun hb12 h12 => ?_) (fun hb12 h12 => ?_)
    ·
     refine w_sr <| sI rfl <| o_ek (fr' := [(2, aI)]) rfl rfl <| w_ret <| e_seq_r <| e_blk_r <| e_seq_r <| e_seq_r <| e_blk_r <| e_seq_r <| e_seq_r ?_
     have h13 := un_out h12 ho6
     have h14 := un_done h13 h4
     obtain rfl := sy h14
     exact e_ret (rs' := [.tmp 2]) rfl <| r_tmp (v := aI) rfl <| r_nil <| fin_gen [] rfl rfl rfl lr st_nil
    ·
     refine w_skip <| e_kw <| w_seqw <| w_seqw <| w_planT [.q 0, .q 1, .q 2, .q 3, .q 4, .q 5, .q 6, .q 7, .q 8, .q 9, .q 10, .q 11, .q 12, .q 13, .q 14, .q 15, .q 16, .q 17, .q 18, .q 19, .q 20, .q 21, .q 22, .q 23, .q 24, .q 25] [(some 19, [0]), (some 20, [3]), (some 21, [19, 20]), (some 22, [21]), (some 23, [22]), (some 24, [3]), (some 25, [24]), (some 26, [23, 25]), (some 27, [26]), (some 28, [3, 27]), (some 29, [28, 27]), (some 30, [29, 27]), (some 31, [0, 30]), (some 32, [3, 30]), (some 33, [31, 32, 30]), (some 34, [33, 30]), (some 35, [34, 30]), (some 36, [0, 30]), (some 37, [3, 30]), (some 38, [37, 30]), (some 39, [36, 38, 30]), (some 40, [39, 30]), (some 41, [40, 30]), (some 42, [35, 41, 30]), (some 43, [30, 42, 27]), (some 44, [27, 43])] [0, 0, 3, 7, 15, 0, 32, 127, 255, 511, 1023, 2047, 4095, 4095, 16383, 32767, 65535, 4095, 4095, 266239, 921599, 1970175, 4067327, 8388607, 16777215, 33554431] (by kernel_rfl) <| dq rfl rfl (p_move (v := aL) rfl) <| dq rfl rfl (p_move (v := aI) rfl) ?_
     obtain ⟨x16, hx16, h17⟩ := bind_s h12
     refine dq rfl rfl (p_ia (cs := [PV.int _ _, PV.int _ _, PV.int _ _, PV.int _ _, PV.int _ _, PV.int _ _, PV.int _ _, PV.str _, PV.str _, PV.int _ _, PV.int _ _, PV.str _, PV.ls _ _ _, PV.ls _ _ _, PV.str _, PV.int _ _, PV.int _ _, PV.int _ _, PV.int _ _, PV.int _ _, PV.int _ _, PV.int _ _, PV.int _ _, PV.ls _ _ _]) ts40 (isl_c rfl) rfl hx16 rfl) <| dq rfl rfl (p_fae tf29x0 rfl) <| dq rfl rfl (p_loade (p := PV.int _ _) tv3 rfl rfl) <| dq rfl rfl (p_move (v := aI) rfl) <| dq rfl rfl (p_add rfl rfl) <| dq rfl rfl (p_neq rfl rfl) <| dq rfl rfl (p_move (v := aB) rfl) <| d_g rfl rfl rfl (fun hc => qv_p rfl (p_move (v := aI) rfl)) <| d_g rfl rfl rfl (fun hc => qv_p rfl (p_gtr (gx rfl hc) rfl)) <| d_g rfl rfl rfl (fun hc => qv_p rfl (p_move (v := aB) (gx rfl hc))) <| d_gg rfl rfl rfl (fun hc => qv_p rfl (p_move (v := aL) rfl)) <| d_gg rfl rfl rfl (fun hc => qv_p rfl (p_move (v := aI) rfl)) ?_
     obtain ⟨x18, hx18, h19⟩ := bind_s h17
     refine d_gg rfl rfl rfl (fun hc => qv_p rfl (p_ia (cs := [PV.int _ _, PV.int _ _, PV.int _ _, PV.int _ _, PV.int _ _, PV.int _ _, PV.int _ _, PV.str _, PV.str _, PV.int _ _, PV.int _ _, PV.str _, PV.ls _ _ _, PV.ls _ _ _, PV.str _, PV.int _ _, PV.int _ _, PV.int _ _, PV.int _ _, PV.int _ _, PV.int _ _, PV.int _ _, PV.int _ _, PV.ls _ _ _]) ts40 (isl_c (gx rfl hc)) (gx rfl hc) (gd_some hx18 hc) rfl)) <| d_gg rfl rfl rfl (fun hc => qv_p rfl (p_fae tf29x2 (gx rfl hc))) <| d_gg rfl rfl rfl (fun hc => qv_p rfl (p_loade (p := PV.int _ _) tv3 (gx rfl hc) rfl)) <| d_gg rfl rfl rfl (fun hc => qv_p rfl (p_move (v := aL) rfl)) <| d_gg rfl rfl rfl (fun hc => qv_p rfl (p_move (v := aI) rfl)) <| d_gg rfl rfl rfl (fun hc => qv_p rfl (p_sub (gx rfl hc) rfl)) ?_
     obtain ⟨x20, hx20, h21⟩ := bind_s h19
     refine d_gg rfl rfl rfl (fun hc => qv_p rfl (p_ia (cs := [PV.int _ _, PV.int _ _, PV.int _ _, PV.int _ _, PV.int _ _, PV.int _ _, PV.int _ _, PV.str _, PV.str _, PV.int _ _, PV.int _ _, PV.str _, PV.ls _ _ _, PV.ls _ _ _, PV.str _, PV.int _ _, PV.int _ _, PV.int _ _, PV.int _ _, PV.int _ _, PV.int _ _, PV.int _ _, PV.int _ _, PV.ls _ _ _]) ts40 (isl_c (gx rfl hc)) (gx rfl hc) (gd_some hx20 hc) rfl)) <| d_gg rfl rfl rfl (fun hc => qv_p rfl (p_fae tf29x2 (gx rfl hc))) <| d_gg rfl rfl rfl (fun hc => qv_p rfl (p_loade (p := PV.int _ _) tv3 (gx rfl hc) rfl)) <| d_gg rfl rfl rfl (fun hc => qv_p rfl (p_lss (gx rfl hc) (gx rfl hc))) <| d_g rfl rfl rfl (fun hc => qv_p rfl (p_picky (gx rfl hc) rfl rfl (fun e => band hc (keq e)))) <| dq rfl rfl (p_pickz rfl rfl rfl (fun e => keq e)) <| d_ek (fr' := [(0, aL), (3, aI), (44, aB)]) rfl rfl <| w_ch h21 rfl (fun hb22 h22 => ?_) (fun hb22 h22 => ?_)
     ·
      refine w_sr <| sI rfl <| o_ek (fr' := [(2, aI)]) rfl rfl <| w_ret <| e_seq_r <| e_blk_r <| e_seq_r <| e_seq_r <| e_blk_r <| e_seq_r <| e_seq_r ?_
      have h23 := un_out h22 ho6
      have h24 := un_done h23 h4
      obtain rfl := sy h24
      exact e_ret (rs' := [.tmp 2]) rfl <| r_tmp (v := aI) rfl <| r_nil <| fin_gen [] rfl rfl rfl lr st_nil
     ·
      refine w_skip <| e_kw <| w_sr <| mL rfl <| mI rfl ?_
      obtain ⟨x26, hx26, h27⟩ := bind_s h22
      refine o_v (ov_call (v := aB) rfl (w_ref24xallowed hx26) ⟨lr, lr, trivial⟩ rfl rfl rfl) <| o_p rfl (p_not rfl) <| o_ek (fr' := [(0, aL), (3, aI), (48, aB)]) rfl rfl <| w_ch h27 rfl (fun hb28 h28 => ?_) (fun hb28 h28 => ?_)
      ·
       refine w_sr <| sI rfl <| o_ek (fr' := [(2, aI)]) rfl rfl <| w_ret <| e_blk_r <| e_seq_r <| e_seq_r <| e_blk_r <| e_seq_r <| e_seq_r ?_
       have h29 := un_out h28 ho6
       have h30 := un_done h29 h4
       obtain rfl := sy h30
       exact e_ret (rs' := [.tmp 2]) rfl <| r_tmp (v := aI) rfl <| r_nil <| fin_gen [] rfl rfl rfl lr st_nil
      ·
       exact w_skip <| e_blk_n <| e_kw <| w_region <| mI rfl <| o_p rfl (p_add rfl rfl) <| sI rfl <| o_end (fr' := [(0, aL), (3, aI), (48, aB)]) rfl <| e_l _ (sy h28) (w_weak [] 0 rfl rfl rfl rfl ⟨lr, lr, trivial⟩ st_nil)
   ·
    refine w_exit <| e_seq_x <| e_seq_x <| e_blk_h ?_
    have h32 := un_out h7 ho6
    exact e_j _ (sy h32) (w_weak [] 0 rfl rfl rfl rfl trivial st_nil)
  ·
   intro j5 hj33
   have h33 := un_go hj33 h4
   refine e_kw <| w_sr <| sI rfl <| o_ek (fr' := [(2, aI)]) rfl rfl <| w_ret ?_
   obtain rfl := sy h33
   exact e_ret (rs' := [.tmp 2]) rfl <| r_tmp (v := aI) rfl <| r_nil <| fin_gen [] rfl rfl rfl lr st_nil
noncomputable def law24xHistoryChecks (p0l : (List ApiEvent)) : Option Bool :=
 cond (decide ((2100 : Int) < ((p0l).length : Int))) ((law24xworks).bind fun (x2 : Bool) => some x2) ((history_Check p0l).bind fun (x5 : Int) => (ref24xCheck p0l).bind fun (x7 : Int) => (gd ((decide (x5 = x7)) == true) (law24xworks)).bind fun (x9 : Bool) => some (cond (decide (x5 = x7)) x9 false))
theorem w_law24xHistoryChecks {p0l : (List ApiEvent)} {res : Bool} (h : law24xHistoryChecks p0l = some res) : ACalls Tryz.prog 5 [.c (PV.ls 24 rowApiEvent p0l)] [] (.c (.bool res)) [] := by
 unfold law24xHistoryChecks at h
 refine acalls (fn := Tryz.f5) [0, 2, 5] (by kernel_rfl) Tryz.func5 rfl (by kernel_rfl) (by kernel_rfl) <| w_sr <| sB rfl <| o_ek (fr' := [(0, aL)]) rfl rfl <| w_seqw <| w_sr <| mL rfl <| o_p rfl (p_len ti40 (isl_c rfl)) <| o_p rfl (p_gtr rfl rfl) <| o_ek (fr' := [(0, aL), (5, aB)]) rfl rfl <| w_ch h rfl (fun hb1 h1 => ?_) (fun hb1 h1 => ?_)
 ·
  refine w_seqw <| w_region ?_
  obtain ⟨x2, hx2, h3⟩ := bind_s h1
  refine o_v (ov_call (v := aB) rfl (w_law24xworks hx2) trivial rfl rfl rfl) <| sB rfl <| o_ek (fr' := [(2, aB)]) rfl rfl <| w_ret <| e_seq_r ?_
  obtain rfl := sy h3
  exact e_ret (rs' := [.tmp 2]) rfl <| r_tmp (v := aB) rfl <| r_nil <| fin_gen [] rfl rfl rfl lr st_nil
 ·
  refine w_skip <| e_kw <| w_sr <| mL rfl ?_
  obtain ⟨x5, hx5, h6⟩ := bind_s h1
  refine o_v (ov_call (v := aI) rfl (w_history_Check hx5) ⟨lr, trivial⟩ rfl rfl rfl) <| mL rfl ?_
  obtain ⟨x7, hx7, h8⟩ := bind_s h6
  refine o_v (ov_call (v := aI) rfl (w_ref24xCheck hx7) ⟨lr, trivial⟩ rfl rfl rfl) <| o_p rfl (p_eql rfl rfl) <| mB rfl ?_
  obtain ⟨x9, hx9, h10⟩ := bind_s h8
  refine o_g rfl rfl (fun hc => ov_call (v := aB) rfl (w_law24xworks (gd_some hx9 hc)) trivial rfl rfl rfl) <| o_p rfl (p_picky rfl rfl rfl (fun e => keq e)) <| sB rfl <| o_ek (fr' := [(2, aB)]) rfl rfl <| w_ret ?_
  obtain rfl := sy h10
  exact e_ret (rs' := [.tmp 2]) rfl <| r_tmp (v := aB) rfl <| r_nil <| fin_gen [] rfl rfl rfl lr st_nil
noncomputable def ref24xTurns_l2 (p0l : (List ApiEvent)) (s23 : Int) : Option (Step Int Int) :=
 (gd ((decide (s23 < ((p0l).length : Int))) == true) (idx p0l s23)).bind fun (x24 : ApiEvent) => (gd ((decide (s23 < ((p0l).length : Int))) == true) (ref22xIsCommand x24.Kind)).bind fun (x26 : Bool) => cond (cond (decide (s23 < ((p0l).length : Int))) x26 false) (some (Step.next (IntKind.wrap .i64 (s23 + (1 : Int))))) (some (Step.out s23))
noncomputable def ref24xTurns_l1 (p0l : (List ApiEvent)) (s8 : ((List Ref24Turn) × Int)) : Option (Step ((List Ref24Turn) × Int) (List Ref24Turn)) :=
 cond (decide (s8.2 < ((p0l).length : Int))) ((idx p0l s8.2).bind fun (x10 : ApiEvent) => cond (!decide (x10.Kind = (3 : Int))) (some (Step.next (s8.1, (IntKind.wrap .i64 (s8.2 + (1 : Int)))))) (((cond (decide (s8.2 = (IntKind.wrap .i64 (((p0l).length : Int) - (1 : Int))))) (some (Ref24Turn.mk s8.2 (-1 : Int) ((p0l).length : Int) false)) ((idx p0l (IntKind.wrap .i64 (s8.2 + (1 : Int)))).bind fun (x17 : ApiEvent) => cond (decide (x17.Kind = (4 : Int))) (((loopO (ref24xTurns_l2 p0l) ((IntKind.wrap .i64 (s8.2 + (2 : Int))))) : Option Int).bind fun (x20 : Int) => (some (Ref24Turn.mk s8.2 (IntKind.wrap .i64 (s8.2 + (1 : Int))) x20 true))) (some (Ref24Turn.mk s8.2 (IntKind.wrap .i64 (s8.2 + (1 : Int))) (IntKind.wrap .i64 (s8.2 + (2 : Int))) false)))) : Option Ref24Turn).bind fun (x13 : Ref24Turn) => ((app 32 s8.1 ([x13] : List Ref24Turn)).bind fun (x32 : (List Ref24Turn)) => some (Step.next (x32, (IntKind.wrap .i64 (s8.2 + (1 : Int)))))))) (some (Step.out s8.1))
noncomputable def ref24xTurns (p0l : (List ApiEvent)) : Option (List Ref24Turn) :=
 (ref24xCheck p0l).bind fun (x1 : Int) => cond (!decide (x1 = (0 : Int))) (some ([] : (List Ref24Turn))) (((loopO (ref24xTurns_l1 p0l) ((([] : (List Ref24Turn)), (0 : Int)))) : Option (List Ref24Turn)).bind fun (x5 : (List Ref24Turn)) => (some x5))
theorem w_ref24xTurns {p0l : (List ApiEvent)} {res : (List Ref24Turn)} (h : ref24xTurns p0l = some res) : ACalls Tryz.prog 22 [.c (PV.ls 24 rowApiEvent p0l)] [] (AV.os 0 4 rowRef24Turn res) [] := by
 unfold ref24xTurns at h
 refine acalls (fn := Tryz.f22) [0, 2, 3, 4, 5, 8, 13, 21, 32, 43, 58] (by kernel_rfl) Tryz.func22 rfl (by kernel_rfl) (by kernel_rfl) <| w_sr <| sV (v := AV.nil) rfl <| o_ek (fr' := [(0, aL)]) rfl rfl <| w_sr <| sV (v := AV.nil) rfl <| o_ek (fr' := [(0, aL), (3, AV.nil)]) rfl rfl <| w_seqw <| w_sr <| mL rfl ?_
 obtain ⟨x1, hx1, h2⟩ := bind_s h
 refine o_v (ov_call (v := aI) rfl (w_ref24xCheck hx1) ⟨lr, trivial⟩ rfl rfl rfl) <| o_p rfl (p_neq rfl rfl) <| o_ek (fr' := [(0, aL), (3, AV.nil), (8, aB)]) rfl rfl <| w_ch h2 rfl (fun hb3 h3 => ?_) (fun hb3 h3 => ?_)
 ·
  refine w_sr <| mV (v := AV.nil) rfl <| sV (v := AV.nil) rfl <| o_ek (fr' := [(2, AV.nil)]) rfl rfl <| w_ret <| e_seq_r ?_
  obtain rfl := sy h3
  exact e_ret (rs' := [.tmp 2]) rfl <| r_tmp (v := AV.nil) rfl <| r_nil <| fin_gen [1000000] rfl rfl rfl (le_nos rfl) st_nil
 ·
  refine w_skip <| e_kw <| w_seqw <| w_sr <| sI rfl <| o_ek (fr' := [(0, aL), (3, AV.nil), (4, aI)]) rfl rfl ?_
  obtain ⟨x5, hx5, h6⟩ := bind_s h3
  refine w_jtail cl_kw (fun j7 => x5 = j7) (fun (j7 : (List Ref24Turn)) => ([(3, AV.os 0 4 rowRef24Turn j7)] : Fr)) (fun (j7 : (List Ref24Turn)) => ([] : St)) ?_ ?_
  ·
   refine w_block <| w_loopo _ (fun (s8 : ((List Ref24Turn) × Int)) => ([(0, .c (PV.ls 24 rowApiEvent p0l)), (3, AV.os 0 4 rowRef24Turn s8.1), (4, .c (.int .i64 s8.2))] : Fr)) (fun (s8 : ((List Ref24Turn) × Int)) => ([] : St)) hx5 (w_weak [1000000] 0 rfl rfl rfl rfl ⟨lr, (le_nos rfl), lr, trivial⟩ st_nil) ?_
   intro s8 st8 hs8 ho8
   unfold ref24xTurns_l1 at hs8
   refine w_seqw <| w_sr <| mI rfl <| mL rfl <| o_p rfl (p_len ti40 (isl_c rfl)) <| o_p rfl (p_lss rfl rfl) <| o_ek (fr' := [(0, aL), (3, aO), (4, aI), (13, aB)]) rfl rfl <| w_ch hs8 rfl (fun hb9 h9 => ?_) (fun hb9 h9 => ?_)
   ·
    refine w_skip <| e_kw <| w_seqw <| w_block <| w_seqw <| w_sr <| mL rfl <| mI rfl ?_
    obtain ⟨x10, hx10, h11⟩ := bind_s h9
    refine o_p rfl (p_ia (cs := [PV.int _ _, PV.int _ _, PV.int _ _, PV.int _ _, PV.int _ _, PV.int _ _, PV.int _ _, PV.str _, PV.str _, PV.int _ _, PV.int _ _, PV.str _, PV.ls _ _ _, PV.ls _ _ _, PV.str _, PV.int _ _, PV.int _ _, PV.int _ _, PV.int _ _, PV.int _ _, PV.int _ _, PV.int _ _, PV.int _ _, PV.ls _ _ _]) ts40 (isl_c rfl) rfl hx10 rfl) <| o_p rfl (p_fae tf29x1 rfl) <| o_p rfl (p_loade (p := PV.int _ _) tv3 rfl rfl) <| o_p rfl (p_neq rfl rfl) <| o_ek (fr' := [(0, aL), (3, aO), (4, aI), (21, aB)]) rfl rfl <| w_ch h11 rfl (fun hb12 h12 => ?_) (fun hb12 h12 => ?_)
    ·
     exact w_exit <| e_seq_x <| e_blk_h <| e_kw <| w_region <| mI rfl <| o_p rfl (p_add rfl rfl) <| sI rfl <| o_end (fr' := [(0, aL), (3, aO), (4, aI), (21, aB)]) rfl <| e_l _ (sy h12) (w_weak [0] 0 rfl rfl rfl rfl ⟨lr, lr, lr, trivial⟩ st_nil)
    ·
     refine w_skip <| e_kw <| w_sr <| mI rfl <| mI rfl <| o_p rfl (p_add rfl rfl) <| mI rfl <| o_p rfl (p_add rfl rfl) <| o_p rfl (p_build (cs := aIIIB) tb50 rfl) <| o_alloc (n := 0) (cs := aIIIB) (σ' := [aIIIB]) tz50 rfl rfl rfl <| o_store (v := .agg aIIIB) (us := aIIIB) (cs := aIIIB) (σ' := [aIIIB]) rfl tv50 rfl rfl rfl rfl rfl rfl rfl rfl <| o_ek (fr' := [(0, aL), (3, aO), (4, aI), (5, .box 0 0)]) rfl rfl ?_
     obtain ⟨x13, hx13, h14⟩ := bind_s h12
     refine w_join (fun j15 => x13 = j15) (fun (j15 : Ref24Turn) => ([(0, .c (PV.ls 24 rowApiEvent p0l)), (3, AV.os 0 4 rowRef24Turn s8.1), (4, .c (.int .i64 s8.2)), (5, .box 0 0)] : Fr)) (fun (j15 : Ref24Turn) => ([[.c (.int .i64 j15.Start), .c (.int .i64 j15.End), .c (.int .i64 j15.Next), .c (.bool j15.Done)]] : St)) ?_ ?_
     ·
      refine w_sr <| mI rfl <| mL rfl <| o_p rfl (p_len ti40 (isl_c rfl)) <| o_p rfl (p_sub rfl rfl) <| o_p rfl (p_eql rfl rfl) <| o_ek (fr' := [(0, aL), (3, aO), (4, aI), (5, .box 0 0), (32, aB)]) rfl rfl <| w_ch hx13 rfl (fun hb16 h16 => ?_) (fun hb16 h16 => ?_)
      ·
       exact w_region <| mI rfl <| mL rfl <| o_p rfl (p_len ti40 (isl_c rfl)) <| o_p rfl (p_build (cs := aIIIB) tb50 rfl) <| o_store (v := .agg aIIIB) (us := aIIIB) (cs := aIIIB) (σ' := [aIIIB]) rfl tv50 rfl rfl rfl rfl rfl rfl rfl rfl <| o_end (fr' := [(0, aL), (3, aO), (4, aI), (5, .box 0 0), (32, aB)]) rfl <| e_j _ (sy h16) (w_weak [0] 1 rfl rfl rfl rfl ⟨lr, lr, lr, lr, trivial⟩ (st_r rfl st_nil))
      ·
       refine w_sr <| mL rfl <| mI rfl <| o_p rfl (p_add rfl rfl) ?_
       obtain ⟨x17, hx17, h18⟩ := bind_s h16
       refine o_p rfl (p_ia (cs := [PV.int _ _, PV.int _ _, PV.int _ _, PV.int _ _, PV.int _ _, PV.int _ _, PV.int _ _, PV.str _, PV.str _, PV.int _ _, PV.int _ _, PV.str _, PV.ls _ _ _, PV.ls _ _ _, PV.str _, PV.int _ _, PV.int _ _, PV.int _ _, PV.int _ _, PV.int _ _, PV.int _ _, PV.int _ _, PV.int _ _, PV.ls _ _ _]) ts40 (isl_c rfl) rfl hx17 rfl) <| o_p rfl (p_fae tf29x1 rfl) <| o_p rfl (p_loade (p := PV.int _ _) tv3 rfl rfl) <| o_p rfl (p_eql rfl rfl) <| o_ek (fr' := [(0, aL), (3, aO), (4, aI), (5, .box 0 0), (43, aB)]) rfl rfl <| w_ch h18 rfl (fun hb19 h19 => ?_) (fun hb19 h19 => ?_)
       ·
        refine w_sr <| o_p rfl (p_fa tf50x3 rfl) <| o_store (v := aB) (us := [aB]) (cs := aIIIB) (σ' := [aIIIB]) rfl tv4 rfl rfl rfl rfl rfl rfl rfl rfl <| o_ek (fr' := [(0, aL), (3, aO), (4, aI), (5, .box 0 0)]) rfl rfl ?_
        obtain ⟨x20, hx20, h21⟩ := bind_s h19
        refine w_jtail cl_j (fun j22 => x20 = j22) (fun (j22 : Int) => ([(0, .c (PV.ls 24 rowApiEvent p0l)), (3, AV.os 0 4 rowRef24Turn s8.1), (4, .c (.int .i64 s8.2)), (5, .box 0 0)] : Fr)) (fun (j22 : Int) => ([[.c (.int .i64 s8.2), .c (.int .i64 (IntKind.wrap .i64 (s8.2 + (1 : Int)))), .c (.int .i64 j22), .c (.bool true)]] : St)) ?_ ?_
        ·
         refine w_block <| w_loopo _ (fun (s23 : Int) => ([(0, .c (PV.ls 24 rowApiEvent p0l)), (3, AV.os 0 4 rowRef24Turn s8.1), (4, .c (.int .i64 s8.2)), (5, .box 0 0)] : Fr)) (fun (s23 : Int) => ([[.c (.int .i64 s8.2), .c (.int .i64 (IntKind.wrap .i64 (s8.2 + (1 : Int)))), .c (.int .i64 s23), .c (.bool true)]] : St)) hx20 (w_weak [0] 1 rfl rfl rfl rfl ⟨lr, lr, lr, lr, trivial⟩ (st_r rfl st_nil)) ?_
         intro s23 st23 hs23 ho23
         unfold ref24xTurns_l2 at hs23
         refine w_seqw <| w_sr <| o_p rfl (p_fa tf50x2 rfl) <| o_p rfl (p_load (v := aI) tv3 rfl rfl rfl) <| mL rfl <| o_p rfl (p_len ti40 (isl_c rfl)) <| o_p rfl (p_lss rfl rfl) <| mB rfl <| og rfl rfl rfl (fun hc => (p_move (v := aL) rfl)) <| og rfl rfl rfl (fun hc => (p_fa tf50x2 rfl)) <| og rfl rfl rfl (fun hc => (p_load (v := aI) tv3 (gx rfl hc) rfl rfl)) ?_
         obtain ⟨x24, hx24, h25⟩ := bind_s hs23
         refine og rfl rfl rfl (fun hc => (p_ia (cs := [PV.int _ _, PV.int _ _, PV.int _ _, PV.int _ _, PV.int _ _, PV.int _ _, PV.int _ _, PV.str _, PV.str _, PV.int _ _, PV.int _ _, PV.str _, PV.ls _ _ _, PV.ls _ _ _, PV.str _, PV.int _ _, PV.int _ _, PV.int _ _, PV.int _ _, PV.int _ _, PV.int _ _, PV.int _ _, PV.int _ _, PV.ls _ _ _]) ts40 (isl_c (gx rfl hc)) (gx rfl hc) (gd_some hx24 hc) rfl)) <| og rfl rfl rfl (fun hc => (p_fae tf29x1 (gx rfl hc))) <| og rfl rfl rfl (fun hc => (p_loade (p := PV.int _ _) tv3 (gx rfl hc) rfl)) ?_
         obtain ⟨x26, hx26, h27⟩ := bind_s h25
         refine o_g rfl rfl (fun hc => ov_call (v := aB) rfl (w_ref22xIsCommand (gd_some hx26 hc)) ⟨(le_gv (gx rfl hc) lr), trivial⟩ (ok_eq (by repeat (first | exact ok_nil | refine ok_cons rfl ?_ | refine ok_cons (dgv rfl) ?_ | refine ok_cons dar ?_))) rfl rfl) ?_
         refine o_p rfl (p_picky rfl rfl rfl (fun e => keq e)) <| o_ek (fr' := [(0, aL), (3, aO), (4, aI), (5, .box 0 0), (58, aB)]) rfl rfl <| w_ch h27 rfl (fun hb28 h28 => ?_) (fun hb28 h28 => ?_)
         ·
          exact w_skip <| e_kw <| w_block <| w_region <| o_p rfl (p_fa tf50x2 rfl) <| o_p rfl (p_load (v := aI) tv3 rfl rfl rfl) <| o_p rfl (p_add rfl rfl) <| o_p rfl (p_fa tf50x2 rfl) <| o_store (v := aI) (us := [aI]) (cs := aIIIB) (σ' := [aIIIB]) rfl tv3 rfl rfl rfl rfl rfl rfl rfl rfl <| o_end (fr' := [(0, aL), (3, aO), (4, aI), (5, .box 0 0), (58, aB)]) rfl <| e_blk_n <| e_l _ (sy h28) (w_weak [0] 1 rfl rfl rfl rfl ⟨lr, lr, lr, lr, trivial⟩ (st_r rfl st_nil))
         ·
          refine w_exit <| e_seq_x <| e_seq_x <| e_blk_h ?_
          have h29 := un_out h28 ho23
          exact e_j _ (sy h29) (w_weak [0] 1 rfl rfl rfl rfl ⟨lr, lr, lr, lr, trivial⟩ (st_r rfl st_nil))
        ·
         intro j22 hj30
         subst hj30
         exact e_j _ (sy h21) (w_weak [0] 1 rfl rfl rfl rfl ⟨lr, lr, lr, lr, trivial⟩ (st_r rfl st_nil))
       ·
        exact w_skip <| e_j _ (sy h19) (w_weak [0] 1 rfl rfl rfl rfl ⟨lr, lr, lr, lr, trivial⟩ (st_r rfl st_nil))
     ·
      intro j15 hj31
      subst hj31
      refine w_region <| mV (v := aO) rfl <| o_p rfl (p_loads (us := aIIIB) tv50 rfl rfl rfl rfl) <| o_rows (row := rowRef24Turn) (xs := ([x13] : List Ref24Turn)) (rows := [[_, _, _, _]]) (σ' := [aIIIB]) [0, 0, 0, 0] ts46 rfl rfl rfl (arow_cons rfl arow_nil) rfl rfl ?_
      obtain ⟨x32, hx32, h33⟩ := bind_s h14
      exact o_app (row := rowRef24Turn) ts46 rfl ti46 rfl (isl_o rfl) (fun _ => rfl) hx32 <| sV (v := aO) rfl <| o_end (fr' := [(0, aL), (3, aO), (4, aI), (5, .box 0 0)]) rfl <| e_blk_n <| e_kw <| w_region <| mI rfl <| o_p rfl (p_add rfl rfl) <| sI rfl <| o_end (fr' := [(0, aL), (3, aO), (4, aI), (5, .box 0 0)]) rfl <| e_l _ (sy h33) (w_weak [1056] 0 rfl rfl rfl rfl ⟨lr, lr, lr, trivial⟩ st_nil)
   ·
    refine w_exit <| e_seq_x <| e_seq_x <| e_blk_h ?_
    have h34 := un_out h9 ho8
    exact e_j _ (sy h34) (w_weak [0] 0 rfl rfl rfl rfl ⟨lr, trivial⟩ st_nil)
  ·
   intro j7 hj35
   subst hj35
   refine e_kw <| w_sr <| mV (v := aO) rfl <| sV (v := aO) rfl <| o_ek (fr' := [(2, aO)]) rfl rfl <| w_ret ?_
   obtain rfl := sy h6
   exact e_ret (rs' := [.tmp 2]) rfl <| r_tmp (v := aO) rfl <| r_nil <| fin_gen [0] rfl rfl rfl lr st_nil
noncomputable def law24xHistoryTurns_l1 (x5 : (List HistoryTurn)) (x7 : (List Ref24Turn)) (s14 : Int) : Option (Step Int (Fl Bool Unit)) :=
 cond (decide (s14 < ((x5).length : Int))) ((idx x5 s14).bind fun (x16 : HistoryTurn) => (idx x7 s14).bind fun (x18 : Ref24Turn) => (gd ((!decide (x16.Start = x18.Start)) == false) (idx x5 s14)).bind fun (x20 : HistoryTurn) => (gd ((!decide (x16.Start = x18.Start)) == false) (idx x7 s14)).bind fun (x22 : Ref24Turn) => (gd ((cond (!decide (x16.Start = x18.Start)) true (!decide (x20.End = x22.End))) == false) (idx x5 s14)).bind fun (x24 : HistoryTurn) => (gd ((cond (!decide (x16.Start = x18.Start)) true (!decide (x20.End = x22.End))) == false) (idx x7 s14)).bind fun (x26 : Ref24Turn) => (gd ((cond (cond (!decide (x16.Start = x18.Start)) true (!decide (x20.End = x22.End))) true (!decide (x24.Next = x26.Next))) == false) (idx x5 s14)).bind fun (x28 : HistoryTurn) => (gd ((cond (cond (!decide (x16.Start = x18.Start)) true (!decide (x20.End = x22.End))) true (!decide (x24.Next = x26.Next))) == false) (idx x7 s14)).bind fun (x30 : Ref24Turn) => cond (cond (cond (cond (!decide (x16.Start = x18.Start)) true (!decide (x20.End = x22.End))) true (!decide (x24.Next = x26.Next))) true (!(x28.Done == x30.Done))) (some (Step.out (Fl.done false))) (some (Step.next (IntKind.wrap .i64 (s14 + (1 : Int)))))) (some (Step.out (Fl.go ())))
noncomputable def law24xHistoryTurns (p0l : (List ApiEvent)) : Option Bool :=
 cond (decide ((200 : Int) < ((p0l).length : Int))) ((law24xworks).bind fun (x2 : Bool) => some x2) ((history_Turns p0l).bind fun (x5 : (List HistoryTurn)) => (ref24xTurns p0l).bind fun (x7 : (List Ref24Turn)) => cond (!decide (((x5).length : Int) = ((x7).length : Int))) (some false) (((loopO (law24xHistoryTurns_l1 x5 x7) ((0 : Int))) : Option (Fl Bool Unit)).bind fun (x11 : (Fl Bool Unit)) => Fl.next x11 (fun (j13 : Unit) => ((law24xworks).bind fun (x38 : Bool) => some x38))))
theorem w_law24xHistoryTurns {p0l : (List ApiEvent)} {res : Bool} (h : law24xHistoryTurns p0l = some res) : ACalls Tryz.prog 6 [.c (PV.ls 24 rowApiEvent p0l)] [] (.c (.bool res)) [] := by
 unfold law24xHistoryTurns at h
 refine acalls (fn := Tryz.f6) [0, 2, 3, 4, 5, 8, 18, 20, 21, 22, 73] (by kernel_rfl) Tryz.func6 rfl (by kernel_rfl) (by kernel_rfl) <| w_sr <| sB rfl <| o_ek (fr' := [(0, aL)]) rfl rfl <| w_seqw <| w_sr <| mL rfl <| o_p rfl (p_len ti40 (isl_c rfl)) <| o_p rfl (p_gtr rfl rfl) <| o_ek (fr' := [(0, aL), (8, aB)]) rfl rfl <| w_ch h rfl (fun hb1 h1 => ?_) (fun hb1 h1 => ?_)
 ·
  refine w_seqw <| w_region ?_
  obtain ⟨x2, hx2, h3⟩ := bind_s h1
  refine o_v (ov_call (v := aB) rfl (w_law24xworks hx2) trivial rfl rfl rfl) <| sB rfl <| o_ek (fr' := [(2, aB)]) rfl rfl <| w_ret <| e_seq_r ?_
  obtain rfl := sy h3
  exact e_ret (rs' := [.tmp 2]) rfl <| r_tmp (v := aB) rfl <| r_nil <| fin_gen [] rfl rfl rfl lr st_nil
 ·
  refine w_skip <| e_kw <| w_sr <| mL rfl ?_
  obtain ⟨x5, hx5, h6⟩ := bind_s h1
  refine o_v (ov_call (v := aO) rfl (w_history_Turns hx5) ⟨lr, trivial⟩ rfl rfl rfl) <| mL rfl ?_
  obtain ⟨x7, hx7, h8⟩ := bind_s h6
  refine o_v (ov_call (v := aO) rfl (w_ref24xTurns hx7) ⟨lr, trivial⟩ rfl rfl rfl) <| sV (v := aO) rfl <| sV (v := aO) rfl <| o_ek (fr' := [(3, aO), (4, aO)]) rfl rfl <| w_seqw <| w_sr <| mV (v := aO) rfl <| o_p rfl (p_len ti44 (isl_o rfl)) <| mV (v := aO) rfl <| o_p rfl (p_len ti46 (isl_o rfl)) <| o_p rfl (p_neq rfl rfl) <| o_ek (fr' := [(3, aO), (4, aO), (18, aB)]) rfl rfl ?_
  refine w_ch h8 rfl (fun hb9 h9 => ?_) (fun hb9 h9 => ?_)
  ·
   refine w_sr <| sB rfl <| o_ek (fr' := [(2, aB)]) rfl rfl <| w_ret <| e_seq_r ?_
   obtain rfl := sy h9
   exact e_ret (rs' := [.tmp 2]) rfl <| r_tmp (v := aB) rfl <| r_nil <| fin_gen [] rfl rfl rfl lr st_nil
  ·
   refine w_skip <| e_kw <| w_seqw <| w_sr <| mV (v := aO) rfl <| o_p rfl (p_len ti44 (isl_o rfl)) <| mI rfl <| o_ek (fr' := [(3, aO), (4, aO), (20, aI), (21, aI)]) rfl rfl ?_
   obtain ⟨x11, hx11, h12⟩ := bind_s h9
   refine w_jtail cl_kw (fun j13 => x11 = Fl.go j13) (fun (j13 : Unit) => ([] : Fr)) (fun (j13 : Unit) => ([] : St)) ?_ ?_
   ·
    refine w_block <| w_loopo _ (fun (s14 : Int) => ([(3, AV.os 0 4 rowHistoryTurn x5), (4, AV.os 1 4 rowRef24Turn x7), (20, .c (.int .i64 ((x5).length : Int))), (21, .c (.int .i64 s14))] : Fr)) (fun (s14 : Int) => ([] : St)) hx11 (w_weak [176, 208] 0 rfl rfl rfl rfl ⟨lr, lr, lr, lr, trivial⟩ st_nil) ?_
    intro s14 st14 hs14 ho14
    unfold law24xHistoryTurns_l1 at hs14
    refine w_sr <| o_p rfl (p_lss rfl rfl) <| o_ek (fr' := [(3, aO), (4, aO), (20, aI), (21, aI), (22, aB)]) rfl rfl <| w_seqw <| w_ch hs14 rfl (fun hb15 h15 => ?_) (fun hb15 h15 => ?_)
    ·
     refine w_skip <| e_kw <| w_seqw <| w_block <| w_sr <| mI rfl <| sI rfl <| o_ek (fr' := [(3, aO), (4, aO), (5, aI), (20, aI), (21, aI)]) rfl rfl <| w_seqw <| w_planT [.q 0, .q 1, .q 2, .q 3, .q 4, .q 5, .q 6, .q 7, .q 8, .q 9, .q 10, .q 11, .q 12, .q 13, .q 14, .q 15, .q 16, .q 17, .q 18, .q 19, .q 20, .q 21, .q 22, .q 23, .q 24, .q 25, .q 26, .q 27, .q 28, .q 29, .q 30, .q 31, .q 32, .q 33, .q 34, .q 35, .q 36, .q 37, .q 38, .q 39, .q 40, .q 41, .q 42, .q 43, .q 44, .q 45, .q 46, .q 47, .q 48, .q 49] [(some 24, [3]), (some 25, [5]), (some 26, [24, 25]), (some 27, [26]), (some 28, [27]), (some 29, [4]), (some 30, [5]), (some 31, [29, 30]), (some 32, [31]), (some 33, [32]), (some 34, [28, 33]), (some 35, [34]), (some 36, [3, 35]), (some 37, [5, 35]), (some 38, [36, 37, 35]), (some 39, [38, 35]), (some 40, [39, 35]), (some 41, [4, 35]), (some 42, [5, 35]), (some 43, [41, 42, 35]), (some 44, [43, 35]), (some 45, [44, 35]), (some 46, [40, 45, 35]), (some 47, [35, 46]), (some 48, [47]), (some 49, [3, 48]), (some 50, [5, 48]), (some 51, [49, 50, 48]), (some 52, [51, 48]), (some 53, [52, 48]), (some 54, [4, 48]), (some 55, [5, 48]), (some 56, [54, 55, 48]), (some 57, [56, 48]), (some 58, [57, 48]), (some 59, [53, 58, 48]), (some 60, [48, 59]), (some 61, [60]), (some 62, [3, 61]), (some 63, [5, 61]), (some 64, [62, 63, 61]), (some 65, [64, 61]), (some 66, [65, 61]), (some 67, [4, 61]), (some 68, [5, 61]), (some 69, [67, 68, 61]), (some 70, [69, 61]), (some 71, [70, 61]), (some 72, [66, 71, 61]), (some 73, [61, 72])] [0, 0, 3, 7, 15, 0, 0, 96, 224, 480, 1023, 2047, 4095, 4095, 16383, 32767, 65535, 4095, 4095, 397311, 921599, 1970175, 4194303, 8388607, 16777215, 33554431, 33554431, 134217727, 268435455, 536870911, 33554431, 33554431, 3254779903, 7549747199, 16139681791, 34359738367, 68719476735, 137438953471, 274877906943, 274877906943, 1099511627775, 2199023255551, 4398046511103, 274877906943, 274877906943, 26663156973567, 61847529062399, 132216273240063, 281474976710655, 562949953421311] (by kernel_rfl) <| dq rfl rfl (p_move (v := aO) rfl) <| dq rfl rfl (p_move (v := aI) rfl) ?_
     obtain ⟨x16, hx16, h17⟩ := bind_s h15
     refine dq rfl rfl (p_ia (cs := [PV.int _ _, PV.int _ _, PV.int _ _, PV.bool _]) ts44 (isl_o rfl) rfl hx16 rfl) <| dq rfl rfl (p_fae tf49x0 rfl) <| dq rfl rfl (p_loade (p := PV.int _ _) tv3 rfl rfl) <| dq rfl rfl (p_move (v := aO) rfl) <| dq rfl rfl (p_move (v := aI) rfl) ?_
     obtain ⟨x18, hx18, h19⟩ := bind_s h17
     refine dq rfl rfl (p_ia (cs := [PV.int _ _, PV.int _ _, PV.int _ _, PV.bool _]) ts46 (isl_o rfl) rfl hx18 rfl) <| dq rfl rfl (p_fae tf50x0 rfl) <| dq rfl rfl (p_loade (p := PV.int _ _) tv3 rfl rfl) <| dq rfl rfl (p_neq rfl rfl) <| dq rfl rfl (p_move (v := aB) rfl) <| d_g rfl rfl rfl (fun hc => qv_p rfl (p_move (v := aO) rfl)) <| d_g rfl rfl rfl (fun hc => qv_p rfl (p_move (v := aI) rfl)) ?_
     obtain ⟨x20, hx20, h21⟩ := bind_s h19
     refine d_g rfl rfl rfl (fun hc => qv_p rfl (p_ia (cs := [PV.int _ _, PV.int _ _, PV.int _ _, PV.bool _]) ts44 (isl_o (gx rfl hc)) (gx rfl hc) (gd_some hx20 hc) rfl)) <| d_g rfl rfl rfl (fun hc => qv_p rfl (p_fae tf49x1 (gx rfl hc))) <| d_g rfl rfl rfl (fun hc => qv_p rfl (p_loade (p := PV.int _ _) tv3 (gx rfl hc) rfl)) <| d_g rfl rfl rfl (fun hc => qv_p rfl (p_move (v := aO) rfl)) <| d_g rfl rfl rfl (fun hc => qv_p rfl (p_move (v := aI) rfl)) ?_
     obtain ⟨x22, hx22, h23⟩ := bind_s h21
     refine d_g rfl rfl rfl (fun hc => qv_p rfl (p_ia (cs := [PV.int _ _, PV.int _ _, PV.int _ _, PV.bool _]) ts46 (isl_o (gx rfl hc)) (gx rfl hc) (gd_some hx22 hc) rfl)) <| d_g rfl rfl rfl (fun hc => qv_p rfl (p_fae tf50x1 (gx rfl hc))) <| d_g rfl rfl rfl (fun hc => qv_p rfl (p_loade (p := PV.int _ _) tv3 (gx rfl hc) rfl)) <| d_g rfl rfl rfl (fun hc => qv_p rfl (p_neq (gx rfl hc) (gx rfl hc))) <| dq rfl rfl (p_pickz rfl rfl rfl (fun e => keq e)) <| dq rfl rfl (p_move (v := aB) rfl) <| d_g rfl rfl rfl (fun hc => qv_p rfl (p_move (v := aO) rfl)) <| d_g rfl rfl rfl (fun hc => qv_p rfl (p_move (v := aI) rfl)) ?_
     obtain ⟨x24, hx24, h25⟩ := bind_s h23
     refine d_g rfl rfl rfl (fun hc => qv_p rfl (p_ia (cs := [PV.int _ _, PV.int _ _, PV.int _ _, PV.bool _]) ts44 (isl_o (gx rfl hc)) (gx rfl hc) (gd_some hx24 hc) rfl)) <| d_g rfl rfl rfl (fun hc => qv_p rfl (p_fae tf49x2 (gx rfl hc))) <| d_g rfl rfl rfl (fun hc => qv_p rfl (p_loade (p := PV.int _ _) tv3 (gx rfl hc) rfl)) <| d_g rfl rfl rfl (fun hc => qv_p rfl (p_move (v := aO) rfl)) <| d_g rfl rfl rfl (fun hc => qv_p rfl (p_move (v := aI) rfl)) ?_
     obtain ⟨x26, hx26, h27⟩ := bind_s h25
     refine d_g rfl rfl rfl (fun hc => qv_p rfl (p_ia (cs := [PV.int _ _, PV.int _ _, PV.int _ _, PV.bool _]) ts46 (isl_o (gx rfl hc)) (gx rfl hc) (gd_some hx26 hc) rfl)) <| d_g rfl rfl rfl (fun hc => qv_p rfl (p_fae tf50x2 (gx rfl hc))) <| d_g rfl rfl rfl (fun hc => qv_p rfl (p_loade (p := PV.int _ _) tv3 (gx rfl hc) rfl)) <| d_g rfl rfl rfl (fun hc => qv_p rfl (p_neq (gx rfl hc) (gx rfl hc))) <| dq rfl rfl (p_pickz rfl rfl rfl (fun e => keq e)) <| dq rfl rfl (p_move (v := aB) rfl) <| d_g rfl rfl rfl (fun hc => qv_p rfl (p_move (v := aO) rfl)) <| d_g rfl rfl rfl (fun hc => qv_p rfl (p_move (v := aI) rfl)) ?_
     obtain ⟨x28, hx28, h29⟩ := bind_s h27
     refine d_g rfl rfl rfl (fun hc => qv_p rfl (p_ia (cs := [PV.int _ _, PV.int _ _, PV.int _ _, PV.bool _]) ts44 (isl_o (gx rfl hc)) (gx rfl hc) (gd_some hx28 hc) rfl)) <| d_g rfl rfl rfl (fun hc => qv_p rfl (p_fae tf49x3 (gx rfl hc))) <| d_g rfl rfl rfl (fun hc => qv_p rfl (p_loade (p := PV.bool _) tv4 (gx rfl hc) rfl)) <| d_g rfl rfl rfl (fun hc => qv_p rfl (p_move (v := aO) rfl)) <| d_g rfl rfl rfl (fun hc => qv_p rfl (p_move (v := aI) rfl)) ?_
     obtain ⟨x30, hx30, h31⟩ := bind_s h29
     refine d_g rfl rfl rfl (fun hc => qv_p rfl (p_ia (cs := [PV.int _ _, PV.int _ _, PV.int _ _, PV.bool _]) ts46 (isl_o (gx rfl hc)) (gx rfl hc) (gd_some hx30 hc) rfl)) <| d_g rfl rfl rfl (fun hc => qv_p rfl (p_fae tf50x3 (gx rfl hc))) <| d_g rfl rfl rfl (fun hc => qv_p rfl (p_loade (p := PV.bool _) tv4 (gx rfl hc) rfl)) <| d_g rfl rfl rfl (fun hc => qv_p rfl (p_bneq ti4 (gx rfl hc) (gx rfl hc))) <| dq rfl rfl (p_pickz rfl rfl rfl (fun e => keq e)) <| d_ek (fr' := [(3, aO), (4, aO), (20, aI), (21, aI), (73, aB)]) rfl rfl <| w_ch h31 rfl (fun hb32 h32 => ?_) (fun hb32 h32 => ?_)
     ·
      refine w_sr <| sB rfl <| o_ek (fr' := [(2, aB)]) rfl rfl <| w_ret <| e_blk_r <| e_seq_r <| e_seq_r <| e_blk_r <| e_seq_r <| e_seq_r ?_
      have h33 := un_out h32 ho14
      have h34 := un_done h33 h12
      obtain rfl := sy h34
      exact e_ret (rs' := [.tmp 2]) rfl <| r_tmp (v := aB) rfl <| r_nil <| fin_gen [] rfl rfl rfl lr st_nil
     ·
      exact w_skip <| e_blk_n <| e_kw <| w_region <| o_p rfl (p_add rfl rfl) <| mI rfl <| o_end (fr' := [(3, aO), (4, aO), (20, aI), (21, aI), (73, aB)]) rfl <| e_l _ (sy h32) (w_weak [0, 1] 0 rfl rfl rfl rfl ⟨lr, lr, lr, lr, trivial⟩ st_nil)
    ·
     refine w_exit <| e_seq_x <| e_seq_x <| e_blk_h ?_
     have h36 := un_out h15 ho14
     exact e_j _ (sy h36) (w_weak [] 0 rfl rfl rfl rfl trivial st_nil)
   ·
    intro j13 hj37
    have h37 := un_go hj37 h12
    refine e_kw <| w_seqw <| w_region ?_
    obtain ⟨x38, hx38, h39⟩ := bind_s h37
    refine o_v (ov_call (v := aB) rfl (w_law24xworks hx38) trivial rfl rfl rfl) <| sB rfl <| o_ek (fr' := [(2, aB)]) rfl rfl <| w_ret ?_
    obtain rfl := sy h39
    exact e_ret (rs' := [.tmp 2]) rfl <| r_tmp (v := aB) rfl <| r_nil <| fin_gen [] rfl rfl rfl lr st_nil
end Go.Proofs.YtngcjjhbimanlaaGreatDoor

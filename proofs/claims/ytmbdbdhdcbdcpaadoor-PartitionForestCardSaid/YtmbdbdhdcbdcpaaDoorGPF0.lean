import Derived.Test.YtmbdbdhdcbdcpaaDoorGPTy
namespace Go.Proofs.YtmbdbdhdcbdcpaaDoor
open Go Abs
set_option maxRecDepth 100000
set_option linter.unusedVariables false
set_option linter.unusedSimpArgs false
noncomputable def partition_Children_l1 (p0i : Int) (p2n : Int) (p1degree : Int) (s6 : ((List Int) × Int)) : Option (Step ((List Int) × Int) (List Int)) :=
 cond (decide (s6.2 < p2n)) ((nz p1degree).bind fun (x8 : Int) => cond (decide ((IntKind.wrap .i64 (Int.tdiv (IntKind.wrap .i64 (s6.2 - (1 : Int))) p1degree)) = p0i)) ((app 8 s6.1 ([s6.2] : List Int)).bind fun (x11 : (List Int)) => some (Step.next (x11, (IntKind.wrap .i64 (s6.2 + (1 : Int)))))) (some (Step.next (s6.1, (IntKind.wrap .i64 (s6.2 + (1 : Int))))))) (some (Step.out s6.1))
noncomputable def partition_Children (p0i : Int) (p1degree : Int) (p2n : Int) : Option (List Int) :=
 cond (cond (decide ((16 : Int) < p2n)) true (decide (p1degree < (1 : Int)))) (some ([] : (List Int))) (((loopO (partition_Children_l1 p0i p2n p1degree) ((([] : (List Int)), (1 : Int)))) : Option (List Int)).bind fun (x3 : (List Int)) => (some x3))
theorem w_partition_Children {p0i : Int} {p1degree : Int} {p2n : Int} {res : (List Int)} (h : partition_Children p0i p1degree p2n = some res) : ACalls Tryd.prog 14 [.c (.int .i64 p0i), .c (.int .i64 p1degree), .c (.int .i64 p2n)] [] (AV.os 0 1 (rowI .i64) res) [] := by
 unfold partition_Children at h
 refine acalls (fn := Tryd.f14) [0, 1, 2, 6, 7, 8, 14, 17, 25] (by kernel_rfl) Tryd.func14 rfl (by kernel_rfl) (by kernel_rfl) <| w_sr <| sV (v := AV.nil) rfl <| o_ek (fr' := [(0, aI), (1, aI), (2, aI)]) rfl rfl <| w_seqw <| w_sr <| mI rfl <| o_p rfl (p_gtr rfl rfl) <| mB rfl <| og rfl rfl rfl (fun hc => (p_move (v := aI) rfl)) <| og rfl rfl rfl (fun hc => (p_lss (gx rfl hc) rfl)) ?_
 refine o_p rfl (p_pickz rfl rfl rfl (fun e => keq e)) <| o_ek (fr' := [(0, aI), (1, aI), (2, aI), (14, aB)]) rfl rfl <| w_ch h rfl (fun hb1 h1 => ?_) (fun hb1 h1 => ?_)
 ·
  refine w_sr <| sV (v := AV.nil) rfl <| o_ek (fr' := [(6, AV.nil)]) rfl rfl <| w_ret <| e_seq_r ?_
  obtain rfl := sy h1
  exact e_ret (rs' := [.tmp 6]) rfl <| r_tmp (v := AV.nil) rfl <| r_nil <| fin_gen [1000000] rfl rfl rfl (le_nos rfl) st_nil
 ·
  refine w_skip <| e_kw <| w_sr <| sV (v := AV.nil) rfl <| o_ek (fr' := [(0, aI), (1, aI), (2, aI), (7, AV.nil)]) rfl rfl <| w_seqw <| w_sr <| sI rfl <| o_ek (fr' := [(0, aI), (1, aI), (2, aI), (7, AV.nil), (8, aI)]) rfl rfl ?_
  obtain ⟨x3, hx3, h4⟩ := bind_s h1
  refine w_jtail cl_kw (fun j5 => x3 = j5) (fun (j5 : (List Int)) => ([(7, AV.os 0 1 (rowI .i64) j5)] : Fr)) (fun (j5 : (List Int)) => ([] : St)) ?_ ?_
  ·
   refine w_block <| w_loopo _ (fun (s6 : ((List Int) × Int)) => ([(0, .c (.int .i64 p0i)), (1, .c (.int .i64 p1degree)), (2, .c (.int .i64 p2n)), (7, AV.os 0 1 (rowI .i64) s6.1), (8, .c (.int .i64 s6.2))] : Fr)) (fun (s6 : ((List Int) × Int)) => ([] : St)) hx3 (w_weak [1000000] 0 rfl rfl rfl rfl ⟨lr, lr, lr, (le_nos rfl), lr, trivial⟩ st_nil) ?_
   intro s6 st6 hs6 ho6
   unfold partition_Children_l1 at hs6
   refine w_seqw <| w_sr <| mI rfl <| mI rfl <| o_p rfl (p_lss rfl rfl) <| o_ek (fr' := [(0, aI), (1, aI), (2, aI), (7, aO), (8, aI), (17, aB)]) rfl rfl <| w_ch hs6 rfl (fun hb7 h7 => ?_) (fun hb7 h7 => ?_)
   ·
    refine w_skip <| e_kw <| w_seqw <| w_block <| w_sr <| mI rfl <| o_p rfl (p_sub rfl rfl) <| mI rfl ?_
    obtain ⟨x8, hx8, h9⟩ := bind_s h7
    refine o_p rfl (p_quo rfl rfl (nz_some hx8).1) <| mI rfl <| o_p rfl (p_eql rfl rfl) <| o_ek (fr' := [(0, aI), (1, aI), (2, aI), (7, aO), (8, aI), (25, aB)]) rfl rfl <| w_ch h9 rfl (fun hb10 h10 => ?_) (fun hb10 h10 => ?_)
    ·
     refine w_region <| mV (v := aO) rfl <| mI rfl <| o_rows (row := (rowI .i64)) (xs := ([s6.2] : List Int)) (rows := [[_]]) (σ' := []) [0] ts40 rfl rfl rfl (arow_cons rfl arow_nil) rfl rfl ?_
     obtain ⟨x11, hx11, h12⟩ := bind_s h10
     exact o_app (row := (rowI .i64)) ts40 rfl ti40 rfl (isl_o rfl) (fun _ => rfl) hx11 <| sV (v := aO) rfl <| o_end (fr' := [(0, aI), (1, aI), (2, aI), (7, aO), (8, aI), (25, aB)]) rfl <| e_blk_n <| e_kw <| w_region <| mI rfl <| o_p rfl (p_add rfl rfl) <| sI rfl <| o_end (fr' := [(0, aI), (1, aI), (2, aI), (7, aO), (8, aI), (25, aB)]) rfl <| e_l _ (sy h12) (w_weak [464] 0 rfl rfl rfl rfl ⟨lr, lr, lr, lr, lr, trivial⟩ st_nil)
    ·
     exact w_skip <| e_blk_n <| e_kw <| w_region <| mI rfl <| o_p rfl (p_add rfl rfl) <| sI rfl <| o_end (fr' := [(0, aI), (1, aI), (2, aI), (7, aO), (8, aI), (25, aB)]) rfl <| e_l _ (sy h10) (w_weak [0] 0 rfl rfl rfl rfl ⟨lr, lr, lr, lr, lr, trivial⟩ st_nil)
   ·
    refine w_exit <| e_seq_x <| e_seq_x <| e_blk_h ?_
    have h13 := un_out h7 ho6
    exact e_j _ (sy h13) (w_weak [0] 0 rfl rfl rfl rfl ⟨lr, trivial⟩ st_nil)
  ·
   intro j5 hj14
   subst hj14
   refine e_kw <| w_sr <| mV (v := aO) rfl <| sV (v := aO) rfl <| o_ek (fr' := [(6, aO)]) rfl rfl <| w_ret ?_
   obtain rfl := sy h4
   exact e_ret (rs' := [.tmp 6]) rfl <| r_tmp (v := aO) rfl <| r_nil <| fin_gen [0] rfl rfl rfl lr st_nil
noncomputable def partition_known (p0i : Int) : Option Bool :=
 some (cond (decide ((0 : Int) ≤ p0i)) (decide (p0i < (16 : Int))) false)
theorem w_partition_known {p0i : Int} {res : Bool} (h : partition_known p0i = some res) : ACalls Tryd.prog 35 [.c (.int .i64 p0i)] [] (.c (.bool res)) [] := by
 unfold partition_known at h
 refine acalls (fn := Tryd.f35) [0, 2] (by kernel_rfl) Tryd.func35 rfl (by kernel_rfl) (by kernel_rfl) <| w_sr <| sB rfl <| o_ek (fr' := [(0, aI)]) rfl rfl <| w_sr <| mI rfl <| o_p rfl (p_geq rfl rfl) <| mB rfl <| og rfl rfl rfl (fun hc => (p_move (v := aI) rfl)) <| og rfl rfl rfl (fun hc => (p_lss (gx rfl hc) rfl)) <| o_p rfl (p_picky rfl rfl rfl (fun e => keq e)) ?_
 refine sB rfl <| o_ek (fr' := [(2, aB)]) rfl rfl <| w_ret ?_
 obtain rfl := sy h
 exact e_ret (rs' := [.tmp 2]) rfl <| r_tmp (v := aB) rfl <| r_nil <| fin_gen [] rfl rfl rfl lr st_nil
noncomputable def partition_Parent (p0i : Int) (p1degree : Int) : Option (Int × Bool) :=
 (gd ((decide (p0i = (0 : Int))) == false) (partition_known p0i)).bind fun (x1 : Bool) => cond (cond (cond (decide (p0i = (0 : Int))) true (!x1)) true (decide (p1degree < (1 : Int)))) (some ((0 : Int), false)) ((nz p1degree).bind fun (x5 : Int) => some ((IntKind.wrap .i64 (Int.tdiv (IntKind.wrap .i64 (p0i - (1 : Int))) p1degree)), true))
theorem w_partition_Parent {p0i : Int} {p1degree : Int} {res : (Int × Bool)} (h : partition_Parent p0i p1degree = some res) : ACalls Tryd.prog 15 [.c (.int .i64 p0i), .c (.int .i64 p1degree)] [] (.tup [.c (.int .i64 res.1), .c (.bool res.2)]) [] := by
 unfold partition_Parent at h
 refine acalls (fn := Tryd.f15) [0, 1, 4, 5, 16] (by kernel_rfl) Tryd.func15 rfl (by kernel_rfl) (by kernel_rfl) <| w_sr <| sI rfl <| sB rfl <| o_ek (fr' := [(0, aI), (1, aI)]) rfl rfl <| w_seqw <| w_sr <| mI rfl <| o_p rfl (p_eql rfl rfl) <| mB rfl <| og rfl rfl rfl (fun hc => (p_move (v := aI) rfl)) ?_
 obtain ⟨x1, hx1, h2⟩ := bind_s h
 refine o_g rfl rfl (fun hc => ov_call (v := aB) rfl (w_partition_known (gd_some hx1 hc)) ⟨(le_gv (gx rfl hc) lr), trivial⟩ (ok_eq (by repeat (first | exact ok_nil | refine ok_cons rfl ?_ | refine ok_cons (dgv rfl) ?_ | refine ok_cons dar ?_))) rfl rfl) ?_
 refine og rfl rfl rfl (fun hc => (p_not (gx rfl hc))) <| o_p rfl (p_pickz rfl rfl rfl (fun e => keq e)) <| mB rfl <| og rfl rfl rfl (fun hc => (p_move (v := aI) rfl)) <| og rfl rfl rfl (fun hc => (p_lss (gx rfl hc) rfl)) <| o_p rfl (p_pickz rfl rfl rfl (fun e => keq e)) <| o_ek (fr' := [(0, aI), (1, aI), (16, aB)]) rfl rfl <| w_ch h2 rfl (fun hb3 h3 => ?_) (fun hb3 h3 => ?_)
 ·
  refine w_sr <| sI rfl <| sB rfl <| o_ek (fr' := [(4, aI), (5, aB)]) rfl rfl <| w_ret <| e_seq_r ?_
  obtain rfl := sy h3
  exact e_ret (rs' := [.tmp 4, .tmp 5]) rfl <| r_tmp (v := aI) rfl <| r_tmp (v := aB) rfl <| r_nil <| fin_gen [] rfl rfl rfl (le_tupp rfl ⟨lr, lr, trivial⟩) st_nil
 ·
  refine w_skip <| e_kw <| w_sr <| mI rfl <| o_p rfl (p_sub rfl rfl) <| mI rfl ?_
  obtain ⟨x5, hx5, h6⟩ := bind_s h3
  refine o_p rfl (p_quo rfl rfl (nz_some hx5).1) <| sI rfl <| sB rfl <| o_ek (fr' := [(4, aI), (5, aB)]) rfl rfl <| w_ret ?_
  obtain rfl := sy h6
  exact e_ret (rs' := [.tmp 4, .tmp 5]) rfl <| r_tmp (v := aI) rfl <| r_tmp (v := aB) rfl <| r_nil <| fin_gen [] rfl rfl rfl (le_tupp rfl ⟨lr, lr, trivial⟩) st_nil
noncomputable def partition_Path_l1 (p1degree : Int) (s8 : (Int × (List Int))) : Option (Step (Int × (List Int)) (List Int)) :=
 cond (decide ((0 : Int) < s8.1)) ((nz p1degree).bind fun (x10 : Int) => (app 8 s8.2 ([(IntKind.wrap .i64 (Int.tdiv (IntKind.wrap .i64 (s8.1 - (1 : Int))) p1degree))] : List Int)).bind fun (x12 : (List Int)) => some (Step.next ((IntKind.wrap .i64 (Int.tdiv (IntKind.wrap .i64 (s8.1 - (1 : Int))) p1degree)), x12))) (some (Step.out s8.2))
noncomputable def partition_Path (p0i : Int) (p1degree : Int) : Option (List Int) :=
 (partition_known p0i).bind fun (x1 : Bool) => cond (cond (!x1) true (decide (p1degree < (1 : Int)))) (some ([] : (List Int))) (((loopO (partition_Path_l1 p1degree) ((p0i, ([p0i] : List Int)))) : Option (List Int)).bind fun (x5 : (List Int)) => (some x5))
theorem w_partition_Path {p0i : Int} {p1degree : Int} {res : (List Int)} (h : partition_Path p0i p1degree = some res) : ACalls Tryd.prog 16 [.c (.int .i64 p0i), .c (.int .i64 p1degree)] [] (AV.os 0 1 (rowI .i64) res) [] := by
 unfold partition_Path at h
 refine acalls (fn := Tryd.f16) [0, 1, 4, 5, 12, 16] (by kernel_rfl) Tryd.func16 rfl (by kernel_rfl) (by kernel_rfl) <| w_sr <| sV (v := AV.nil) rfl <| o_ek (fr' := [(0, aI), (1, aI)]) rfl rfl <| w_seqw <| w_sr <| mI rfl ?_
 obtain ⟨x1, hx1, h2⟩ := bind_s h
 refine o_v (ov_call (v := aB) rfl (w_partition_known hx1) ⟨lr, trivial⟩ rfl rfl rfl) <| o_p rfl (p_not rfl) <| mB rfl <| og rfl rfl rfl (fun hc => (p_move (v := aI) rfl)) <| og rfl rfl rfl (fun hc => (p_lss (gx rfl hc) rfl)) <| o_p rfl (p_pickz rfl rfl rfl (fun e => keq e)) <| o_ek (fr' := [(0, aI), (1, aI), (12, aB)]) rfl rfl <| w_ch h2 rfl (fun hb3 h3 => ?_) (fun hb3 h3 => ?_)
 ·
  refine w_sr <| sV (v := AV.nil) rfl <| o_ek (fr' := [(4, AV.nil)]) rfl rfl <| w_ret <| e_seq_r ?_
  obtain rfl := sy h3
  exact e_ret (rs' := [.tmp 4]) rfl <| r_tmp (v := AV.nil) rfl <| r_nil <| fin_gen [1000000] rfl rfl rfl (le_nos rfl) st_nil
 ·
  refine w_skip <| e_kw <| w_sr <| mI rfl <| o_rows (row := (rowI .i64)) (xs := ([p0i] : List Int)) (rows := [[_]]) (σ' := []) [0] ts40 rfl rfl rfl (arow_cons rfl arow_nil) rfl rfl <| sV (v := aO) rfl <| o_ek (fr' := [(0, aI), (1, aI), (5, aO)]) rfl rfl ?_
  obtain ⟨x5, hx5, h6⟩ := bind_s h3
  refine w_join (fun j7 => x5 = j7) (fun (j7 : (List Int)) => ([(5, AV.os 0 1 (rowI .i64) j7)] : Fr)) (fun (j7 : (List Int)) => ([] : St)) ?_ ?_
  ·
   refine w_block <| w_loopo _ (fun (s8 : (Int × (List Int))) => ([(0, .c (.int .i64 s8.1)), (1, .c (.int .i64 p1degree)), (5, AV.os 0 1 (rowI .i64) s8.2)] : Fr)) (fun (s8 : (Int × (List Int))) => ([] : St)) hx5 (w_weak [224] 0 rfl rfl rfl rfl ⟨lr, lr, lr, trivial⟩ st_nil) ?_
   intro s8 st8 hs8 ho8
   unfold partition_Path_l1 at hs8
   refine w_seqw <| w_sr <| mI rfl <| o_p rfl (p_gtr rfl rfl) <| o_ek (fr' := [(0, aI), (1, aI), (5, aO), (16, aB)]) rfl rfl <| w_ch hs8 rfl (fun hb9 h9 => ?_) (fun hb9 h9 => ?_)
   ·
    refine w_skip <| e_kw <| w_block <| w_sr <| mI rfl <| o_p rfl (p_sub rfl rfl) <| mI rfl ?_
    obtain ⟨x10, hx10, h11⟩ := bind_s h9
    refine o_p rfl (p_quo rfl rfl (nz_some hx10).1) <| sI rfl <| o_ek (fr' := [(0, aI), (1, aI), (5, aO)]) rfl rfl <| w_region <| mV (v := aO) rfl <| mI rfl <| o_rows (row := (rowI .i64)) (xs := ([(IntKind.wrap .i64 (Int.tdiv (IntKind.wrap .i64 (s8.1 - (1 : Int))) p1degree))] : List Int)) (rows := [[_]]) (σ' := []) [0] ts40 rfl rfl rfl (arow_cons rfl arow_nil) rfl rfl ?_
    obtain ⟨x12, hx12, h13⟩ := bind_s h11
    exact o_app (row := (rowI .i64)) ts40 rfl ti40 rfl (isl_o rfl) (fun _ => rfl) hx12 <| sV (v := aO) rfl <| o_end (fr' := [(0, aI), (1, aI), (5, aO)]) rfl <| e_blk_n <| e_l _ (sy h13) (w_weak [384] 0 rfl rfl rfl rfl ⟨lr, lr, lr, trivial⟩ st_nil)
   ·
    refine w_exit <| e_seq_x <| e_seq_x <| e_blk_h ?_
    have h14 := un_out h9 ho8
    exact e_j _ (sy h14) (w_weak [0] 0 rfl rfl rfl rfl ⟨lr, trivial⟩ st_nil)
  ·
   intro j7 hj15
   subst hj15
   refine w_sr <| mV (v := aO) rfl <| sV (v := aO) rfl <| o_ek (fr' := [(4, aO)]) rfl rfl <| w_ret ?_
   obtain rfl := sy h6
   exact e_ret (rs' := [.tmp 4]) rfl <| r_tmp (v := aO) rfl <| r_nil <| fin_gen [0] rfl rfl rfl lr st_nil
noncomputable def strconv_Itoa (p0i : Int) : Option (List UInt8) :=
 if -9223372036854775808 ≤ p0i ∧ p0i ≤ 9223372036854775807 then some (Lib.itoa p0i) else none
theorem w_strconv_Itoa {p0i : Int} {res : (List UInt8)} (h : strconv_Itoa p0i = some res) : ACalls Tryd.prog 53 [.c (.int .i64 p0i)] [] (.c (.str res)) [] := by
 unfold strconv_Itoa at h
 obtain ⟨⟨h0, h1⟩, rfl⟩ := ite_some h
 refine acalls_lib (by kernel_rfl) fun g w vs hv hI hg => ?_
 rw [rc_int hv]
 refine (Tryd.strconv_Itoa p0i h0 h1 w (glo_tab hg)).mono fun e w' => ?_
 rintro ⟨he, k, os, rfl⟩
 exact ⟨_, he, Lib.below_grow _ _ (Nat.le_refl _) k os, fun g' => .c (.str _)⟩
noncomputable def partition_Name (p0queue : (List UInt8)) (p1i : Int) : Option (List UInt8) :=
 (partition_known p1i).bind fun (x1 : Bool) => cond (!x1) (some ([] : List UInt8)) ((cat p0queue ([35] : List UInt8)).bind fun (x5 : (List UInt8)) => (strconv_Itoa p1i).bind fun (x7 : (List UInt8)) => (cat (p0queue ++ ([35] : List UInt8)) x7).bind fun (x9 : (List UInt8)) => some ((p0queue ++ ([35] : List UInt8)) ++ x7))
theorem w_partition_Name {p0queue : (List UInt8)} {p1i : Int} {res : (List UInt8)} (h : partition_Name p0queue p1i = some res) : ACalls Tryd.prog 27 [.c (.str p0queue), .c (.int .i64 p1i)] [] (.c (.str res)) [] := by
 unfold partition_Name at h
 refine acalls (fn := Tryd.f27) [0, 1, 4, 7] (by kernel_rfl) Tryd.func27 rfl (by kernel_rfl) (by kernel_rfl) <| w_sr <| sS rfl <| o_ek (fr' := [(0, aS), (1, aI)]) rfl rfl <| w_seqw <| w_sr <| mI rfl ?_
 obtain ⟨x1, hx1, h2⟩ := bind_s h
 refine o_v (ov_call (v := aB) rfl (w_partition_known hx1) ⟨lr, trivial⟩ rfl rfl rfl) <| o_p rfl (p_not rfl) <| o_ek (fr' := [(0, aS), (1, aI), (7, aB)]) rfl rfl <| w_ch h2 rfl (fun hb3 h3 => ?_) (fun hb3 h3 => ?_)
 ·
  refine w_sr <| sS rfl <| o_ek (fr' := [(4, aS)]) rfl rfl <| w_ret <| e_seq_r ?_
  obtain rfl := sy h3
  exact e_ret (rs' := [.tmp 4]) rfl <| r_tmp (v := aS) rfl <| r_nil <| fin_gen [] rfl rfl rfl lr st_nil
 ·
  refine w_skip <| e_kw <| w_sr <| mS rfl ?_
  obtain ⟨x5, hx5, h6⟩ := bind_s h3
  refine o_p rfl (p_sadd rfl rfl (cat_some hx5).1) <| mI rfl ?_
  obtain ⟨x7, hx7, h8⟩ := bind_s h6
  refine o_v (ov_call (v := aS) rfl (w_strconv_Itoa hx7) ⟨lr, trivial⟩ rfl rfl rfl) ?_
  obtain ⟨x9, hx9, h10⟩ := bind_s h8
  refine o_p rfl (p_sadd rfl rfl (cat_some hx9).1) <| sS rfl <| o_ek (fr' := [(4, aS)]) rfl rfl <| w_ret ?_
  obtain rfl := sy h10
  exact e_ret (rs' := [.tmp 4]) rfl <| r_tmp (v := aS) rfl <| r_nil <| fin_gen [] rfl rfl rfl lr st_nil
noncomputable def partition_Split (p0s : (List UInt8)) : Option ((List UInt8) × Int × Bool) :=
 if p0s.length ≤ 140737488355328 then some (splitPS p0s) else none
theorem w_partition_Split {p0s : (List UInt8)} {res : ((List UInt8) × Int × Bool)} (h : partition_Split p0s = some res) : ACalls Tryd.prog 33 [.c (.str p0s)] [] (.tup [.c (.str res.1), .c (.int .i64 res.2.1), .c (.bool res.2.2)]) [] := by
 unfold partition_Split at h
 obtain ⟨hl, rfl⟩ := ite_some h
 refine acalls_lib (by kernel_rfl) fun g w vs hv hI hg => ?_
 rw [rc_str hv]
 refine (split_calls hl w hI hg).mono fun e w' => ?_
 rintro ⟨rfl, hb⟩
 exact ⟨_, rfl, hb, fun g' => rav_trip (.c (.str _)) (.c (.int _ _)) (.c (.bool _))⟩
noncomputable def ref15xSameInts_l1 (p0a : (List Int)) (p1b : (List Int)) (s6 : Int) : Option (Step Int (Fl Bool Unit)) :=
 cond (decide (s6 < ((p0a).length : Int))) ((idx p0a s6).bind fun (x8 : Int) => (idx p1b s6).bind fun (x10 : Int) => cond (!decide (x8 = x10)) (some (Step.out (Fl.done false))) (some (Step.next (IntKind.wrap .i64 (s6 + (1 : Int)))))) (some (Step.out (Fl.go ())))
noncomputable def ref15xSameInts (p0a : (List Int)) (p1b : (List Int)) : Option Bool :=
 cond (!decide (((p0a).length : Int) = ((p1b).length : Int))) (some false) (((loopO (ref15xSameInts_l1 p0a p1b) ((0 : Int))) : Option (Fl Bool Unit)).bind fun (x3 : (Fl Bool Unit)) => Fl.next x3 (fun (j5 : Unit) => (some true)))
theorem w_ref15xSameInts {p0a : (List Int)} {p1b : (List Int)} {res : Bool} (h : ref15xSameInts p0a p1b = some res) : ACalls Tryd.prog 34 [.c (PV.ls 1 (rowI .i64) p0a), .c (PV.ls 1 (rowI .i64) p1b)] [] (.c (.bool res)) [] := by
 unfold ref15xSameInts at h
 refine acalls (fn := Tryd.f34) [0, 1, 4, 5, 10, 14, 25] (by kernel_rfl) Tryd.func34 rfl (by kernel_rfl) (by kernel_rfl) <| w_sr <| sB rfl <| o_ek (fr' := [(0, aL), (1, aL)]) rfl rfl <| w_seqw <| w_sr <| mL rfl <| o_p rfl (p_len ti40 (isl_c rfl)) <| mL rfl <| o_p rfl (p_len ti40 (isl_c rfl)) <| o_p rfl (p_neq rfl rfl) ?_
 refine o_ek (fr' := [(0, aL), (1, aL), (10, aB)]) rfl rfl <| w_ch h rfl (fun hb1 h1 => ?_) (fun hb1 h1 => ?_)
 ·
  refine w_sr <| sB rfl <| o_ek (fr' := [(4, aB)]) rfl rfl <| w_ret <| e_seq_r ?_
  obtain rfl := sy h1
  exact e_ret (rs' := [.tmp 4]) rfl <| r_tmp (v := aB) rfl <| r_nil <| fin_gen [] rfl rfl rfl lr st_nil
 ·
  refine w_skip <| e_kw <| w_seqw <| w_sr <| sI rfl <| o_ek (fr' := [(0, aL), (1, aL), (5, aI)]) rfl rfl ?_
  obtain ⟨x3, hx3, h4⟩ := bind_s h1
  refine w_jtail cl_kw (fun j5 => x3 = Fl.go j5) (fun (j5 : Unit) => ([] : Fr)) (fun (j5 : Unit) => ([] : St)) ?_ ?_
  ·
   refine w_block <| w_loopo _ (fun (s6 : Int) => ([(0, .c (PV.ls 1 (rowI .i64) p0a)), (1, .c (PV.ls 1 (rowI .i64) p1b)), (5, .c (.int .i64 s6))] : Fr)) (fun (s6 : Int) => ([] : St)) hx3 (w_weak [] 0 rfl rfl rfl rfl ⟨lr, lr, lr, trivial⟩ st_nil) ?_
   intro s6 st6 hs6 ho6
   unfold ref15xSameInts_l1 at hs6
   refine w_seqw <| w_sr <| mI rfl <| mL rfl <| o_p rfl (p_len ti40 (isl_c rfl)) <| o_p rfl (p_lss rfl rfl) <| o_ek (fr' := [(0, aL), (1, aL), (5, aI), (14, aB)]) rfl rfl <| w_ch hs6 rfl (fun hb7 h7 => ?_) (fun hb7 h7 => ?_)
   ·
    refine w_skip <| e_kw <| w_seqw <| w_block <| w_seqw <| w_planT [.q 0, .q 1, .q 2, .q 3, .q 4, .q 5, .q 6, .q 7, .q 8] [(some 17, [0]), (some 18, [5]), (some 19, [17, 18]), (some 20, [19]), (some 21, [1]), (some 22, [5]), (some 23, [21, 22]), (some 24, [23]), (some 25, [20, 24])] [0, 0, 3, 7, 0, 0, 48, 112, 255] (by kernel_rfl) <| dq rfl rfl (p_move (v := aL) rfl) <| dq rfl rfl (p_move (v := aI) rfl) ?_
    obtain ⟨x8, hx8, h9⟩ := bind_s h7
    refine dq rfl rfl (p_ia (cs := [PV.int _ _]) ts40 (isl_c rfl) rfl hx8 rfl) <| dq rfl rfl (p_loade (p := PV.int _ _) tv3 rfl rfl) <| dq rfl rfl (p_move (v := aL) rfl) <| dq rfl rfl (p_move (v := aI) rfl) ?_
    obtain ⟨x10, hx10, h11⟩ := bind_s h9
    refine dq rfl rfl (p_ia (cs := [PV.int _ _]) ts40 (isl_c rfl) rfl hx10 rfl) <| dq rfl rfl (p_loade (p := PV.int _ _) tv3 rfl rfl) <| dq rfl rfl (p_neq rfl rfl) <| d_ek (fr' := [(0, aL), (1, aL), (5, aI), (25, aB)]) rfl rfl <| w_ch h11 rfl (fun hb12 h12 => ?_) (fun hb12 h12 => ?_)
    ·
     refine w_sr <| sB rfl <| o_ek (fr' := [(4, aB)]) rfl rfl <| w_ret <| e_blk_r <| e_seq_r <| e_seq_r <| e_blk_r <| e_seq_r <| e_seq_r ?_
     have h13 := un_out h12 ho6
     have h14 := un_done h13 h4
     obtain rfl := sy h14
     exact e_ret (rs' := [.tmp 4]) rfl <| r_tmp (v := aB) rfl <| r_nil <| fin_gen [] rfl rfl rfl lr st_nil
    ·
     exact w_skip <| e_blk_n <| e_kw <| w_region <| mI rfl <| o_p rfl (p_add rfl rfl) <| sI rfl <| o_end (fr' := [(0, aL), (1, aL), (5, aI), (25, aB)]) rfl <| e_l _ (sy h12) (w_weak [] 0 rfl rfl rfl rfl ⟨lr, lr, lr, trivial⟩ st_nil)
   ·
    refine w_exit <| e_seq_x <| e_seq_x <| e_blk_h ?_
    have h16 := un_out h7 ho6
    exact e_j _ (sy h16) (w_weak [] 0 rfl rfl rfl rfl trivial st_nil)
  ·
   intro j5 hj17
   have h17 := un_go hj17 h4
   refine e_kw <| w_sr <| sB rfl <| o_ek (fr' := [(4, aB)]) rfl rfl <| w_ret ?_
   obtain rfl := sy h17
   exact e_ret (rs' := [.tmp 4]) rfl <| r_tmp (v := aB) rfl <| r_nil <| fin_gen [] rfl rfl rfl lr st_nil
noncomputable def law39xlives  : Option Bool :=
 (partition_Parent (4 : Int) (2 : Int)).bind fun (x1 : (Int × Bool)) => (partition_Split ([97, 35, 98, 35, 49, 50] : List UInt8)).bind fun (x3 : ((List UInt8) × Int × Bool)) => (partition_Split ([109, 97, 105, 110, 35, 49, 54] : List UInt8)).bind fun (x5 : ((List UInt8) × Int × Bool)) => (partition_Split ([109, 97, 105, 110, 35, 48, 51] : List UInt8)).bind fun (x7 : ((List UInt8) × Int × Bool)) => cond (decide (x1.1 = (1 : Int))) (cond x1.2 ((partition_Path (4 : Int) (2 : Int)).bind fun (x11 : (List Int)) => (ref15xSameInts x11 ([(4 : Int), (1 : Int), (0 : Int)] : List Int)).bind fun (x13 : Bool) => cond x13 ((partition_Children (1 : Int) (2 : Int) (8 : Int)).bind fun (x16 : (List Int)) => (ref15xSameInts x16 ([(3 : Int), (4 : Int)] : List Int)).bind fun (x18 : Bool) => cond x18 ((partition_Name ([109, 97, 105, 110] : List UInt8) (3 : Int)).bind fun (x21 : (List UInt8)) => cond (decide (x21 = ([109, 97, 105, 110, 35, 51] : List UInt8))) (cond (decide (x3.1 = ([97, 35, 98] : List UInt8))) (cond (decide (x3.2.1 = (12 : Int))) (cond x3.2.2 (cond (!x5.2.2) (some (!x7.2.2)) (some false)) (some false)) (some false)) (some false)) (some false)) (some false)) (some false)) (some false)) (some false)
theorem w_law39xlives  {res : Bool} (h : law39xlives = some res) : ACalls Tryd.prog 13 [] [] (.c (.bool res)) [] := by
 unfold law39xlives at h
 refine acalls (fn := Tryd.f13) [0, 1, 2, 3, 4, 5, 8, 11] (by kernel_rfl) Tryd.func13 rfl (by kernel_rfl) (by kernel_rfl) <| w_sr <| sB rfl <| o_ek (fr' := []) rfl rfl <| w_seqw <| w_region ?_
 obtain ⟨x1, hx1, h2⟩ := bind_s h
 refine o_v (ov_call (v := .tup [aI, aB]) rfl (w_partition_Parent hx1) ⟨lr, lr, trivial⟩ rfl rfl rfl) <| mV (v := .tup [aI, aB]) rfl <| o_p rfl (p_ex (v := aI) rfl rfl) <| o_p rfl (p_ex (v := aB) rfl rfl) <| sI rfl <| sB rfl <| o_ek (fr' := [(1, aI), (2, aB)]) rfl rfl <| w_seqw <| w_region ?_
 obtain ⟨x3, hx3, h4⟩ := bind_s h2
 refine o_v (ov_call (v := .tup [aS, aI, aB]) rfl (w_partition_Split hx3) ⟨lr, trivial⟩ rfl rfl rfl) <| mV (v := .tup [aS, aI, aB]) rfl <| o_p rfl (p_ex (v := aS) rfl rfl) <| o_p rfl (p_ex (v := aI) rfl rfl) <| o_p rfl (p_ex (v := aB) rfl rfl) <| sS rfl <| sI rfl <| sB rfl <| o_ek (fr' := [(1, aI), (2, aB), (3, aS), (4, aI), (5, aB)]) rfl rfl <| w_seqw <| w_region ?_
 obtain ⟨x5, hx5, h6⟩ := bind_s h4
 refine o_v (ov_call (v := .tup [aS, aI, aB]) rfl (w_partition_Split hx5) ⟨lr, trivial⟩ rfl rfl rfl) <| mV (v := .tup [aS, aI, aB]) rfl <| o_p rfl (p_ex (v := aS) rfl rfl) <| o_p rfl (p_ex (v := aI) rfl rfl) <| o_p rfl (p_ex (v := aB) rfl rfl) <| sS rfl <| sI rfl <| sB rfl <| o_ek (fr' := [(1, aI), (2, aB), (3, aS), (4, aI), (5, aB), (8, aB)]) rfl rfl <| w_seqw <| w_region ?_
 obtain ⟨x7, hx7, h8⟩ := bind_s h6
 refine o_v (ov_call (v := .tup [aS, aI, aB]) rfl (w_partition_Split hx7) ⟨lr, trivial⟩ rfl rfl rfl) <| mV (v := .tup [aS, aI, aB]) rfl <| o_p rfl (p_ex (v := aS) rfl rfl) <| o_p rfl (p_ex (v := aI) rfl rfl) <| o_p rfl (p_ex (v := aB) rfl rfl) <| sS rfl <| sI rfl <| sB rfl <| o_ek (fr' := [(1, aI), (2, aB), (3, aS), (4, aI), (5, aB), (8, aB), (11, aB)]) rfl rfl <| w_sr <| mI rfl <| o_p rfl (p_eql rfl rfl) ?_
 refine mB rfl <| r_ch h8 (fun hb9 h9 => ?_) (fun hb9 h9 => ?_)
 ·
  refine o_yes rfl rfl hb9 <| mB rfl <| o_p rfl (p_pick_t rfl hb9 rfl) <| mB rfl <| r_ch h9 (fun hb10 h10 => ?_) (fun hb10 h10 => ?_)
  ·
   refine o_yes rfl rfl hb10 ?_
   obtain ⟨x11, hx11, h12⟩ := bind_s h10
   refine o_v (ov_call (v := aO) rfl (w_partition_Path hx11) ⟨lr, lr, trivial⟩ rfl rfl rfl) <| o_yes rfl rfl hb10 <| o_rows (row := (rowI .i64)) (xs := ([(4 : Int), (1 : Int), (0 : Int)] : List Int)) (rows := [[_], [_], [_]]) (σ' := []) [0] ts40 rfl rfl rfl (arow_cons rfl (arow_cons rfl (arow_cons rfl arow_nil))) rfl rfl <| o_yes rfl rfl hb10 ?_
   obtain ⟨x13, hx13, h14⟩ := bind_s h12
   refine o_v (ov_call (v := aB) rfl (w_ref15xSameInts hx13) ⟨lr, lr, trivial⟩ rfl rfl rfl) <| o_p rfl (p_pick_t rfl hb10 rfl) <| mB rfl <| r_ch h14 (fun hb15 h15 => ?_) (fun hb15 h15 => ?_)
   ·
    refine o_yes rfl rfl hb15 ?_
    obtain ⟨x16, hx16, h17⟩ := bind_s h15
    refine o_v (ov_call (v := aO) rfl (w_partition_Children hx16) ⟨lr, lr, lr, trivial⟩ rfl rfl rfl) <| o_yes rfl rfl hb15 <| o_rows (row := (rowI .i64)) (xs := ([(3 : Int), (4 : Int)] : List Int)) (rows := [[_], [_]]) (σ' := []) [0] ts40 rfl rfl rfl (arow_cons rfl (arow_cons rfl arow_nil)) rfl rfl <| o_yes rfl rfl hb15 ?_
    obtain ⟨x18, hx18, h19⟩ := bind_s h17
    refine o_v (ov_call (v := aB) rfl (w_ref15xSameInts hx18) ⟨lr, lr, trivial⟩ rfl rfl rfl) <| o_p rfl (p_pick_t rfl hb15 rfl) <| mB rfl <| r_ch h19 (fun hb20 h20 => ?_) (fun hb20 h20 => ?_)
    ·
     refine o_yes rfl rfl hb20 ?_
     obtain ⟨x21, hx21, h22⟩ := bind_s h20
     refine o_v (ov_call (v := aS) rfl (w_partition_Name hx21) ⟨lr, lr, trivial⟩ rfl rfl rfl) <| o_yes rfl rfl hb20 <| o_p rfl (p_seql rfl rfl) <| o_p rfl (p_pick_t rfl hb20 rfl) <| mB rfl <| r_ch h22 (fun hb23 h23 => ?_) (fun hb23 h23 => ?_)
     ·
      refine o_yes rfl rfl hb23 <| mS rfl <| o_yes rfl rfl hb23 <| o_p rfl (p_seql rfl rfl) <| o_p rfl (p_pick_t rfl hb23 rfl) <| mB rfl <| r_ch h23 (fun hb24 h24 => ?_) (fun hb24 h24 => ?_)
      ·
       refine o_yes rfl rfl hb24 <| mI rfl <| o_yes rfl rfl hb24 <| o_p rfl (p_eql rfl rfl) <| o_p rfl (p_pick_t rfl hb24 rfl) <| mB rfl <| r_ch h24 (fun hb25 h25 => ?_) (fun hb25 h25 => ?_)
       ·
        refine o_yes rfl rfl hb25 <| mB rfl <| o_p rfl (p_pick_t rfl hb25 rfl) <| mB rfl <| r_ch h25 (fun hb26 h26 => ?_) (fun hb26 h26 => ?_)
        ·
         refine o_yes rfl rfl hb26 <| mB rfl <| o_yes rfl rfl hb26 <| o_p rfl (p_not rfl) <| o_p rfl (p_pick_t rfl hb26 rfl) <| mB rfl <| r_ch h26 (fun hb27 h27 => ?_) (fun hb27 h27 => ?_)
         ·
          refine o_yes rfl rfl hb27 <| mB rfl <| o_yes rfl rfl hb27 <| o_p rfl (p_not rfl) <| o_p rfl (p_pick_t rfl hb27 rfl) <| sB rfl <| o_ek (fr' := [(0, aB)]) rfl rfl <| w_ret ?_
          obtain rfl := sy h27
          exact e_ret (rs' := [.tmp 0]) rfl <| r_tmp (v := aB) rfl <| r_nil <| fin_gen [] rfl rfl rfl lr st_nil
         ·
          refine o_no rfl rfl hb27 <| o_no rfl rfl hb27 <| o_p rfl (p_pick_f rfl hb27 rfl) <| sB rfl <| o_ek (fr' := [(0, aB)]) rfl rfl <| w_ret ?_
          obtain rfl := sy h27
          exact e_ret (rs' := [.tmp 0]) rfl <| r_tmp (v := aB) rfl <| r_nil <| fin_gen [] rfl rfl rfl lr st_nil
        ·
         refine o_no rfl rfl hb26 <| o_no rfl rfl hb26 <| o_p rfl (p_pick_f rfl hb26 rfl) <| mB rfl <| o_no rfl rfl rfl <| o_no rfl rfl rfl <| o_p rfl (p_pick_f rfl rfl rfl) <| sB rfl <| o_ek (fr' := [(0, aB)]) rfl rfl <| w_ret ?_
         obtain rfl := sy h26
         exact e_ret (rs' := [.tmp 0]) rfl <| r_tmp (v := aB) rfl <| r_nil <| fin_gen [] rfl rfl rfl lr st_nil
       ·
        refine o_no rfl rfl hb25 <| o_p rfl (p_pick_f rfl hb25 rfl) <| mB rfl <| o_no rfl rfl rfl <| o_no rfl rfl rfl <| o_p rfl (p_pick_f rfl rfl rfl) <| mB rfl <| o_no rfl rfl rfl <| o_no rfl rfl rfl <| o_p rfl (p_pick_f rfl rfl rfl) <| sB rfl <| o_ek (fr' := [(0, aB)]) rfl rfl <| w_ret ?_
        obtain rfl := sy h25
        exact e_ret (rs' := [.tmp 0]) rfl <| r_tmp (v := aB) rfl <| r_nil <| fin_gen [] rfl rfl rfl lr st_nil
      ·
       refine o_no rfl rfl hb24 <| o_no rfl rfl hb24 <| o_p rfl (p_pick_f rfl hb24 rfl) <| mB rfl <| o_no rfl rfl rfl <| o_p rfl (p_pick_f rfl rfl rfl) <| mB rfl <| o_no rfl rfl rfl <| o_no rfl rfl rfl <| o_p rfl (p_pick_f rfl rfl rfl) <| mB rfl <| o_no rfl rfl rfl <| o_no rfl rfl rfl ?_
       refine o_p rfl (p_pick_f rfl rfl rfl) <| sB rfl <| o_ek (fr' := [(0, aB)]) rfl rfl <| w_ret ?_
       obtain rfl := sy h24
       exact e_ret (rs' := [.tmp 0]) rfl <| r_tmp (v := aB) rfl <| r_nil <| fin_gen [] rfl rfl rfl lr st_nil
     ·
      refine o_no rfl rfl hb23 <| o_no rfl rfl hb23 <| o_p rfl (p_pick_f rfl hb23 rfl) <| mB rfl <| o_no rfl rfl rfl <| o_no rfl rfl rfl <| o_p rfl (p_pick_f rfl rfl rfl) <| mB rfl <| o_no rfl rfl rfl <| o_p rfl (p_pick_f rfl rfl rfl) <| mB rfl <| o_no rfl rfl rfl <| o_no rfl rfl rfl ?_
      refine o_p rfl (p_pick_f rfl rfl rfl) <| mB rfl <| o_no rfl rfl rfl <| o_no rfl rfl rfl <| o_p rfl (p_pick_f rfl rfl rfl) <| sB rfl <| o_ek (fr' := [(0, aB)]) rfl rfl <| w_ret ?_
      obtain rfl := sy h23
      exact e_ret (rs' := [.tmp 0]) rfl <| r_tmp (v := aB) rfl <| r_nil <| fin_gen [] rfl rfl rfl lr st_nil
    ·
     refine o_no rfl rfl hb20 <| o_no rfl rfl hb20 <| o_p rfl (p_pick_f rfl hb20 rfl) <| mB rfl <| o_no rfl rfl rfl <| o_no rfl rfl rfl <| o_p rfl (p_pick_f rfl rfl rfl) <| mB rfl <| o_no rfl rfl rfl <| o_no rfl rfl rfl <| o_p rfl (p_pick_f rfl rfl rfl) <| mB rfl <| o_no rfl rfl rfl ?_
     refine o_p rfl (p_pick_f rfl rfl rfl) <| mB rfl <| o_no rfl rfl rfl <| o_no rfl rfl rfl <| o_p rfl (p_pick_f rfl rfl rfl) <| mB rfl <| o_no rfl rfl rfl <| o_no rfl rfl rfl <| o_p rfl (p_pick_f rfl rfl rfl) <| sB rfl <| o_ek (fr' := [(0, aB)]) rfl rfl <| w_ret ?_
     obtain rfl := sy h20
     exact e_ret (rs' := [.tmp 0]) rfl <| r_tmp (v := aB) rfl <| r_nil <| fin_gen [] rfl rfl rfl lr st_nil
   ·
    refine o_no rfl rfl hb15 <| o_no rfl rfl hb15 <| o_no rfl rfl hb15 <| o_p rfl (p_pick_f rfl hb15 rfl) <| mB rfl <| o_no rfl rfl rfl <| o_no rfl rfl rfl <| o_p rfl (p_pick_f rfl rfl rfl) <| mB rfl <| o_no rfl rfl rfl <| o_no rfl rfl rfl <| o_p rfl (p_pick_f rfl rfl rfl) <| mB rfl ?_
    refine o_no rfl rfl rfl <| o_no rfl rfl rfl <| o_p rfl (p_pick_f rfl rfl rfl) <| mB rfl <| o_no rfl rfl rfl <| o_p rfl (p_pick_f rfl rfl rfl) <| mB rfl <| o_no rfl rfl rfl <| o_no rfl rfl rfl <| o_p rfl (p_pick_f rfl rfl rfl) <| mB rfl <| o_no rfl rfl rfl <| o_no rfl rfl rfl ?_
    refine o_p rfl (p_pick_f rfl rfl rfl) <| sB rfl <| o_ek (fr' := [(0, aB)]) rfl rfl <| w_ret ?_
    obtain rfl := sy h15
    exact e_ret (rs' := [.tmp 0]) rfl <| r_tmp (v := aB) rfl <| r_nil <| fin_gen [] rfl rfl rfl lr st_nil
  ·
   refine o_no rfl rfl hb10 <| o_no rfl rfl hb10 <| o_no rfl rfl hb10 <| o_p rfl (p_pick_f rfl hb10 rfl) <| mB rfl <| o_no rfl rfl rfl <| o_no rfl rfl rfl <| o_no rfl rfl rfl <| o_p rfl (p_pick_f rfl rfl rfl) <| mB rfl <| o_no rfl rfl rfl <| o_no rfl rfl rfl <| o_p rfl (p_pick_f rfl rfl rfl) ?_
   refine mB rfl <| o_no rfl rfl rfl <| o_no rfl rfl rfl <| o_p rfl (p_pick_f rfl rfl rfl) <| mB rfl <| o_no rfl rfl rfl <| o_no rfl rfl rfl <| o_p rfl (p_pick_f rfl rfl rfl) <| mB rfl <| o_no rfl rfl rfl <| o_p rfl (p_pick_f rfl rfl rfl) <| mB rfl <| o_no rfl rfl rfl ?_
   refine o_no rfl rfl rfl <| o_p rfl (p_pick_f rfl rfl rfl) <| mB rfl <| o_no rfl rfl rfl <| o_no rfl rfl rfl <| o_p rfl (p_pick_f rfl rfl rfl) <| sB rfl <| o_ek (fr' := [(0, aB)]) rfl rfl <| w_ret ?_
   obtain rfl := sy h10
   exact e_ret (rs' := [.tmp 0]) rfl <| r_tmp (v := aB) rfl <| r_nil <| fin_gen [] rfl rfl rfl lr st_nil
 ·
  refine o_no rfl rfl hb9 <| o_p rfl (p_pick_f rfl hb9 rfl) <| mB rfl <| o_no rfl rfl rfl <| o_no rfl rfl rfl <| o_no rfl rfl rfl <| o_p rfl (p_pick_f rfl rfl rfl) <| mB rfl <| o_no rfl rfl rfl <| o_no rfl rfl rfl <| o_no rfl rfl rfl <| o_p rfl (p_pick_f rfl rfl rfl) <| mB rfl ?_
  refine o_no rfl rfl rfl <| o_no rfl rfl rfl <| o_p rfl (p_pick_f rfl rfl rfl) <| mB rfl <| o_no rfl rfl rfl <| o_no rfl rfl rfl <| o_p rfl (p_pick_f rfl rfl rfl) <| mB rfl <| o_no rfl rfl rfl <| o_no rfl rfl rfl <| o_p rfl (p_pick_f rfl rfl rfl) <| mB rfl <| o_no rfl rfl rfl ?_
  refine o_p rfl (p_pick_f rfl rfl rfl) <| mB rfl <| o_no rfl rfl rfl <| o_no rfl rfl rfl <| o_p rfl (p_pick_f rfl rfl rfl) <| mB rfl <| o_no rfl rfl rfl <| o_no rfl rfl rfl <| o_p rfl (p_pick_f rfl rfl rfl) <| sB rfl <| o_ek (fr' := [(0, aB)]) rfl rfl <| w_ret ?_
  obtain rfl := sy h9
  exact e_ret (rs' := [.tmp 0]) rfl <| r_tmp (v := aB) rfl <| r_nil <| fin_gen [] rfl rfl rfl lr st_nil
noncomputable def hash_Fnv_l1 (p0s : (List UInt8)) (s4 : (Int × Int)) : Option (Step (Int × Int) Int) :=
 cond (decide (s4.2 < ((p0s).length : Int))) ((idx p0s s4.2).bind fun (x6 : UInt8) => some (Step.next ((IntKind.wrap .u32 ((abits .xor .u32 s4.1 (IntKind.wrap .u32 ((x6).toNat : Int))) * (16777619 : Int))), (IntKind.wrap .i64 (s4.2 + (1 : Int)))))) (some (Step.out s4.1))
noncomputable def hash_Fnv (p0s : (List UInt8)) : Option Int :=
 ((loopO (hash_Fnv_l1 p0s) (((2166136261 : Int), (0 : Int)))) : Option Int).bind fun (x1 : Int) => (some (IntKind.wrap .i64 x1))
theorem w_hash_Fnv {p0s : (List UInt8)} {res : Int} (h : hash_Fnv p0s = some res) : ACalls Tryd.prog 70 [.c (.str p0s)] [] (.c (.int .i64 res)) [] := by
 unfold hash_Fnv at h
 refine acalls (fn := Tryd.f70) [0, 2, 3, 4, 6, 7, 8] (by kernel_rfl) Tryd.func70 rfl (by kernel_rfl) (by kernel_rfl) <| w_sr <| sI rfl <| o_ek (fr' := [(0, aS)]) rfl rfl <| w_sr <| sI rfl <| o_ek (fr' := [(0, aS), (3, aI)]) rfl rfl <| w_seqw <| w_sr <| mS rfl ?_
 refine o_p rfl (p_lens ti9 rfl) <| mI rfl <| o_ek (fr' := [(0, aS), (3, aI), (6, aI), (7, aI)]) rfl rfl ?_
 obtain ⟨x1, hx1, h2⟩ := bind_s h
 refine w_jtail cl_kw (fun j3 => x1 = j3) (fun (j3 : Int) => ([(3, .c (.int .u32 j3))] : Fr)) (fun (j3 : Int) => ([] : St)) ?_ ?_
 ·
  refine w_block <| w_loopo _ (fun (s4 : (Int × Int)) => ([(0, .c (.str p0s)), (3, .c (.int .u32 s4.1)), (6, .c (.int .i64 ((p0s).length : Int))), (7, .c (.int .i64 s4.2))] : Fr)) (fun (s4 : (Int × Int)) => ([] : St)) hx1 (w_weak [] 0 rfl rfl rfl rfl ⟨lr, lr, lr, lr, trivial⟩ st_nil) ?_
  intro s4 st4 hs4 ho4
  unfold hash_Fnv_l1 at hs4
  refine w_sr <| o_p rfl (p_lss rfl rfl) <| o_ek (fr' := [(0, aS), (3, aI), (6, aI), (7, aI), (8, aB)]) rfl rfl <| w_seqw <| w_ch hs4 rfl (fun hb5 h5 => ?_) (fun hb5 h5 => ?_)
  ·
   refine w_skip <| e_kw <| w_seqw <| w_block <| w_sr <| mI rfl <| sI rfl <| o_ek (fr' := [(0, aS), (3, aI), (4, aI), (6, aI), (7, aI)]) rfl rfl <| w_region <| mI rfl <| mS rfl <| mI rfl ?_
   obtain ⟨x6, hx6, h7⟩ := bind_s h5
   exact o_p rfl (p_is ti9 rfl rfl hx6) <| o_p rfl (p_conv tk5 tk166 rfl) <| o_p rfl (p_xor rfl rfl) <| o_p rfl (p_mul rfl rfl) <| sI rfl <| o_end (fr' := [(0, aS), (3, aI), (4, aI), (6, aI), (7, aI)]) rfl <| e_blk_n <| e_kw <| w_region <| o_p rfl (p_add rfl rfl) <| mI rfl <| o_end (fr' := [(0, aS), (3, aI), (4, aI), (6, aI), (7, aI)]) rfl <| e_l _ (sy h7) (w_weak [] 0 rfl rfl rfl rfl ⟨lr, lr, lr, lr, trivial⟩ st_nil)
  ·
   refine w_exit <| e_seq_x <| e_seq_x <| e_blk_h ?_
   have h8 := un_out h5 ho4
   exact e_j _ (sy h8) (w_weak [] 0 rfl rfl rfl rfl ⟨lr, trivial⟩ st_nil)
 ·
  intro j3 hj9
  subst hj9
  refine e_kw <| w_sr <| mI rfl <| o_p rfl (p_conv tk166 tk3 rfl) <| sI rfl <| o_ek (fr' := [(2, aI)]) rfl rfl <| w_ret ?_
  obtain rfl := sy h2
  exact e_ret (rs' := [.tmp 2]) rfl <| r_tmp (v := aI) rfl <| r_nil <| fin_gen [] rfl rfl rfl lr st_nil
noncomputable def hash_Bucket (p0s : (List UInt8)) (p1n : Int) : Option Int :=
 cond (decide (p1n < (1 : Int))) (some (0 : Int)) ((hash_Fnv p0s).bind fun (x3 : Int) => (nz p1n).bind fun (x5 : Int) => some (Int.tmod x3 p1n))
theorem w_hash_Bucket {p0s : (List UInt8)} {p1n : Int} {res : Int} (h : hash_Bucket p0s p1n = some res) : ACalls Tryd.prog 36 [.c (.str p0s), .c (.int .i64 p1n)] [] (.c (.int .i64 res)) [] := by
 unfold hash_Bucket at h
 refine acalls (fn := Tryd.f36) [0, 1, 4, 6] (by kernel_rfl) Tryd.func36 rfl (by kernel_rfl) (by kernel_rfl) <| w_sr <| sI rfl <| o_ek (fr' := [(0, aS), (1, aI)]) rfl rfl <| w_seqw <| w_sr <| mI rfl <| o_p rfl (p_lss rfl rfl) <| o_ek (fr' := [(0, aS), (1, aI), (6, aB)]) rfl rfl <| w_ch h rfl (fun hb1 h1 => ?_) (fun hb1 h1 => ?_)
 ·
  refine w_sr <| sI rfl <| o_ek (fr' := [(4, aI)]) rfl rfl <| w_ret <| e_seq_r ?_
  obtain rfl := sy h1
  exact e_ret (rs' := [.tmp 4]) rfl <| r_tmp (v := aI) rfl <| r_nil <| fin_gen [] rfl rfl rfl lr st_nil
 ·
  refine w_skip <| e_kw <| w_sr <| mS rfl ?_
  obtain ⟨x3, hx3, h4⟩ := bind_s h1
  refine o_v (ov_call (v := aI) rfl (w_hash_Fnv hx3) ⟨lr, trivial⟩ rfl rfl rfl) <| mI rfl ?_
  obtain ⟨x5, hx5, h6⟩ := bind_s h4
  refine o_p rfl (p_rem rfl rfl (nz_some hx5).1) <| sI rfl <| o_ek (fr' := [(4, aI)]) rfl rfl <| w_ret ?_
  obtain rfl := sy h6
  exact e_ret (rs' := [.tmp 4]) rfl <| r_tmp (v := aI) rfl <| r_nil <| fin_gen [] rfl rfl rfl lr st_nil
noncomputable def partition_Of (p0key : (List UInt8)) (p1n : Int) : Option Int :=
 cond (cond (decide (p1n < (1 : Int))) true (decide ((16 : Int) < p1n))) (some (0 : Int)) ((hash_Bucket p0key p1n).bind fun (x3 : Int) => some x3)
theorem w_partition_Of {p0key : (List UInt8)} {p1n : Int} {res : Int} (h : partition_Of p0key p1n = some res) : ACalls Tryd.prog 17 [.c (.str p0key), .c (.int .i64 p1n)] [] (.c (.int .i64 res)) [] := by
 unfold partition_Of at h
 refine acalls (fn := Tryd.f17) [0, 1, 4, 10] (by kernel_rfl) Tryd.func17 rfl (by kernel_rfl) (by kernel_rfl) <| w_sr <| sI rfl <| o_ek (fr' := [(0, aS), (1, aI)]) rfl rfl <| w_seqw <| w_sr <| mI rfl <| o_p rfl (p_lss rfl rfl) <| mB rfl <| og rfl rfl rfl (fun hc => (p_move (v := aI) rfl)) <| og rfl rfl rfl (fun hc => (p_gtr (gx rfl hc) rfl)) ?_
 refine o_p rfl (p_pickz rfl rfl rfl (fun e => keq e)) <| o_ek (fr' := [(0, aS), (1, aI), (10, aB)]) rfl rfl <| w_ch h rfl (fun hb1 h1 => ?_) (fun hb1 h1 => ?_)
 ·
  refine w_sr <| sI rfl <| o_ek (fr' := [(4, aI)]) rfl rfl <| w_ret <| e_seq_r ?_
  obtain rfl := sy h1
  exact e_ret (rs' := [.tmp 4]) rfl <| r_tmp (v := aI) rfl <| r_nil <| fin_gen [] rfl rfl rfl lr st_nil
 ·
  refine w_skip <| e_kw <| w_sr <| mS rfl <| mI rfl ?_
  obtain ⟨x3, hx3, h4⟩ := bind_s h1
  refine o_v (ov_call (v := aI) rfl (w_hash_Bucket hx3) ⟨lr, lr, trivial⟩ rfl rfl rfl) <| sI rfl <| o_ek (fr' := [(4, aI)]) rfl rfl <| w_ret ?_
  obtain rfl := sy h4
  exact e_ret (rs' := [.tmp 4]) rfl <| r_tmp (v := aI) rfl <| r_nil <| fin_gen [] rfl rfl rfl lr st_nil
noncomputable def law39xPartitionForest_l2 (p1o : Int) (p2d : Int) (s10 : ((List Int) × Int)) (x12 : (List Int)) (s17 : ((List Int) × Int)) : Option (Step ((List Int) × Int) (Fl (Step ((List Int) × Int) (Fl Bool (List Int))) (List Int))) :=
 cond (decide (s17.2 < ((x12).length : Int))) ((idx x12 s17.2).bind fun (x19 : Int) => (partition_Parent x19 p1o).bind fun (x21 : (Int × Bool)) => (gd ((cond (!x21.2) true (!decide (x21.1 = s10.2))) == false) (idx x12 s17.2)).bind fun (x23 : Int) => (gd ((cond (cond (!x21.2) true (!decide (x21.1 = s10.2))) true (decide (x23 ≤ x21.1))) == false) (idx x12 s17.2)).bind fun (x25 : Int) => cond (cond (cond (cond (!x21.2) true (!decide (x21.1 = s10.2))) true (decide (x23 ≤ x21.1))) true (decide (p2d ≤ x25))) (some (Step.out (Fl.done (Step.out (Fl.done false))))) ((idx x12 s17.2).bind fun (x33 : Int) => (idx s17.1 x33).bind fun (x35 : Int) => (idx s17.1 x33).bind fun (x37 : Int) => some (Step.next ((List.set s17.1 (Int.toNat x33) (IntKind.wrap .i64 (x35 + (1 : Int)))), (IntKind.wrap .i64 (s17.2 + (1 : Int))))))) (some (Step.out (Fl.go s17.1)))
noncomputable def law39xPartitionForest_l3 (p1o : Int) (x41 : (List Int)) (s54 : Int) : Option (Step Int (Fl (Step ((List Int) × Int) (Fl Bool (List Int))) Unit)) :=
 cond (decide (s54 < ((x41).length : Int))) ((idx x41 (IntKind.wrap .i64 (s54 - (1 : Int)))).bind fun (x56 : Int) => (partition_Parent x56 p1o).bind fun (x58 : (Int × Bool)) => (idx x41 s54).bind fun (x60 : Int) => cond (!decide (x58.1 = x60)) (some (Step.out (Fl.done (Step.out (Fl.done false))))) (some (Step.next (IntKind.wrap .i64 (s54 + (1 : Int)))))) (some (Step.out (Fl.go ())))
noncomputable def law39xPartitionForest_l1 (p1o : Int) (p2d : Int) (s10 : ((List Int) × Int)) : Option (Step ((List Int) × Int) (Fl Bool (List Int))) :=
 cond (decide (s10.2 < p2d)) ((partition_Children s10.2 p1o p2d).bind fun (x12 : (List Int)) => ((loopO (law39xPartitionForest_l2 p1o p2d s10 x12) ((s10.1, (0 : Int)))) : Option (Fl (Step ((List Int) × Int) (Fl Bool (List Int))) (List Int))).bind fun (x14 : (Fl (Step ((List Int) × Int) (Fl Bool (List Int))) (List Int))) => Fl.next x14 (fun (j16 : (List Int)) => ((partition_Path s10.2 p1o).bind fun (x41 : (List Int)) => (gd ((decide (((x41).length : Int) < (1 : Int))) == false) (idx x41 (0 : Int))).bind fun (x43 : Int) => (gd ((cond (decide (((x41).length : Int) < (1 : Int))) true (!decide (x43 = s10.2))) == false) (idx x41 (IntKind.wrap .i64 (((x41).length : Int) - (1 : Int))))).bind fun (x45 : Int) => cond (cond (cond (decide (((x41).length : Int) < (1 : Int))) true (!decide (x43 = s10.2))) true (!decide (x45 = (0 : Int)))) (some (Step.out (Fl.done false))) (((loopO (law39xPartitionForest_l3 p1o x41) ((1 : Int))) : Option (Fl (Step ((List Int) × Int) (Fl Bool (List Int))) Unit)).bind fun (x51 : (Fl (Step ((List Int) × Int) (Fl Bool (List Int))) Unit)) => Fl.next x51 (fun (j53 : Unit) => (some (Step.next (j16, (IntKind.wrap .i64 (s10.2 + (1 : Int))))))))))) (some (Step.out (Fl.go s10.1)))
noncomputable def law39xPartitionForest_l4 (j9 : (List Int)) (p2d : Int) (s75 : Int) : Option (Step Int (Fl Bool Unit)) :=
 cond (decide (s75 < p2d)) ((idx j9 s75).bind fun (x77 : Int) => cond (!decide (x77 = (1 : Int))) (some (Step.out (Fl.done false))) (some (Step.next (IntKind.wrap .i64 (s75 + (1 : Int)))))) (some (Step.out (Fl.go ())))
noncomputable def law39xPartitionForest (p0C : (List UInt8)) (p1o : Int) (p2d : Int) : Option Bool :=
 cond (cond (cond (cond (decide ((10000 : Int) < ((p0C).length : Int))) true (decide (p1o < (1 : Int)))) true (decide (p2d < (1 : Int)))) true (decide ((16 : Int) < p2d))) ((law39xlives).bind fun (x2 : Bool) => some x2) ((mkS 8 p2d).bind fun (x5 : Unit) => ((loopO (law39xPartitionForest_l1 p1o p2d) (((List.replicate (Int.toNat p2d) (0 : Int)), (0 : Int)))) : Option (Fl Bool (List Int))).bind fun (x7 : (Fl Bool (List Int))) => Fl.next x7 (fun (j9 : (List Int)) => (((loopO (law39xPartitionForest_l4 j9 p2d) ((1 : Int))) : Option (Fl Bool Unit)).bind fun (x72 : (Fl Bool Unit)) => Fl.next x72 (fun (j74 : Unit) => ((partition_Of p0C p2d).bind fun (x85 : Int) => (idx j9 (0 : Int)).bind fun (x87 : Int) => (gd ((cond (cond (decide (x87 = (0 : Int))) (decide ((0 : Int) ≤ x85)) false) (decide (x85 < p2d)) false) == true) (law39xlives)).bind fun (x89 : Bool) => some (cond (cond (cond (decide (x87 = (0 : Int))) (decide ((0 : Int) ≤ x85)) false) (decide (x85 < p2d)) false) x89 false))))))
theorem w_law39xPartitionForest {p0C : (List UInt8)} {p1o : Int} {p2d : Int} {res : Bool} (h : law39xPartitionForest p0C p1o p2d = some res) : ACalls Tryd.prog 4 [.c (.str p0C), .c (.int .i64 p1o), .c (.int .i64 p2d)] [] (.c (.bool res)) [] := by
 unfold law39xPartitionForest at h
 refine acalls (fn := Tryd.f4) [0, 1, 2, 6, 7, 8, 9, 10, 11, 12, 13, 14, 15, 17, 18, 33, 39, 49, 83, 114, 118, 136, 139, 146] (by kernel_rfl) Tryd.func4 rfl (by kernel_rfl) (by kernel_rfl) <| w_sr <| sB rfl <| o_ek (fr' := [(0, aS), (1, aI), (2, aI)]) rfl rfl <| w_seqw <| w_sr <| mS rfl <| o_p rfl (p_lens ti9 rfl) <| o_p rfl (p_gtr rfl rfl) <| mB rfl <| og rfl rfl rfl (fun hc => (p_move (v := aI) rfl)) ?_
 refine og rfl rfl rfl (fun hc => (p_lss (gx rfl hc) rfl)) <| o_p rfl (p_pickz rfl rfl rfl (fun e => keq e)) <| mB rfl <| og rfl rfl rfl (fun hc => (p_move (v := aI) rfl)) <| og rfl rfl rfl (fun hc => (p_lss (gx rfl hc) rfl)) <| o_p rfl (p_pickz rfl rfl rfl (fun e => keq e)) <| mB rfl <| og rfl rfl rfl (fun hc => (p_move (v := aI) rfl)) <| og rfl rfl rfl (fun hc => (p_gtr (gx rfl hc) rfl)) <| o_p rfl (p_pickz rfl rfl rfl (fun e => keq e)) <| o_ek (fr' := [(0, aS), (1, aI), (2, aI), (33, aB)]) rfl rfl <| w_ch h rfl (fun hb1 h1 => ?_) (fun hb1 h1 => ?_)
 ·
  refine w_seqw <| w_region ?_
  obtain ⟨x2, hx2, h3⟩ := bind_s h1
  refine o_v (ov_call (v := aB) rfl (w_law39xlives hx2) trivial rfl rfl rfl) <| sB rfl <| o_ek (fr' := [(6, aB)]) rfl rfl <| w_ret <| e_seq_r ?_
  obtain rfl := sy h3
  exact e_ret (rs' := [.tmp 6]) rfl <| r_tmp (v := aB) rfl <| r_nil <| fin_gen [] rfl rfl rfl lr st_nil
 ·
  refine w_skip <| e_kw <| w_sr <| mI rfl ?_
  obtain ⟨x5, hx5, h6⟩ := bind_s h1
  refine o_make (row := (rowI .i64)) (z := (0 : Int)) ts40 tz3 rfl rfl rfl rfl hx5 <| sV (v := aM) rfl <| o_ek (fr' := [(0, aS), (1, aI), (2, aI), (7, aM)]) rfl rfl <| w_seqw <| w_sr <| sI rfl <| o_ek (fr' := [(0, aS), (1, aI), (2, aI), (7, aM), (8, aI)]) rfl rfl ?_
  obtain ⟨x7, hx7, h8⟩ := bind_s h6
  refine w_jtail cl_kw (fun j9 => x7 = Fl.go j9) (fun (j9 : (List Int)) => ([(0, .c (.str p0C)), (2, .c (.int .i64 p2d)), (7, AV.os 0 1 (rowI .i64) j9)] : Fr)) (fun (j9 : (List Int)) => ([] : St)) ?_ ?_
  ·
   refine w_block <| w_loopo _ (fun (s10 : ((List Int) × Int)) => ([(0, .c (.str p0C)), (1, .c (.int .i64 p1o)), (2, .c (.int .i64 p2d)), (7, AV.ms 0 1 (rowI .i64) s10.1), (8, .c (.int .i64 s10.2))] : Fr)) (fun (s10 : ((List Int) × Int)) => ([] : St)) hx7 (w_weak [576] 0 rfl rfl rfl rfl ⟨lr, lr, lr, lr, lr, trivial⟩ st_nil) ?_
   intro s10 st10 hs10 ho10
   unfold law39xPartitionForest_l1 at hs10
   refine w_seqw <| w_sr <| mI rfl <| mI rfl <| o_p rfl (p_lss rfl rfl) <| o_ek (fr' := [(0, aS), (1, aI), (2, aI), (7, aM), (8, aI), (39, aB)]) rfl rfl <| w_ch hs10 rfl (fun hb11 h11 => ?_) (fun hb11 h11 => ?_)
   ·
    refine w_skip <| e_kw <| w_seqw <| w_block <| w_sr <| mI rfl <| mI rfl <| mI rfl ?_
    obtain ⟨x12, hx12, h13⟩ := bind_s h11
    refine o_v (ov_call (v := aO) rfl (w_partition_Children hx12) ⟨lr, lr, lr, trivial⟩ rfl rfl rfl) <| sV (v := aO) rfl <| o_ek (fr' := [(0, aS), (1, aI), (2, aI), (7, aM), (8, aI), (9, aO)]) rfl rfl <| w_seqw <| w_sr <| sI rfl <| o_ek (fr' := [(0, aS), (1, aI), (2, aI), (7, aM), (8, aI), (9, aO), (10, aI)]) rfl rfl ?_
    obtain ⟨x14, hx14, h15⟩ := bind_s h13
    refine w_jtail cl_kw (fun j16 => x14 = Fl.go j16) (fun (j16 : (List Int)) => ([(0, .c (.str p0C)), (1, .c (.int .i64 p1o)), (2, .c (.int .i64 p2d)), (7, AV.ms 0 1 (rowI .i64) j16), (8, .c (.int .i64 s10.2))] : Fr)) (fun (j16 : (List Int)) => ([] : St)) ?_ ?_
    ·
     refine w_block <| w_loopo _ (fun (s17 : ((List Int) × Int)) => ([(0, .c (.str p0C)), (1, .c (.int .i64 p1o)), (2, .c (.int .i64 p2d)), (7, AV.ms 0 1 (rowI .i64) s17.1), (8, .c (.int .i64 s10.2)), (9, AV.os 1 1 (rowI .i64) x12), (10, .c (.int .i64 s17.2))] : Fr)) (fun (s17 : ((List Int) × Int)) => ([] : St)) hx14 (w_weak [0, 720] 0 rfl rfl rfl rfl ⟨lr, lr, lr, lr, lr, lr, lr, trivial⟩ st_nil) ?_
     intro s17 st17 hs17 ho17
     unfold law39xPartitionForest_l2 at hs17
     refine w_seqw <| w_sr <| mI rfl <| mV (v := aO) rfl <| o_p rfl (p_len ti40 (isl_o rfl)) <| o_p rfl (p_lss rfl rfl) <| o_ek (fr' := [(0, aS), (1, aI), (2, aI), (7, aM), (8, aI), (9, aO), (10, aI), (49, aB)]) rfl rfl <| w_ch hs17 rfl (fun hb18 h18 => ?_) (fun hb18 h18 => ?_)
     ·
      refine w_skip <| e_kw <| w_seqw <| w_block <| w_sr <| mV (v := aO) rfl <| mI rfl ?_
      obtain ⟨x19, hx19, h20⟩ := bind_s h18
      refine o_p rfl (p_ia (cs := [PV.int _ _]) ts40 (isl_o rfl) rfl hx19 rfl) <| o_p rfl (p_loade (p := PV.int _ _) tv3 rfl rfl) <| mI rfl ?_
      obtain ⟨x21, hx21, h22⟩ := bind_s h20
      refine o_v (ov_call (v := .tup [aI, aB]) rfl (w_partition_Parent hx21) ⟨lr, lr, trivial⟩ rfl rfl rfl) <| mV (v := .tup [aI, aB]) rfl <| o_p rfl (p_ex (v := aI) rfl rfl) <| o_p rfl (p_ex (v := aB) rfl rfl) <| sI rfl <| sB rfl <| o_ek (fr' := [(0, aS), (1, aI), (2, aI), (7, aM), (8, aI), (9, aO), (10, aI), (11, aI), (12, aB)]) rfl rfl <| w_seqw <| w_sr <| mB rfl <| o_p rfl (p_not rfl) <| mB rfl ?_
      refine og rfl rfl rfl (fun hc => (p_move (v := aI) rfl)) <| og rfl rfl rfl (fun hc => (p_move (v := aI) rfl)) <| og rfl rfl rfl (fun hc => (p_neq (gx rfl hc) (gx rfl hc))) <| o_p rfl (p_pickz rfl rfl rfl (fun e => keq e)) <| mB rfl <| og rfl rfl rfl (fun hc => (p_move (v := aI) rfl)) <| og rfl rfl rfl (fun hc => (p_move (v := aO) rfl)) <| og rfl rfl rfl (fun hc => (p_move (v := aI) rfl)) ?_
      obtain ⟨x23, hx23, h24⟩ := bind_s h22
      refine og rfl rfl rfl (fun hc => (p_ia (cs := [PV.int _ _]) ts40 (isl_o (gx rfl hc)) (gx rfl hc) (gd_some hx23 hc) rfl)) <| og rfl rfl rfl (fun hc => (p_loade (p := PV.int _ _) tv3 (gx rfl hc) rfl)) <| og rfl rfl rfl (fun hc => (p_geq (gx rfl hc) (gx rfl hc))) <| o_p rfl (p_pickz rfl rfl rfl (fun e => keq e)) <| mB rfl <| og rfl rfl rfl (fun hc => (p_move (v := aO) rfl)) <| og rfl rfl rfl (fun hc => (p_move (v := aI) rfl)) ?_
      obtain ⟨x25, hx25, h26⟩ := bind_s h24
      refine og rfl rfl rfl (fun hc => (p_ia (cs := [PV.int _ _]) ts40 (isl_o (gx rfl hc)) (gx rfl hc) (gd_some hx25 hc) rfl)) <| og rfl rfl rfl (fun hc => (p_loade (p := PV.int _ _) tv3 (gx rfl hc) rfl)) <| og rfl rfl rfl (fun hc => (p_move (v := aI) rfl)) <| og rfl rfl rfl (fun hc => (p_geq (gx rfl hc) (gx rfl hc))) <| o_p rfl (p_pickz rfl rfl rfl (fun e => keq e)) <| o_ek (fr' := [(0, aS), (1, aI), (2, aI), (7, aM), (8, aI), (9, aO), (10, aI), (83, aB)]) rfl rfl <| w_ch h26 rfl (fun hb27 h27 => ?_) (fun hb27 h27 => ?_)
      ·
       refine w_sr <| sB rfl <| o_ek (fr' := [(6, aB)]) rfl rfl <| w_ret <| e_seq_r <| e_blk_r <| e_seq_r <| e_seq_r <| e_blk_r <| e_seq_r <| e_seq_r <| e_blk_r ?_
       refine e_seq_r <| e_seq_r <| e_blk_r <| e_seq_r <| e_seq_r ?_
       have h28 := un_out h27 ho17
       have h29 := un_done h28 h15
       have h30 := un_out h29 ho10
       have h31 := un_done h30 h8
       obtain rfl := sy h31
       exact e_ret (rs' := [.tmp 6]) rfl <| r_tmp (v := aB) rfl <| r_nil <| fin_gen [] rfl rfl rfl lr st_nil
      ·
       refine w_skip <| e_kw <| w_region <| mV (v := aM) rfl <| mV (v := aO) rfl <| mI rfl ?_
       obtain ⟨x33, hx33, h34⟩ := bind_s h27
       refine o_p rfl (p_ia (cs := [PV.int _ _]) ts40 (isl_o rfl) rfl hx33 rfl) <| o_p rfl (p_loade (p := PV.int _ _) tv3 rfl rfl) ?_
       obtain ⟨x35, hx35, h36⟩ := bind_s h34
       refine o_p rfl (p_iam (cs := [PV.int _ _]) ts40 rfl rfl hx35 rfl) <| o_p rfl (p_loadm (p := PV.int _ _) tv3 rfl rfl) <| o_p rfl (p_add rfl rfl) ?_
       obtain ⟨x37, hx37, h38⟩ := bind_s h36
       exact o_p rfl (p_iam (cs := [PV.int _ _]) ts40 rfl rfl hx37 rfl) <| o_mst (v := aI) (cs := [PV.int _ _]) (row := (rowI .i64)) (xs := s17.1) (u := (IntKind.wrap .i64 (x35 + (1 : Int)))) [] [(92, 0)] tv3 rfl rfl rfl rfl rfl rfl rfl ⟨rfl, trivial⟩ rfl rfl <| o_end (fr' := [(0, aS), (1, aI), (2, aI), (7, aM), (8, aI), (9, aO), (10, aI), (83, aB)]) rfl <| e_blk_n <| e_kw <| w_region <| mI rfl <| o_p rfl (p_add rfl rfl) <| sI rfl <| o_end (fr' := [(0, aS), (1, aI), (2, aI), (7, aM), (8, aI), (9, aO), (10, aI), (83, aB)]) rfl <| e_l _ (sy h38) (w_weak [0, 1] 0 rfl rfl rfl rfl ⟨lr, lr, lr, lr, lr, lr, lr, trivial⟩ st_nil)
     ·
      refine w_exit <| e_seq_x <| e_seq_x <| e_blk_h ?_
      have h39 := un_out h18 ho17
      exact e_j _ (sy h39) (w_weak [0] 0 rfl rfl rfl rfl ⟨lr, lr, lr, lr, lr, trivial⟩ st_nil)
    ·
     intro j16 hj40
     have h40 := un_go hj40 h15
     refine e_kw <| w_sr <| mI rfl <| mI rfl ?_
     obtain ⟨x41, hx41, h42⟩ := bind_s h40
     refine o_v (ov_call (v := aO) rfl (w_partition_Path hx41) ⟨lr, lr, trivial⟩ rfl rfl rfl) <| sV (v := aO) rfl <| o_ek (fr' := [(0, aS), (1, aI), (2, aI), (7, aM), (8, aI), (13, aO)]) rfl rfl <| w_seqw <| w_sr <| mV (v := aO) rfl <| o_p rfl (p_len ti40 (isl_o rfl)) <| o_p rfl (p_lss rfl rfl) <| mB rfl <| og rfl rfl rfl (fun hc => (p_move (v := aO) rfl)) ?_
     obtain ⟨x43, hx43, h44⟩ := bind_s h42
     refine og rfl rfl rfl (fun hc => (p_ia (cs := [PV.int _ _]) ts40 (isl_o (gx rfl hc)) rfl (gd_some hx43 hc) rfl)) <| og rfl rfl rfl (fun hc => (p_loade (p := PV.int _ _) tv3 (gx rfl hc) rfl)) <| og rfl rfl rfl (fun hc => (p_move (v := aI) rfl)) <| og rfl rfl rfl (fun hc => (p_neq (gx rfl hc) (gx rfl hc))) <| o_p rfl (p_pickz rfl rfl rfl (fun e => keq e)) <| mB rfl <| og rfl rfl rfl (fun hc => (p_move (v := aO) rfl)) <| og rfl rfl rfl (fun hc => (p_move (v := aO) rfl)) <| og rfl rfl rfl (fun hc => (p_len ti40 (isl_o (gx rfl hc)))) <| og rfl rfl rfl (fun hc => (p_sub (gx rfl hc) rfl)) ?_
     obtain ⟨x45, hx45, h46⟩ := bind_s h44
     refine og rfl rfl rfl (fun hc => (p_ia (cs := [PV.int _ _]) ts40 (isl_o (gx rfl hc)) (gx rfl hc) (gd_some hx45 hc) rfl)) <| og rfl rfl rfl (fun hc => (p_loade (p := PV.int _ _) tv3 (gx rfl hc) rfl)) <| og rfl rfl rfl (fun hc => (p_neq (gx rfl hc) rfl)) <| o_p rfl (p_pickz rfl rfl rfl (fun e => keq e)) <| o_ek (fr' := [(0, aS), (1, aI), (2, aI), (7, aM), (8, aI), (13, aO), (114, aB)]) rfl rfl <| w_ch h46 rfl (fun hb47 h47 => ?_) (fun hb47 h47 => ?_)
     ·
      refine w_sr <| sB rfl <| o_ek (fr' := [(6, aB)]) rfl rfl <| w_ret <| e_seq_r <| e_blk_r <| e_seq_r <| e_seq_r <| e_blk_r <| e_seq_r <| e_seq_r ?_
      have h48 := un_out h47 ho10
      have h49 := un_done h48 h8
      obtain rfl := sy h49
      exact e_ret (rs' := [.tmp 6]) rfl <| r_tmp (v := aB) rfl <| r_nil <| fin_gen [] rfl rfl rfl lr st_nil
     ·
      refine w_skip <| e_kw <| w_sr <| sI rfl <| o_ek (fr' := [(0, aS), (1, aI), (2, aI), (7, aM), (8, aI), (13, aO), (14, aI)]) rfl rfl ?_
      obtain ⟨x51, hx51, h52⟩ := bind_s h47
      refine w_jtail (cl_b cl_kw) (fun j53 => x51 = Fl.go j53) (fun (j53 : Unit) => ([(0, .c (.str p0C)), (1, .c (.int .i64 p1o)), (2, .c (.int .i64 p2d)), (7, AV.ms 0 1 (rowI .i64) j16), (8, .c (.int .i64 s10.2))] : Fr)) (fun (j53 : Unit) => ([] : St)) ?_ ?_
      ·
       refine w_block <| w_loopo _ (fun (s54 : Int) => ([(0, .c (.str p0C)), (1, .c (.int .i64 p1o)), (2, .c (.int .i64 p2d)), (7, AV.ms 0 1 (rowI .i64) j16), (8, .c (.int .i64 s10.2)), (13, AV.os 1 1 (rowI .i64) x41), (14, .c (.int .i64 s54))] : Fr)) (fun (s54 : Int) => ([] : St)) hx51 (w_weak [0, 1520] 0 rfl rfl rfl rfl ⟨lr, lr, lr, lr, lr, lr, lr, trivial⟩ st_nil) ?_
       intro s54 st54 hs54 ho54
       unfold law39xPartitionForest_l3 at hs54
       refine w_seqw <| w_sr <| mI rfl <| mV (v := aO) rfl <| o_p rfl (p_len ti40 (isl_o rfl)) <| o_p rfl (p_lss rfl rfl) <| o_ek (fr' := [(0, aS), (1, aI), (2, aI), (7, aM), (8, aI), (13, aO), (14, aI), (118, aB)]) rfl rfl <| w_ch hs54 rfl (fun hb55 h55 => ?_) (fun hb55 h55 => ?_)
       ·
        refine w_skip <| e_kw <| w_seqw <| w_block <| w_sr <| mV (v := aO) rfl <| mI rfl <| o_p rfl (p_sub rfl rfl) ?_
        obtain ⟨x56, hx56, h57⟩ := bind_s h55
        refine o_p rfl (p_ia (cs := [PV.int _ _]) ts40 (isl_o rfl) rfl hx56 rfl) <| o_p rfl (p_loade (p := PV.int _ _) tv3 rfl rfl) <| mI rfl ?_
        obtain ⟨x58, hx58, h59⟩ := bind_s h57
        refine o_v (ov_call (v := .tup [aI, aB]) rfl (w_partition_Parent hx58) ⟨lr, lr, trivial⟩ rfl rfl rfl) <| mV (v := .tup [aI, aB]) rfl <| o_p rfl (p_ex (v := aI) rfl rfl) <| o_p rfl (p_ex (v := aB) rfl rfl) <| sI rfl <| sB rfl <| o_ek (fr' := [(0, aS), (1, aI), (2, aI), (7, aM), (8, aI), (13, aO), (14, aI), (15, aI)]) rfl rfl <| w_sr <| mI rfl <| mV (v := aO) rfl <| mI rfl ?_
        obtain ⟨x60, hx60, h61⟩ := bind_s h59
        refine o_p rfl (p_ia (cs := [PV.int _ _]) ts40 (isl_o rfl) rfl hx60 rfl) <| o_p rfl (p_loade (p := PV.int _ _) tv3 rfl rfl) <| o_p rfl (p_neq rfl rfl) <| o_ek (fr' := [(0, aS), (1, aI), (2, aI), (7, aM), (8, aI), (13, aO), (14, aI), (136, aB)]) rfl rfl <| w_ch h61 rfl (fun hb62 h62 => ?_) (fun hb62 h62 => ?_)
        ·
         refine w_sr <| sB rfl <| o_ek (fr' := [(6, aB)]) rfl rfl <| w_ret <| e_blk_r <| e_seq_r <| e_seq_r <| e_blk_r <| e_seq_r <| e_blk_r <| e_seq_r <| e_seq_r ?_
         refine e_blk_r <| e_seq_r <| e_seq_r ?_
         have h63 := un_out h62 ho54
         have h64 := un_done h63 h52
         have h65 := un_out h64 ho10
         have h66 := un_done h65 h8
         obtain rfl := sy h66
         exact e_ret (rs' := [.tmp 6]) rfl <| r_tmp (v := aB) rfl <| r_nil <| fin_gen [] rfl rfl rfl lr st_nil
        ·
         exact w_skip <| e_blk_n <| e_kw <| w_region <| mI rfl <| o_p rfl (p_add rfl rfl) <| sI rfl <| o_end (fr' := [(0, aS), (1, aI), (2, aI), (7, aM), (8, aI), (13, aO), (14, aI), (136, aB)]) rfl <| e_l _ (sy h62) (w_weak [0, 1] 0 rfl rfl rfl rfl ⟨lr, lr, lr, lr, lr, lr, lr, trivial⟩ st_nil)
       ·
        refine w_exit <| e_seq_x <| e_seq_x <| e_blk_h ?_
        have h68 := un_out h55 ho54
        exact e_j _ (sy h68) (w_weak [0] 0 rfl rfl rfl rfl ⟨lr, lr, lr, lr, lr, trivial⟩ st_nil)
      ·
       intro j53 hj69
       have h69 := un_go hj69 h52
       exact e_blk_n <| e_kw <| w_region <| mI rfl <| o_p rfl (p_add rfl rfl) <| sI rfl <| o_end (fr' := [(0, aS), (1, aI), (2, aI), (7, aM), (8, aI)]) rfl <| e_l _ (sy h69) (w_weak [0] 0 rfl rfl rfl rfl ⟨lr, lr, lr, lr, lr, trivial⟩ st_nil)
   ·
    refine w_exit <| e_seq_x <| e_seq_x <| e_blk_h ?_
    have h70 := un_out h11 ho10
    exact e_j _ (sy h70) (w_frz 0 1 (rowI .i64) s10.1 rfl rfl (w_weak [0] 0 rfl rfl rfl rfl ⟨lr, lr, lr, trivial⟩ st_nil))
  ·
   intro j9 hj71
   have h71 := un_go hj71 h8
   refine e_kw <| w_seqw <| w_sr <| sI rfl <| o_ek (fr' := [(0, aS), (2, aI), (7, aO), (17, aI)]) rfl rfl ?_
   obtain ⟨x72, hx72, h73⟩ := bind_s h71
   refine w_jtail cl_kw (fun j74 => x72 = Fl.go j74) (fun (j74 : Unit) => ([(0, .c (.str p0C)), (2, .c (.int .i64 p2d)), (7, AV.os 0 1 (rowI .i64) j9)] : Fr)) (fun (j74 : Unit) => ([] : St)) ?_ ?_
   ·
    refine w_block <| w_loopo _ (fun (s75 : Int) => ([(0, .c (.str p0C)), (2, .c (.int .i64 p2d)), (7, AV.os 0 1 (rowI .i64) j9), (17, .c (.int .i64 s75))] : Fr)) (fun (s75 : Int) => ([] : St)) hx72 (w_weak [0] 0 rfl rfl rfl rfl ⟨lr, lr, lr, lr, trivial⟩ st_nil) ?_
    intro s75 st75 hs75 ho75
    unfold law39xPartitionForest_l4 at hs75
    refine w_seqw <| w_sr <| mI rfl <| mI rfl <| o_p rfl (p_lss rfl rfl) <| o_ek (fr' := [(0, aS), (2, aI), (7, aO), (17, aI), (139, aB)]) rfl rfl <| w_ch hs75 rfl (fun hb76 h76 => ?_) (fun hb76 h76 => ?_)
    ·
     refine w_skip <| e_kw <| w_seqw <| w_block <| w_sr <| mV (v := aO) rfl <| mI rfl ?_
     obtain ⟨x77, hx77, h78⟩ := bind_s h76
     refine o_p rfl (p_ia (cs := [PV.int _ _]) ts40 (isl_o rfl) rfl hx77 rfl) <| o_p rfl (p_loade (p := PV.int _ _) tv3 rfl rfl) <| o_p rfl (p_neq rfl rfl) <| o_ek (fr' := [(0, aS), (2, aI), (7, aO), (17, aI), (146, aB)]) rfl rfl <| w_ch h78 rfl (fun hb79 h79 => ?_) (fun hb79 h79 => ?_)
     ·
      refine w_sr <| sB rfl <| o_ek (fr' := [(6, aB)]) rfl rfl <| w_ret <| e_blk_r <| e_seq_r <| e_seq_r <| e_blk_r <| e_seq_r <| e_seq_r ?_
      have h80 := un_out h79 ho75
      have h81 := un_done h80 h73
      obtain rfl := sy h81
      exact e_ret (rs' := [.tmp 6]) rfl <| r_tmp (v := aB) rfl <| r_nil <| fin_gen [] rfl rfl rfl lr st_nil
     ·
      exact w_skip <| e_blk_n <| e_kw <| w_region <| mI rfl <| o_p rfl (p_add rfl rfl) <| sI rfl <| o_end (fr' := [(0, aS), (2, aI), (7, aO), (17, aI), (146, aB)]) rfl <| e_l _ (sy h79) (w_weak [0] 0 rfl rfl rfl rfl ⟨lr, lr, lr, lr, trivial⟩ st_nil)
    ·
     refine w_exit <| e_seq_x <| e_seq_x <| e_blk_h ?_
     have h83 := un_out h76 ho75
     exact e_j _ (sy h83) (w_weak [0] 0 rfl rfl rfl rfl ⟨lr, lr, lr, trivial⟩ st_nil)
   ·
    intro j74 hj84
    have h84 := un_go hj84 h73
    refine e_kw <| w_sr <| mS rfl <| mI rfl ?_
    obtain ⟨x85, hx85, h86⟩ := bind_s h84
    refine o_v (ov_call (v := aI) rfl (w_partition_Of hx85) ⟨lr, lr, trivial⟩ rfl rfl rfl) <| sI rfl <| o_ek (fr' := [(2, aI), (7, aO), (18, aI)]) rfl rfl <| w_sr <| mV (v := aO) rfl ?_
    obtain ⟨x87, hx87, h88⟩ := bind_s h86
    refine o_p rfl (p_ia (cs := [PV.int _ _]) ts40 (isl_o rfl) rfl hx87 rfl) <| o_p rfl (p_loade (p := PV.int _ _) tv3 rfl rfl) <| o_p rfl (p_eql rfl rfl) <| mB rfl <| og rfl rfl rfl (fun hc => (p_move (v := aI) rfl)) <| og rfl rfl rfl (fun hc => (p_geq (gx rfl hc) rfl)) <| o_p rfl (p_picky rfl rfl rfl (fun e => keq e)) <| mB rfl <| og rfl rfl rfl (fun hc => (p_move (v := aI) rfl)) <| og rfl rfl rfl (fun hc => (p_move (v := aI) rfl)) <| og rfl rfl rfl (fun hc => (p_lss (gx rfl hc) (gx rfl hc))) <| o_p rfl (p_picky rfl rfl rfl (fun e => keq e)) <| mB rfl ?_
    obtain ⟨x89, hx89, h90⟩ := bind_s h88
    refine o_g rfl rfl (fun hc => ov_call (v := aB) rfl (w_law39xlives (gd_some hx89 hc)) trivial (ok_eq (by repeat (first | exact ok_nil | refine ok_cons rfl ?_ | refine ok_cons (dgv rfl) ?_ | refine ok_cons dar ?_))) rfl rfl) ?_
    refine o_p rfl (p_picky rfl rfl rfl (fun e => keq e)) <| sB rfl <| o_ek (fr' := [(6, aB)]) rfl rfl <| w_ret ?_
    obtain rfl := sy h90
    exact e_ret (rs' := [.tmp 6]) rfl <| r_tmp (v := aB) rfl <| r_nil <| fin_gen [] rfl rfl rfl lr st_nil
end Go.Proofs.YtmbdbdhdcbdcpaaDoor

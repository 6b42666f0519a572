import Derived.Test.YtnghhjokfelglaaDoorGATy
namespace Go.Proofs.YtnghhjokfelglaaDoor
open Go Abs
set_option maxRecDepth 100000
set_option linter.unusedVariables false
set_option linter.unusedSimpArgs false
noncomputable def partition_known (p0i : Int) : Option Bool :=
 some (cond (decide ((0 : Int) ≤ p0i)) (decide (p0i < (16 : Int))) false)
theorem w_partition_known {p0i : Int} {res : Bool} (h : partition_known p0i = some res) : ACalls Tryd.prog 39 [.c (.int .i64 p0i)] [] (.c (.bool res)) [] := by
 unfold partition_known at h
 refine acalls (fn := Tryd.f39) [0, 2] (by kernel_rfl) Tryd.func39 rfl (by kernel_rfl) (by kernel_rfl) <| w_sr <| sB rfl <| o_ek (fr' := [(0, aI)]) rfl rfl <| w_sr <| mI rfl <| o_p rfl (p_geq rfl rfl) <| mB rfl <| og rfl rfl rfl (fun hc => (p_move (v := aI) rfl)) <| og rfl rfl rfl (fun hc => (p_lss (gx rfl hc) rfl)) <| o_p rfl (p_picky rfl rfl rfl (fun e => keq e)) ?_
 refine sB rfl <| o_ek (fr' := [(2, aB)]) rfl rfl <| w_ret ?_
 obtain rfl := sy h
 exact e_ret (rs' := [.tmp 2]) rfl <| r_tmp (v := aB) rfl <| r_nil <| fin_gen [] rfl rfl rfl lr st_nil
noncomputable def strconv_Itoa (p0i : Int) : Option (List UInt8) :=
 if -9223372036854775808 ≤ p0i ∧ p0i ≤ 9223372036854775807 then some (Lib.itoa p0i) else none
theorem w_strconv_Itoa {p0i : Int} {res : (List UInt8)} (h : strconv_Itoa p0i = some res) : ACalls Tryd.prog 40 [.c (.int .i64 p0i)] [] (.c (.str res)) [] := by
 unfold strconv_Itoa at h
 obtain ⟨⟨h0, h1⟩, rfl⟩ := ite_some h
 refine acalls_lib (by kernel_rfl) fun g w vs hv hI hg => ?_
 rw [rc_int hv]
 refine (Tryd.strconv_Itoa p0i h0 h1 w (glo_tab hg)).mono fun e w' => ?_
 rintro ⟨he, k, os, rfl⟩
 exact ⟨_, he, Lib.below_grow _ _ (Nat.le_refl _) k os, fun g' => .c (.str _)⟩
noncomputable def partition_Name (p0queue : (List UInt8)) (p1i : Int) : Option (List UInt8) :=
 (partition_known p1i).bind fun (x1 : Bool) => cond (!x1) (some ([] : List UInt8)) ((cat p0queue ([35] : List UInt8)).bind fun (x5 : (List UInt8)) => (strconv_Itoa p1i).bind fun (x7 : (List UInt8)) => (cat (p0queue ++ ([35] : List UInt8)) x7).bind fun (x9 : (List UInt8)) => some ((p0queue ++ ([35] : List UInt8)) ++ x7))
theorem w_partition_Name {p0queue : (List UInt8)} {p1i : Int} {res : (List UInt8)} (h : partition_Name p0queue p1i = some res) : ACalls Tryd.prog 15 [.c (.str p0queue), .c (.int .i64 p1i)] [] (.c (.str res)) [] := by
 unfold partition_Name at h
 refine acalls (fn := Tryd.f15) [0, 1, 4, 7] (by kernel_rfl) Tryd.func15 rfl (by kernel_rfl) (by kernel_rfl) <| w_sr <| sS rfl <| o_ek (fr' := [(0, aS), (1, aI)]) rfl rfl <| w_seqw <| w_sr <| mI rfl ?_
 obtain ⟨x1, hx1, h2⟩ := bind_s h
 refine o_v (ov_call (v := aB) rfl (w_partition_known hx1) ⟨lr, trivial⟩ rfl rfl rfl) <| o_p rfl (p_not rfl) <| o_ek (fr' := [(0, aS), (1, aI), (7, aB)]) rfl rfl <| w_ch h2 rfl (fun hb3 h3 => ?_) (fun hb3 h3 => ?_)
 ·
  refine w_sr <| sS rfl <| o_ek (fr' := [(4, aS)]) rfl rfl <| w_ret <| e_seq_r ?_
  obtain rfl := sy h3
  exact e_ret (rs' := [.tmp 4]) rfl <| r_tmp (v := aS) rfl <| r_nil <| fin_gen [] rfl rfl rfl lr st_nil
 ·
  refine w_skip <| e_kw <| w_sr <| mS rfl ?_
  obtain ⟨x5, hx5, h6⟩ := bind_s h3
  refine o_p rfl (p_sadd rfl rfl (cat_some hx5).1) <| mI rfl ?_
  obtain ⟨x7, hx7, h8⟩ := bind_s h6
  refine o_v (ov_call (v := aS) rfl (w_strconv_Itoa hx7) ⟨lr, trivial⟩ rfl rfl rfl) ?_
  obtain ⟨x9, hx9, h10⟩ := bind_s h8
  refine o_p rfl (p_sadd rfl rfl (cat_some hx9).1) <| sS rfl <| o_ek (fr' := [(4, aS)]) rfl rfl <| w_ret ?_
  obtain rfl := sy h10
  exact e_ret (rs' := [.tmp 4]) rfl <| r_tmp (v := aS) rfl <| r_nil <| fin_gen [] rfl rfl rfl lr st_nil
noncomputable def partition_Split (p0s : (List UInt8)) : Option ((List UInt8) × Int × Bool) :=
 if p0s.length ≤ 140737488355328 then some (splitPS p0s) else none
theorem w_partition_Split {p0s : (List UInt8)} {res : ((List UInt8) × Int × Bool)} (h : partition_Split p0s = some res) : ACalls Tryd.prog 16 [.c (.str p0s)] [] (.tup [.c (.str res.1), .c (.int .i64 res.2.1), .c (.bool res.2.2)]) [] := by
 unfold partition_Split at h
 obtain ⟨hl, rfl⟩ := ite_some h
 refine acalls_lib (by kernel_rfl) fun g w vs hv hI hg => ?_
 rw [rc_str hv]
 refine (split_calls hl w hI hg).mono fun e w' => ?_
 rintro ⟨rfl, hb⟩
 exact ⟨_, rfl, hb, fun g' => rav_trip (.c (.str _)) (.c (.int _ _)) (.c (.bool _))⟩
noncomputable def partition_Parent (p0i : Int) (p1degree : Int) : Option (Int × Bool) :=
 (gd ((decide (p0i = (0 : Int))) == false) (partition_known p0i)).bind fun (x1 : Bool) => cond (cond (cond (decide (p0i = (0 : Int))) true (!x1)) true (decide (p1degree < (1 : Int)))) (some ((0 : Int), false)) ((nz p1degree).bind fun (x5 : Int) => some ((IntKind.wrap .i64 (Int.tdiv (IntKind.wrap .i64 (p0i - (1 : Int))) p1degree)), true))
theorem w_partition_Parent {p0i : Int} {p1degree : Int} {res : (Int × Bool)} (h : partition_Parent p0i p1degree = some res) : ACalls Tryd.prog 19 [.c (.int .i64 p0i), .c (.int .i64 p1degree)] [] (.tup [.c (.int .i64 res.1), .c (.bool res.2)]) [] := by
 unfold partition_Parent at h
 refine acalls (fn := Tryd.f19) [0, 1, 4, 5, 16] (by kernel_rfl) Tryd.func19 rfl (by kernel_rfl) (by kernel_rfl) <| w_sr <| sI rfl <| sB rfl <| o_ek (fr' := [(0, aI), (1, aI)]) rfl rfl <| w_seqw <| w_sr <| mI rfl <| o_p rfl (p_eql rfl rfl) <| mB rfl <| og rfl rfl rfl (fun hc => (p_move (v := aI) rfl)) ?_
 obtain ⟨x1, hx1, h2⟩ := bind_s h
 refine o_g rfl rfl (fun hc => ov_call (v := aB) rfl (w_partition_known (gd_some hx1 hc)) ⟨(le_gv (gx rfl hc) lr), trivial⟩ (ok_eq (by repeat (first | exact ok_nil | refine ok_cons rfl ?_ | refine ok_cons (dgv rfl) ?_ | refine ok_cons dar ?_))) rfl rfl) ?_
 refine og rfl rfl rfl (fun hc => (p_not (gx rfl hc))) <| o_p rfl (p_pickz rfl rfl rfl (fun e => keq e)) <| mB rfl <| og rfl rfl rfl (fun hc => (p_move (v := aI) rfl)) <| og rfl rfl rfl (fun hc => (p_lss (gx rfl hc) rfl)) <| o_p rfl (p_pickz rfl rfl rfl (fun e => keq e)) <| o_ek (fr' := [(0, aI), (1, aI), (16, aB)]) rfl rfl <| w_ch h2 rfl (fun hb3 h3 => ?_) (fun hb3 h3 => ?_)
 ·
  refine w_sr <| sI rfl <| sB rfl <| o_ek (fr' := [(4, aI), (5, aB)]) rfl rfl <| w_ret <| e_seq_r ?_
  obtain rfl := sy h3
  exact e_ret (rs' := [.tmp 4, .tmp 5]) rfl <| r_tmp (v := aI) rfl <| r_tmp (v := aB) rfl <| r_nil <| fin_gen [] rfl rfl rfl (le_tupp rfl ⟨lr, lr, trivial⟩) st_nil
 ·
  refine w_skip <| e_kw <| w_sr <| mI rfl <| o_p rfl (p_sub rfl rfl) <| mI rfl ?_
  obtain ⟨x5, hx5, h6⟩ := bind_s h3
  refine o_p rfl (p_quo rfl rfl (nz_some hx5).1) <| sI rfl <| sB rfl <| o_ek (fr' := [(4, aI), (5, aB)]) rfl rfl <| w_ret ?_
  obtain rfl := sy h6
  exact e_ret (rs' := [.tmp 4, .tmp 5]) rfl <| r_tmp (v := aI) rfl <| r_tmp (v := aB) rfl <| r_nil <| fin_gen [] rfl rfl rfl (le_tupp rfl ⟨lr, lr, trivial⟩) st_nil
noncomputable def ref15xSameInts_l1 (p0a : (List Int)) (p1b : (List Int)) (s6 : Int) : Option (Step Int (Fl Bool Unit)) :=
 cond (decide (s6 < ((p0a).length : Int))) ((idx p0a s6).bind fun (x8 : Int) => (idx p1b s6).bind fun (x10 : Int) => cond (!decide (x8 = x10)) (some (Step.out (Fl.done false))) (some (Step.next (IntKind.wrap .i64 (s6 + (1 : Int)))))) (some (Step.out (Fl.go ())))
noncomputable def ref15xSameInts (p0a : (List Int)) (p1b : (List Int)) : Option Bool :=
 cond (!decide (((p0a).length : Int) = ((p1b).length : Int))) (some false) (((loopO (ref15xSameInts_l1 p0a p1b) ((0 : Int))) : Option (Fl Bool Unit)).bind fun (x3 : (Fl Bool Unit)) => Fl.next x3 (fun (j5 : Unit) => (some true)))
theorem w_ref15xSameInts {p0a : (List Int)} {p1b : (List Int)} {res : Bool} (h : ref15xSameInts p0a p1b = some res) : ACalls Tryd.prog 23 [.c (PV.ls 1 (rowI .i64) p0a), .c (PV.ls 1 (rowI .i64) p1b)] [] (.c (.bool res)) [] := by
 unfold ref15xSameInts at h
 refine acalls (fn := Tryd.f23) [0, 1, 4, 5, 10, 14, 25] (by kernel_rfl) Tryd.func23 rfl (by kernel_rfl) (by kernel_rfl) <| w_sr <| sB rfl <| o_ek (fr' := [(0, aL), (1, aL)]) rfl rfl <| w_seqw <| w_sr <| mL rfl <| o_p rfl (p_len ti48 (isl_c rfl)) <| mL rfl <| o_p rfl (p_len ti48 (isl_c rfl)) <| o_p rfl (p_neq rfl rfl) ?_
 refine o_ek (fr' := [(0, aL), (1, aL), (10, aB)]) rfl rfl <| w_ch h rfl (fun hb1 h1 => ?_) (fun hb1 h1 => ?_)
 ·
  refine w_sr <| sB rfl <| o_ek (fr' := [(4, aB)]) rfl rfl <| w_ret <| e_seq_r ?_
  obtain rfl := sy h1
  exact e_ret (rs' := [.tmp 4]) rfl <| r_tmp (v := aB) rfl <| r_nil <| fin_gen [] rfl rfl rfl lr st_nil
 ·
  refine w_skip <| e_kw <| w_seqw <| w_sr <| sI rfl <| o_ek (fr' := [(0, aL), (1, aL), (5, aI)]) rfl rfl ?_
  obtain ⟨x3, hx3, h4⟩ := bind_s h1
  refine w_jtail cl_kw (fun j5 => x3 = Fl.go j5) (fun (j5 : Unit) => ([] : Fr)) (fun (j5 : Unit) => ([] : St)) ?_ ?_
  ·
   refine w_block <| w_loopo _ (fun (s6 : Int) => ([(0, .c (PV.ls 1 (rowI .i64) p0a)), (1, .c (PV.ls 1 (rowI .i64) p1b)), (5, .c (.int .i64 s6))] : Fr)) (fun (s6 : Int) => ([] : St)) hx3 (w_weak [] 0 rfl rfl rfl rfl ⟨lr, lr, lr, trivial⟩ st_nil) ?_
   intro s6 st6 hs6 ho6
   unfold ref15xSameInts_l1 at hs6
   refine w_seqw <| w_sr <| mI rfl <| mL rfl <| o_p rfl (p_len ti48 (isl_c rfl)) <| o_p rfl (p_lss rfl rfl) <| o_ek (fr' := [(0, aL), (1, aL), (5, aI), (14, aB)]) rfl rfl <| w_ch hs6 rfl (fun hb7 h7 => ?_) (fun hb7 h7 => ?_)
   ·
    refine w_skip <| e_kw <| w_seqw <| w_block <| w_seqw <| w_planT [.q 0, .q 1, .q 2, .q 3, .q 4, .q 5, .q 6, .q 7, .q 8] [(some 17, [0]), (some 18, [5]), (some 19, [17, 18]), (some 20, [19]), (some 21, [1]), (some 22, [5]), (some 23, [21, 22]), (some 24, [23]), (some 25, [20, 24])] [0, 0, 3, 7, 0, 0, 48, 112, 255] (by kernel_rfl) <| dq rfl rfl (p_move (v := aL) rfl) <| dq rfl rfl (p_move (v := aI) rfl) ?_
    obtain ⟨x8, hx8, h9⟩ := bind_s h7
    refine dq rfl rfl (p_ia (cs := [PV.int _ _]) ts48 (isl_c rfl) rfl hx8 rfl) <| dq rfl rfl (p_loade (p := PV.int _ _) tv3 rfl rfl) <| dq rfl rfl (p_move (v := aL) rfl) <| dq rfl rfl (p_move (v := aI) rfl) ?_
    obtain ⟨x10, hx10, h11⟩ := bind_s h9
    refine dq rfl rfl (p_ia (cs := [PV.int _ _]) ts48 (isl_c rfl) rfl hx10 rfl) <| dq rfl rfl (p_loade (p := PV.int _ _) tv3 rfl rfl) <| dq rfl rfl (p_neq rfl rfl) <| d_ek (fr' := [(0, aL), (1, aL), (5, aI), (25, aB)]) rfl rfl <| w_ch h11 rfl (fun hb12 h12 => ?_) (fun hb12 h12 => ?_)
    ·
     refine w_sr <| sB rfl <| o_ek (fr' := [(4, aB)]) rfl rfl <| w_ret <| e_blk_r <| e_seq_r <| e_seq_r <| e_blk_r <| e_seq_r <| e_seq_r ?_
     have h13 := un_out h12 ho6
     have h14 := un_done h13 h4
     obtain rfl := sy h14
     exact e_ret (rs' := [.tmp 4]) rfl <| r_tmp (v := aB) rfl <| r_nil <| fin_gen [] rfl rfl rfl lr st_nil
    ·
     exact w_skip <| e_blk_n <| e_kw <| w_region <| mI rfl <| o_p rfl (p_add rfl rfl) <| sI rfl <| o_end (fr' := [(0, aL), (1, aL), (5, aI), (25, aB)]) rfl <| e_l _ (sy h12) (w_weak [] 0 rfl rfl rfl rfl ⟨lr, lr, lr, trivial⟩ st_nil)
   ·
    refine w_exit <| e_seq_x <| e_seq_x <| e_blk_h ?_
    have h16 := un_out h7 ho6
    exact e_j _ (sy h16) (w_weak [] 0 rfl rfl rfl rfl trivial st_nil)
  ·
   intro j5 hj17
   have h17 := un_go hj17 h4
   refine e_kw <| w_sr <| sB rfl <| o_ek (fr' := [(4, aB)]) rfl rfl <| w_ret ?_
   obtain rfl := sy h17
   exact e_ret (rs' := [.tmp 4]) rfl <| r_tmp (v := aB) rfl <| r_nil <| fin_gen [] rfl rfl rfl lr st_nil
noncomputable def partition_Path_l1 (p1degree : Int) (s8 : (Int × (List Int))) : Option (Step (Int × (List Int)) (List Int)) :=
 cond (decide ((0 : Int) < s8.1)) ((nz p1degree).bind fun (x10 : Int) => (app 8 s8.2 ([(IntKind.wrap .i64 (Int.tdiv (IntKind.wrap .i64 (s8.1 - (1 : Int))) p1degree))] : List Int)).bind fun (x12 : (List Int)) => some (Step.next ((IntKind.wrap .i64 (Int.tdiv (IntKind.wrap .i64 (s8.1 - (1 : Int))) p1degree)), x12))) (some (Step.out s8.2))
noncomputable def partition_Path (p0i : Int) (p1degree : Int) : Option (List Int) :=
 (partition_known p0i).bind fun (x1 : Bool) => cond (cond (!x1) true (decide (p1degree < (1 : Int)))) (some ([] : (List Int))) (((loopO (partition_Path_l1 p1degree) ((p0i, ([p0i] : List Int)))) : Option (List Int)).bind fun (x5 : (List Int)) => (some x5))
theorem w_partition_Path {p0i : Int} {p1degree : Int} {res : (List Int)} (h : partition_Path p0i p1degree = some res) : ACalls Tryd.prog 24 [.c (.int .i64 p0i), .c (.int .i64 p1degree)] [] (AV.os 0 1 (rowI .i64) res) [] := by
 unfold partition_Path at h
 refine acalls (fn := Tryd.f24) [0, 1, 4, 5, 12, 16] (by kernel_rfl) Tryd.func24 rfl (by kernel_rfl) (by kernel_rfl) <| w_sr <| sV (v := AV.nil) rfl <| o_ek (fr' := [(0, aI), (1, aI)]) rfl rfl <| w_seqw <| w_sr <| mI rfl ?_
 obtain ⟨x1, hx1, h2⟩ := bind_s h
 refine o_v (ov_call (v := aB) rfl (w_partition_known hx1) ⟨lr, trivial⟩ rfl rfl rfl) <| o_p rfl (p_not rfl) <| mB rfl <| og rfl rfl rfl (fun hc => (p_move (v := aI) rfl)) <| og rfl rfl rfl (fun hc => (p_lss (gx rfl hc) rfl)) <| o_p rfl (p_pickz rfl rfl rfl (fun e => keq e)) <| o_ek (fr' := [(0, aI), (1, aI), (12, aB)]) rfl rfl <| w_ch h2 rfl (fun hb3 h3 => ?_) (fun hb3 h3 => ?_)
 ·
  refine w_sr <| sV (v := AV.nil) rfl <| o_ek (fr' := [(4, AV.nil)]) rfl rfl <| w_ret <| e_seq_r ?_
  obtain rfl := sy h3
  exact e_ret (rs' := [.tmp 4]) rfl <| r_tmp (v := AV.nil) rfl <| r_nil <| fin_gen [1000000] rfl rfl rfl (le_nos rfl) st_nil
 ·
  refine w_skip <| e_kw <| w_sr <| mI rfl <| o_rows (row := (rowI .i64)) (xs := ([p0i] : List Int)) (rows := [[_]]) (σ' := []) [0] ts48 rfl rfl rfl (arow_cons rfl arow_nil) rfl rfl <| sV (v := aO) rfl <| o_ek (fr' := [(0, aI), (1, aI), (5, aO)]) rfl rfl ?_
  obtain ⟨x5, hx5, h6⟩ := bind_s h3
  refine w_join (fun j7 => x5 = j7) (fun (j7 : (List Int)) => ([(5, AV.os 0 1 (rowI .i64) j7)] : Fr)) (fun (j7 : (List Int)) => ([] : St)) ?_ ?_
  ·
   refine w_block <| w_loopo _ (fun (s8 : (Int × (List Int))) => ([(0, .c (.int .i64 s8.1)), (1, .c (.int .i64 p1degree)), (5, AV.os 0 1 (rowI .i64) s8.2)] : Fr)) (fun (s8 : (Int × (List Int))) => ([] : St)) hx5 (w_weak [224] 0 rfl rfl rfl rfl ⟨lr, lr, lr, trivial⟩ st_nil) ?_
   intro s8 st8 hs8 ho8
   unfold partition_Path_l1 at hs8
   refine w_seqw <| w_sr <| mI rfl <| o_p rfl (p_gtr rfl rfl) <| o_ek (fr' := [(0, aI), (1, aI), (5, aO), (16, aB)]) rfl rfl <| w_ch hs8 rfl (fun hb9 h9 => ?_) (fun hb9 h9 => ?_)
   ·
    refine w_skip <| e_kw <| w_block <| w_sr <| mI rfl <| o_p rfl (p_sub rfl rfl) <| mI rfl ?_
    obtain ⟨x10, hx10, h11⟩ := bind_s h9
    refine o_p rfl (p_quo rfl rfl (nz_some hx10).1) <| sI rfl <| o_ek (fr' := [(0, aI), (1, aI), (5, aO)]) rfl rfl <| w_region <| mV (v := aO) rfl <| mI rfl <| o_rows (row := (rowI .i64)) (xs := ([(IntKind.wrap .i64 (Int.tdiv (IntKind.wrap .i64 (s8.1 - (1 : Int))) p1degree))] : List Int)) (rows := [[_]]) (σ' := []) [0] ts48 rfl rfl rfl (arow_cons rfl arow_nil) rfl rfl ?_
    obtain ⟨x12, hx12, h13⟩ := bind_s h11
    exact o_app (row := (rowI .i64)) ts48 rfl ti48 rfl (isl_o rfl) (fun _ => rfl) hx12 <| sV (v := aO) rfl <| o_end (fr' := [(0, aI), (1, aI), (5, aO)]) rfl <| e_blk_n <| e_l _ (sy h13) (w_weak [384] 0 rfl rfl rfl rfl ⟨lr, lr, lr, trivial⟩ st_nil)
   ·
    refine w_exit <| e_seq_x <| e_seq_x <| e_blk_h ?_
    have h14 := un_out h9 ho8
    exact e_j _ (sy h14) (w_weak [0] 0 rfl rfl rfl rfl ⟨lr, trivial⟩ st_nil)
  ·
   intro j7 hj15
   subst hj15
   refine w_sr <| mV (v := aO) rfl <| sV (v := aO) rfl <| o_ek (fr' := [(4, aO)]) rfl rfl <| w_ret ?_
   obtain rfl := sy h6
   exact e_ret (rs' := [.tmp 4]) rfl <| r_tmp (v := aO) rfl <| r_nil <| fin_gen [0] rfl rfl rfl lr st_nil
noncomputable def partition_Children_l1 (p0i : Int) (p2n : Int) (p1degree : Int) (s6 : ((List Int) × Int)) : Option (Step ((List Int) × Int) (List Int)) :=
 cond (decide (s6.2 < p2n)) ((nz p1degree).bind fun (x8 : Int) => cond (decide ((IntKind.wrap .i64 (Int.tdiv (IntKind.wrap .i64 (s6.2 - (1 : Int))) p1degree)) = p0i)) ((app 8 s6.1 ([s6.2] : List Int)).bind fun (x11 : (List Int)) => some (Step.next (x11, (IntKind.wrap .i64 (s6.2 + (1 : Int)))))) (some (Step.next (s6.1, (IntKind.wrap .i64 (s6.2 + (1 : Int))))))) (some (Step.out s6.1))
noncomputable def partition_Children (p0i : Int) (p1degree : Int) (p2n : Int) : Option (List Int) :=
 cond (cond (decide ((16 : Int) < p2n)) true (decide (p1degree < (1 : Int)))) (some ([] : (List Int))) (((loopO (partition_Children_l1 p0i p2n p1degree) ((([] : (List Int)), (1 : Int)))) : Option (List Int)).bind fun (x3 : (List Int)) => (some x3))
theorem w_partition_Children {p0i : Int} {p1degree : Int} {p2n : Int} {res : (List Int)} (h : partition_Children p0i p1degree p2n = some res) : ACalls Tryd.prog 26 [.c (.int .i64 p0i), .c (.int .i64 p1degree), .c (.int .i64 p2n)] [] (AV.os 0 1 (rowI .i64) res) [] := by
 unfold partition_Children at h
 refine acalls (fn := Tryd.f26) [0, 1, 2, 6, 7, 8, 14, 17, 25] (by kernel_rfl) Tryd.func26 rfl (by kernel_rfl) (by kernel_rfl) <| w_sr <| sV (v := AV.nil) rfl <| o_ek (fr' := [(0, aI), (1, aI), (2, aI)]) rfl rfl <| w_seqw <| w_sr <| mI rfl <| o_p rfl (p_gtr rfl rfl) <| mB rfl <| og rfl rfl rfl (fun hc => (p_move (v := aI) rfl)) <| og rfl rfl rfl (fun hc => (p_lss (gx rfl hc) rfl)) ?_
 refine o_p rfl (p_pickz rfl rfl rfl (fun e => keq e)) <| o_ek (fr' := [(0, aI), (1, aI), (2, aI), (14, aB)]) rfl rfl <| w_ch h rfl (fun hb1 h1 => ?_) (fun hb1 h1 => ?_)
 ·
  refine w_sr <| sV (v := AV.nil) rfl <| o_ek (fr' := [(6, AV.nil)]) rfl rfl <| w_ret <| e_seq_r ?_
  obtain rfl := sy h1
  exact e_ret (rs' := [.tmp 6]) rfl <| r_tmp (v := AV.nil) rfl <| r_nil <| fin_gen [1000000] rfl rfl rfl (le_nos rfl) st_nil
 ·
  refine w_skip <| e_kw <| w_sr <| sV (v := AV.nil) rfl <| o_ek (fr' := [(0, aI), (1, aI), (2, aI), (7, AV.nil)]) rfl rfl <| w_seqw <| w_sr <| sI rfl <| o_ek (fr' := [(0, aI), (1, aI), (2, aI), (7, AV.nil), (8, aI)]) rfl rfl ?_
  obtain ⟨x3, hx3, h4⟩ := bind_s h1
  refine w_jtail cl_kw (fun j5 => x3 = j5) (fun (j5 : (List Int)) => ([(7, AV.os 0 1 (rowI .i64) j5)] : Fr)) (fun (j5 : (List Int)) => ([] : St)) ?_ ?_
  ·
   refine w_block <| w_loopo _ (fun (s6 : ((List Int) × Int)) => ([(0, .c (.int .i64 p0i)), (1, .c (.int .i64 p1degree)), (2, .c (.int .i64 p2n)), (7, AV.os 0 1 (rowI .i64) s6.1), (8, .c (.int .i64 s6.2))] : Fr)) (fun (s6 : ((List Int) × Int)) => ([] : St)) hx3 (w_weak [1000000] 0 rfl rfl rfl rfl ⟨lr, lr, lr, (le_nos rfl), lr, trivial⟩ st_nil) ?_
   intro s6 st6 hs6 ho6
   unfold partition_Children_l1 at hs6
   refine w_seqw <| w_sr <| mI rfl <| mI rfl <| o_p rfl (p_lss rfl rfl) <| o_ek (fr' := [(0, aI), (1, aI), (2, aI), (7, aO), (8, aI), (17, aB)]) rfl rfl <| w_ch hs6 rfl (fun hb7 h7 => ?_) (fun hb7 h7 => ?_)
   ·
    refine w_skip <| e_kw <| w_seqw <| w_block <| w_sr <| mI rfl <| o_p rfl (p_sub rfl rfl) <| mI rfl ?_
    obtain ⟨x8, hx8, h9⟩ := bind_s h7
    refine o_p rfl (p_quo rfl rfl (nz_some hx8).1) <| mI rfl <| o_p rfl (p_eql rfl rfl) <| o_ek (fr' := [(0, aI), (1, aI), (2, aI), (7, aO), (8, aI), (25, aB)]) rfl rfl <| w_ch h9 rfl (fun hb10 h10 => ?_) (fun hb10 h10 => ?_)
    ·
     refine w_region <| mV (v := aO) rfl <| mI rfl <| o_rows (row := (rowI .i64)) (xs := ([s6.2] : List Int)) (rows := [[_]]) (σ' := []) [0] ts48 rfl rfl rfl (arow_cons rfl arow_nil) rfl rfl ?_
     obtain ⟨x11, hx11, h12⟩ := bind_s h10
     exact o_app (row := (rowI .i64)) ts48 rfl ti48 rfl (isl_o rfl) (fun _ => rfl) hx11 <| sV (v := aO) rfl <| o_end (fr' := [(0, aI), (1, aI), (2, aI), (7, aO), (8, aI), (25, aB)]) rfl <| e_blk_n <| e_kw <| w_region <| mI rfl <| o_p rfl (p_add rfl rfl) <| sI rfl <| o_end (fr' := [(0, aI), (1, aI), (2, aI), (7, aO), (8, aI), (25, aB)]) rfl <| e_l _ (sy h12) (w_weak [464] 0 rfl rfl rfl rfl ⟨lr, lr, lr, lr, lr, trivial⟩ st_nil)
    ·
     exact w_skip <| e_blk_n <| e_kw <| w_region <| mI rfl <| o_p rfl (p_add rfl rfl) <| sI rfl <| o_end (fr' := [(0, aI), (1, aI), (2, aI), (7, aO), (8, aI), (25, aB)]) rfl <| e_l _ (sy h10) (w_weak [0] 0 rfl rfl rfl rfl ⟨lr, lr, lr, lr, lr, trivial⟩ st_nil)
   ·
    refine w_exit <| e_seq_x <| e_seq_x <| e_blk_h ?_
    have h13 := un_out h7 ho6
    exact e_j _ (sy h13) (w_weak [0] 0 rfl rfl rfl rfl ⟨lr, trivial⟩ st_nil)
  ·
   intro j5 hj14
   subst hj14
   refine e_kw <| w_sr <| mV (v := aO) rfl <| sV (v := aO) rfl <| o_ek (fr' := [(6, aO)]) rfl rfl <| w_ret ?_
   obtain rfl := sy h4
   exact e_ret (rs' := [.tmp 6]) rfl <| r_tmp (v := aO) rfl <| r_nil <| fin_gen [0] rfl rfl rfl lr st_nil
noncomputable def law39xlives  : Option Bool :=
 (partition_Parent (4 : Int) (2 : Int)).bind fun (x1 : (Int × Bool)) => (partition_Split ([97, 35, 98, 35, 49, 50] : List UInt8)).bind fun (x3 : ((List UInt8) × Int × Bool)) => (partition_Split ([109, 97, 105, 110, 35, 49, 54] : List UInt8)).bind fun (x5 : ((List UInt8) × Int × Bool)) => (partition_Split ([109, 97, 105, 110, 35, 48, 51] : List UInt8)).bind fun (x7 : ((List UInt8) × Int × Bool)) => cond (decide (x1.1 = (1 : Int))) (cond x1.2 ((partition_Path (4 : Int) (2 : Int)).bind fun (x11 : (List Int)) => (ref15xSameInts x11 ([(4 : Int), (1 : Int), (0 : Int)] : List Int)).bind fun (x13 : Bool) => cond x13 ((partition_Children (1 : Int) (2 : Int) (8 : Int)).bind fun (x16 : (List Int)) => (ref15xSameInts x16 ([(3 : Int), (4 : Int)] : List Int)).bind fun (x18 : Bool) => cond x18 ((partition_Name ([109, 97, 105, 110] : List UInt8) (3 : Int)).bind fun (x21 : (List UInt8)) => cond (decide (x21 = ([109, 97, 105, 110, 35, 51] : List UInt8))) (cond (decide (x3.1 = ([97, 35, 98] : List UInt8))) (cond (decide (x3.2.1 = (12 : Int))) (cond x3.2.2 (cond (!x5.2.2) (some (!x7.2.2)) (some false)) (some false)) (some false)) (some false)) (some false)) (some false)) (some false)) (some false)) (some false)
theorem w_law39xlives  {res : Bool} (h : law39xlives = some res) : ACalls Tryd.prog 14 [] [] (.c (.bool res)) [] := by
 unfold law39xlives at h
 refine acalls (fn := Tryd.f14) [0, 1, 2, 3, 4, 5, 8, 11] (by kernel_rfl) Tryd.func14 rfl (by kernel_rfl) (by kernel_rfl) <| w_sr <| sB rfl <| o_ek (fr' := []) rfl rfl <| w_seqw <| w_region ?_
 obtain ⟨x1, hx1, h2⟩ := bind_s h
 refine o_v (ov_call (v := .tup [aI, aB]) rfl (w_partition_Parent hx1) ⟨lr, lr, trivial⟩ rfl rfl rfl) <| mV (v := .tup [aI, aB]) rfl <| o_p rfl (p_ex (v := aI) rfl rfl) <| o_p rfl (p_ex (v := aB) rfl rfl) <| sI rfl <| sB rfl <| o_ek (fr' := [(1, aI), (2, aB)]) rfl rfl <| w_seqw <| w_region ?_
 obtain ⟨x3, hx3, h4⟩ := bind_s h2
 refine o_v (ov_call (v := .tup [aS, aI, aB]) rfl (w_partition_Split hx3) ⟨lr, trivial⟩ rfl rfl rfl) <| mV (v := .tup [aS, aI, aB]) rfl <| o_p rfl (p_ex (v := aS) rfl rfl) <| o_p rfl (p_ex (v := aI) rfl rfl) <| o_p rfl (p_ex (v := aB) rfl rfl) <| sS rfl <| sI rfl <| sB rfl <| o_ek (fr' := [(1, aI), (2, aB), (3, aS), (4, aI), (5, aB)]) rfl rfl <| w_seqw <| w_region ?_
 obtain ⟨x5, hx5, h6⟩ := bind_s h4
 refine o_v (ov_call (v := .tup [aS, aI, aB]) rfl (w_partition_Split hx5) ⟨lr, trivial⟩ rfl rfl rfl) <| mV (v := .tup [aS, aI, aB]) rfl <| o_p rfl (p_ex (v := aS) rfl rfl) <| o_p rfl (p_ex (v := aI) rfl rfl) <| o_p rfl (p_ex (v := aB) rfl rfl) <| sS rfl <| sI rfl <| sB rfl <| o_ek (fr' := [(1, aI), (2, aB), (3, aS), (4, aI), (5, aB), (8, aB)]) rfl rfl <| w_seqw <| w_region ?_
 obtain ⟨x7, hx7, h8⟩ := bind_s h6
 refine o_v (ov_call (v := .tup [aS, aI, aB]) rfl (w_partition_Split hx7) ⟨lr, trivial⟩ rfl rfl rfl) <| mV (v := .tup [aS, aI, aB]) rfl <| o_p rfl (p_ex (v := aS) rfl rfl) <| o_p rfl (p_ex (v := aI) rfl rfl) <| o_p rfl (p_ex (v := aB) rfl rfl) <| sS rfl <| sI rfl <| sB rfl <| o_ek (fr' := [(1, aI), (2, aB), (3, aS), (4, aI), (5, aB), (8, aB), (11, aB)]) rfl rfl <| w_sr <| mI rfl <| o_p rfl (p_eql rfl rfl) ?_
 refine mB rfl <| r_ch h8 (fun hb9 h9 => ?_) (fun hb9 h9 => ?_)
 ·
  refine o_yes rfl rfl hb9 <| mB rfl <| o_p rfl (p_pick_t rfl hb9 rfl) <| mB rfl <| r_ch h9 (fun hb10 h10 => ?_) (fun hb10 h10 => ?_)
  ·
   refine o_yes rfl rfl hb10 ?_
   obtain ⟨x11, hx11, h12⟩ := bind_s h10
   refine o_v (ov_call (v := aO) rfl (w_partition_Path hx11) ⟨lr, lr, trivial⟩ rfl rfl rfl) <| o_yes rfl rfl hb10 <| o_rows (row := (rowI .i64)) (xs := ([(4 : Int), (1 : Int), (0 : Int)] : List Int)) (rows := [[_], [_], [_]]) (σ' := []) [0] ts48 rfl rfl rfl (arow_cons rfl (arow_cons rfl (arow_cons rfl arow_nil))) rfl rfl <| o_yes rfl rfl hb10 ?_
   obtain ⟨x13, hx13, h14⟩ := bind_s h12
   refine o_v (ov_call (v := aB) rfl (w_ref15xSameInts hx13) ⟨lr, lr, trivial⟩ rfl rfl rfl) <| o_p rfl (p_pick_t rfl hb10 rfl) <| mB rfl <| r_ch h14 (fun hb15 h15 => ?_) (fun hb15 h15 => ?_)
   ·
    refine o_yes rfl rfl hb15 ?_
    obtain ⟨x16, hx16, h17⟩ := bind_s h15
    refine o_v (ov_call (v := aO) rfl (w_partition_Children hx16) ⟨lr, lr, lr, trivial⟩ rfl rfl rfl) <| o_yes rfl rfl hb15 <| o_rows (row := (rowI .i64)) (xs := ([(3 : Int), (4 : Int)] : List Int)) (rows := [[_], [_]]) (σ' := []) [0] ts48 rfl rfl rfl (arow_cons rfl (arow_cons rfl arow_nil)) rfl rfl <| o_yes rfl rfl hb15 ?_
    obtain ⟨x18, hx18, h19⟩ := bind_s h17
    refine o_v (ov_call (v := aB) rfl (w_ref15xSameInts hx18) ⟨lr, lr, trivial⟩ rfl rfl rfl) <| o_p rfl (p_pick_t rfl hb15 rfl) <| mB rfl <| r_ch h19 (fun hb20 h20 => ?_) (fun hb20 h20 => ?_)
    ·
     refine o_yes rfl rfl hb20 ?_
     obtain ⟨x21, hx21, h22⟩ := bind_s h20
     refine o_v (ov_call (v := aS) rfl (w_partition_Name hx21) ⟨lr, lr, trivial⟩ rfl rfl rfl) <| o_yes rfl rfl hb20 <| o_p rfl (p_seql rfl rfl) <| o_p rfl (p_pick_t rfl hb20 rfl) <| mB rfl <| r_ch h22 (fun hb23 h23 => ?_) (fun hb23 h23 => ?_)
     ·
      refine o_yes rfl rfl hb23 <| mS rfl <| o_yes rfl rfl hb23 <| o_p rfl (p_seql rfl rfl) <| o_p rfl (p_pick_t rfl hb23 rfl) <| mB rfl <| r_ch h23 (fun hb24 h24 => ?_) (fun hb24 h24 => ?_)
      ·
       refine o_yes rfl rfl hb24 <| mI rfl <| o_yes rfl rfl hb24 <| o_p rfl (p_eql rfl rfl) <| o_p rfl (p_pick_t rfl hb24 rfl) <| mB rfl <| r_ch h24 (fun hb25 h25 => ?_) (fun hb25 h25 => ?_)
       ·
        refine o_yes rfl rfl hb25 <| mB rfl <| o_p rfl (p_pick_t rfl hb25 rfl) <| mB rfl <| r_ch h25 (fun hb26 h26 => ?_) (fun hb26 h26 => ?_)
        ·
         refine o_yes rfl rfl hb26 <| mB rfl <| o_yes rfl rfl hb26 <| o_p rfl (p_not rfl) <| o_p rfl (p_pick_t rfl hb26 rfl) <| mB rfl <| r_ch h26 (fun hb27 h27 => ?_) (fun hb27 h27 => ?_)
         ·
          refine o_yes rfl rfl hb27 <| mB rfl <| o_yes rfl rfl hb27 <| o_p rfl (p_not rfl) <| o_p rfl (p_pick_t rfl hb27 rfl) <| sB rfl <| o_ek (fr' := [(0, aB)]) rfl rfl <| w_ret ?_
          obtain rfl := sy h27
          exact e_ret (rs' := [.tmp 0]) rfl <| r_tmp (v := aB) rfl <| r_nil <| fin_gen [] rfl rfl rfl lr st_nil
         ·
          refine o_no rfl rfl hb27 <| o_no rfl rfl hb27 <| o_p rfl (p_pick_f rfl hb27 rfl) <| sB rfl <| o_ek (fr' := [(0, aB)]) rfl rfl <| w_ret ?_
          obtain rfl := sy h27
          exact e_ret (rs' := [.tmp 0]) rfl <| r_tmp (v := aB) rfl <| r_nil <| fin_gen [] rfl rfl rfl lr st_nil
        ·
         refine o_no rfl rfl hb26 <| o_no rfl rfl hb26 <| o_p rfl (p_pick_f rfl hb26 rfl) <| mB rfl <| o_no rfl rfl rfl <| o_no rfl rfl rfl <| o_p rfl (p_pick_f rfl rfl rfl) <| sB rfl <| o_ek (fr' := [(0, aB)]) rfl rfl <| w_ret ?_
         obtain rfl := sy h26
         exact e_ret (rs' := [.tmp 0]) rfl <| r_tmp (v := aB) rfl <| r_nil <| fin_gen [] rfl rfl rfl lr st_nil
       ·
        refine o_no rfl rfl hb25 <| o_p rfl (p_pick_f rfl hb25 rfl) <| mB rfl <| o_no rfl rfl rfl <| o_no rfl rfl rfl <| o_p rfl (p_pick_f rfl rfl rfl) <| mB rfl <| o_no rfl rfl rfl <| o_no rfl rfl rfl <| o_p rfl (p_pick_f rfl rfl rfl) <| sB rfl <| o_ek (fr' := [(0, aB)]) rfl rfl <| w_ret ?_
        obtain rfl := sy h25
        exact e_ret (rs' := [.tmp 0]) rfl <| r_tmp (v := aB) rfl <| r_nil <| fin_gen [] rfl rfl rfl lr st_nil
      ·
       refine o_no rfl rfl hb24 <| o_no rfl rfl hb24 <| o_p rfl (p_pick_f rfl hb24 rfl) <| mB rfl <| o_no rfl rfl rfl <| o_p rfl (p_pick_f rfl rfl rfl) <| mB rfl <| o_no rfl rfl rfl <| o_no rfl rfl rfl <| o_p rfl (p_pick_f rfl rfl rfl) <| mB rfl <| o_no rfl rfl rfl <| o_no rfl rfl rfl ?_
       refine o_p rfl (p_pick_f rfl rfl rfl) <| sB rfl <| o_ek (fr' := [(0, aB)]) rfl rfl <| w_ret ?_
       obtain rfl := sy h24
       exact e_ret (rs' := [.tmp 0]) rfl <| r_tmp (v := aB) rfl <| r_nil <| fin_gen [] rfl rfl rfl lr st_nil
     ·
      refine o_no rfl rfl hb23 <| o_no rfl rfl hb23 <| o_p rfl (p_pick_f rfl hb23 rfl) <| mB rfl <| o_no rfl rfl rfl <| o_no rfl rfl rfl <| o_p rfl (p_pick_f rfl rfl rfl) <| mB rfl <| o_no rfl rfl rfl <| o_p rfl (p_pick_f rfl rfl rfl) <| mB rfl <| o_no rfl rfl rfl <| o_no rfl rfl rfl ?_
      refine o_p rfl (p_pick_f rfl rfl rfl) <| mB rfl <| o_no rfl rfl rfl <| o_no rfl rfl rfl <| o_p rfl (p_pick_f rfl rfl rfl) <| sB rfl <| o_ek (fr' := [(0, aB)]) rfl rfl <| w_ret ?_
      obtain rfl := sy h23
      exact e_ret (rs' := [.tmp 0]) rfl <| r_tmp (v := aB) rfl <| r_nil <| fin_gen [] rfl rfl rfl lr st_nil
    ·
     refine o_no rfl rfl hb20 <| o_no rfl rfl hb20 <| o_p rfl (p_pick_f rfl hb20 rfl) <| mB rfl <| o_no rfl rfl rfl <| o_no rfl rfl rfl <| o_p rfl (p_pick_f rfl rfl rfl) <| mB rfl <| o_no rfl rfl rfl <| o_no rfl rfl rfl <| o_p rfl (p_pick_f rfl rfl rfl) <| mB rfl <| o_no rfl rfl rfl ?_
     refine o_p rfl (p_pick_f rfl rfl rfl) <| mB rfl <| o_no rfl rfl rfl <| o_no rfl rfl rfl <| o_p rfl (p_pick_f rfl rfl rfl) <| mB rfl <| o_no rfl rfl rfl <| o_no rfl rfl rfl <| o_p rfl (p_pick_f rfl rfl rfl) <| sB rfl <| o_ek (fr' := [(0, aB)]) rfl rfl <| w_ret ?_
     obtain rfl := sy h20
     exact e_ret (rs' := [.tmp 0]) rfl <| r_tmp (v := aB) rfl <| r_nil <| fin_gen [] rfl rfl rfl lr st_nil
   ·
    refine o_no rfl rfl hb15 <| o_no rfl rfl hb15 <| o_no rfl rfl hb15 <| o_p rfl (p_pick_f rfl hb15 rfl) <| mB rfl <| o_no rfl rfl rfl <| o_no rfl rfl rfl <| o_p rfl (p_pick_f rfl rfl rfl) <| mB rfl <| o_no rfl rfl rfl <| o_no rfl rfl rfl <| o_p rfl (p_pick_f rfl rfl rfl) <| mB rfl ?_
    refine o_no rfl rfl rfl <| o_no rfl rfl rfl <| o_p rfl (p_pick_f rfl rfl rfl) <| mB rfl <| o_no rfl rfl rfl <| o_p rfl (p_pick_f rfl rfl rfl) <| mB rfl <| o_no rfl rfl rfl <| o_no rfl rfl rfl <| o_p rfl (p_pick_f rfl rfl rfl) <| mB rfl <| o_no rfl rfl rfl <| o_no rfl rfl rfl ?_
    refine o_p rfl (p_pick_f rfl rfl rfl) <| sB rfl <| o_ek (fr' := [(0, aB)]) rfl rfl <| w_ret ?_
    obtain rfl := sy h15
    exact e_ret (rs' := [.tmp 0]) rfl <| r_tmp (v := aB) rfl <| r_nil <| fin_gen [] rfl rfl rfl lr st_nil
  ·
   refine o_no rfl rfl hb10 <| o_no rfl rfl hb10 <| o_no rfl rfl hb10 <| o_p rfl (p_pick_f rfl hb10 rfl) <| mB rfl <| o_no rfl rfl rfl <| o_no rfl rfl rfl <| o_no rfl rfl rfl <| o_p rfl (p_pick_f rfl rfl rfl) <| mB rfl <| o_no rfl rfl rfl <| o_no rfl rfl rfl <| o_p rfl (p_pick_f rfl rfl rfl) ?_
   refine mB rfl <| o_no rfl rfl rfl <| o_no rfl rfl rfl <| o_p rfl (p_pick_f rfl rfl rfl) <| mB rfl <| o_no rfl rfl rfl <| o_no rfl rfl rfl <| o_p rfl (p_pick_f rfl rfl rfl) <| mB rfl <| o_no rfl rfl rfl <| o_p rfl (p_pick_f rfl rfl rfl) <| mB rfl <| o_no rfl rfl rfl ?_
   refine o_no rfl rfl rfl <| o_p rfl (p_pick_f rfl rfl rfl) <| mB rfl <| o_no rfl rfl rfl <| o_no rfl rfl rfl <| o_p rfl (p_pick_f rfl rfl rfl) <| sB rfl <| o_ek (fr' := [(0, aB)]) rfl rfl <| w_ret ?_
   obtain rfl := sy h10
   exact e_ret (rs' := [.tmp 0]) rfl <| r_tmp (v := aB) rfl <| r_nil <| fin_gen [] rfl rfl rfl lr st_nil
 ·
  refine o_no rfl rfl hb9 <| o_p rfl (p_pick_f rfl hb9 rfl) <| mB rfl <| o_no rfl rfl rfl <| o_no rfl rfl rfl <| o_no rfl rfl rfl <| o_p rfl (p_pick_f rfl rfl rfl) <| mB rfl <| o_no rfl rfl rfl <| o_no rfl rfl rfl <| o_no rfl rfl rfl <| o_p rfl (p_pick_f rfl rfl rfl) <| mB rfl ?_
  refine o_no rfl rfl rfl <| o_no rfl rfl rfl <| o_p rfl (p_pick_f rfl rfl rfl) <| mB rfl <| o_no rfl rfl rfl <| o_no rfl rfl rfl <| o_p rfl (p_pick_f rfl rfl rfl) <| mB rfl <| o_no rfl rfl rfl <| o_no rfl rfl rfl <| o_p rfl (p_pick_f rfl rfl rfl) <| mB rfl <| o_no rfl rfl rfl ?_
  refine o_p rfl (p_pick_f rfl rfl rfl) <| mB rfl <| o_no rfl rfl rfl <| o_no rfl rfl rfl <| o_p rfl (p_pick_f rfl rfl rfl) <| mB rfl <| o_no rfl rfl rfl <| o_no rfl rfl rfl <| o_p rfl (p_pick_f rfl rfl rfl) <| sB rfl <| o_ek (fr' := [(0, aB)]) rfl rfl <| w_ret ?_
  obtain rfl := sy h9
  exact e_ret (rs' := [.tmp 0]) rfl <| r_tmp (v := aB) rfl <| r_nil <| fin_gen [] rfl rfl rfl lr st_nil
noncomputable def ref03xdigitsF : Nat → Int → Option (List UInt8)
 | 0, _ => none
 | n + 1, p0n =>
  (byteOf (IntKind.wrap .u8 (IntKind.wrap .i64 ((48 : Int) + (IntKind.wrap .i64 (0 - (Int.tmod p0n (10 : Int)))))))).bind fun (x1 : UInt8) => cond (decide ((-10 : Int) < p0n)) (some ([x1] : List UInt8)) (((ref03xdigitsF n) (IntKind.wrap .i64 (Int.tdiv p0n (10 : Int)))).bind fun (x5 : (List UInt8)) => (cat x5 ([x1] : List UInt8)).bind fun (x7 : (List UInt8)) => some (x5 ++ ([x1] : List UInt8)))
theorem wF_ref03xdigits : ∀ n : Nat, (∀ {p0n : Int} {res : (List UInt8)}, ref03xdigitsF n p0n = some res → ACalls Tryd.prog 75 [.c (.int .i64 p0n)] [] (.c (.str res)) []) := by
 intro n
 induction n with
 | zero => exact fun {p0n res} h => absurd h (by simp [ref03xdigitsF])
 | succ n ih =>
  have ih_ref03xdigits := @ih
  intro p0n res h
  rw [ref03xdigitsF] at h
  refine acalls (fn := Tryd.f75) [0, 2, 3, 4, 14] (by kernel_rfl) Tryd.func75 rfl (by kernel_rfl) (by kernel_rfl) <| w_sr <| sS rfl <| o_ek (fr' := [(0, aI)]) rfl rfl <| w_sr <| mI rfl <| o_p rfl (p_rem rfl rfl (by decide)) <| o_p rfl (p_neg rfl) <| sI rfl <| o_ek (fr' := [(0, aI), (3, aI)]) rfl rfl <| w_seqw ?_
  refine w_region <| mI rfl <| o_p rfl (p_add rfl rfl) <| o_p rfl (p_conv tk3 tk5 rfl) ?_
  obtain ⟨x1, hx1, h2⟩ := bind_s h
  refine o_rows (row := brow) (xs := ([x1] : List UInt8)) (rows := [[_]]) (σ' := []) [0] ts142 rfl rfl rfl (arow_cons (brow_of hx1) arow_nil) rfl rfl <| o_p rfl (p_convbs tby142 ti9 (isl_o rfl)) <| sS rfl <| o_ek (fr' := [(0, aI), (4, aS)]) rfl rfl <| w_seqw <| w_sr <| mI rfl <| o_p rfl (p_gtr rfl rfl) <| o_ek (fr' := [(0, aI), (4, aS), (14, aB)]) rfl rfl <| w_ch h2 rfl (fun hb3 h3 => ?_) (fun hb3 h3 => ?_)
  ·
   refine w_sr <| mS rfl <| sS rfl <| o_ek (fr' := [(2, aS)]) rfl rfl <| w_ret <| e_seq_r ?_
   obtain rfl := sy h3
   exact e_ret (rs' := [.tmp 2]) rfl <| r_tmp (v := aS) rfl <| r_nil <| fin_gen [] rfl rfl rfl lr st_nil
  ·
   refine w_skip <| e_kw <| w_sr <| mI rfl <| o_p rfl (p_quo rfl rfl (by decide)) ?_
   obtain ⟨x5, hx5, h6⟩ := bind_s h3
   refine o_v (ov_call (v := aS) rfl (ih_ref03xdigits hx5) ⟨lr, trivial⟩ rfl rfl rfl) <| mS rfl ?_
   obtain ⟨x7, hx7, h8⟩ := bind_s h6
   refine o_p rfl (p_sadd rfl rfl (cat_some hx7).1) <| sS rfl <| o_ek (fr' := [(2, aS)]) rfl rfl <| w_ret ?_
   obtain rfl := sy h8
   exact e_ret (rs' := [.tmp 2]) rfl <| r_tmp (v := aS) rfl <| r_nil <| fin_gen [] rfl rfl rfl lr st_nil
noncomputable def ref03xdigits (p0n : Int) : Option (List UInt8) := lim fun n => ref03xdigitsF n p0n
theorem w_ref03xdigits {p0n : Int} {res : (List UInt8)} (h : ref03xdigits p0n = some res) : ACalls Tryd.prog 75 [.c (.int .i64 p0n)] [] (.c (.str res)) [] := by
 obtain ⟨n, hn⟩ := lim_some h
 exact (wF_ref03xdigits n) hn
noncomputable def ref03xDecimal (p0n : Int) : Option (List UInt8) :=
 cond (decide (p0n < (0 : Int))) ((ref03xdigits p0n).bind fun (x2 : (List UInt8)) => (cat ([45] : List UInt8) x2).bind fun (x4 : (List UInt8)) => some (([45] : List UInt8) ++ x2)) ((ref03xdigits (IntKind.wrap .i64 (0 - p0n))).bind fun (x7 : (List UInt8)) => some x7)
theorem w_ref03xDecimal {p0n : Int} {res : (List UInt8)} (h : ref03xDecimal p0n = some res) : ACalls Tryd.prog 43 [.c (.int .i64 p0n)] [] (.c (.str res)) [] := by
 unfold ref03xDecimal at h
 refine acalls (fn := Tryd.f43) [0, 2, 4] (by kernel_rfl) Tryd.func43 rfl (by kernel_rfl) (by kernel_rfl) <| w_sr <| sS rfl <| o_ek (fr' := [(0, aI)]) rfl rfl <| w_seqw <| w_sr <| mI rfl <| o_p rfl (p_lss rfl rfl) <| o_ek (fr' := [(0, aI), (4, aB)]) rfl rfl <| w_ch h rfl (fun hb1 h1 => ?_) (fun hb1 h1 => ?_)
 ·
  refine w_sr <| mI rfl ?_
  obtain ⟨x2, hx2, h3⟩ := bind_s h1
  refine o_v (ov_call (v := aS) rfl (w_ref03xdigits hx2) ⟨lr, trivial⟩ rfl rfl rfl) ?_
  obtain ⟨x4, hx4, h5⟩ := bind_s h3
  refine o_p rfl (p_sadd rfl rfl (cat_some hx4).1) <| sS rfl <| o_ek (fr' := [(2, aS)]) rfl rfl <| w_ret <| e_seq_r ?_
  obtain rfl := sy h5
  exact e_ret (rs' := [.tmp 2]) rfl <| r_tmp (v := aS) rfl <| r_nil <| fin_gen [] rfl rfl rfl lr st_nil
 ·
  refine w_skip <| e_kw <| w_sr <| mI rfl <| o_p rfl (p_neg rfl) ?_
  obtain ⟨x7, hx7, h8⟩ := bind_s h1
  refine o_v (ov_call (v := aS) rfl (w_ref03xdigits hx7) ⟨lr, trivial⟩ rfl rfl rfl) <| sS rfl <| o_ek (fr' := [(2, aS)]) rfl rfl <| w_ret ?_
  obtain rfl := sy h8
  exact e_ret (rs' := [.tmp 2]) rfl <| r_tmp (v := aS) rfl <| r_nil <| fin_gen [] rfl rfl rfl lr st_nil
noncomputable def ref39xName (p0queue : (List UInt8)) (p1i : Int) : Option (List UInt8) :=
 cond (cond (decide (p1i < (0 : Int))) true (decide ((16 : Int) ≤ p1i))) (some ([] : List UInt8)) ((cat p0queue ([35] : List UInt8)).bind fun (x3 : (List UInt8)) => (ref03xDecimal p1i).bind fun (x5 : (List UInt8)) => (cat (p0queue ++ ([35] : List UInt8)) x5).bind fun (x7 : (List UInt8)) => some ((p0queue ++ ([35] : List UInt8)) ++ x5))
theorem w_ref39xName {p0queue : (List UInt8)} {p1i : Int} {res : (List UInt8)} (h : ref39xName p0queue p1i = some res) : ACalls Tryd.prog 18 [.c (.str p0queue), .c (.int .i64 p1i)] [] (.c (.str res)) [] := by
 unfold ref39xName at h
 refine acalls (fn := Tryd.f18) [0, 1, 4, 10] (by kernel_rfl) Tryd.func18 rfl (by kernel_rfl) (by kernel_rfl) <| w_sr <| sS rfl <| o_ek (fr' := [(0, aS), (1, aI)]) rfl rfl <| w_seqw <| w_sr <| mI rfl <| o_p rfl (p_lss rfl rfl) <| mB rfl <| og rfl rfl rfl (fun hc => (p_move (v := aI) rfl)) <| og rfl rfl rfl (fun hc => (p_geq (gx rfl hc) rfl)) ?_
 refine o_p rfl (p_pickz rfl rfl rfl (fun e => keq e)) <| o_ek (fr' := [(0, aS), (1, aI), (10, aB)]) rfl rfl <| w_ch h rfl (fun hb1 h1 => ?_) (fun hb1 h1 => ?_)
 ·
  refine w_sr <| sS rfl <| o_ek (fr' := [(4, aS)]) rfl rfl <| w_ret <| e_seq_r ?_
  obtain rfl := sy h1
  exact e_ret (rs' := [.tmp 4]) rfl <| r_tmp (v := aS) rfl <| r_nil <| fin_gen [] rfl rfl rfl lr st_nil
 ·
  refine w_skip <| e_kw <| w_sr <| mS rfl ?_
  obtain ⟨x3, hx3, h4⟩ := bind_s h1
  refine o_p rfl (p_sadd rfl rfl (cat_some hx3).1) <| mI rfl ?_
  obtain ⟨x5, hx5, h6⟩ := bind_s h4
  refine o_v (ov_call (v := aS) rfl (w_ref03xDecimal hx5) ⟨lr, trivial⟩ rfl rfl rfl) ?_
  obtain ⟨x7, hx7, h8⟩ := bind_s h6
  refine o_p rfl (p_sadd rfl rfl (cat_some hx7).1) <| sS rfl <| o_ek (fr' := [(4, aS)]) rfl rfl <| w_ret ?_
  obtain rfl := sy h8
  exact e_ret (rs' := [.tmp 4]) rfl <| r_tmp (v := aS) rfl <| r_nil <| fin_gen [] rfl rfl rfl lr st_nil
noncomputable def ref39xSplit_l1 (p0s : (List UInt8)) (s4 : Int) : Option (Step Int (Fl ((List UInt8) × Int × Bool) Unit)) :=
 cond (decide (s4 < (16 : Int))) ((ref39xName ([] : List UInt8) s4).bind fun (x6 : (List UInt8)) => (gd ((decide (((x6).length : Int) ≤ ((p0s).length : Int))) == true) (slcL p0s (IntKind.wrap .i64 (((p0s).length : Int) - ((x6).length : Int))))).bind fun (x8 : (List UInt8)) => cond (cond (decide (((x6).length : Int) ≤ ((p0s).length : Int))) (decide ((List.drop (Int.toNat (IntKind.wrap .i64 (((p0s).length : Int) - ((x6).length : Int)))) p0s) = x6)) false) ((slcH p0s (IntKind.wrap .i64 (((p0s).length : Int) - ((x6).length : Int)))).bind fun (x11 : (List UInt8)) => some (Step.out (Fl.done ((List.take (Int.toNat (IntKind.wrap .i64 (((p0s).length : Int) - ((x6).length : Int)))) p0s), s4, true)))) (some (Step.next (IntKind.wrap .i64 (s4 + (1 : Int)))))) (some (Step.out (Fl.go ())))
noncomputable def ref39xSplit (p0s : (List UInt8)) : Option ((List UInt8) × Int × Bool) :=
 ((loopO (ref39xSplit_l1 p0s) ((0 : Int))) : Option (Fl ((List UInt8) × Int × Bool) Unit)).bind fun (x1 : (Fl ((List UInt8) × Int × Bool) Unit)) => Fl.next x1 (fun (j3 : Unit) => (some (([] : List UInt8), (0 : Int), false)))
theorem w_ref39xSplit {p0s : (List UInt8)} {res : ((List UInt8) × Int × Bool)} (h : ref39xSplit p0s = some res) : ACalls Tryd.prog 17 [.c (.str p0s)] [] (.tup [.c (.str res.1), .c (.int .i64 res.2.1), .c (.bool res.2.2)]) [] := by
 unfold ref39xSplit at h
 refine acalls (fn := Tryd.f17) [0, 2, 3, 4, 5, 6, 8, 28] (by kernel_rfl) Tryd.func17 rfl (by kernel_rfl) (by kernel_rfl) <| w_sr <| sS rfl <| sI rfl <| sB rfl <| o_ek (fr' := [(0, aS)]) rfl rfl <| w_seqw <| w_sr <| sI rfl <| o_ek (fr' := [(0, aS), (5, aI)]) rfl rfl ?_
 obtain ⟨x1, hx1, h2⟩ := bind_s h
 refine w_jtail cl_kw (fun j3 => x1 = Fl.go j3) (fun (j3 : Unit) => ([] : Fr)) (fun (j3 : Unit) => ([] : St)) ?_ ?_
 ·
  refine w_block <| w_loopo _ (fun (s4 : Int) => ([(0, .c (.str p0s)), (5, .c (.int .i64 s4))] : Fr)) (fun (s4 : Int) => ([] : St)) hx1 (w_weak [] 0 rfl rfl rfl rfl ⟨lr, lr, trivial⟩ st_nil) ?_
  intro s4 st4 hs4 ho4
  unfold ref39xSplit_l1 at hs4
  refine w_seqw <| w_sr <| mI rfl <| o_p rfl (p_lss rfl rfl) <| o_ek (fr' := [(0, aS), (5, aI), (8, aB)]) rfl rfl <| w_ch hs4 rfl (fun hb5 h5 => ?_) (fun hb5 h5 => ?_)
  ·
   refine w_skip <| e_kw <| w_seqw <| w_block <| w_sr <| mI rfl ?_
   obtain ⟨x6, hx6, h7⟩ := bind_s h5
   refine o_v (ov_call (v := aS) rfl (w_ref39xName hx6) ⟨lr, lr, trivial⟩ rfl rfl rfl) <| sS rfl <| o_ek (fr' := [(0, aS), (5, aI), (6, aS)]) rfl rfl <| w_sr <| mS rfl <| o_p rfl (p_lens ti9 rfl) <| mS rfl <| o_p rfl (p_lens ti9 rfl) <| o_p rfl (p_geq rfl rfl) <| mB rfl <| og rfl rfl rfl (fun hc => (p_move (v := aS) rfl)) <| og rfl rfl rfl (fun hc => (p_move (v := aS) rfl)) ?_
   refine og rfl rfl rfl (fun hc => (p_lens ti9 (gx rfl hc))) <| og rfl rfl rfl (fun hc => (p_move (v := aS) rfl)) <| og rfl rfl rfl (fun hc => (p_lens ti9 (gx rfl hc))) <| og rfl rfl rfl (fun hc => (p_sub (gx rfl hc) (gx rfl hc))) ?_
   obtain ⟨x8, hx8, h9⟩ := bind_s h7
   refine og rfl rfl rfl (fun hc => (p_slS_l ti9 (gx rfl hc) (gx rfl hc) (slcL_some (gd_some hx8 hc)).1)) <| og rfl rfl rfl (fun hc => (p_move (v := aS) rfl)) <| og rfl rfl rfl (fun hc => (p_seql (gx rfl hc) (gx rfl hc))) <| o_p rfl (p_picky rfl rfl rfl (fun e => keq e)) <| o_ek (fr' := [(0, aS), (5, aI), (6, aS), (28, aB)]) rfl rfl <| w_ch h9 rfl (fun hb10 h10 => ?_) (fun hb10 h10 => ?_)
   ·
    refine w_sr <| mS rfl <| mS rfl <| o_p rfl (p_lens ti9 rfl) <| mS rfl <| o_p rfl (p_lens ti9 rfl) <| o_p rfl (p_sub rfl rfl) ?_
    obtain ⟨x11, hx11, h12⟩ := bind_s h10
    refine o_p rfl (p_slS_h ti9 rfl rfl (slcH_some hx11).1) <| mI rfl <| sS rfl <| sI rfl <| sB rfl <| o_ek (fr' := [(2, aS), (3, aI), (4, aB)]) rfl rfl <| w_ret <| e_blk_r <| e_seq_r <| e_seq_r <| e_blk_r <| e_seq_r <| e_seq_r ?_
    have h13 := un_out h12 ho4
    have h14 := un_done h13 h2
    obtain rfl := sy h14
    exact e_ret (rs' := [.tmp 2, .tmp 3, .tmp 4]) rfl <| r_tmp (v := aS) rfl <| r_tmp (v := aI) rfl <| r_tmp (v := aB) rfl <| r_nil <| fin_gen [] rfl rfl rfl (le_tupp rfl ⟨lr, lr, lr, trivial⟩) st_nil
   ·
    exact w_skip <| e_blk_n <| e_kw <| w_region <| mI rfl <| o_p rfl (p_add rfl rfl) <| sI rfl <| o_end (fr' := [(0, aS), (5, aI), (6, aS), (28, aB)]) rfl <| e_l _ (sy h10) (w_weak [] 0 rfl rfl rfl rfl ⟨lr, lr, trivial⟩ st_nil)
  ·
   refine w_exit <| e_seq_x <| e_seq_x <| e_blk_h ?_
   have h16 := un_out h5 ho4
   exact e_j _ (sy h16) (w_weak [] 0 rfl rfl rfl rfl trivial st_nil)
 ·
  intro j3 hj17
  have h17 := un_go hj17 h2
  refine e_kw <| w_sr <| sS rfl <| sI rfl <| sB rfl <| o_ek (fr' := [(2, aS), (3, aI), (4, aB)]) rfl rfl <| w_ret ?_
  obtain rfl := sy h17
  exact e_ret (rs' := [.tmp 2, .tmp 3, .tmp 4]) rfl <| r_tmp (v := aS) rfl <| r_tmp (v := aI) rfl <| r_tmp (v := aB) rfl <| r_nil <| fin_gen [] rfl rfl rfl (le_tupp rfl ⟨lr, lr, lr, trivial⟩) st_nil
noncomputable def law39xPartitionNames (p0queue : (List UInt8)) (p1i : Int) : Option Bool :=
 cond (decide ((10000 : Int) < ((p0queue).length : Int))) ((law39xlives).bind fun (x2 : Bool) => some x2) ((partition_Name p0queue p1i).bind fun (x5 : (List UInt8)) => (partition_Split x5).bind fun (x7 : ((List UInt8) × Int × Bool)) => (partition_Split p0queue).bind fun (x9 : ((List UInt8) × Int × Bool)) => (ref39xSplit p0queue).bind fun (x11 : ((List UInt8) × Int × Bool)) => (ref39xName p0queue p1i).bind fun (x13 : (List UInt8)) => (gd (((cond (cond (cond (!decide (x5 = x13)) true (!decide (x9.1 = x11.1))) true (!decide (x9.2.1 = x11.2.1))) true (!(x9.2.2 == x11.2.2))) == false) && (x9.2.2 == true)) (partition_Name x9.1 x9.2.1)).bind fun (x15 : (List UInt8)) => cond (cond (cond (cond (cond (!decide (x5 = x13)) true (!decide (x9.1 = x11.1))) true (!decide (x9.2.1 = x11.2.1))) true (!(x9.2.2 == x11.2.2))) true (cond x9.2.2 (!decide (x15 = p0queue)) false)) (some false) ((gd ((cond (cond (decide (p1i < (0 : Int))) true (decide ((16 : Int) ≤ p1i))) true (cond (cond x7.2.2 (decide (x7.1 = p0queue)) false) (decide (x7.2.1 = p1i)) false)) == true) (law39xlives)).bind fun (x19 : Bool) => some (cond (cond (cond (decide (p1i < (0 : Int))) true (decide ((16 : Int) ≤ p1i))) true (cond (cond x7.2.2 (decide (x7.1 = p0queue)) false) (decide (x7.2.1 = p1i)) false)) x19 false)))
theorem w_law39xPartitionNames {p0queue : (List UInt8)} {p1i : Int} {res : Bool} (h : law39xPartitionNames p0queue p1i = some res) : ACalls Tryd.prog 4 [.c (.str p0queue), .c (.int .i64 p1i)] [] (.c (.bool res)) [] := by
 unfold law39xPartitionNames at h
 refine acalls (fn := Tryd.f4) [0, 1, 4, 5, 6, 7, 8, 9, 10, 11, 12, 13, 14, 17, 69] (by kernel_rfl) Tryd.func4 rfl (by kernel_rfl) (by kernel_rfl) <| w_sr <| sB rfl <| o_ek (fr' := [(0, aS), (1, aI)]) rfl rfl <| w_seqw <| w_sr <| mS rfl <| o_p rfl (p_lens ti9 rfl) <| o_p rfl (p_gtr rfl rfl) <| o_ek (fr' := [(0, aS), (1, aI), (17, aB)]) rfl rfl <| w_ch h rfl (fun hb1 h1 => ?_) (fun hb1 h1 => ?_)
 ·
  refine w_seqw <| w_region ?_
  obtain ⟨x2, hx2, h3⟩ := bind_s h1
  refine o_v (ov_call (v := aB) rfl (w_law39xlives hx2) trivial rfl rfl rfl) <| sB rfl <| o_ek (fr' := [(4, aB)]) rfl rfl <| w_ret <| e_seq_r ?_
  obtain rfl := sy h3
  exact e_ret (rs' := [.tmp 4]) rfl <| r_tmp (v := aB) rfl <| r_nil <| fin_gen [] rfl rfl rfl lr st_nil
 ·
  refine w_skip <| e_kw <| w_sr <| mS rfl <| mI rfl ?_
  obtain ⟨x5, hx5, h6⟩ := bind_s h1
  refine o_v (ov_call (v := aS) rfl (w_partition_Name hx5) ⟨lr, lr, trivial⟩ rfl rfl rfl) <| sS rfl <| o_ek (fr' := [(0, aS), (1, aI), (5, aS)]) rfl rfl <| w_sr <| mS rfl ?_
  obtain ⟨x7, hx7, h8⟩ := bind_s h6
  refine o_v (ov_call (v := .tup [aS, aI, aB]) rfl (w_partition_Split hx7) ⟨lr, trivial⟩ rfl rfl rfl) <| mV (v := .tup [aS, aI, aB]) rfl <| o_p rfl (p_ex (v := aS) rfl rfl) <| o_p rfl (p_ex (v := aI) rfl rfl) <| o_p rfl (p_ex (v := aB) rfl rfl) <| sS rfl <| sI rfl <| sB rfl <| o_ek (fr' := [(0, aS), (1, aI), (5, aS), (6, aS), (7, aI), (8, aB)]) rfl rfl <| w_sr <| mS rfl ?_
  obtain ⟨x9, hx9, h10⟩ := bind_s h8
  refine o_v (ov_call (v := .tup [aS, aI, aB]) rfl (w_partition_Split hx9) ⟨lr, trivial⟩ rfl rfl rfl) <| mV (v := .tup [aS, aI, aB]) rfl <| o_p rfl (p_ex (v := aS) rfl rfl) <| o_p rfl (p_ex (v := aI) rfl rfl) <| o_p rfl (p_ex (v := aB) rfl rfl) <| sS rfl <| sI rfl <| sB rfl <| o_ek (fr' := [(0, aS), (1, aI), (5, aS), (6, aS), (7, aI), (8, aB), (9, aS), (10, aI), (11, aB)]) rfl rfl <| w_sr <| mS rfl ?_
  obtain ⟨x11, hx11, h12⟩ := bind_s h10
  refine o_v (ov_call (v := .tup [aS, aI, aB]) rfl (w_ref39xSplit hx11) ⟨lr, trivial⟩ rfl rfl rfl) <| mV (v := .tup [aS, aI, aB]) rfl <| o_p rfl (p_ex (v := aS) rfl rfl) <| o_p rfl (p_ex (v := aI) rfl rfl) <| o_p rfl (p_ex (v := aB) rfl rfl) <| sS rfl <| sI rfl <| sB rfl <| o_ek (fr' := [(0, aS), (1, aI), (5, aS), (6, aS), (7, aI), (8, aB), (9, aS), (10, aI), (11, aB), (12, aS), (13, aI), (14, aB)]) rfl rfl <| w_seqw <| w_sr <| mS rfl ?_
  refine mS rfl <| mI rfl ?_
  obtain ⟨x13, hx13, h14⟩ := bind_s h12
  refine o_v (ov_call (v := aS) rfl (w_ref39xName hx13) ⟨lr, lr, trivial⟩ rfl rfl rfl) <| o_p rfl (p_sneq rfl rfl) <| mB rfl <| og rfl rfl rfl (fun hc => (p_move (v := aS) rfl)) <| og rfl rfl rfl (fun hc => (p_move (v := aS) rfl)) <| og rfl rfl rfl (fun hc => (p_sneq (gx rfl hc) (gx rfl hc))) <| o_p rfl (p_pickz rfl rfl rfl (fun e => keq e)) <| mB rfl <| og rfl rfl rfl (fun hc => (p_move (v := aI) rfl)) <| og rfl rfl rfl (fun hc => (p_move (v := aI) rfl)) <| og rfl rfl rfl (fun hc => (p_neq (gx rfl hc) (gx rfl hc))) <| o_p rfl (p_pickz rfl rfl rfl (fun e => keq e)) <| mB rfl ?_
  refine og rfl rfl rfl (fun hc => (p_move (v := aB) rfl)) <| og rfl rfl rfl (fun hc => (p_move (v := aB) rfl)) <| og rfl rfl rfl (fun hc => (p_bneq ti4 (gx rfl hc) (gx rfl hc))) <| o_p rfl (p_pickz rfl rfl rfl (fun e => keq e)) <| mB rfl <| og rfl rfl rfl (fun hc => (p_move (v := aB) rfl)) <| og rfl rfl rfl (fun hc => (p_move (v := aB) (gx rfl hc))) <| o_gg rfl rfl (fun hc => ov_p rfl (p_move (v := aS) rfl)) <| o_gg rfl rfl (fun hc => ov_p rfl (p_move (v := aI) rfl)) ?_
  obtain ⟨x15, hx15, h16⟩ := bind_s h14
  refine o_gg rfl rfl (fun hc => ov_call (v := aS) rfl (w_partition_Name (gd_some hx15 hc)) ⟨(le_gv (gx rfl hc) lr), (le_gv (gx rfl hc) lr), trivial⟩ (ok_eq (by repeat (first | exact ok_nil | refine ok_cons rfl ?_ | refine ok_cons (dgv rfl) ?_ | refine ok_cons dar ?_))) rfl rfl) ?_
  refine o_gg rfl rfl (fun hc => ov_p rfl (p_move (v := aS) rfl)) <| o_gg rfl rfl (fun hc => ov_p rfl (p_sneq (gx rfl hc) (gx rfl hc))) <| og rfl rfl rfl (fun hc => (p_picky (gx rfl hc) rfl rfl (fun e => band hc (keq e)))) <| o_p rfl (p_pickz rfl rfl rfl (fun e => keq e)) <| o_ek (fr' := [(0, aS), (1, aI), (6, aS), (7, aI), (8, aB), (69, aB)]) rfl rfl <| w_ch h16 rfl (fun hb17 h17 => ?_) (fun hb17 h17 => ?_)
  ·
   refine w_sr <| sB rfl <| o_ek (fr' := [(4, aB)]) rfl rfl <| w_ret <| e_seq_r ?_
   obtain rfl := sy h17
   exact e_ret (rs' := [.tmp 4]) rfl <| r_tmp (v := aB) rfl <| r_nil <| fin_gen [] rfl rfl rfl lr st_nil
  ·
   refine w_skip <| e_kw <| w_sr <| mI rfl <| o_p rfl (p_lss rfl rfl) <| mB rfl <| og rfl rfl rfl (fun hc => (p_move (v := aI) rfl)) <| og rfl rfl rfl (fun hc => (p_geq (gx rfl hc) rfl)) <| o_p rfl (p_pickz rfl rfl rfl (fun e => keq e)) <| mB rfl <| og rfl rfl rfl (fun hc => (p_move (v := aB) rfl)) <| og rfl rfl rfl (fun hc => (p_move (v := aB) (gx rfl hc))) ?_
   refine o_gg rfl rfl (fun hc => ov_p rfl (p_move (v := aS) rfl)) <| o_gg rfl rfl (fun hc => ov_p rfl (p_move (v := aS) rfl)) <| o_gg rfl rfl (fun hc => ov_p rfl (p_seql (gx rfl hc) (gx rfl hc))) <| og rfl rfl rfl (fun hc => (p_picky (gx rfl hc) rfl rfl (fun e => band hc (keq e)))) <| og rfl rfl rfl (fun hc => (p_move (v := aB) (gx rfl hc))) <| o_gg rfl rfl (fun hc => ov_p rfl (p_move (v := aI) rfl)) <| o_gg rfl rfl (fun hc => ov_p rfl (p_move (v := aI) rfl)) <| o_gg rfl rfl (fun hc => ov_p rfl (p_eql (gx rfl hc) (gx rfl hc))) <| og rfl rfl rfl (fun hc => (p_picky (gx rfl hc) rfl rfl (fun e => band hc (keq e)))) <| o_p rfl (p_pickz rfl rfl rfl (fun e => keq e)) <| mB rfl ?_
   obtain ⟨x19, hx19, h20⟩ := bind_s h17
   refine o_g rfl rfl (fun hc => ov_call (v := aB) rfl (w_law39xlives (gd_some hx19 hc)) trivial (ok_eq (by repeat (first | exact ok_nil | refine ok_cons rfl ?_ | refine ok_cons (dgv rfl) ?_ | refine ok_cons dar ?_))) rfl rfl) ?_
   refine o_p rfl (p_picky rfl rfl rfl (fun e => keq e)) <| sB rfl <| o_ek (fr' := [(4, aB)]) rfl rfl <| w_ret ?_
   obtain rfl := sy h20
   exact e_ret (rs' := [.tmp 4]) rfl <| r_tmp (v := aB) rfl <| r_nil <| fin_gen [] rfl rfl rfl lr st_nil
noncomputable def ref39xParent (p0i : Int) (p1degree : Int) : Option (Int × Bool) :=
 cond (cond (cond (decide (p0i < (1 : Int))) true (decide ((16 : Int) ≤ p0i))) true (decide (p1degree < (1 : Int)))) (some ((0 : Int), false)) ((nz p1degree).bind fun (x3 : Int) => some ((IntKind.wrap .i64 (Int.tdiv (IntKind.wrap .i64 (p0i - (1 : Int))) p1degree)), true))
theorem w_ref39xParent {p0i : Int} {p1degree : Int} {res : (Int × Bool)} (h : ref39xParent p0i p1degree = some res) : ACalls Tryd.prog 20 [.c (.int .i64 p0i), .c (.int .i64 p1degree)] [] (.tup [.c (.int .i64 res.1), .c (.bool res.2)]) [] := by
 unfold ref39xParent at h
 refine acalls (fn := Tryd.f20) [0, 1, 4, 5, 15] (by kernel_rfl) Tryd.func20 rfl (by kernel_rfl) (by kernel_rfl) <| w_sr <| sI rfl <| sB rfl <| o_ek (fr' := [(0, aI), (1, aI)]) rfl rfl <| w_seqw <| w_sr <| mI rfl <| o_p rfl (p_lss rfl rfl) <| mB rfl <| og rfl rfl rfl (fun hc => (p_move (v := aI) rfl)) ?_
 refine og rfl rfl rfl (fun hc => (p_geq (gx rfl hc) rfl)) <| o_p rfl (p_pickz rfl rfl rfl (fun e => keq e)) <| mB rfl <| og rfl rfl rfl (fun hc => (p_move (v := aI) rfl)) <| og rfl rfl rfl (fun hc => (p_lss (gx rfl hc) rfl)) <| o_p rfl (p_pickz rfl rfl rfl (fun e => keq e)) <| o_ek (fr' := [(0, aI), (1, aI), (15, aB)]) rfl rfl <| w_ch h rfl (fun hb1 h1 => ?_) (fun hb1 h1 => ?_)
 ·
  refine w_sr <| sI rfl <| sB rfl <| o_ek (fr' := [(4, aI), (5, aB)]) rfl rfl <| w_ret <| e_seq_r ?_
  obtain rfl := sy h1
  exact e_ret (rs' := [.tmp 4, .tmp 5]) rfl <| r_tmp (v := aI) rfl <| r_tmp (v := aB) rfl <| r_nil <| fin_gen [] rfl rfl rfl (le_tupp rfl ⟨lr, lr, trivial⟩) st_nil
 ·
  refine w_skip <| e_kw <| w_sr <| mI rfl <| o_p rfl (p_sub rfl rfl) <| mI rfl ?_
  obtain ⟨x3, hx3, h4⟩ := bind_s h1
  refine o_p rfl (p_quo rfl rfl (nz_some hx3).1) <| sI rfl <| sB rfl <| o_ek (fr' := [(4, aI), (5, aB)]) rfl rfl <| w_ret ?_
  obtain rfl := sy h4
  exact e_ret (rs' := [.tmp 4, .tmp 5]) rfl <| r_tmp (v := aI) rfl <| r_tmp (v := aB) rfl <| r_nil <| fin_gen [] rfl rfl rfl (le_tupp rfl ⟨lr, lr, trivial⟩) st_nil
noncomputable def hash_Fnv_l1 (p0s : (List UInt8)) (s4 : (Int × Int)) : Option (Step (Int × Int) Int) :=
 cond (decide (s4.2 < ((p0s).length : Int))) ((idx p0s s4.2).bind fun (x6 : UInt8) => some (Step.next ((IntKind.wrap .u32 ((abits .xor .u32 s4.1 (IntKind.wrap .u32 ((x6).toNat : Int))) * (16777619 : Int))), (IntKind.wrap .i64 (s4.2 + (1 : Int)))))) (some (Step.out s4.1))
noncomputable def hash_Fnv (p0s : (List UInt8)) : Option Int :=
 ((loopO (hash_Fnv_l1 p0s) (((2166136261 : Int), (0 : Int)))) : Option Int).bind fun (x1 : Int) => (some (IntKind.wrap .i64 x1))
theorem w_hash_Fnv {p0s : (List UInt8)} {res : Int} (h : hash_Fnv p0s = some res) : ACalls Tryd.prog 76 [.c (.str p0s)] [] (.c (.int .i64 res)) [] := by
 unfold hash_Fnv at h
 refine acalls (fn := Tryd.f76) [0, 2, 3, 4, 6, 7, 8] (by kernel_rfl) Tryd.func76 rfl (by kernel_rfl) (by kernel_rfl) <| w_sr <| sI rfl <| o_ek (fr' := [(0, aS)]) rfl rfl <| w_sr <| sI rfl <| o_ek (fr' := [(0, aS), (3, aI)]) rfl rfl <| w_seqw <| w_sr <| mS rfl ?_
 refine o_p rfl (p_lens ti9 rfl) <| mI rfl <| o_ek (fr' := [(0, aS), (3, aI), (6, aI), (7, aI)]) rfl rfl ?_
 obtain ⟨x1, hx1, h2⟩ := bind_s h
 refine w_jtail cl_kw (fun j3 => x1 = j3) (fun (j3 : Int) => ([(3, .c (.int .u32 j3))] : Fr)) (fun (j3 : Int) => ([] : St)) ?_ ?_
 ·
  refine w_block <| w_loopo _ (fun (s4 : (Int × Int)) => ([(0, .c (.str p0s)), (3, .c (.int .u32 s4.1)), (6, .c (.int .i64 ((p0s).length : Int))), (7, .c (.int .i64 s4.2))] : Fr)) (fun (s4 : (Int × Int)) => ([] : St)) hx1 (w_weak [] 0 rfl rfl rfl rfl ⟨lr, lr, lr, lr, trivial⟩ st_nil) ?_
  intro s4 st4 hs4 ho4
  unfold hash_Fnv_l1 at hs4
  refine w_sr <| o_p rfl (p_lss rfl rfl) <| o_ek (fr' := [(0, aS), (3, aI), (6, aI), (7, aI), (8, aB)]) rfl rfl <| w_seqw <| w_ch hs4 rfl (fun hb5 h5 => ?_) (fun hb5 h5 => ?_)
  ·
   refine w_skip <| e_kw <| w_seqw <| w_block <| w_sr <| mI rfl <| sI rfl <| o_ek (fr' := [(0, aS), (3, aI), (4, aI), (6, aI), (7, aI)]) rfl rfl <| w_region <| mI rfl <| mS rfl <| mI rfl ?_
   obtain ⟨x6, hx6, h7⟩ := bind_s h5
   exact o_p rfl (p_is ti9 rfl rfl hx6) <| o_p rfl (p_conv tk5 tk148 rfl) <| o_p rfl (p_xor rfl rfl) <| o_p rfl (p_mul rfl rfl) <| sI rfl <| o_end (fr' := [(0, aS), (3, aI), (4, aI), (6, aI), (7, aI)]) rfl <| e_blk_n <| e_kw <| w_region <| o_p rfl (p_add rfl rfl) <| mI rfl <| o_end (fr' := [(0, aS), (3, aI), (4, aI), (6, aI), (7, aI)]) rfl <| e_l _ (sy h7) (w_weak [] 0 rfl rfl rfl rfl ⟨lr, lr, lr, lr, trivial⟩ st_nil)
  ·
   refine w_exit <| e_seq_x <| e_seq_x <| e_blk_h ?_
   have h8 := un_out h5 ho4
   exact e_j _ (sy h8) (w_weak [] 0 rfl rfl rfl rfl ⟨lr, trivial⟩ st_nil)
 ·
  intro j3 hj9
  subst hj9
  refine e_kw <| w_sr <| mI rfl <| o_p rfl (p_conv tk148 tk3 rfl) <| sI rfl <| o_ek (fr' := [(2, aI)]) rfl rfl <| w_ret ?_
  obtain rfl := sy h2
  exact e_ret (rs' := [.tmp 2]) rfl <| r_tmp (v := aI) rfl <| r_nil <| fin_gen [] rfl rfl rfl lr st_nil
noncomputable def hash_Bucket (p0s : (List UInt8)) (p1n : Int) : Option Int :=
 cond (decide (p1n < (1 : Int))) (some (0 : Int)) ((hash_Fnv p0s).bind fun (x3 : Int) => (nz p1n).bind fun (x5 : Int) => some (Int.tmod x3 p1n))
theorem w_hash_Bucket {p0s : (List UInt8)} {p1n : Int} {res : Int} (h : hash_Bucket p0s p1n = some res) : ACalls Tryd.prog 44 [.c (.str p0s), .c (.int .i64 p1n)] [] (.c (.int .i64 res)) [] := by
 unfold hash_Bucket at h
 refine acalls (fn := Tryd.f44) [0, 1, 4, 6] (by kernel_rfl) Tryd.func44 rfl (by kernel_rfl) (by kernel_rfl) <| w_sr <| sI rfl <| o_ek (fr' := [(0, aS), (1, aI)]) rfl rfl <| w_seqw <| w_sr <| mI rfl <| o_p rfl (p_lss rfl rfl) <| o_ek (fr' := [(0, aS), (1, aI), (6, aB)]) rfl rfl <| w_ch h rfl (fun hb1 h1 => ?_) (fun hb1 h1 => ?_)
 ·
  refine w_sr <| sI rfl <| o_ek (fr' := [(4, aI)]) rfl rfl <| w_ret <| e_seq_r ?_
  obtain rfl := sy h1
  exact e_ret (rs' := [.tmp 4]) rfl <| r_tmp (v := aI) rfl <| r_nil <| fin_gen [] rfl rfl rfl lr st_nil
 ·
  refine w_skip <| e_kw <| w_sr <| mS rfl ?_
  obtain ⟨x3, hx3, h4⟩ := bind_s h1
  refine o_v (ov_call (v := aI) rfl (w_hash_Fnv hx3) ⟨lr, trivial⟩ rfl rfl rfl) <| mI rfl ?_
  obtain ⟨x5, hx5, h6⟩ := bind_s h4
  refine o_p rfl (p_rem rfl rfl (nz_some hx5).1) <| sI rfl <| o_ek (fr' := [(4, aI)]) rfl rfl <| w_ret ?_
  obtain rfl := sy h6
  exact e_ret (rs' := [.tmp 4]) rfl <| r_tmp (v := aI) rfl <| r_nil <| fin_gen [] rfl rfl rfl lr st_nil
noncomputable def partition_Of (p0key : (List UInt8)) (p1n : Int) : Option Int :=
 cond (cond (decide (p1n < (1 : Int))) true (decide ((16 : Int) < p1n))) (some (0 : Int)) ((hash_Bucket p0key p1n).bind fun (x3 : Int) => some x3)
theorem w_partition_Of {p0key : (List UInt8)} {p1n : Int} {res : Int} (h : partition_Of p0key p1n = some res) : ACalls Tryd.prog 21 [.c (.str p0key), .c (.int .i64 p1n)] [] (.c (.int .i64 res)) [] := by
 unfold partition_Of at h
 refine acalls (fn := Tryd.f21) [0, 1, 4, 10] (by kernel_rfl) Tryd.func21 rfl (by kernel_rfl) (by kernel_rfl) <| w_sr <| sI rfl <| o_ek (fr' := [(0, aS), (1, aI)]) rfl rfl <| w_seqw <| w_sr <| mI rfl <| o_p rfl (p_lss rfl rfl) <| mB rfl <| og rfl rfl rfl (fun hc => (p_move (v := aI) rfl)) <| og rfl rfl rfl (fun hc => (p_gtr (gx rfl hc) rfl)) ?_
 refine o_p rfl (p_pickz rfl rfl rfl (fun e => keq e)) <| o_ek (fr' := [(0, aS), (1, aI), (10, aB)]) rfl rfl <| w_ch h rfl (fun hb1 h1 => ?_) (fun hb1 h1 => ?_)
 ·
  refine w_sr <| sI rfl <| o_ek (fr' := [(4, aI)]) rfl rfl <| w_ret <| e_seq_r ?_
  obtain rfl := sy h1
  exact e_ret (rs' := [.tmp 4]) rfl <| r_tmp (v := aI) rfl <| r_nil <| fin_gen [] rfl rfl rfl lr st_nil
 ·
  refine w_skip <| e_kw <| w_sr <| mS rfl <| mI rfl ?_
  obtain ⟨x3, hx3, h4⟩ := bind_s h1
  refine o_v (ov_call (v := aI) rfl (w_hash_Bucket hx3) ⟨lr, lr, trivial⟩ rfl rfl rfl) <| sI rfl <| o_ek (fr' := [(4, aI)]) rfl rfl <| w_ret ?_
  obtain rfl := sy h4
  exact e_ret (rs' := [.tmp 4]) rfl <| r_tmp (v := aI) rfl <| r_nil <| fin_gen [] rfl rfl rfl lr st_nil
noncomputable def ref04xFnv_l1 (p0s : (List UInt8)) (s4 : (Int × Int)) : Option (Step (Int × Int) Int) :=
 cond (decide (s4.2 < ((p0s).length : Int))) ((idx p0s s4.2).bind fun (x6 : UInt8) => some (Step.next ((IntKind.wrap .u32 ((abits .xor .u32 s4.1 (IntKind.wrap .u32 ((x6).toNat : Int))) * (16777619 : Int))), (IntKind.wrap .i64 (s4.2 + (1 : Int)))))) (some (Step.out s4.1))
noncomputable def ref04xFnv (p0s : (List UInt8)) : Option Int :=
 ((loopO (ref04xFnv_l1 p0s) (((2166136261 : Int), (0 : Int)))) : Option Int).bind fun (x1 : Int) => (some (IntKind.wrap .i64 x1))
theorem w_ref04xFnv {p0s : (List UInt8)} {res : Int} (h : ref04xFnv p0s = some res) : ACalls Tryd.prog 77 [.c (.str p0s)] [] (.c (.int .i64 res)) [] := by
 unfold ref04xFnv at h
 refine acalls (fn := Tryd.f77) [0, 2, 3, 4, 8] (by kernel_rfl) Tryd.func77 rfl (by kernel_rfl) (by kernel_rfl) <| w_sr <| sI rfl <| o_ek (fr' := [(0, aS)]) rfl rfl <| w_sr <| sI rfl <| o_ek (fr' := [(0, aS), (3, aI)]) rfl rfl <| w_seqw <| w_sr <| sI rfl ?_
 refine o_ek (fr' := [(0, aS), (3, aI), (4, aI)]) rfl rfl ?_
 obtain ⟨x1, hx1, h2⟩ := bind_s h
 refine w_jtail cl_kw (fun j3 => x1 = j3) (fun (j3 : Int) => ([(3, .c (.int .u32 j3))] : Fr)) (fun (j3 : Int) => ([] : St)) ?_ ?_
 ·
  refine w_block <| w_loopo _ (fun (s4 : (Int × Int)) => ([(0, .c (.str p0s)), (3, .c (.int .u32 s4.1)), (4, .c (.int .i64 s4.2))] : Fr)) (fun (s4 : (Int × Int)) => ([] : St)) hx1 (w_weak [] 0 rfl rfl rfl rfl ⟨lr, lr, lr, trivial⟩ st_nil) ?_
  intro s4 st4 hs4 ho4
  unfold ref04xFnv_l1 at hs4
  refine w_seqw <| w_sr <| mI rfl <| mS rfl <| o_p rfl (p_lens ti9 rfl) <| o_p rfl (p_lss rfl rfl) <| o_ek (fr' := [(0, aS), (3, aI), (4, aI), (8, aB)]) rfl rfl <| w_ch hs4 rfl (fun hb5 h5 => ?_) (fun hb5 h5 => ?_)
  ·
   refine w_skip <| e_kw <| w_seqw <| w_block <| w_region <| mI rfl <| mS rfl <| mI rfl ?_
   obtain ⟨x6, hx6, h7⟩ := bind_s h5
   refine o_p rfl (p_is ti9 rfl rfl hx6) <| o_p rfl (p_conv tk5 tk148 rfl) <| o_p rfl (p_xor rfl rfl) <| o_p rfl (p_mul rfl rfl) <| sI rfl <| o_end (fr' := [(0, aS), (3, aI), (4, aI), (8, aB)]) rfl <| e_blk_n <| e_kw <| w_region <| mI rfl <| o_p rfl (p_add rfl rfl) <| sI rfl <| o_end (fr' := [(0, aS), (3, aI), (4, aI), (8, aB)]) rfl ?_
   exact e_l _ (sy h7) (w_weak [] 0 rfl rfl rfl rfl ⟨lr, lr, lr, trivial⟩ st_nil)
  ·
   refine w_exit <| e_seq_x <| e_seq_x <| e_blk_h ?_
   have h8 := un_out h5 ho4
   exact e_j _ (sy h8) (w_weak [] 0 rfl rfl rfl rfl ⟨lr, trivial⟩ st_nil)
 ·
  intro j3 hj9
  subst hj9
  refine e_kw <| w_sr <| mI rfl <| o_p rfl (p_conv tk148 tk3 rfl) <| sI rfl <| o_ek (fr' := [(2, aI)]) rfl rfl <| w_ret ?_
  obtain rfl := sy h2
  exact e_ret (rs' := [.tmp 2]) rfl <| r_tmp (v := aI) rfl <| r_nil <| fin_gen [] rfl rfl rfl lr st_nil
noncomputable def ref04xBucket (p0s : (List UInt8)) (p1n : Int) : Option Int :=
 cond (decide (p1n < (1 : Int))) (some (0 : Int)) ((ref04xFnv p0s).bind fun (x3 : Int) => (nz p1n).bind fun (x5 : Int) => some (Int.tmod x3 p1n))
theorem w_ref04xBucket {p0s : (List UInt8)} {p1n : Int} {res : Int} (h : ref04xBucket p0s p1n = some res) : ACalls Tryd.prog 45 [.c (.str p0s), .c (.int .i64 p1n)] [] (.c (.int .i64 res)) [] := by
 unfold ref04xBucket at h
 refine acalls (fn := Tryd.f45) [0, 1, 4, 6] (by kernel_rfl) Tryd.func45 rfl (by kernel_rfl) (by kernel_rfl) <| w_sr <| sI rfl <| o_ek (fr' := [(0, aS), (1, aI)]) rfl rfl <| w_seqw <| w_sr <| mI rfl <| o_p rfl (p_lss rfl rfl) <| o_ek (fr' := [(0, aS), (1, aI), (6, aB)]) rfl rfl <| w_ch h rfl (fun hb1 h1 => ?_) (fun hb1 h1 => ?_)
 ·
  refine w_sr <| sI rfl <| o_ek (fr' := [(4, aI)]) rfl rfl <| w_ret <| e_seq_r ?_
  obtain rfl := sy h1
  exact e_ret (rs' := [.tmp 4]) rfl <| r_tmp (v := aI) rfl <| r_nil <| fin_gen [] rfl rfl rfl lr st_nil
 ·
  refine w_skip <| e_kw <| w_sr <| mS rfl ?_
  obtain ⟨x3, hx3, h4⟩ := bind_s h1
  refine o_v (ov_call (v := aI) rfl (w_ref04xFnv hx3) ⟨lr, trivial⟩ rfl rfl rfl) <| mI rfl ?_
  obtain ⟨x5, hx5, h6⟩ := bind_s h4
  refine o_p rfl (p_rem rfl rfl (nz_some hx5).1) <| sI rfl <| o_ek (fr' := [(4, aI)]) rfl rfl <| w_ret ?_
  obtain rfl := sy h6
  exact e_ret (rs' := [.tmp 4]) rfl <| r_tmp (v := aI) rfl <| r_nil <| fin_gen [] rfl rfl rfl lr st_nil
noncomputable def ref39xOf (p0key : (List UInt8)) (p1n : Int) : Option Int :=
 cond (cond (decide (p1n < (1 : Int))) true (decide ((16 : Int) < p1n))) (some (0 : Int)) ((ref04xBucket p0key p1n).bind fun (x3 : Int) => some x3)
theorem w_ref39xOf {p0key : (List UInt8)} {p1n : Int} {res : Int} (h : ref39xOf p0key p1n = some res) : ACalls Tryd.prog 22 [.c (.str p0key), .c (.int .i64 p1n)] [] (.c (.int .i64 res)) [] := by
 unfold ref39xOf at h
 refine acalls (fn := Tryd.f22) [0, 1, 4, 10] (by kernel_rfl) Tryd.func22 rfl (by kernel_rfl) (by kernel_rfl) <| w_sr <| sI rfl <| o_ek (fr' := [(0, aS), (1, aI)]) rfl rfl <| w_seqw <| w_sr <| mI rfl <| o_p rfl (p_lss rfl rfl) <| mB rfl <| og rfl rfl rfl (fun hc => (p_move (v := aI) rfl)) <| og rfl rfl rfl (fun hc => (p_gtr (gx rfl hc) rfl)) ?_
 refine o_p rfl (p_pickz rfl rfl rfl (fun e => keq e)) <| o_ek (fr' := [(0, aS), (1, aI), (10, aB)]) rfl rfl <| w_ch h rfl (fun hb1 h1 => ?_) (fun hb1 h1 => ?_)
 ·
  refine w_sr <| sI rfl <| o_ek (fr' := [(4, aI)]) rfl rfl <| w_ret <| e_seq_r ?_
  obtain rfl := sy h1
  exact e_ret (rs' := [.tmp 4]) rfl <| r_tmp (v := aI) rfl <| r_nil <| fin_gen [] rfl rfl rfl lr st_nil
 ·
  refine w_skip <| e_kw <| w_sr <| mS rfl <| mI rfl ?_
  obtain ⟨x3, hx3, h4⟩ := bind_s h1
  refine o_v (ov_call (v := aI) rfl (w_ref04xBucket hx3) ⟨lr, lr, trivial⟩ rfl rfl rfl) <| sI rfl <| o_ek (fr' := [(4, aI)]) rfl rfl <| w_ret ?_
  obtain rfl := sy h4
  exact e_ret (rs' := [.tmp 4]) rfl <| r_tmp (v := aI) rfl <| r_nil <| fin_gen [] rfl rfl rfl lr st_nil
noncomputable def ref39xPath_l1 (p1degree : Int) (s6 : (Int × (List Int))) : Option (Step (Int × (List Int)) (List Int)) :=
 cond (decide ((0 : Int) < s6.1)) ((nz p1degree).bind fun (x8 : Int) => (app 8 s6.2 ([(IntKind.wrap .i64 (Int.tdiv (IntKind.wrap .i64 (s6.1 - (1 : Int))) p1degree))] : List Int)).bind fun (x10 : (List Int)) => some (Step.next ((IntKind.wrap .i64 (Int.tdiv (IntKind.wrap .i64 (s6.1 - (1 : Int))) p1degree)), x10))) (some (Step.out s6.2))
noncomputable def ref39xPath (p0i : Int) (p1degree : Int) : Option (List Int) :=
 cond (cond (cond (decide (p0i < (0 : Int))) true (decide ((16 : Int) ≤ p0i))) true (decide (p1degree < (1 : Int)))) (some ([] : (List Int))) (((loopO (ref39xPath_l1 p1degree) ((p0i, ([p0i] : List Int)))) : Option (List Int)).bind fun (x3 : (List Int)) => (some x3))
theorem w_ref39xPath {p0i : Int} {p1degree : Int} {res : (List Int)} (h : ref39xPath p0i p1degree = some res) : ACalls Tryd.prog 25 [.c (.int .i64 p0i), .c (.int .i64 p1degree)] [] (AV.os 0 1 (rowI .i64) res) [] := by
 unfold ref39xPath at h
 refine acalls (fn := Tryd.f25) [0, 1, 4, 5, 15, 19] (by kernel_rfl) Tryd.func25 rfl (by kernel_rfl) (by kernel_rfl) <| w_sr <| sV (v := AV.nil) rfl <| o_ek (fr' := [(0, aI), (1, aI)]) rfl rfl <| w_seqw <| w_sr <| mI rfl <| o_p rfl (p_lss rfl rfl) <| mB rfl <| og rfl rfl rfl (fun hc => (p_move (v := aI) rfl)) <| og rfl rfl rfl (fun hc => (p_geq (gx rfl hc) rfl)) ?_
 refine o_p rfl (p_pickz rfl rfl rfl (fun e => keq e)) <| mB rfl <| og rfl rfl rfl (fun hc => (p_move (v := aI) rfl)) <| og rfl rfl rfl (fun hc => (p_lss (gx rfl hc) rfl)) <| o_p rfl (p_pickz rfl rfl rfl (fun e => keq e)) <| o_ek (fr' := [(0, aI), (1, aI), (15, aB)]) rfl rfl <| w_ch h rfl (fun hb1 h1 => ?_) (fun hb1 h1 => ?_)
 ·
  refine w_sr <| sV (v := AV.nil) rfl <| o_ek (fr' := [(4, AV.nil)]) rfl rfl <| w_ret <| e_seq_r ?_
  obtain rfl := sy h1
  exact e_ret (rs' := [.tmp 4]) rfl <| r_tmp (v := AV.nil) rfl <| r_nil <| fin_gen [1000000] rfl rfl rfl (le_nos rfl) st_nil
 ·
  refine w_skip <| e_kw <| w_sr <| mI rfl <| o_rows (row := (rowI .i64)) (xs := ([p0i] : List Int)) (rows := [[_]]) (σ' := []) [0] ts48 rfl rfl rfl (arow_cons rfl arow_nil) rfl rfl <| sV (v := aO) rfl <| o_ek (fr' := [(0, aI), (1, aI), (5, aO)]) rfl rfl ?_
  obtain ⟨x3, hx3, h4⟩ := bind_s h1
  refine w_join (fun j5 => x3 = j5) (fun (j5 : (List Int)) => ([(5, AV.os 0 1 (rowI .i64) j5)] : Fr)) (fun (j5 : (List Int)) => ([] : St)) ?_ ?_
  ·
   refine w_block <| w_loopo _ (fun (s6 : (Int × (List Int))) => ([(0, .c (.int .i64 s6.1)), (1, .c (.int .i64 p1degree)), (5, AV.os 0 1 (rowI .i64) s6.2)] : Fr)) (fun (s6 : (Int × (List Int))) => ([] : St)) hx3 (w_weak [272] 0 rfl rfl rfl rfl ⟨lr, lr, lr, trivial⟩ st_nil) ?_
   intro s6 st6 hs6 ho6
   unfold ref39xPath_l1 at hs6
   refine w_seqw <| w_sr <| mI rfl <| o_p rfl (p_gtr rfl rfl) <| o_ek (fr' := [(0, aI), (1, aI), (5, aO), (19, aB)]) rfl rfl <| w_ch hs6 rfl (fun hb7 h7 => ?_) (fun hb7 h7 => ?_)
   ·
    refine w_skip <| e_kw <| w_block <| w_sr <| mI rfl <| o_p rfl (p_sub rfl rfl) <| mI rfl ?_
    obtain ⟨x8, hx8, h9⟩ := bind_s h7
    refine o_p rfl (p_quo rfl rfl (nz_some hx8).1) <| sI rfl <| o_ek (fr' := [(0, aI), (1, aI), (5, aO)]) rfl rfl <| w_region <| mV (v := aO) rfl <| mI rfl <| o_rows (row := (rowI .i64)) (xs := ([(IntKind.wrap .i64 (Int.tdiv (IntKind.wrap .i64 (s6.1 - (1 : Int))) p1degree))] : List Int)) (rows := [[_]]) (σ' := []) [0] ts48 rfl rfl rfl (arow_cons rfl arow_nil) rfl rfl ?_
    obtain ⟨x10, hx10, h11⟩ := bind_s h9
    exact o_app (row := (rowI .i64)) ts48 rfl ti48 rfl (isl_o rfl) (fun _ => rfl) hx10 <| sV (v := aO) rfl <| o_end (fr' := [(0, aI), (1, aI), (5, aO)]) rfl <| e_blk_n <| e_l _ (sy h11) (w_weak [432] 0 rfl rfl rfl rfl ⟨lr, lr, lr, trivial⟩ st_nil)
   ·
    refine w_exit <| e_seq_x <| e_seq_x <| e_blk_h ?_
    have h12 := un_out h7 ho6
    exact e_j _ (sy h12) (w_weak [0] 0 rfl rfl rfl rfl ⟨lr, trivial⟩ st_nil)
  ·
   intro j5 hj13
   subst hj13
   refine w_sr <| mV (v := aO) rfl <| sV (v := aO) rfl <| o_ek (fr' := [(4, aO)]) rfl rfl <| w_ret ?_
   obtain rfl := sy h4
   exact e_ret (rs' := [.tmp 4]) rfl <| r_tmp (v := aO) rfl <| r_nil <| fin_gen [0] rfl rfl rfl lr st_nil
noncomputable def ref39xChildren_l1 (p0i : Int) (p2n : Int) (p1degree : Int) (s6 : ((List Int) × Int)) : Option (Step ((List Int) × Int) (List Int)) :=
 cond (decide (s6.2 < p2n)) ((ref39xParent s6.2 p1degree).bind fun (x8 : (Int × Bool)) => cond (cond x8.2 (decide (x8.1 = p0i)) false) ((app 8 s6.1 ([s6.2] : List Int)).bind fun (x11 : (List Int)) => some (Step.next (x11, (IntKind.wrap .i64 (s6.2 + (1 : Int)))))) (some (Step.next (s6.1, (IntKind.wrap .i64 (s6.2 + (1 : Int))))))) (some (Step.out s6.1))
noncomputable def ref39xChildren (p0i : Int) (p1degree : Int) (p2n : Int) : Option (List Int) :=
 cond (decide ((16 : Int) < p2n)) (some ([] : (List Int))) (((loopO (ref39xChildren_l1 p0i p2n p1degree) ((([] : (List Int)), (1 : Int)))) : Option (List Int)).bind fun (x3 : (List Int)) => (some x3))
theorem w_ref39xChildren {p0i : Int} {p1degree : Int} {p2n : Int} {res : (List Int)} (h : ref39xChildren p0i p1degree p2n = some res) : ACalls Tryd.prog 27 [.c (.int .i64 p0i), .c (.int .i64 p1degree), .c (.int .i64 p2n)] [] (AV.os 0 1 (rowI .i64) res) [] := by
 unfold ref39xChildren at h
 refine acalls (fn := Tryd.f27) [0, 1, 2, 6, 7, 8, 9, 10, 12, 15, 29] (by kernel_rfl) Tryd.func27 rfl (by kernel_rfl) (by kernel_rfl) <| w_sr <| sV (v := AV.nil) rfl <| o_ek (fr' := [(0, aI), (1, aI), (2, aI)]) rfl rfl <| w_seqw <| w_sr <| mI rfl <| o_p rfl (p_gtr rfl rfl) <| o_ek (fr' := [(0, aI), (1, aI), (2, aI), (12, aB)]) rfl rfl <| w_ch h rfl (fun hb1 h1 => ?_) (fun hb1 h1 => ?_)
 ·
  refine w_sr <| sV (v := AV.nil) rfl <| o_ek (fr' := [(6, AV.nil)]) rfl rfl <| w_ret <| e_seq_r ?_
  obtain rfl := sy h1
  exact e_ret (rs' := [.tmp 6]) rfl <| r_tmp (v := AV.nil) rfl <| r_nil <| fin_gen [1000000] rfl rfl rfl (le_nos rfl) st_nil
 ·
  refine w_skip <| e_kw <| w_sr <| sV (v := AV.nil) rfl <| o_ek (fr' := [(0, aI), (1, aI), (2, aI), (7, AV.nil)]) rfl rfl <| w_seqw <| w_sr <| sI rfl <| o_ek (fr' := [(0, aI), (1, aI), (2, aI), (7, AV.nil), (8, aI)]) rfl rfl ?_
  obtain ⟨x3, hx3, h4⟩ := bind_s h1
  refine w_jtail cl_kw (fun j5 => x3 = j5) (fun (j5 : (List Int)) => ([(7, AV.os 0 1 (rowI .i64) j5)] : Fr)) (fun (j5 : (List Int)) => ([] : St)) ?_ ?_
  ·
   refine w_block <| w_loopo _ (fun (s6 : ((List Int) × Int)) => ([(0, .c (.int .i64 p0i)), (1, .c (.int .i64 p1degree)), (2, .c (.int .i64 p2n)), (7, AV.os 0 1 (rowI .i64) s6.1), (8, .c (.int .i64 s6.2))] : Fr)) (fun (s6 : ((List Int) × Int)) => ([] : St)) hx3 (w_weak [1000000] 0 rfl rfl rfl rfl ⟨lr, lr, lr, (le_nos rfl), lr, trivial⟩ st_nil) ?_
   intro s6 st6 hs6 ho6
   unfold ref39xChildren_l1 at hs6
   refine w_seqw <| w_sr <| mI rfl <| mI rfl <| o_p rfl (p_lss rfl rfl) <| o_ek (fr' := [(0, aI), (1, aI), (2, aI), (7, aO), (8, aI), (15, aB)]) rfl rfl <| w_ch hs6 rfl (fun hb7 h7 => ?_) (fun hb7 h7 => ?_)
   ·
    refine w_skip <| e_kw <| w_seqw <| w_block <| w_sr <| mI rfl <| mI rfl ?_
    obtain ⟨x8, hx8, h9⟩ := bind_s h7
    refine o_v (ov_call (v := .tup [aI, aB]) rfl (w_ref39xParent hx8) ⟨lr, lr, trivial⟩ rfl rfl rfl) <| mV (v := .tup [aI, aB]) rfl <| o_p rfl (p_ex (v := aI) rfl rfl) <| o_p rfl (p_ex (v := aB) rfl rfl) <| sI rfl <| sB rfl <| o_ek (fr' := [(0, aI), (1, aI), (2, aI), (7, aO), (8, aI), (9, aI), (10, aB)]) rfl rfl <| w_sr <| mB rfl <| mB rfl <| og rfl rfl rfl (fun hc => (p_move (v := aI) rfl)) <| og rfl rfl rfl (fun hc => (p_move (v := aI) rfl)) ?_
    refine og rfl rfl rfl (fun hc => (p_eql (gx rfl hc) (gx rfl hc))) <| o_p rfl (p_picky rfl rfl rfl (fun e => keq e)) <| o_ek (fr' := [(0, aI), (1, aI), (2, aI), (7, aO), (8, aI), (29, aB)]) rfl rfl <| w_ch h9 rfl (fun hb10 h10 => ?_) (fun hb10 h10 => ?_)
    ·
     refine w_region <| mV (v := aO) rfl <| mI rfl <| o_rows (row := (rowI .i64)) (xs := ([s6.2] : List Int)) (rows := [[_]]) (σ' := []) [0] ts48 rfl rfl rfl (arow_cons rfl arow_nil) rfl rfl ?_
     obtain ⟨x11, hx11, h12⟩ := bind_s h10
     exact o_app (row := (rowI .i64)) ts48 rfl ti48 rfl (isl_o rfl) (fun _ => rfl) hx11 <| sV (v := aO) rfl <| o_end (fr' := [(0, aI), (1, aI), (2, aI), (7, aO), (8, aI), (29, aB)]) rfl <| e_blk_n <| e_kw <| w_region <| mI rfl <| o_p rfl (p_add rfl rfl) <| sI rfl <| o_end (fr' := [(0, aI), (1, aI), (2, aI), (7, aO), (8, aI), (29, aB)]) rfl <| e_l _ (sy h12) (w_weak [528] 0 rfl rfl rfl rfl ⟨lr, lr, lr, lr, lr, trivial⟩ st_nil)
    ·
     exact w_skip <| e_blk_n <| e_kw <| w_region <| mI rfl <| o_p rfl (p_add rfl rfl) <| sI rfl <| o_end (fr' := [(0, aI), (1, aI), (2, aI), (7, aO), (8, aI), (29, aB)]) rfl <| e_l _ (sy h10) (w_weak [0] 0 rfl rfl rfl rfl ⟨lr, lr, lr, lr, lr, trivial⟩ st_nil)
   ·
    refine w_exit <| e_seq_x <| e_seq_x <| e_blk_h ?_
    have h13 := un_out h7 ho6
    exact e_j _ (sy h13) (w_weak [0] 0 rfl rfl rfl rfl ⟨lr, trivial⟩ st_nil)
  ·
   intro j5 hj14
   subst hj14
   refine e_kw <| w_sr <| mV (v := aO) rfl <| sV (v := aO) rfl <| o_ek (fr' := [(6, aO)]) rfl rfl <| w_ret ?_
   obtain rfl := sy h4
   exact e_ret (rs' := [.tmp 6]) rfl <| r_tmp (v := aO) rfl <| r_nil <| fin_gen [0] rfl rfl rfl lr st_nil
end Go.Proofs.YtnghhjokfelglaaDoor

import Derived.Test.YtopijeegnhighaaDoorGATy
namespace Go.Proofs.YtopijeegnhighaaDoor
open Go Abs
set_option maxRecDepth 100000
set_option linter.unusedVariables false
set_option linter.unusedSimpArgs false
noncomputable def law45xfew (p0r : ApiRun) : Option Bool :=
 some (cond (cond (decide (((p0r.History).length : Int) ≤ (100 : Int))) (decide (((p0r.Pending.Kids).length : Int) ≤ (50 : Int))) false) (decide (((p0r.Pending.Sends).length : Int) ≤ (50 : Int))) false)
theorem w_law45xfew {p0r : ApiRun} {res : Bool} (h : law45xfew p0r = some res) : ACalls Tryd.prog 13 [.agg (AV.cs (rowApiRun p0r))] [] (.c (.bool res)) [] := by
 unfold law45xfew at h
 refine acalls (fn := Tryd.f13) [0, 1, 2] (by kernel_rfl) Tryd.func13 rfl (by kernel_rfl) (by kernel_rfl) <| w_sr <| o_box (v := .agg aSSSILIIIIIISIISLLIISLLBLLLLLLLLLII) (n := 0) (cs := aSSSILIIIIIISIISLLIISLLBLLLLLLLLLII) (σ' := [aSSSILIIIIIISIISLLIISLLBLLLLLLLLLII]) rfl rfl rfl rfl rfl <| sB rfl <| o_ek (fr' := [(1, .box 0 0)]) rfl rfl <| w_sr <| o_p rfl (p_fa tf37x4 rfl) <| o_p rfl (p_load (v := aL) tv22 rfl rfl rfl) <| o_p rfl (p_len ti22 (isl_c rfl)) <| o_p rfl (p_leq rfl rfl) <| mB rfl ?_
 refine og rfl rfl rfl (fun hc => (p_fa tf37x5 rfl)) <| og rfl rfl rfl (fun hc => (p_fa tf33x12 (gx rfl hc))) <| og rfl rfl rfl (fun hc => (p_load (v := aL) tv29 (gx rfl hc) rfl rfl)) <| og rfl rfl rfl (fun hc => (p_len ti29 (isl_c (gx rfl hc)))) <| og rfl rfl rfl (fun hc => (p_leq (gx rfl hc) rfl)) <| o_p rfl (p_picky rfl rfl rfl (fun e => keq e)) <| mB rfl <| og rfl rfl rfl (fun hc => (p_fa tf37x5 rfl)) <| og rfl rfl rfl (fun hc => (p_fa tf33x13 (gx rfl hc))) <| og rfl rfl rfl (fun hc => (p_load (v := aL) tv30 (gx rfl hc) rfl rfl)) <| og rfl rfl rfl (fun hc => (p_len ti30 (isl_c (gx rfl hc)))) <| og rfl rfl rfl (fun hc => (p_leq (gx rfl hc) rfl)) <| o_p rfl (p_picky rfl rfl rfl (fun e => keq e)) ?_
 refine sB rfl <| o_ek (fr' := [(2, aB)]) rfl rfl <| w_ret ?_
 obtain rfl := sy h
 exact e_ret (rs' := [.tmp 2]) rfl <| r_tmp (v := aB) rfl <| r_nil <| fin_gen [] rfl rfl rfl lr st_nil
noncomputable def event_Status (p0kind : Int) : Option (Int × Bool) :=
 cond (decide (p0kind = (30 : Int))) (some ((1 : Int), true)) (cond (decide (p0kind = (31 : Int))) (some ((2 : Int), true)) (cond (decide (p0kind = (32 : Int))) (some ((3 : Int), true)) (cond (decide (p0kind = (33 : Int))) (some ((4 : Int), true)) (cond (decide (p0kind = (34 : Int))) (some ((5 : Int), true)) (cond (decide (p0kind = (35 : Int))) (some ((6 : Int), true)) (some ((0 : Int), false)))))))
theorem w_event_Status {p0kind : Int} {res : (Int × Bool)} (h : event_Status p0kind = some res) : ACalls Tryd.prog 77 [.c (.int .i64 p0kind)] [] (.tup [.c (.int .i64 res.1), .c (.bool res.2)]) [] := by
 unfold event_Status at h
 refine acalls (fn := Tryd.f77) [0, 2, 3, 4, 5, 7, 9, 11, 13, 15] (by kernel_rfl) Tryd.func77 rfl (by kernel_rfl) (by kernel_rfl) <| w_sr <| sI rfl <| sB rfl <| o_ek (fr' := [(0, aI)]) rfl rfl <| w_seqw <| w_sr <| mI rfl <| o_ek (fr' := [(4, aI)]) rfl rfl <| w_block <| w_seqw ?_
 refine w_region <| o_p rfl (p_eql rfl rfl) <| sB rfl <| o_ek (fr' := [(4, aI), (5, aB)]) rfl rfl <| w_ch h rfl (fun hb1 h1 => ?_) (fun hb1 h1 => ?_)
 ·
  refine w_sr <| sI rfl <| sB rfl <| o_ek (fr' := [(2, aI), (3, aB)]) rfl rfl <| w_ret <| e_blk_r <| e_seq_r ?_
  obtain rfl := sy h1
  exact e_ret (rs' := [.tmp 2, .tmp 3]) rfl <| r_tmp (v := aI) rfl <| r_tmp (v := aB) rfl <| r_nil <| fin_gen [] rfl rfl rfl (le_tupp rfl ⟨lr, lr, trivial⟩) st_nil
 ·
  refine w_sr <| o_p rfl (p_eql rfl rfl) <| sB rfl <| o_ek (fr' := [(4, aI), (7, aB)]) rfl rfl <| w_ch h1 rfl (fun hb3 h3 => ?_) (fun hb3 h3 => ?_)
  ·
   refine w_sr <| sI rfl <| sB rfl <| o_ek (fr' := [(2, aI), (3, aB)]) rfl rfl <| w_ret <| e_blk_r <| e_seq_r ?_
   obtain rfl := sy h3
   exact e_ret (rs' := [.tmp 2, .tmp 3]) rfl <| r_tmp (v := aI) rfl <| r_tmp (v := aB) rfl <| r_nil <| fin_gen [] rfl rfl rfl (le_tupp rfl ⟨lr, lr, trivial⟩) st_nil
  ·
   refine w_sr <| o_p rfl (p_eql rfl rfl) <| sB rfl <| o_ek (fr' := [(4, aI), (9, aB)]) rfl rfl <| w_ch h3 rfl (fun hb5 h5 => ?_) (fun hb5 h5 => ?_)
   ·
    refine w_sr <| sI rfl <| sB rfl <| o_ek (fr' := [(2, aI), (3, aB)]) rfl rfl <| w_ret <| e_blk_r <| e_seq_r ?_
    obtain rfl := sy h5
    exact e_ret (rs' := [.tmp 2, .tmp 3]) rfl <| r_tmp (v := aI) rfl <| r_tmp (v := aB) rfl <| r_nil <| fin_gen [] rfl rfl rfl (le_tupp rfl ⟨lr, lr, trivial⟩) st_nil
   ·
    refine w_sr <| o_p rfl (p_eql rfl rfl) <| sB rfl <| o_ek (fr' := [(4, aI), (11, aB)]) rfl rfl <| w_ch h5 rfl (fun hb7 h7 => ?_) (fun hb7 h7 => ?_)
    ·
     refine w_sr <| sI rfl <| sB rfl <| o_ek (fr' := [(2, aI), (3, aB)]) rfl rfl <| w_ret <| e_blk_r <| e_seq_r ?_
     obtain rfl := sy h7
     exact e_ret (rs' := [.tmp 2, .tmp 3]) rfl <| r_tmp (v := aI) rfl <| r_tmp (v := aB) rfl <| r_nil <| fin_gen [] rfl rfl rfl (le_tupp rfl ⟨lr, lr, trivial⟩) st_nil
    ·
     refine w_sr <| o_p rfl (p_eql rfl rfl) <| sB rfl <| o_ek (fr' := [(4, aI), (13, aB)]) rfl rfl <| w_ch h7 rfl (fun hb9 h9 => ?_) (fun hb9 h9 => ?_)
     ·
      refine w_sr <| sI rfl <| sB rfl <| o_ek (fr' := [(2, aI), (3, aB)]) rfl rfl <| w_ret <| e_blk_r <| e_seq_r ?_
      obtain rfl := sy h9
      exact e_ret (rs' := [.tmp 2, .tmp 3]) rfl <| r_tmp (v := aI) rfl <| r_tmp (v := aB) rfl <| r_nil <| fin_gen [] rfl rfl rfl (le_tupp rfl ⟨lr, lr, trivial⟩) st_nil
     ·
      refine w_sr <| o_p rfl (p_eql rfl rfl) <| sB rfl <| o_ek (fr' := [(15, aB)]) rfl rfl <| w_ch h9 rfl (fun hb11 h11 => ?_) (fun hb11 h11 => ?_)
      ·
       refine w_sr <| sI rfl <| sB rfl <| o_ek (fr' := [(2, aI), (3, aB)]) rfl rfl <| w_ret <| e_blk_r <| e_seq_r ?_
       obtain rfl := sy h11
       exact e_ret (rs' := [.tmp 2, .tmp 3]) rfl <| r_tmp (v := aI) rfl <| r_tmp (v := aB) rfl <| r_nil <| fin_gen [] rfl rfl rfl (le_tupp rfl ⟨lr, lr, trivial⟩) st_nil
      ·
       refine w_skip <| e_blk_n <| e_kw <| w_sr <| sI rfl <| sB rfl <| o_ek (fr' := [(2, aI), (3, aB)]) rfl rfl <| w_ret ?_
       obtain rfl := sy h11
       exact e_ret (rs' := [.tmp 2, .tmp 3]) rfl <| r_tmp (v := aI) rfl <| r_tmp (v := aB) rfl <| r_nil <| fin_gen [] rfl rfl rfl (le_tupp rfl ⟨lr, lr, trivial⟩) st_nil
noncomputable def history_Status_l1 (p0l : (List ApiEvent)) (s4 : Int) : Option (Step Int (Fl (Int × Int) Unit)) :=
 cond (decide (s4 < ((p0l).length : Int))) ((idx p0l s4).bind fun (x6 : ApiEvent) => (event_Status x6.Kind).bind fun (x8 : (Int × Bool)) => cond x8.2 (some (Step.out (Fl.done (x8.1, s4)))) (some (Step.next (IntKind.wrap .i64 (s4 + (1 : Int)))))) (some (Step.out (Fl.go ())))
noncomputable def history_Status (p0l : (List ApiEvent)) : Option (Int × Int) :=
 ((loopO (history_Status_l1 p0l) ((0 : Int))) : Option (Fl (Int × Int) Unit)).bind fun (x1 : (Fl (Int × Int) Unit)) => Fl.next x1 (fun (j3 : Unit) => (some ((0 : Int), (-1 : Int))))
theorem w_history_Status {p0l : (List ApiEvent)} {res : (Int × Int)} (h : history_Status p0l = some res) : ACalls Tryd.prog 48 [.c (PV.ls 24 rowApiEvent p0l)] [] (.tup [.c (.int .i64 res.1), .c (.int .i64 res.2)]) [] := by
 unfold history_Status at h
 refine acalls (fn := Tryd.f48) [0, 2, 3, 4, 5, 6, 7, 8, 9, 10, 11, 21] (by kernel_rfl) Tryd.func48 rfl (by kernel_rfl) (by kernel_rfl) <| w_sr <| sI rfl <| sI rfl <| o_ek (fr' := [(0, aL)]) rfl rfl <| w_seqw <| w_sr <| mL rfl <| o_p rfl (p_len ti22 (isl_c rfl)) <| mI rfl <| o_ek (fr' := [(8, aL), (9, aI), (10, aI)]) rfl rfl ?_
 obtain ⟨x1, hx1, h2⟩ := bind_s h
 refine w_jtail cl_kw (fun j3 => x1 = Fl.go j3) (fun (j3 : Unit) => ([] : Fr)) (fun (j3 : Unit) => ([] : St)) ?_ ?_
 ·
  refine w_block <| w_loopo _ (fun (s4 : Int) => ([(8, .c (PV.ls 24 rowApiEvent p0l)), (9, .c (.int .i64 ((p0l).length : Int))), (10, .c (.int .i64 s4))] : Fr)) (fun (s4 : Int) => ([] : St)) hx1 (w_weak [] 0 rfl rfl rfl rfl ⟨lr, lr, lr, trivial⟩ st_nil) ?_
  intro s4 st4 hs4 ho4
  unfold history_Status_l1 at hs4
  refine w_sr <| o_p rfl (p_lss rfl rfl) <| o_ek (fr' := [(8, aL), (9, aI), (10, aI), (11, aB)]) rfl rfl <| w_seqw <| w_ch hs4 rfl (fun hb5 h5 => ?_) (fun hb5 h5 => ?_)
  ·
   refine w_skip <| e_kw <| w_seqw <| w_block <| w_sr <| mI rfl ?_
   obtain ⟨x6, hx6, h7⟩ := bind_s h5
   refine o_p rfl (p_ia (cs := [PV.int _ _, PV.int _ _, PV.int _ _, PV.int _ _, PV.int _ _, PV.int _ _, PV.int _ _, PV.str _, PV.str _, PV.int _ _, PV.int _ _, PV.str _, PV.ls _ _ _, PV.ls _ _ _, PV.str _, PV.int _ _, PV.int _ _, PV.int _ _, PV.int _ _, PV.int _ _, PV.int _ _, PV.int _ _, PV.int _ _, PV.ls _ _ _]) ts22 (isl_c rfl) rfl hx6 rfl) <| o_p rfl (p_loades (us := [PV.int _ _, PV.int _ _, PV.int _ _, PV.int _ _, PV.int _ _, PV.int _ _, PV.int _ _, PV.str _, PV.str _, PV.int _ _, PV.int _ _, PV.str _, PV.ls _ _ _, PV.ls _ _ _, PV.str _, PV.int _ _, PV.int _ _, PV.int _ _, PV.int _ _, PV.int _ _, PV.int _ _, PV.int _ _, PV.int _ _, PV.ls _ _ _]) tv80 rfl rfl rfl) <| o_alloc (n := 0) (cs := [aI, aI, aI, aI, aI, aI, aI, aS, aS, aI, aI, aS, AV.nil, AV.nil, aS, aI, aI, aI, aI, aI, aI, aI, aI, AV.nil]) (σ' := [[aI, aI, aI, aI, aI, aI, aI, aS, aS, aI, aI, aS, AV.nil, AV.nil, aS, aI, aI, aI, aI, aI, aI, aI, aI, AV.nil]]) tz80 rfl rfl rfl <| sI rfl <| o_store (v := .agg aIIIIIIISSIISLLSIIIIIIIIL) (us := aIIIIIIISSIISLLSIIIIIIIIL) (cs := [aI, aI, aI, aI, aI, aI, aI, aS, aS, aI, aI, aS, AV.nil, AV.nil, aS, aI, aI, aI, aI, aI, aI, aI, aI, AV.nil]) (σ' := [aIIIIIIISSIISLLSIIIIIIIIL]) rfl tv80 rfl rfl rfl rfl rfl rfl rfl rfl <| o_ek (fr' := [(4, aI), (5, .box 0 0), (8, aL), (9, aI), (10, aI)]) rfl rfl <| w_sr <| o_p rfl (p_fa tf80x1 rfl) <| o_p rfl (p_load (v := aI) tv3 rfl rfl rfl) ?_
   obtain ⟨x8, hx8, h9⟩ := bind_s h7
   refine o_v (ov_call (v := .tup [aI, aB]) rfl (w_event_Status hx8) ⟨lr, trivial⟩ rfl rfl rfl) <| mV (v := .tup [aI, aB]) rfl <| o_p rfl (p_ex (v := aI) rfl rfl) <| o_p rfl (p_ex (v := aB) rfl rfl) <| sI rfl <| sB rfl <| o_ek (fr' := [(4, aI), (6, aI), (7, aB), (8, aL), (9, aI), (10, aI)]) rfl rfl <| w_sr <| mB rfl <| o_ek (fr' := [(4, aI), (6, aI), (8, aL), (9, aI), (10, aI), (21, aB)]) rfl rfl <| w_ch h9 rfl (fun hb10 h10 => ?_) (fun hb10 h10 => ?_)
   ·
    refine w_sr <| mI rfl <| mI rfl <| sI rfl <| sI rfl <| o_ek (fr' := [(2, aI), (3, aI)]) rfl rfl <| w_ret <| e_blk_r <| e_seq_r <| e_seq_r <| e_blk_r <| e_seq_r ?_
    refine e_seq_r ?_
    have h11 := un_out h10 ho4
    have h12 := un_done h11 h2
    obtain rfl := sy h12
    exact e_ret (rs' := [.tmp 2, .tmp 3]) rfl <| r_tmp (v := aI) rfl <| r_tmp (v := aI) rfl <| r_nil <| fin_gen [] rfl rfl rfl (le_tupp rfl ⟨lr, lr, trivial⟩) st_nil
   ·
    exact w_skip <| e_blk_n <| e_kw <| w_region <| o_p rfl (p_add rfl rfl) <| mI rfl <| o_end (fr' := [(4, aI), (6, aI), (8, aL), (9, aI), (10, aI), (21, aB)]) rfl <| e_l _ (sy h10) (w_weak [] 0 rfl rfl rfl rfl ⟨lr, lr, lr, trivial⟩ st_nil)
  ·
   refine w_exit <| e_seq_x <| e_seq_x <| e_blk_h ?_
   have h14 := un_out h5 ho4
   exact e_j _ (sy h14) (w_weak [] 0 rfl rfl rfl rfl trivial st_nil)
 ·
  intro j3 hj15
  have h15 := un_go hj15 h2
  refine e_kw <| w_sr <| sI rfl <| sI rfl <| o_ek (fr' := [(2, aI), (3, aI)]) rfl rfl <| w_ret ?_
  obtain rfl := sy h15
  exact e_ret (rs' := [.tmp 2, .tmp 3]) rfl <| r_tmp (v := aI) rfl <| r_tmp (v := aI) rfl <| r_nil <| fin_gen [] rfl rfl rfl (le_tupp rfl ⟨lr, lr, trivial⟩) st_nil
noncomputable def stringslite_Index (p0C : (List UInt8)) (p1o : (List UInt8)) : Option Int :=
 match p1o with
 | [c] => some (Lib.indexByte p0C c)
 | _ => none
theorem w_stringslite_Index {p0C : (List UInt8)} {p1o : (List UInt8)} {res : Int} (h : stringslite_Index p0C p1o = some res) : ACalls Tryd.prog 105 [.c (.str p0C), .c (.str p1o)] [] (.c (.int .i64 res)) [] := by
 unfold stringslite_Index at h
 split at h
 ·
  rename_i c
  cases h
  refine acalls_lib (by kernel_rfl) fun g w vs hv hI hg => ?_
  rw [rc_strs hv]
  refine (Tryd.stringslite_Index_one ⟨p0C.toArray⟩ c w).mono fun e w' => ?_
  rintro ⟨rfl, rfl⟩
  exact ⟨_, rfl, RowKit.Below.refl _ _, fun g' => .c (.int _ _)⟩
 ·
  cases h
noncomputable def stringslite_Cut (p0s : (List UInt8)) (p1sep : (List UInt8)) : Option ((List UInt8) × (List UInt8) × Bool) :=
 (stringslite_Index p0s p1sep).bind fun (x1 : Int) => cond (decide ((0 : Int) ≤ x1)) ((slcH p0s x1).bind fun (x4 : (List UInt8)) => (slcL p0s (IntKind.wrap .i64 (x1 + ((p1sep).length : Int)))).bind fun (x6 : (List UInt8)) => some ((List.take (Int.toNat x1) p0s), (List.drop (Int.toNat (IntKind.wrap .i64 (x1 + ((p1sep).length : Int)))) p0s), true)) (some (p0s, ([] : List UInt8), false))
theorem w_stringslite_Cut {p0s : (List UInt8)} {p1sep : (List UInt8)} {res : ((List UInt8) × (List UInt8) × Bool)} (h : stringslite_Cut p0s p1sep = some res) : ACalls Tryd.prog 94 [.c (.str p0s), .c (.str p1sep)] [] (.tup [.c (.str res.1), .c (.str res.2.1), .c (.bool res.2.2)]) [] := by
 unfold stringslite_Cut at h
 refine acalls (fn := Tryd.f94) [0, 1, 4, 5, 6, 7, 12] (by kernel_rfl) Tryd.func94 rfl (by kernel_rfl) (by kernel_rfl) <| w_sr <| sS rfl <| sS rfl <| sB rfl <| o_ek (fr' := [(0, aS), (1, aS)]) rfl rfl <| w_seqw <| w_sr <| mS rfl <| mS rfl ?_
 obtain ⟨x1, hx1, h2⟩ := bind_s h
 refine o_v (ov_call (v := aI) rfl (w_stringslite_Index hx1) ⟨lr, lr, trivial⟩ rfl rfl rfl) <| sI rfl <| o_ek (fr' := [(0, aS), (1, aS), (7, aI)]) rfl rfl <| w_sr <| mI rfl <| o_p rfl (p_geq rfl rfl) <| o_ek (fr' := [(0, aS), (1, aS), (7, aI), (12, aB)]) rfl rfl <| w_ch h2 rfl (fun hb3 h3 => ?_) (fun hb3 h3 => ?_)
 ·
  refine w_seqw <| w_planT [.q 0, .q 1, .q 2, .q 3, .q 4, .q 5, .q 6, .q 7, .q 8, .n 9 [3, 4, 5, 6, 7, 8], .n 10 [], .n 11 []] [(some 13, [0]), (some 14, [7]), (some 15, [13, 14]), (some 16, [0]), (some 17, [7]), (some 18, [1]), (some 19, [18]), (some 20, [17, 19]), (some 21, [16, 20]), (some 4, [15]), (some 5, [21]), (some 6, [])] [0, 0, 3, 0, 0, 0, 32, 112, 248, 7, 1023, 2047] (by kernel_rfl) <| dq rfl rfl (p_move (v := aS) rfl) <| dq rfl rfl (p_move (v := aI) rfl) ?_
  obtain ⟨x4, hx4, h5⟩ := bind_s h3
  refine dq rfl rfl (p_slS_h ti9 rfl rfl (slcH_some hx4).1) <| dq rfl rfl (p_move (v := aS) rfl) <| dq rfl rfl (p_move (v := aI) rfl) <| dq rfl rfl (p_move (v := aS) rfl) <| dq rfl rfl (p_lens ti9 rfl) <| dq rfl rfl (p_add rfl rfl) ?_
  obtain ⟨x6, hx6, h7⟩ := bind_s h5
  refine dq rfl rfl (p_slS_l ti9 rfl rfl (slcL_some hx6).1) <| d_n rfl ?_ rfl
  refine sS rfl <| o_rc <| ⟨(rc_q (v := aS) rfl rfl (qv_p rfl (p_move (v := aS) rfl)) (rc_q (v := aI) rfl rfl (qv_p rfl (p_move (v := aI) rfl)) (rc_q (v := aS) rfl rfl (qv_p rfl (p_move (v := aS) rfl)) (rc_q (v := aI) rfl rfl (qv_p rfl (p_lens ti9 rfl)) (rc_q (v := aI) rfl rfl (qv_p rfl (p_add rfl rfl)) (rc_q (v := aS) rfl rfl (qv_p rfl (p_slS_l ti9 rfl rfl (slcL_some hx6).1)) rc_nil)))))), ?_⟩
  refine d_n rfl ?_ rfl
  refine sS rfl <| o_rc <| ⟨rc_nil, ?_⟩
  refine d_n rfl ?_ rfl
  refine sB rfl <| o_rc <| ⟨rc_nil, ?_⟩
  refine d_ek (fr' := [(4, aS), (5, aS), (6, aB)]) rfl rfl <| w_ret <| e_seq_r ?_
  obtain rfl := sy h7
  exact e_ret (rs' := [.tmp 4, .tmp 5, .tmp 6]) rfl <| r_tmp (v := aS) rfl <| r_tmp (v := aS) rfl <| r_tmp (v := aB) rfl <| r_nil <| fin_gen [] rfl rfl rfl (le_tupp rfl ⟨lr, lr, lr, trivial⟩) st_nil
 ·
  refine w_skip <| e_kw <| w_sr <| mS rfl <| sS rfl <| sS rfl <| sB rfl <| o_ek (fr' := [(4, aS), (5, aS), (6, aB)]) rfl rfl <| w_ret ?_
  obtain rfl := sy h3
  exact e_ret (rs' := [.tmp 4, .tmp 5, .tmp 6]) rfl <| r_tmp (v := aS) rfl <| r_tmp (v := aS) rfl <| r_tmp (v := aB) rfl <| r_nil <| fin_gen [] rfl rfl rfl (le_tupp rfl ⟨lr, lr, lr, trivial⟩) st_nil
noncomputable def strings_Cut (p0s : (List UInt8)) (p1sep : (List UInt8)) : Option ((List UInt8) × (List UInt8) × Bool) :=
 (stringslite_Cut p0s p1sep).bind fun (x1 : ((List UInt8) × (List UInt8) × Bool)) => some (x1.1, x1.2.1, x1.2.2)
theorem w_strings_Cut {p0s : (List UInt8)} {p1sep : (List UInt8)} {res : ((List UInt8) × (List UInt8) × Bool)} (h : strings_Cut p0s p1sep = some res) : ACalls Tryd.prog 78 [.c (.str p0s), .c (.str p1sep)] [] (.tup [.c (.str res.1), .c (.str res.2.1), .c (.bool res.2.2)]) [] := by
 unfold strings_Cut at h
 refine acalls (fn := Tryd.f78) [0, 1, 4, 5, 6] (by kernel_rfl) Tryd.func78 rfl (by kernel_rfl) (by kernel_rfl) <| w_sr <| sS rfl <| sS rfl <| sB rfl <| o_ek (fr' := [(0, aS), (1, aS)]) rfl rfl <| w_sr <| mS rfl <| mS rfl ?_
 obtain ⟨x1, hx1, h2⟩ := bind_s h
 refine o_v (ov_call (v := .tup [aS, aS, aB]) rfl (w_stringslite_Cut hx1) ⟨lr, lr, trivial⟩ rfl rfl rfl) <| o_p rfl (p_ex (v := aS) rfl rfl) <| o_p rfl (p_ex (v := aS) rfl rfl) <| o_p rfl (p_ex (v := aB) rfl rfl) <| sS rfl <| sS rfl <| sB rfl <| o_ek (fr' := [(4, aS), (5, aS), (6, aB)]) rfl rfl <| w_ret ?_
 obtain rfl := sy h2
 exact e_ret (rs' := [.tmp 4, .tmp 5, .tmp 6]) rfl <| r_tmp (v := aS) rfl <| r_tmp (v := aS) rfl <| r_tmp (v := aB) rfl <| r_nil <| fin_gen [] rfl rfl rfl (le_tupp rfl ⟨lr, lr, lr, trivial⟩) st_nil
noncomputable def strings_Contains (p0s : (List UInt8)) (p1substr : (List UInt8)) : Option Bool :=
 match p1substr with
 | [c] => some (decide (0 ≤ Lib.indexByte p0s c))
 | _ => none
theorem w_strings_Contains {p0s : (List UInt8)} {p1substr : (List UInt8)} {res : Bool} (h : strings_Contains p0s p1substr = some res) : ACalls Tryd.prog 79 [.c (.str p0s), .c (.str p1substr)] [] (.c (.bool res)) [] := by
 unfold strings_Contains at h
 split at h
 ·
  rename_i c
  cases h
  refine acalls_lib (by kernel_rfl) fun g w vs hv hI hg => ?_
  rw [rc_strs hv]
  refine (Tryd.strings_Contains_one ⟨p0s.toArray⟩ c w).mono fun e w' => ?_
  rintro ⟨rfl, rfl⟩
  exact ⟨_, rfl, RowKit.Below.refl _ _, fun g' => .c (.bool _)⟩
 ·
  cases h
noncomputable def name_Split (p0key : (List UInt8)) : Option ((List UInt8) × (List UInt8) × Bool) :=
 (strings_Cut p0key ([47] : List UInt8)).bind fun (x1 : ((List UInt8) × (List UInt8) × Bool)) => (gd ((!x1.2.2) == false) (strings_Contains x1.2.1 ([47] : List UInt8))).bind fun (x3 : Bool) => cond (cond (!x1.2.2) true x3) (some (([] : List UInt8), ([] : List UInt8), false)) (some (x1.1, x1.2.1, true))
theorem w_name_Split {p0key : (List UInt8)} {res : ((List UInt8) × (List UInt8) × Bool)} (h : name_Split p0key = some res) : ACalls Tryd.prog 49 [.c (.str p0key)] [] (.tup [.c (.str res.1), .c (.str res.2.1), .c (.bool res.2.2)]) [] := by
 unfold name_Split at h
 refine acalls (fn := Tryd.f49) [0, 2, 3, 4, 5, 6, 7, 19] (by kernel_rfl) Tryd.func49 rfl (by kernel_rfl) (by kernel_rfl) <| w_sr <| sS rfl <| sS rfl <| sB rfl <| o_ek (fr' := [(0, aS)]) rfl rfl <| w_sr <| mS rfl ?_
 obtain ⟨x1, hx1, h2⟩ := bind_s h
 refine o_v (ov_call (v := .tup [aS, aS, aB]) rfl (w_strings_Cut hx1) ⟨lr, lr, trivial⟩ rfl rfl rfl) <| mV (v := .tup [aS, aS, aB]) rfl <| o_p rfl (p_ex (v := aS) rfl rfl) <| o_p rfl (p_ex (v := aS) rfl rfl) <| o_p rfl (p_ex (v := aB) rfl rfl) <| sS rfl <| sS rfl <| sB rfl <| o_ek (fr' := [(5, aS), (6, aS), (7, aB)]) rfl rfl <| w_seqw <| w_sr <| mB rfl ?_
 refine o_p rfl (p_not rfl) <| mB rfl <| og rfl rfl rfl (fun hc => (p_move (v := aS) rfl)) ?_
 obtain ⟨x3, hx3, h4⟩ := bind_s h2
 refine o_g rfl rfl (fun hc => ov_call (v := aB) rfl (w_strings_Contains (gd_some hx3 hc)) ⟨(le_gv (gx rfl hc) lr), lr, trivial⟩ (ok_eq (by repeat (first | exact ok_nil | refine ok_cons rfl ?_ | refine ok_cons (dgv rfl) ?_ | refine ok_cons dar ?_))) rfl rfl) ?_
 refine o_p rfl (p_pickz rfl rfl rfl (fun e => keq e)) <| o_ek (fr' := [(5, aS), (6, aS), (19, aB)]) rfl rfl <| w_ch h4 rfl (fun hb5 h5 => ?_) (fun hb5 h5 => ?_)
 ·
  refine w_sr <| sS rfl <| sS rfl <| sB rfl <| o_ek (fr' := [(2, aS), (3, aS), (4, aB)]) rfl rfl <| w_ret <| e_seq_r ?_
  obtain rfl := sy h5
  exact e_ret (rs' := [.tmp 2, .tmp 3, .tmp 4]) rfl <| r_tmp (v := aS) rfl <| r_tmp (v := aS) rfl <| r_tmp (v := aB) rfl <| r_nil <| fin_gen [] rfl rfl rfl (le_tupp rfl ⟨lr, lr, lr, trivial⟩) st_nil
 ·
  refine w_skip <| e_kw <| w_sr <| mS rfl <| mS rfl <| sS rfl <| sS rfl <| sB rfl <| o_ek (fr' := [(2, aS), (3, aS), (4, aB)]) rfl rfl <| w_ret ?_
  obtain rfl := sy h5
  exact e_ret (rs' := [.tmp 2, .tmp 3, .tmp 4]) rfl <| r_tmp (v := aS) rfl <| r_tmp (v := aS) rfl <| r_tmp (v := aB) rfl <| r_nil <| fin_gen [] rfl rfl rfl (le_tupp rfl ⟨lr, lr, lr, trivial⟩) st_nil
noncomputable def slices_Clone_string_string (p0s : (List (List UInt8))) : Option (List (List UInt8)) :=
 app 16 ([] : List (List UInt8)) p0s
theorem w_slices_Clone_string_string {p0s : (List (List UInt8))} {res : (List (List UInt8))} (h : slices_Clone_string_string p0s = some res) : ACalls Tryd.prog 81 [.c (PV.ls 1 rowS p0s)] [] (AV.os 0 1 rowS res) [] := by
 unfold slices_Clone_string_string at h
 refine acalls (fn := Tryd.f81) [0, 2, 4] (by kernel_rfl) Tryd.func81 rfl (by kernel_rfl) (by kernel_rfl) ?_
 obtain ⟨hm, he⟩ := app_some h
 rw [List.nil_append] at he
 subst he
 refine w_sr <| o_p rfl (p_assign (v := .nil) rfl) <| o_end (fr' := [(0, .c (PV.ls _ _ _)), (2, .nil)]) rfl <| e_kw <| w_seqw <| w_sr <| o_p rfl (p_move (v := .c (PV.ls _ _ _)) rfl) <| o_nilc (row := rowS) ti24 (isl_c rfl) (fun b hb => ?_)
 refine o_end (fr' := [(0, .c (PV.ls _ _ _)), (2, .nil), (4, .c (.bool _))]) rfl <| e_kw <| w_cond b rfl (fun e => ?_) (fun e => ?_)
 ·
  rw [hb e]
  exact w_sr <| o_p rfl (p_assign (v := .nil) rfl) <| o_end (fr' := [(0, .c (PV.ls _ _ _)), (2, .nil), (4, .c (.bool _))]) rfl <| e_kw <| w_ret <| e_seq_r <| e_ret (rs' := [.tmp 2]) rfl <| r_tmp (v := .nil) rfl <| r_nil <| fin_gen [] rfl rfl rfl (le_nos rfl) st_nil
 ·
  refine w_skip <| e_kw <| w_sr <| o_rows (row := rowS) (xs := ([] : List (List UInt8))) (rows := []) (σ' := []) [] ts24 rfl rfl rfl arow_nil rfl rfl <| o_p rfl (p_move (v := .c (PV.ls _ _ _)) rfl) <| o_app (row := rowS) ts24 rfl ti24 rfl (isl_c rfl) (fun _ => rfl) h <| o_p rfl (p_assign (v := AV.os _ _ _ _) rfl) <| o_end (fr' := [(0, .c (PV.ls _ _ _)), (2, AV.os _ _ _ _), (4, .c (.bool _))]) rfl <| e_kw <| w_ret <| e_ret (rs' := [.tmp 2]) rfl <| r_tmp (v := AV.os _ _ _ _) rfl ?_
  exact r_nil <| fin_gen [112] rfl rfl rfl lr st_nil
noncomputable def value_copies_l1 (rec_value_Copy : ApiValue → Option ApiValue) (p0l : (List ApiValue)) (s4 : ((List ApiValue) × Int)) : Option (Step ((List ApiValue) × Int) (List ApiValue)) :=
 cond (decide (s4.2 < ((p0l).length : Int))) ((idx p0l s4.2).bind fun (x6 : ApiValue) => (rec_value_Copy x6).bind fun (x8 : ApiValue) => (app 80 s4.1 ([x8] : List ApiValue)).bind fun (x10 : (List ApiValue)) => some (Step.next (x10, (IntKind.wrap .i64 (s4.2 + (1 : Int)))))) (some (Step.out s4.1))
mutual
noncomputable def value_CopyF : Nat → ApiValue → Option ApiValue
 | 0, _ => none
 | n + 1, p0v =>
  ((value_copiesF n) p0v.Items).bind fun (x1 : (List ApiValue)) => (slices_Clone_string_string p0v.Keys).bind fun (x3 : (List (List UInt8))) => some (ApiValue.mk p0v.Kind p0v.Int p0v.Text x1 x3)
noncomputable def value_copiesF : Nat → (List ApiValue) → Option (List ApiValue)
 | 0, _ => none
 | n + 1, p0l =>
  ((loopO (value_copies_l1 (value_CopyF n) p0l) ((([] : (List ApiValue)), (0 : Int)))) : Option (List ApiValue)).bind fun (x1 : (List ApiValue)) => (some x1)
end
theorem wF_value_Copy : ∀ n : Nat, (∀ {p0v : ApiValue} {res : ApiValue}, value_CopyF n p0v = some res → ACalls Tryd.prog 50 [.agg (AV.cs (exApiValue p0v))] [] (.agg (AV.cs (exApiValue res))) []) ∧ (∀ {p0l : (List ApiValue)} {res : (List ApiValue)}, value_copiesF n p0l = some res → ACalls Tryd.prog 80 [.c (PV.ls 5 rowApiValue p0l)] [] (AV.os 0 5 rowApiValue res) []) := by
 intro n
 induction n with
 | zero => exact ⟨fun {p0v res} h => absurd h (by simp [value_CopyF]), fun {p0l res} h => absurd h (by simp [value_copiesF])⟩
 | succ n ih =>
  obtain ⟨ih_value_Copy, ih_value_copies⟩ := ih
  refine ⟨?_, ?_⟩
  ·
   intro p0v res h
   rw [value_CopyF] at h
   refine acalls (fn := Tryd.f50) [0, 1, 2] (by kernel_rfl) Tryd.func50 rfl (by kernel_rfl) (by kernel_rfl) <| w_sr <| o_box (v := .agg aIISLL) (n := 0) (cs := aIISLL) (σ' := [aIISLL]) rfl rfl rfl rfl rfl <| o_alloc (n := 1) (cs := [aI, aI, aS, AV.nil, AV.nil]) (σ' := [aIISLL, [aI, aI, aS, AV.nil, AV.nil]]) tz26 rfl rfl rfl <| o_ek (fr' := [(1, .box 0 0), (2, .box 1 0)]) rfl rfl <| w_seqw <| w_planT [.q 0, .q 1, .q 2, .q 3, .q 4, .q 5, .q 6, .n 7 [], .q 8, .n 9 []] [(some 3, [1]), (some 4, [3]), (some 5, [4]), (some 6, [1]), (some 7, [6]), (some 8, [7]), (some 9, [1]), (none, [9, 5]), (some 10, [1]), (none, [10, 8])] [0, 1, 3, 0, 8, 31, 31, 127, 255, 511] (by kernel_rfl) <| dq rfl rfl (p_fa tf26x3 rfl) <| dq rfl rfl (p_load (v := aL) tv23 rfl rfl rfl) ?_
   obtain ⟨x1, hx1, h2⟩ := bind_s h
   refine d_q rfl (qv_call (v := aL) rfl (ih_value_copies hx1) ⟨lr, trivial⟩ rfl) <| dq rfl rfl (p_fa tf26x4 rfl) <| dq rfl rfl (p_load (v := aL) tv24 rfl rfl rfl) ?_
   obtain ⟨x3, hx3, h4⟩ := bind_s h2
   refine d_q rfl (qv_call (v := aL) rfl (w_slices_Clone_string_string hx3) ⟨lr, trivial⟩ rfl) <| dq rfl rfl (p_fa tf26x3 rfl) <| d_n rfl ?_ rfl
   refine o_store (v := aL) (us := [aL]) (cs := aIISLL) (σ' := [aIISLL, [aI, aI, aS, AV.nil, AV.nil]]) rfl tv23 rfl rfl rfl rfl rfl rfl rfl rfl <| o_rc <| ⟨rc_nil, ?_⟩
   refine dq rfl rfl (p_fa tf26x4 rfl) <| d_n rfl ?_ rfl
   refine o_store (v := aL) (us := [aL]) (cs := aIISLL) (σ' := [aIISLL, [aI, aI, aS, AV.nil, AV.nil]]) rfl tv24 rfl rfl rfl rfl rfl rfl rfl rfl <| o_rc <| ⟨rc_nil, ?_⟩
   refine d_ek (fr' := [(1, .box 0 0), (2, .box 1 0)]) rfl rfl <| w_sr <| o_p rfl (p_loads (us := aIISLL) tv26 rfl rfl rfl rfl) <| o_store (v := .agg aIISLL) (us := aIISLL) (cs := [aI, aI, aS, AV.nil, AV.nil]) (σ' := [aIISLL, aIISLL]) rfl tv26 rfl rfl rfl rfl rfl rfl rfl rfl <| o_ek (fr' := [(2, .box 1 0)]) rfl rfl <| w_ret ?_
   obtain rfl := sy h4
   exact e_ret (rs' := [.cell 2 26]) rfl <| r_cells (us := aIISLL) (cs := aIISLL) tv26 rfl rfl rfl rfl <| r_nil <| fin_gen [] rfl rfl rfl (le_aggc rfl ⟨rfl, rfl, rfl, rfl, rfl, trivial⟩) st_nil
  ·
   intro p0l res h
   rw [value_copiesF] at h
   refine acalls (fn := Tryd.f80) [0, 2, 3, 5, 6, 7, 8, 9] (by kernel_rfl) Tryd.func80 rfl (by kernel_rfl) (by kernel_rfl) <| w_sr <| sV (v := AV.nil) rfl <| o_ek (fr' := [(0, aL)]) rfl rfl <| w_sr <| sV (v := AV.nil) rfl <| o_ek (fr' := [(0, aL), (3, AV.nil)]) rfl rfl <| w_seqw <| w_sr <| mL rfl ?_
   refine o_p rfl (p_len ti23 (isl_c rfl)) <| mI rfl <| o_ek (fr' := [(3, AV.nil), (6, aL), (7, aI), (8, aI)]) rfl rfl ?_
   obtain ⟨x1, hx1, h2⟩ := bind_s h
   refine w_jtail cl_kw (fun j3 => x1 = j3) (fun (j3 : (List ApiValue)) => ([(3, AV.os 0 5 rowApiValue j3)] : Fr)) (fun (j3 : (List ApiValue)) => ([] : St)) ?_ ?_
   ·
    refine w_block <| w_loopo _ (fun (s4 : ((List ApiValue) × Int)) => ([(3, AV.os 0 5 rowApiValue s4.1), (6, .c (PV.ls 5 rowApiValue p0l)), (7, .c (.int .i64 ((p0l).length : Int))), (8, .c (.int .i64 s4.2))] : Fr)) (fun (s4 : ((List ApiValue) × Int)) => ([] : St)) hx1 (w_weak [1000000] 0 rfl rfl rfl rfl ⟨(le_nos rfl), lr, lr, lr, trivial⟩ st_nil) ?_
    intro s4 st4 hs4 ho4
    unfold value_copies_l1 at hs4
    refine w_sr <| o_p rfl (p_lss rfl rfl) <| o_ek (fr' := [(3, aO), (6, aL), (7, aI), (8, aI), (9, aB)]) rfl rfl <| w_seqw <| w_ch hs4 rfl (fun hb5 h5 => ?_) (fun hb5 h5 => ?_)
    ·
     refine w_skip <| e_kw <| w_seqw <| w_block <| w_seqw <| w_region ?_
     obtain ⟨x6, hx6, h7⟩ := bind_s h5
     refine o_p rfl (p_ia (cs := [PV.int _ _, PV.int _ _, PV.str _, PV.ls _ _ _, PV.ls _ _ _]) ts23 (isl_c rfl) rfl hx6 (rowApiValue_eq _)) <| o_p rfl (p_loades (us := [PV.int _ _, PV.int _ _, PV.str _, PV.ls _ _ _, PV.ls _ _ _]) tv26 rfl rfl rfl) <| o_alloc (n := 0) (cs := [aI, aI, aS, AV.nil, AV.nil]) (σ' := [[aI, aI, aS, AV.nil, AV.nil]]) tz26 rfl rfl rfl <| o_store (v := .agg aIISLL) (us := aIISLL) (cs := [aI, aI, aS, AV.nil, AV.nil]) (σ' := [aIISLL]) rfl tv26 rfl rfl rfl rfl rfl rfl rfl rfl <| o_ek (fr' := [(3, aO), (5, .box 0 0), (6, aL), (7, aI), (8, aI)]) rfl rfl <| w_region <| mV (v := aO) rfl <| o_p rfl (p_loads (us := aIISLL) tv26 rfl rfl rfl rfl) ?_
     obtain ⟨x8, hx8, h9⟩ := bind_s h7
     refine o_v (ov_call (v := .agg aIISLL) rfl (ih_value_Copy hx8) ⟨(le_aggc rfl ⟨rfl, rfl, rfl, rfl, rfl, trivial⟩), trivial⟩ rfl rfl rfl) <| o_rows (row := rowApiValue) (xs := ([x8] : List ApiValue)) (rows := [[_, _, _, _, _]]) (σ' := [aIISLL]) [0, 0, 0, 5, 1] ts23 rfl rfl rfl (arow_cons (rowApiValue_eq _) arow_nil) rfl rfl ?_
     obtain ⟨x10, hx10, h11⟩ := bind_s h9
     exact o_app (row := rowApiValue) ts23 rfl ti23 rfl (isl_o rfl) rowApiValue_len hx10 <| sV (v := aO) rfl <| o_end (fr' := [(3, aO), (5, .box 0 0), (6, aL), (7, aI), (8, aI)]) rfl <| e_blk_n <| e_kw <| w_region <| o_p rfl (p_add rfl rfl) <| mI rfl <| o_end (fr' := [(3, aO), (5, .box 0 0), (6, aL), (7, aI), (8, aI)]) rfl <| e_l _ (sy h11) (w_weak [256] 0 rfl rfl rfl rfl ⟨lr, lr, lr, lr, trivial⟩ st_nil)
    ·
     refine w_exit <| e_seq_x <| e_seq_x <| e_blk_h ?_
     have h12 := un_out h5 ho4
     exact e_j _ (sy h12) (w_weak [0] 0 rfl rfl rfl rfl ⟨lr, trivial⟩ st_nil)
   ·
    intro j3 hj13
    subst hj13
    refine e_kw <| w_sr <| mV (v := aO) rfl <| sV (v := aO) rfl <| o_ek (fr' := [(2, aO)]) rfl rfl <| w_ret ?_
    obtain rfl := sy h2
    exact e_ret (rs' := [.tmp 2]) rfl <| r_tmp (v := aO) rfl <| r_nil <| fin_gen [0] rfl rfl rfl lr st_nil
noncomputable def value_Copy (p0v : ApiValue) : Option ApiValue := lim fun n => value_CopyF n p0v
theorem w_value_Copy {p0v : ApiValue} {res : ApiValue} (h : value_Copy p0v = some res) : ACalls Tryd.prog 50 [.agg (AV.cs (exApiValue p0v))] [] (.agg (AV.cs (exApiValue res))) [] := by
 obtain ⟨n, hn⟩ := lim_some h
 exact (wF_value_Copy n).1 hn
noncomputable def value_copies (p0l : (List ApiValue)) : Option (List ApiValue) := lim fun n => value_copiesF n p0l
theorem w_value_copies {p0l : (List ApiValue)} {res : (List ApiValue)} (h : value_copies p0l = some res) : ACalls Tryd.prog 80 [.c (PV.ls 5 rowApiValue p0l)] [] (AV.os 0 5 rowApiValue res) [] := by
 obtain ⟨n, hn⟩ := lim_some h
 exact (wF_value_Copy n).2 hn
noncomputable def children_Report (p0r : ApiRun) (p1now : Int) : Option (ApiRequest × Bool) :=
 (history_Status p0r.History).bind fun (x1 : (Int × Int)) => (name_Split p0r.Parent).bind fun (x3 : ((List UInt8) × (List UInt8) × Bool)) => cond (cond (cond (decide (x1.1 = (0 : Int))) true (decide (x1.1 = (6 : Int)))) true (!x3.2.2)) (some ((ApiRequest.mk (0 : Int) (0 : Int) ([] : List UInt8) ([] : List UInt8) ([] : List UInt8) ([] : List UInt8) (0 : Int) (0 : Int) (0 : Int) (0 : Int) (ApiValue.mk (0 : Int) (0 : Int) ([] : List UInt8) ([] : (List ApiValue)) ([] : (List (List UInt8)))) (ApiPolicy.mk ([] : List UInt8) (0 : Int) (0 : Int) (0 : Int) (0 : Int) (0 : Int) (0 : Int) (0 : Int) (0 : Int) ([] : (List (List UInt8)))) ([] : (List ApiCommand)) ([] : List UInt8)), false)) ((idx p0r.History x1.2).bind fun (x7 : ApiEvent) => ((cond (decide (x1.1 = (1 : Int))) ((value_Copy x7.Data).bind fun (x13 : ApiValue) => some (([] : List UInt8), (21 : Int), x13.Kind, x13.Int, x13.Text, x13.Items, x13.Keys)) (cond (decide (x1.1 = (2 : Int))) ((value_Copy x7.Data).bind fun (x16 : ApiValue) => some (x7.Name, (22 : Int), x16.Kind, x16.Int, x16.Text, x16.Items, x16.Keys)) (cond (decide (x1.1 = (3 : Int))) ((value_Copy x7.Data).bind fun (x19 : ApiValue) => some (([99, 97, 110, 99, 101, 108, 101, 100] : List UInt8), (22 : Int), x19.Kind, x19.Int, x19.Text, x19.Items, x19.Keys)) (cond (decide (x1.1 = (4 : Int))) (some (([116, 101, 114, 109, 105, 110, 97, 116, 101, 100] : List UInt8), (22 : Int), (0 : Int), (0 : Int), ([] : List UInt8), ([] : (List ApiValue)), ([] : (List (List UInt8))))) (some (([116, 105, 109, 101, 111, 117, 116] : List UInt8), (22 : Int), (0 : Int), (0 : Int), ([] : List UInt8), ([] : (List ApiValue)), ([] : (List (List UInt8))))))))) : Option ((List UInt8) × Int × Int × Int × (List UInt8) × (List ApiValue) × (List (List UInt8)))).bind fun (x9 : ((List UInt8) × Int × Int × Int × (List UInt8) × (List ApiValue) × (List (List UInt8)))) => (some ((ApiRequest.mk (15 : Int) p1now x3.1 x3.2.1 ([] : List UInt8) x9.1 (0 : Int) (0 : Int) p0r.ParentSeq x9.2.1 (ApiValue.mk x9.2.2.1 x9.2.2.2.1 x9.2.2.2.2.1 x9.2.2.2.2.2.1 x9.2.2.2.2.2.2) (ApiPolicy.mk ([] : List UInt8) (0 : Int) (0 : Int) (0 : Int) (0 : Int) (0 : Int) (0 : Int) (0 : Int) (0 : Int) ([] : (List (List UInt8)))) ([] : (List ApiCommand)) ([] : List UInt8)), true)))
theorem w_children_Report {p0r : ApiRun} {p1now : Int} {res : (ApiRequest × Bool)} (h : children_Report p0r p1now = some res) : ACalls Tryd.prog 15 [.agg (AV.cs (rowApiRun p0r)), .c (.int .i64 p1now)] [] (.tup [.agg (AV.cs (rowApiRequest res.1)), .c (.bool res.2)]) [] := by
 unfold children_Report at h
 refine acalls (fn := Tryd.f15) [0, 1, 2, 4, 5, 6, 7, 8, 9, 10, 11, 12, 35, 48, 50, 57, 66, 73] (by kernel_rfl) Tryd.func15 rfl (by kernel_rfl) (by kernel_rfl) <| w_sr <| o_box (v := .agg aSSSILIIIIIISIISLLIISLLBLLLLLLLLLII) (n := 0) (cs := aSSSILIIIIIISIISLLIISLLBLLLLLLLLLII) (σ' := [aSSSILIIIIIISIISLLIISLLBLLLLLLLLLII]) rfl rfl rfl rfl rfl <| o_alloc (n := 1) (cs := [aI, aI, aS, aS, aS, aS, aI, aI, aI, aI, aI, aI, aS, AV.nil, AV.nil, aS, aI, aI, aI, aI, aI, aI, aI, aI, AV.nil, AV.nil, aS]) (σ' := [aSSSILIIIIIISIISLLIISLLBLLLLLLLLLII, [aI, aI, aS, aS, aS, aS, aI, aI, aI, aI, aI, aI, aS, AV.nil, AV.nil, aS, aI, aI, aI, aI, aI, aI, aI, aI, AV.nil, AV.nil, aS]]) tz44 rfl rfl rfl <| sB rfl <| o_ek (fr' := [(1, aI), (2, .box 0 0), (4, .box 1 0)]) rfl rfl <| w_sr <| o_p rfl (p_fa tf37x4 rfl) <| o_p rfl (p_load (v := aL) tv22 rfl rfl rfl) ?_
 obtain ⟨x1, hx1, h2⟩ := bind_s h
 refine o_v (ov_call (v := .tup [aI, aI]) rfl (w_history_Status hx1) ⟨lr, trivial⟩ rfl rfl rfl) <| mV (v := .tup [aI, aI]) rfl <| o_p rfl (p_ex (v := aI) rfl rfl) <| o_p rfl (p_ex (v := aI) rfl rfl) <| sI rfl <| sI rfl <| o_ek (fr' := [(1, aI), (2, .box 0 0), (4, .box 1 0), (6, aI), (7, aI)]) rfl rfl <| w_sr <| o_p rfl (p_fa tf37x2 rfl) <| o_p rfl (p_load (v := aS) tv9 rfl rfl rfl) ?_
 obtain ⟨x3, hx3, h4⟩ := bind_s h2
 refine o_v (ov_call (v := .tup [aS, aS, aB]) rfl (w_name_Split hx3) ⟨lr, trivial⟩ rfl rfl rfl) <| mV (v := .tup [aS, aS, aB]) rfl <| o_p rfl (p_ex (v := aS) rfl rfl) <| o_p rfl (p_ex (v := aS) rfl rfl) <| o_p rfl (p_ex (v := aB) rfl rfl) <| sS rfl <| sS rfl <| sB rfl <| o_ek (fr' := [(1, aI), (2, .box 0 0), (4, .box 1 0), (6, aI), (7, aI), (8, aS), (9, aS), (10, aB)]) rfl rfl <| w_seqw <| w_sr <| mI rfl ?_
 refine o_p rfl (p_eql rfl rfl) <| mB rfl <| og rfl rfl rfl (fun hc => (p_move (v := aI) rfl)) <| og rfl rfl rfl (fun hc => (p_eql (gx rfl hc) rfl)) <| o_p rfl (p_pickz rfl rfl rfl (fun e => keq e)) <| mB rfl <| og rfl rfl rfl (fun hc => (p_move (v := aB) rfl)) <| og rfl rfl rfl (fun hc => (p_not (gx rfl hc))) <| o_p rfl (p_pickz rfl rfl rfl (fun e => keq e)) <| o_ek (fr' := [(1, aI), (2, .box 0 0), (4, .box 1 0), (6, aI), (7, aI), (8, aS), (9, aS), (35, aB)]) rfl rfl <| w_ch h4 rfl (fun hb5 h5 => ?_) (fun hb5 h5 => ?_)
 ·
  refine w_sr <| o_p rfl (p_buildc (c0 := [aI, aI, aS, aS, aS, aS, aI, aI, aI, aI, aI, aI, aS, AV.nil, AV.nil, aS, aI, aI, aI, aI, aI, aI, aI, aI, AV.nil, AV.nil, aS]) (cs := [aI, aI, aS, aS, aS, aS, aI, aI, aI, aI, aI, aI, aS, AV.nil, AV.nil, aS, aI, aI, aI, aI, aI, aI, aI, aI, AV.nil, AV.nil, aS]) tb44 rfl fill_nil) <| o_store (v := .agg [aI, aI, aS, aS, aS, aS, aI, aI, aI, aI, aI, aI, aS, AV.nil, AV.nil, aS, aI, aI, aI, aI, aI, aI, aI, aI, AV.nil, AV.nil, aS]) (us := [aI, aI, aS, aS, aS, aS, aI, aI, aI, aI, aI, aI, aS, AV.nil, AV.nil, aS, aI, aI, aI, aI, aI, aI, aI, aI, AV.nil, AV.nil, aS]) (cs := [aI, aI, aS, aS, aS, aS, aI, aI, aI, aI, aI, aI, aS, AV.nil, AV.nil, aS, aI, aI, aI, aI, aI, aI, aI, aI, AV.nil, AV.nil, aS]) (σ' := [aSSSILIIIIIISIISLLIISLLBLLLLLLLLLII, [aI, aI, aS, aS, aS, aS, aI, aI, aI, aI, aI, aI, aS, AV.nil, AV.nil, aS, aI, aI, aI, aI, aI, aI, aI, aI, AV.nil, AV.nil, aS]]) rfl tv44 rfl rfl rfl rfl rfl rfl rfl rfl <| sB rfl <| o_ek (fr' := [(4, .box 1 0), (5, aB)]) rfl rfl <| w_ret <| e_seq_r ?_
  obtain rfl := sy h5
  exact e_ret (rs' := [.cell 4 44, .tmp 5]) rfl <| r_cells (us := [aI, aI, aS, aS, aS, aS, aI, aI, aI, aI, aI, aI, aS, AV.nil, AV.nil, aS, aI, aI, aI, aI, aI, aI, aI, aI, AV.nil, AV.nil, aS]) (cs := [aI, aI, aS, aS, aS, aS, aI, aI, aI, aI, aI, aI, aS, AV.nil, AV.nil, aS, aI, aI, aI, aI, aI, aI, aI, aI, AV.nil, AV.nil, aS]) tv44 rfl rfl rfl rfl <| r_tmp (v := aB) rfl <| r_nil <| fin_gen [] rfl rfl rfl (le_tupp rfl ⟨(le_aggc rfl ⟨rfl, rfl, rfl, rfl, rfl, rfl, rfl, rfl, rfl, rfl, rfl, rfl, rfl, ⟨_, rfl⟩, ⟨_, rfl⟩, rfl, rfl, rfl, rfl, rfl, rfl, rfl, rfl, rfl, ⟨_, rfl⟩, ⟨_, rfl⟩, rfl, trivial⟩), lr, trivial⟩) st_nil
 ·
  refine w_skip <| e_kw <| w_sr <| mI rfl <| mS rfl <| mS rfl <| o_p rfl (p_fa tf37x3 rfl) <| o_p rfl (p_load (v := aI) tv3 rfl rfl rfl) <| o_p rfl (p_buildc (c0 := [aI, aI, aS, aS, aS, aS, aI, aI, aI, aI, aI, aI, aS, AV.nil, AV.nil, aS, aI, aI, aI, aI, aI, aI, aI, aI, AV.nil, AV.nil, aS]) (cs := [aI, aI, aS, aS, aS, aS, aI, aI, aI, aI, aI, aI, aS, AV.nil, AV.nil, aS, aI, aI, aI, aI, aI, aI, aI, aI, AV.nil, AV.nil, aS]) tb44 rfl (fill_cons (v := aI) (us := [_]) (cs' := u27) rfl rfl rfl rfl rfl rfl (fill_cons (v := aI) (us := [_]) (cs' := u27) rfl rfl rfl rfl rfl rfl (fill_cons (v := aS) (us := [_]) (cs' := u27) rfl rfl rfl rfl rfl rfl (fill_cons (v := aS) (us := [_]) (cs' := u27) rfl rfl rfl rfl rfl rfl (fill_cons (v := aI) (us := [_]) (cs' := u27) rfl rfl rfl rfl rfl rfl (fill_cons (v := aI) (us := [_]) (cs' := u27) rfl rfl rfl rfl rfl rfl fill_nil))))))) <| o_alloc (n := 2) (cs := [aI, aI, aS, aS, aS, aS, aI, aI, aI, aI, aI, aI, aS, AV.nil, AV.nil, aS, aI, aI, aI, aI, aI, aI, aI, aI, AV.nil, AV.nil, aS]) (σ' := [aSSSILIIIIIISIISLLIISLLBLLLLLLLLLII, [aI, aI, aS, aS, aS, aS, aI, aI, aI, aI, aI, aI, aS, AV.nil, AV.nil, aS, aI, aI, aI, aI, aI, aI, aI, aI, AV.nil, AV.nil, aS], [aI, aI, aS, aS, aS, aS, aI, aI, aI, aI, aI, aI, aS, AV.nil, AV.nil, aS, aI, aI, aI, aI, aI, aI, aI, aI, AV.nil, AV.nil, aS]]) tz44 rfl rfl rfl <| o_store (v := .agg [aI, aI, aS, aS, aS, aS, aI, aI, aI, aI, aI, aI, aS, AV.nil, AV.nil, aS, aI, aI, aI, aI, aI, aI, aI, aI, AV.nil, AV.nil, aS]) (us := [aI, aI, aS, aS, aS, aS, aI, aI, aI, aI, aI, aI, aS, AV.nil, AV.nil, aS, aI, aI, aI, aI, aI, aI, aI, aI, AV.nil, AV.nil, aS]) (cs := [aI, aI, aS, aS, aS, aS, aI, aI, aI, aI, aI, aI, aS, AV.nil, AV.nil, aS, aI, aI, aI, aI, aI, aI, aI, aI, AV.nil, AV.nil, aS]) (σ' := [aSSSILIIIIIISIISLLIISLLBLLLLLLLLLII, [aI, aI, aS, aS, aS, aS, aI, aI, aI, aI, aI, aI, aS, AV.nil, AV.nil, aS, aI, aI, aI, aI, aI, aI, aI, aI, AV.nil, AV.nil, aS], [aI, aI, aS, aS, aS, aS, aI, aI, aI, aI, aI, aI, aS, AV.nil, AV.nil, aS, aI, aI, aI, aI, aI, aI, aI, aI, AV.nil, AV.nil, aS]]) rfl tv44 rfl rfl rfl rfl rfl rfl rfl rfl <| o_ek (fr' := [(2, .box 0 0), (4, .box 1 0), (6, aI), (7, aI), (11, .box 2 0)]) rfl rfl ?_
  refine w_sr <| o_p rfl (p_fa tf37x4 rfl) <| o_p rfl (p_load (v := aL) tv22 rfl rfl rfl) <| mI rfl ?_
  obtain ⟨x7, hx7, h8⟩ := bind_s h5
  refine o_p rfl (p_ia (cs := [PV.int _ _, PV.int _ _, PV.int _ _, PV.int _ _, PV.int _ _, PV.int _ _, PV.int _ _, PV.str _, PV.str _, PV.int _ _, PV.int _ _, PV.str _, PV.ls _ _ _, PV.ls _ _ _, PV.str _, PV.int _ _, PV.int _ _, PV.int _ _, PV.int _ _, PV.int _ _, PV.int _ _, PV.int _ _, PV.int _ _, PV.ls _ _ _]) ts22 (isl_c rfl) rfl hx7 rfl) <| o_p rfl (p_loades (us := [PV.int _ _, PV.int _ _, PV.int _ _, PV.int _ _, PV.int _ _, PV.int _ _, PV.int _ _, PV.str _, PV.str _, PV.int _ _, PV.int _ _, PV.str _, PV.ls _ _ _, PV.ls _ _ _, PV.str _, PV.int _ _, PV.int _ _, PV.int _ _, PV.int _ _, PV.int _ _, PV.int _ _, PV.int _ _, PV.int _ _, PV.ls _ _ _]) tv80 rfl rfl rfl) <| o_alloc (n := 3) (cs := [aI, aI, aI, aI, aI, aI, aI, aS, aS, aI, aI, aS, AV.nil, AV.nil, aS, aI, aI, aI, aI, aI, aI, aI, aI, AV.nil]) (σ' := [aSSSILIIIIIISIISLLIISLLBLLLLLLLLLII, [aI, aI, aS, aS, aS, aS, aI, aI, aI, aI, aI, aI, aS, AV.nil, AV.nil, aS, aI, aI, aI, aI, aI, aI, aI, aI, AV.nil, AV.nil, aS], [aI, aI, aS, aS, aS, aS, aI, aI, aI, aI, aI, aI, aS, AV.nil, AV.nil, aS, aI, aI, aI, aI, aI, aI, aI, aI, AV.nil, AV.nil, aS], [aI, aI, aI, aI, aI, aI, aI, aS, aS, aI, aI, aS, AV.nil, AV.nil, aS, aI, aI, aI, aI, aI, aI, aI, aI, AV.nil]]) tz80 rfl rfl rfl <| o_store (v := .agg aIIIIIIISSIISLLSIIIIIIIIL) (us := aIIIIIIISSIISLLSIIIIIIIIL) (cs := [aI, aI, aI, aI, aI, aI, aI, aS, aS, aI, aI, aS, AV.nil, AV.nil, aS, aI, aI, aI, aI, aI, aI, aI, aI, AV.nil]) (σ' := [aSSSILIIIIIISIISLLIISLLBLLLLLLLLLII, [aI, aI, aS, aS, aS, aS, aI, aI, aI, aI, aI, aI, aS, AV.nil, AV.nil, aS, aI, aI, aI, aI, aI, aI, aI, aI, AV.nil, AV.nil, aS], [aI, aI, aS, aS, aS, aS, aI, aI, aI, aI, aI, aI, aS, AV.nil, AV.nil, aS, aI, aI, aI, aI, aI, aI, aI, aI, AV.nil, AV.nil, aS], aIIIIIIISSIISLLSIIIIIIIIL]) rfl tv80 rfl rfl rfl rfl rfl rfl rfl rfl <| o_ek (fr' := [(4, .box 1 0), (6, aI), (11, .box 2 0), (12, .box 3 0)]) rfl rfl ?_
  obtain ⟨x9, hx9, h10⟩ := bind_s h8
  refine w_join (fun j11 => x9 = j11) (fun (j11 : ((List UInt8) × Int × Int × Int × (List UInt8) × (List ApiValue) × (List (List UInt8)))) => ([(4, .box 1 0), (11, .box 2 0)] : Fr)) (fun (j11 : ((List UInt8) × Int × Int × Int × (List UInt8) × (List ApiValue) × (List (List UInt8)))) => ([[.c (.str p0r.Workflow), .c (.str p0r.ID), .c (.str p0r.Parent), .c (.int .i64 p0r.ParentSeq), .c (PV.ls 24 rowApiEvent p0r.History), .c (.int .i64 p0r.Pending.Next), .c (.int .i64 p0r.Pending.Status), .c (.int .i64 p0r.Pending.Task), .c (.int .i64 p0r.Pending.TaskID), .c (.int .i64 p0r.Pending.Attempt), .c (.int .i64 p0r.Pending.Seq), .c (.str p0r.Pending.Name), .c (.int .i64 p0r.Pending.Input.Kind), .c (.int .i64 p0r.Pending.Input.Int), .c (.str p0r.Pending.Input.Text), .c (PV.ls 5 rowApiValue p0r.Pending.Input.Items), .c (PV.ls 1 rowS p0r.Pending.Input.Keys), .c (.int .i64 p0r.Pending.Attrs.Kind), .c (.int .i64 p0r.Pending.Attrs.Int), .c (.str p0r.Pending.Attrs.Text), .c (PV.ls 5 rowApiValue p0r.Pending.Attrs.Items), .c (PV.ls 1 rowS p0r.Pending.Attrs.Keys), .c (.bool p0r.Pending.Cancel), .c (PV.ls 32 rowApiAct p0r.Pending.Acts), .c (PV.ls 3 rowApiTimer p0r.Pending.Timers), .c (PV.ls 6 rowApiKid p0r.Pending.Kids), .c (PV.ls 4 rowApiSend p0r.Pending.Sends), .c (PV.ls 2 rowApiUpd p0r.Pending.Updates), .c (PV.ls 1 rowS p0r.Pending.Requests), .c (PV.ls 24 rowApiEvent p0r.Buffer), .c (PV.ls 7 rowApiAdmit p0r.Admits), .c (PV.ls 9 rowApiTask p0r.Tasks), .c (.int .i64 p0r.NextTask), .c (.int .i64 p0r.Version)], [.c (.int .i64 (0 : Int)), .c (.int .i64 (0 : Int)), .c (.str ([] : List UInt8)), .c (.str ([] : List UInt8)), .c (.str ([] : List UInt8)), .c (.str ([] : List UInt8)), .c (.int .i64 (0 : Int)), .c (.int .i64 (0 : Int)), .c (.int .i64 (0 : Int)), .c (.int .i64 (0 : Int)), .c (.int .i64 (0 : Int)), .c (.int .i64 (0 : Int)), .c (.str ([] : List UInt8)), AV.nil, AV.nil, .c (.str ([] : List UInt8)), .c (.int .i64 (0 : Int)), .c (.int .i64 (0 : Int)), .c (.int .i64 (0 : Int)), .c (.int .i64 (0 : Int)), .c (.int .i64 (0 : Int)), .c (.int .i64 (0 : Int)), .c (.int .i64 (0 : Int)), .c (.int .i64 (0 : Int)), AV.nil, AV.nil, .c (.str ([] : List UInt8))], [.c (.int .i64 (15 : Int)), .c (.int .i64 p1now), .c (.str x3.1), .c (.str x3.2.1), .c (.str ([] : List UInt8)), .c (.str j11.1), .c (.int .i64 (0 : Int)), .c (.int .i64 (0 : Int)), .c (.int .i64 p0r.ParentSeq), .c (.int .i64 j11.2.1), .c (.int .i64 j11.2.2.1), .c (.int .i64 j11.2.2.2.1), .c (.str j11.2.2.2.2.1), .c (PV.ls 5 rowApiValue j11.2.2.2.2.2.1), .c (PV.ls 1 rowS j11.2.2.2.2.2.2), .c (.str ([] : List UInt8)), .c (.int .i64 (0 : Int)), .c (.int .i64 (0 : Int)), .c (.int .i64 (0 : Int)), .c (.int .i64 (0 : Int)), .c (.int .i64 (0 : Int)), .c (.int .i64 (0 : Int)), .c (.int .i64 (0 : Int)), .c (.int .i64 (0 : Int)), AV.nil, AV.nil, .c (.str ([] : List UInt8))], [.c (.int .i64 x7.ID), .c (.int .i64 x7.Kind), .c (.int .i64 x7.Time), .c (.int .i64 x7.Seq), .c (.int .i64 x7.Ref), .c (.int .i64 x7.N), .c (.int .i64 x7.Code), .c (.str x7.Name), .c (.str x7.Key), .c (.int .i64 x7.Data.Kind), .c (.int .i64 x7.Data.Int), .c (.str x7.Data.Text), .c (PV.ls 5 rowApiValue x7.Data.Items), .c (PV.ls 1 rowS x7.Data.Keys), .c (.str x7.Opts.Queue), .c (.int .i64 x7.Opts.ToStart), .c (.int .i64 x7.Opts.ToClose), .c (.int .i64 x7.Opts.Total), .c (.int .i64 x7.Opts.Beat), .c (.int .i64 x7.Opts.First), .c (.int .i64 x7.Opts.Coef), .c (.int .i64 x7.Opts.Most), .c (.int .i64 x7.Opts.Attempts), .c (PV.ls 1 rowS x7.Opts.Fatal)]] : St)) ?_ ?_
  ·
   refine w_sr <| mI rfl <| o_ek (fr' := [(4, .box 1 0), (11, .box 2 0), (12, .box 3 0), (48, aI)]) rfl rfl <| w_block <| w_sr <| o_p rfl (p_eql rfl rfl) <| sB rfl <| o_ek (fr' := [(4, .box 1 0), (11, .box 2 0), (12, .box 3 0), (48, aI), (50, aB)]) rfl rfl <| w_ch hx9 rfl (fun hb12 h12 => ?_) (fun hb12 h12 => ?_)
   ·
    refine w_sr <| o_p rfl (p_fa tf44x9 rfl) <| o_store (v := aI) (us := [aI]) (cs := [aI, aI, aS, aS, aS, aS, aI, aI, aI, aI, aI, aI, aS, AV.nil, AV.nil, aS, aI, aI, aI, aI, aI, aI, aI, aI, AV.nil, AV.nil, aS]) (σ' := [aSSSILIIIIIISIISLLIISLLBLLLLLLLLLII, [aI, aI, aS, aS, aS, aS, aI, aI, aI, aI, aI, aI, aS, AV.nil, AV.nil, aS, aI, aI, aI, aI, aI, aI, aI, aI, AV.nil, AV.nil, aS], [aI, aI, aS, aS, aS, aS, aI, aI, aI, aI, aI, aI, aS, AV.nil, AV.nil, aS, aI, aI, aI, aI, aI, aI, aI, aI, AV.nil, AV.nil, aS], aIIIIIIISSIISLLSIIIIIIIIL]) rfl tv3 rfl rfl rfl rfl rfl rfl rfl rfl <| o_ek (fr' := [(4, .box 1 0), (11, .box 2 0), (12, .box 3 0)]) rfl rfl <| w_region <| o_p rfl (p_fa tf80x9 rfl) <| o_p rfl (p_loads (us := aIISLL) tv26 rfl rfl rfl rfl) ?_
    obtain ⟨x13, hx13, h14⟩ := bind_s h12
    exact o_v (ov_call (v := .agg aIISLL) rfl (w_value_Copy hx13) ⟨(le_aggc rfl ⟨rfl, rfl, rfl, rfl, rfl, trivial⟩), trivial⟩ rfl rfl rfl) <| o_p rfl (p_fa tf44x10 rfl) <| o_store (v := .agg aIISLL) (us := aIISLL) (cs := [aI, aI, aS, aS, aS, aS, aI, aI, aI, aI, aI, aI, aS, AV.nil, AV.nil, aS, aI, aI, aI, aI, aI, aI, aI, aI, AV.nil, AV.nil, aS]) (σ' := [aSSSILIIIIIISIISLLIISLLBLLLLLLLLLII, [aI, aI, aS, aS, aS, aS, aI, aI, aI, aI, aI, aI, aS, AV.nil, AV.nil, aS, aI, aI, aI, aI, aI, aI, aI, aI, AV.nil, AV.nil, aS], [aI, aI, aS, aS, aS, aS, aI, aI, aI, aI, aI, aI, aS, aL, aL, aS, aI, aI, aI, aI, aI, aI, aI, aI, AV.nil, AV.nil, aS], aIIIIIIISSIISLLSIIIIIIIIL]) rfl tv26 rfl rfl rfl rfl rfl rfl rfl rfl <| o_end (fr' := [(4, .box 1 0), (11, .box 2 0), (12, .box 3 0)]) rfl <| e_blk_n <| e_j _ (sy h14) (w_weak [] 4 rfl rfl rfl rfl ⟨lr, lr, trivial⟩ (st_r rfl (st_r rfl (st_r rfl (st_r rfl st_nil)))))
   ·
    refine w_sr <| o_p rfl (p_eql rfl rfl) <| sB rfl <| o_ek (fr' := [(4, .box 1 0), (11, .box 2 0), (12, .box 3 0), (48, aI), (57, aB)]) rfl rfl <| w_ch h12 rfl (fun hb15 h15 => ?_) (fun hb15 h15 => ?_)
    ·
     refine w_sr <| o_p rfl (p_fa tf80x7 rfl) <| o_p rfl (p_load (v := aS) tv9 rfl rfl rfl) <| o_p rfl (p_fa tf44x5 rfl) <| o_store (v := aS) (us := [aS]) (cs := [aI, aI, aS, aS, aS, aS, aI, aI, aI, aI, aI, aI, aS, AV.nil, AV.nil, aS, aI, aI, aI, aI, aI, aI, aI, aI, AV.nil, AV.nil, aS]) (σ' := [aSSSILIIIIIISIISLLIISLLBLLLLLLLLLII, [aI, aI, aS, aS, aS, aS, aI, aI, aI, aI, aI, aI, aS, AV.nil, AV.nil, aS, aI, aI, aI, aI, aI, aI, aI, aI, AV.nil, AV.nil, aS], [aI, aI, aS, aS, aS, aS, aI, aI, aI, aI, aI, aI, aS, AV.nil, AV.nil, aS, aI, aI, aI, aI, aI, aI, aI, aI, AV.nil, AV.nil, aS], aIIIIIIISSIISLLSIIIIIIIIL]) rfl tv9 rfl rfl rfl rfl rfl rfl rfl rfl <| o_ek (fr' := [(4, .box 1 0), (11, .box 2 0), (12, .box 3 0)]) rfl rfl <| w_region <| o_p rfl (p_fa tf80x9 rfl) <| o_p rfl (p_loads (us := aIISLL) tv26 rfl rfl rfl rfl) ?_
     obtain ⟨x16, hx16, h17⟩ := bind_s h15
     exact o_v (ov_call (v := .agg aIISLL) rfl (w_value_Copy hx16) ⟨(le_aggc rfl ⟨rfl, rfl, rfl, rfl, rfl, trivial⟩), trivial⟩ rfl rfl rfl) <| o_p rfl (p_fa tf44x10 rfl) <| o_store (v := .agg aIISLL) (us := aIISLL) (cs := [aI, aI, aS, aS, aS, aS, aI, aI, aI, aI, aI, aI, aS, AV.nil, AV.nil, aS, aI, aI, aI, aI, aI, aI, aI, aI, AV.nil, AV.nil, aS]) (σ' := [aSSSILIIIIIISIISLLIISLLBLLLLLLLLLII, [aI, aI, aS, aS, aS, aS, aI, aI, aI, aI, aI, aI, aS, AV.nil, AV.nil, aS, aI, aI, aI, aI, aI, aI, aI, aI, AV.nil, AV.nil, aS], [aI, aI, aS, aS, aS, aS, aI, aI, aI, aI, aI, aI, aS, aL, aL, aS, aI, aI, aI, aI, aI, aI, aI, aI, AV.nil, AV.nil, aS], aIIIIIIISSIISLLSIIIIIIIIL]) rfl tv26 rfl rfl rfl rfl rfl rfl rfl rfl <| o_end (fr' := [(4, .box 1 0), (11, .box 2 0), (12, .box 3 0)]) rfl <| e_blk_n <| e_j _ (sy h17) (w_weak [] 4 rfl rfl rfl rfl ⟨lr, lr, trivial⟩ (st_r rfl (st_r rfl (st_r rfl (st_r rfl st_nil)))))
    ·
     refine w_sr <| o_p rfl (p_eql rfl rfl) <| sB rfl <| o_ek (fr' := [(4, .box 1 0), (11, .box 2 0), (12, .box 3 0), (48, aI), (66, aB)]) rfl rfl <| w_ch h15 rfl (fun hb18 h18 => ?_) (fun hb18 h18 => ?_)
     ·
      refine w_sr <| o_p rfl (p_fa tf44x5 rfl) <| o_store (v := aS) (us := [aS]) (cs := [aI, aI, aS, aS, aS, aS, aI, aI, aI, aI, aI, aI, aS, AV.nil, AV.nil, aS, aI, aI, aI, aI, aI, aI, aI, aI, AV.nil, AV.nil, aS]) (σ' := [aSSSILIIIIIISIISLLIISLLBLLLLLLLLLII, [aI, aI, aS, aS, aS, aS, aI, aI, aI, aI, aI, aI, aS, AV.nil, AV.nil, aS, aI, aI, aI, aI, aI, aI, aI, aI, AV.nil, AV.nil, aS], [aI, aI, aS, aS, aS, aS, aI, aI, aI, aI, aI, aI, aS, AV.nil, AV.nil, aS, aI, aI, aI, aI, aI, aI, aI, aI, AV.nil, AV.nil, aS], aIIIIIIISSIISLLSIIIIIIIIL]) rfl tv9 rfl rfl rfl rfl rfl rfl rfl rfl <| o_ek (fr' := [(4, .box 1 0), (11, .box 2 0), (12, .box 3 0)]) rfl rfl <| w_region <| o_p rfl (p_fa tf80x9 rfl) <| o_p rfl (p_loads (us := aIISLL) tv26 rfl rfl rfl rfl) ?_
      obtain ⟨x19, hx19, h20⟩ := bind_s h18
      exact o_v (ov_call (v := .agg aIISLL) rfl (w_value_Copy hx19) ⟨(le_aggc rfl ⟨rfl, rfl, rfl, rfl, rfl, trivial⟩), trivial⟩ rfl rfl rfl) <| o_p rfl (p_fa tf44x10 rfl) <| o_store (v := .agg aIISLL) (us := aIISLL) (cs := [aI, aI, aS, aS, aS, aS, aI, aI, aI, aI, aI, aI, aS, AV.nil, AV.nil, aS, aI, aI, aI, aI, aI, aI, aI, aI, AV.nil, AV.nil, aS]) (σ' := [aSSSILIIIIIISIISLLIISLLBLLLLLLLLLII, [aI, aI, aS, aS, aS, aS, aI, aI, aI, aI, aI, aI, aS, AV.nil, AV.nil, aS, aI, aI, aI, aI, aI, aI, aI, aI, AV.nil, AV.nil, aS], [aI, aI, aS, aS, aS, aS, aI, aI, aI, aI, aI, aI, aS, aL, aL, aS, aI, aI, aI, aI, aI, aI, aI, aI, AV.nil, AV.nil, aS], aIIIIIIISSIISLLSIIIIIIIIL]) rfl tv26 rfl rfl rfl rfl rfl rfl rfl rfl <| o_end (fr' := [(4, .box 1 0), (11, .box 2 0), (12, .box 3 0)]) rfl <| e_blk_n <| e_j _ (sy h20) (w_weak [] 4 rfl rfl rfl rfl ⟨lr, lr, trivial⟩ (st_r rfl (st_r rfl (st_r rfl (st_r rfl st_nil)))))
     ·
      refine w_sr <| o_p rfl (p_eql rfl rfl) <| sB rfl <| o_ek (fr' := [(4, .box 1 0), (11, .box 2 0), (73, aB)]) rfl rfl <| w_ch h18 rfl (fun hb21 h21 => ?_) (fun hb21 h21 => ?_)
      ·
       exact w_region <| o_p rfl (p_fa tf44x5 rfl) <| o_store (v := aS) (us := [aS]) (cs := [aI, aI, aS, aS, aS, aS, aI, aI, aI, aI, aI, aI, aS, AV.nil, AV.nil, aS, aI, aI, aI, aI, aI, aI, aI, aI, AV.nil, AV.nil, aS]) (σ' := [aSSSILIIIIIISIISLLIISLLBLLLLLLLLLII, [aI, aI, aS, aS, aS, aS, aI, aI, aI, aI, aI, aI, aS, AV.nil, AV.nil, aS, aI, aI, aI, aI, aI, aI, aI, aI, AV.nil, AV.nil, aS], [aI, aI, aS, aS, aS, aS, aI, aI, aI, aI, aI, aI, aS, AV.nil, AV.nil, aS, aI, aI, aI, aI, aI, aI, aI, aI, AV.nil, AV.nil, aS], aIIIIIIISSIISLLSIIIIIIIIL]) rfl tv9 rfl rfl rfl rfl rfl rfl rfl rfl <| o_end (fr' := [(4, .box 1 0), (11, .box 2 0), (73, aB)]) rfl <| e_blk_n <| e_j _ (sy h21) (w_weak [] 4 rfl rfl rfl rfl ⟨lr, lr, trivial⟩ (st_r rfl (st_r rfl (st_p ⟨lr, lr, lr, lr, lr, lr, lr, lr, lr, lr, lr, lr, lr, le_nls, le_nls, lr, lr, lr, lr, lr, lr, lr, lr, lr, lr, lr, lr, trivial⟩ (st_r rfl st_nil)))))
      ·
       exact w_region <| o_p rfl (p_fa tf44x5 rfl) <| o_store (v := aS) (us := [aS]) (cs := [aI, aI, aS, aS, aS, aS, aI, aI, aI, aI, aI, aI, aS, AV.nil, AV.nil, aS, aI, aI, aI, aI, aI, aI, aI, aI, AV.nil, AV.nil, aS]) (σ' := [aSSSILIIIIIISIISLLIISLLBLLLLLLLLLII, [aI, aI, aS, aS, aS, aS, aI, aI, aI, aI, aI, aI, aS, AV.nil, AV.nil, aS, aI, aI, aI, aI, aI, aI, aI, aI, AV.nil, AV.nil, aS], [aI, aI, aS, aS, aS, aS, aI, aI, aI, aI, aI, aI, aS, AV.nil, AV.nil, aS, aI, aI, aI, aI, aI, aI, aI, aI, AV.nil, AV.nil, aS], aIIIIIIISSIISLLSIIIIIIIIL]) rfl tv9 rfl rfl rfl rfl rfl rfl rfl rfl <| o_end (fr' := [(4, .box 1 0), (11, .box 2 0), (73, aB)]) rfl <| e_blk_n <| e_j _ (sy h21) (w_weak [] 4 rfl rfl rfl rfl ⟨lr, lr, trivial⟩ (st_r rfl (st_r rfl (st_p ⟨lr, lr, lr, lr, lr, lr, lr, lr, lr, lr, lr, lr, lr, le_nls, le_nls, lr, lr, lr, lr, lr, lr, lr, lr, lr, lr, lr, lr, trivial⟩ (st_r rfl st_nil)))))
  ·
   intro j11 hj22
   subst hj22
   refine w_sr <| o_p rfl (p_loads (us := [aI, aI, aS, aS, aS, aS, aI, aI, aI, aI, aI, aI, aS, aL, aL, aS, aI, aI, aI, aI, aI, aI, aI, aI, AV.nil, AV.nil, aS]) tv44 rfl rfl rfl rfl) <| o_store (v := .agg [aI, aI, aS, aS, aS, aS, aI, aI, aI, aI, aI, aI, aS, aL, aL, aS, aI, aI, aI, aI, aI, aI, aI, aI, AV.nil, AV.nil, aS]) (us := [aI, aI, aS, aS, aS, aS, aI, aI, aI, aI, aI, aI, aS, aL, aL, aS, aI, aI, aI, aI, aI, aI, aI, aI, AV.nil, AV.nil, aS]) (cs := [aI, aI, aS, aS, aS, aS, aI, aI, aI, aI, aI, aI, aS, AV.nil, AV.nil, aS, aI, aI, aI, aI, aI, aI, aI, aI, AV.nil, AV.nil, aS]) (σ' := [aSSSILIIIIIISIISLLIISLLBLLLLLLLLLII, [aI, aI, aS, aS, aS, aS, aI, aI, aI, aI, aI, aI, aS, aL, aL, aS, aI, aI, aI, aI, aI, aI, aI, aI, AV.nil, AV.nil, aS], [aI, aI, aS, aS, aS, aS, aI, aI, aI, aI, aI, aI, aS, aL, aL, aS, aI, aI, aI, aI, aI, aI, aI, aI, AV.nil, AV.nil, aS], aIIIIIIISSIISLLSIIIIIIIIL]) rfl tv44 rfl rfl rfl rfl rfl rfl rfl rfl <| sB rfl <| o_ek (fr' := [(4, .box 1 0), (5, aB)]) rfl rfl <| w_ret ?_
   obtain rfl := sy h10
   exact e_ret (rs' := [.cell 4 44, .tmp 5]) rfl <| r_cells (us := [aI, aI, aS, aS, aS, aS, aI, aI, aI, aI, aI, aI, aS, aL, aL, aS, aI, aI, aI, aI, aI, aI, aI, aI, AV.nil, AV.nil, aS]) (cs := [aI, aI, aS, aS, aS, aS, aI, aI, aI, aI, aI, aI, aS, aL, aL, aS, aI, aI, aI, aI, aI, aI, aI, aI, AV.nil, AV.nil, aS]) tv44 rfl rfl rfl rfl <| r_tmp (v := aB) rfl <| r_nil <| fin_gen [] rfl rfl rfl (le_tupp rfl ⟨(le_aggc rfl ⟨rfl, rfl, rfl, rfl, rfl, rfl, rfl, rfl, rfl, rfl, rfl, rfl, rfl, rfl, rfl, rfl, rfl, rfl, rfl, rfl, rfl, rfl, rfl, rfl, ⟨_, rfl⟩, ⟨_, rfl⟩, rfl, trivial⟩), lr, trivial⟩) st_nil
noncomputable def children_closed (p0r : ApiRun) : Option Bool :=
 (history_Status p0r.History).bind fun (x1 : (Int × Int)) => some (!decide (x1.1 = (0 : Int)))
theorem w_children_closed {p0r : ApiRun} {res : Bool} (h : children_closed p0r = some res) : ACalls Tryd.prog 53 [.agg (AV.cs (rowApiRun p0r))] [] (.c (.bool res)) [] := by
 unfold children_closed at h
 refine acalls (fn := Tryd.f53) [0, 1, 2, 3] (by kernel_rfl) Tryd.func53 rfl (by kernel_rfl) (by kernel_rfl) <| w_sr <| o_box (v := .agg aSSSILIIIIIISIISLLIISLLBLLLLLLLLLII) (n := 0) (cs := aSSSILIIIIIISIISLLIISLLBLLLLLLLLLII) (σ' := [aSSSILIIIIIISIISLLIISLLBLLLLLLLLLII]) rfl rfl rfl rfl rfl <| sB rfl <| o_ek (fr' := [(1, .box 0 0)]) rfl rfl <| w_sr <| o_p rfl (p_fa tf37x4 rfl) <| o_p rfl (p_load (v := aL) tv22 rfl rfl rfl) ?_
 obtain ⟨x1, hx1, h2⟩ := bind_s h
 refine o_v (ov_call (v := .tup [aI, aI]) rfl (w_history_Status hx1) ⟨lr, trivial⟩ rfl rfl rfl) <| mV (v := .tup [aI, aI]) rfl <| o_p rfl (p_ex (v := aI) rfl rfl) <| o_p rfl (p_ex (v := aI) rfl rfl) <| sI rfl <| sI rfl <| o_ek (fr' := [(3, aI)]) rfl rfl <| w_sr <| mI rfl <| o_p rfl (p_neq rfl rfl) <| sB rfl <| o_ek (fr' := [(2, aB)]) rfl rfl ?_
 refine w_ret ?_
 obtain rfl := sy h2
 exact e_ret (rs' := [.tmp 2]) rfl <| r_tmp (v := aB) rfl <| r_nil <| fin_gen [] rfl rfl rfl lr st_nil
noncomputable def strconv_Itoa (p0i : Int) : Option (List UInt8) :=
 if -9223372036854775808 ≤ p0i ∧ p0i ≤ 9223372036854775807 then some (Lib.itoa p0i) else none
theorem w_strconv_Itoa {p0i : Int} {res : (List UInt8)} (h : strconv_Itoa p0i = some res) : ACalls Tryd.prog 83 [.c (.int .i64 p0i)] [] (.c (.str res)) [] := by
 unfold strconv_Itoa at h
 obtain ⟨⟨h0, h1⟩, rfl⟩ := ite_some h
 refine acalls_lib (by kernel_rfl) fun g w vs hv hI hg => ?_
 rw [rc_int hv]
 refine (Tryd.strconv_Itoa p0i h0 h1 w (glo_tab hg)).mono fun e w' => ?_
 rintro ⟨he, k, os, rfl⟩
 exact ⟨_, he, Lib.below_grow _ _ (Nat.le_refl _) k os, fun g' => .c (.str _)⟩
noncomputable def children_identifier (p0r : ApiRun) (p1seq : Int) : Option (List UInt8) :=
 (cat p0r.ID ([46] : List UInt8)).bind fun (x1 : (List UInt8)) => (strconv_Itoa p1seq).bind fun (x3 : (List UInt8)) => (cat (p0r.ID ++ ([46] : List UInt8)) x3).bind fun (x5 : (List UInt8)) => (cat ((p0r.ID ++ ([46] : List UInt8)) ++ x3) ([46] : List UInt8)).bind fun (x7 : (List UInt8)) => (cat (((p0r.ID ++ ([46] : List UInt8)) ++ x3) ++ ([46] : List UInt8)) p0r.Workflow).bind fun (x9 : (List UInt8)) => (slcH ((((p0r.ID ++ ([46] : List UInt8)) ++ x3) ++ ([46] : List UInt8)) ++ p0r.Workflow) (if (64 : Int) < ((((((p0r.ID ++ ([46] : List UInt8)) ++ x3) ++ ([46] : List UInt8)) ++ p0r.Workflow)).length : Int) then (64 : Int) else ((((((p0r.ID ++ ([46] : List UInt8)) ++ x3) ++ ([46] : List UInt8)) ++ p0r.Workflow)).length : Int))).bind fun (x11 : (List UInt8)) => some (List.take (Int.toNat (if (64 : Int) < ((((((p0r.ID ++ ([46] : List UInt8)) ++ x3) ++ ([46] : List UInt8)) ++ p0r.Workflow)).length : Int) then (64 : Int) else ((((((p0r.ID ++ ([46] : List UInt8)) ++ x3) ++ ([46] : List UInt8)) ++ p0r.Workflow)).length : Int))) ((((p0r.ID ++ ([46] : List UInt8)) ++ x3) ++ ([46] : List UInt8)) ++ p0r.Workflow))
theorem w_children_identifier {p0r : ApiRun} {p1seq : Int} {res : (List UInt8)} (h : children_identifier p0r p1seq = some res) : ACalls Tryd.prog 54 [.agg (AV.cs (rowApiRun p0r)), .c (.int .i64 p1seq)] [] (.c (.str res)) [] := by
 unfold children_identifier at h
 refine acalls (fn := Tryd.f54) [0, 1, 2, 4, 5] (by kernel_rfl) Tryd.func54 rfl (by kernel_rfl) (by kernel_rfl) <| w_sr <| o_box (v := .agg aSSSILIIIIIISIISLLIISLLBLLLLLLLLLII) (n := 0) (cs := aSSSILIIIIIISIISLLIISLLBLLLLLLLLLII) (σ' := [aSSSILIIIIIISIISLLIISLLBLLLLLLLLLII]) rfl rfl rfl rfl rfl <| sS rfl <| o_ek (fr' := [(1, aI), (2, .box 0 0)]) rfl rfl <| w_seqw <| w_planT [.q 0, .q 1, .q 2, .q 3, .q 4, .q 5, .q 6, .q 7, .q 8, .q 9, .n 10 []] [(some 6, [2]), (some 7, [6]), (some 8, [7]), (some 9, [1]), (some 10, [9]), (some 11, [8, 10]), (some 12, [11]), (some 13, [2]), (some 14, [13]), (some 15, [12, 14]), (some 5, [15])] [0, 1, 3, 0, 8, 31, 63, 0, 128, 511, 1023] (by kernel_rfl) <| dq rfl rfl (p_fa tf37x1 rfl) <| dq rfl rfl (p_load (v := aS) tv9 rfl rfl rfl) ?_
 obtain ⟨x1, hx1, h2⟩ := bind_s h
 refine dq rfl rfl (p_sadd rfl rfl (cat_some hx1).1) <| dq rfl rfl (p_move (v := aI) rfl) ?_
 obtain ⟨x3, hx3, h4⟩ := bind_s h2
 refine d_q rfl (qv_call (v := aS) rfl (w_strconv_Itoa hx3) ⟨lr, trivial⟩ rfl) ?_
 obtain ⟨x5, hx5, h6⟩ := bind_s h4
 refine dq rfl rfl (p_sadd rfl rfl (cat_some hx5).1) ?_
 obtain ⟨x7, hx7, h8⟩ := bind_s h6
 refine dq rfl rfl (p_sadd rfl rfl (cat_some hx7).1) <| dq rfl rfl (p_fa tf37x0 rfl) <| dq rfl rfl (p_load (v := aS) tv9 rfl rfl rfl) ?_
 obtain ⟨x9, hx9, h10⟩ := bind_s h8
 refine dq rfl rfl (p_sadd rfl rfl (cat_some hx9).1) <| d_n rfl ?_ rfl
 refine sS rfl <| o_rc <| ⟨rc_nil, ?_⟩
 refine d_ek (fr' := [(5, aS)]) rfl rfl <| w_sr <| mS rfl <| mS rfl <| o_p rfl (p_lens ti9 rfl) <| o_p rfl (p_min rfl rfl) ?_
 obtain ⟨x11, hx11, h12⟩ := bind_s h10
 refine o_p rfl (p_slS_h ti9 rfl rfl (slcH_some hx11).1) <| sS rfl <| o_ek (fr' := [(4, aS)]) rfl rfl <| w_ret ?_
 obtain rfl := sy h12
 exact e_ret (rs' := [.tmp 4]) rfl <| r_tmp (v := aS) rfl <| r_nil <| fin_gen [] rfl rfl rfl lr st_nil
noncomputable def children_Orphans_l1 (p0r : ApiRun) (p1now : Int) (s8 : ((List ApiRequest) × Int)) : Option (Step ((List ApiRequest) × Int) (List ApiRequest)) :=
 cond (decide (s8.2 < ((p0r.Pending.Kids).length : Int))) ((idx p0r.Pending.Kids s8.2).bind fun (x10 : ApiKid) => ((cond (decide (x10.Run = ([] : List UInt8))) (some (Fl.done (Step.next (s8.1, (IntKind.wrap .i64 (s8.2 + (1 : Int))))))) (cond (decide (x10.Policy = (1 : Int))) (some (Fl.go ((4 : Int), ([] : List UInt8), ([112, 97, 114, 101, 110, 116, 32, 99, 108, 111, 115, 101, 100] : List UInt8)))) (cond (decide (x10.Policy = (2 : Int))) ((children_identifier p0r x10.Seq).bind fun (x19 : (List UInt8)) => some (Fl.go ((3 : Int), x19, ([] : List UInt8)))) (some (Fl.done (Step.next (s8.1, (IntKind.wrap .i64 (s8.2 + (1 : Int)))))))))) : Option (Fl (Step ((List ApiRequest) × Int) (List ApiRequest)) (Int × (List UInt8) × (List UInt8)))).bind fun (x12 : (Fl (Step ((List ApiRequest) × Int) (List ApiRequest)) (Int × (List UInt8) × (List UInt8)))) => Fl.next x12 (fun (j14 : (Int × (List UInt8) × (List UInt8))) => ((app 336 s8.1 ([(ApiRequest.mk j14.1 p1now x10.Key x10.Run j14.2.1 j14.2.2 (0 : Int) (0 : Int) (0 : Int) (0 : Int) (ApiValue.mk (0 : Int) (0 : Int) ([] : List UInt8) ([] : (List ApiValue)) ([] : (List (List UInt8)))) (ApiPolicy.mk ([] : List UInt8) (0 : Int) (0 : Int) (0 : Int) (0 : Int) (0 : Int) (0 : Int) (0 : Int) (0 : Int) ([] : (List (List UInt8)))) ([] : (List ApiCommand)) ([] : List UInt8))] : List ApiRequest)).bind fun (x23 : (List ApiRequest)) => some (Step.next (x23, (IntKind.wrap .i64 (s8.2 + (1 : Int)))))))) (some (Step.out s8.1))
noncomputable def children_Orphans (p0r : ApiRun) (p1now : Int) : Option (List ApiRequest) :=
 (children_closed p0r).bind fun (x1 : Bool) => cond (!x1) (some ([] : (List ApiRequest))) (((loopO (children_Orphans_l1 p0r p1now) ((([] : (List ApiRequest)), (0 : Int)))) : Option (List ApiRequest)).bind fun (x5 : (List ApiRequest)) => (some x5))
theorem w_children_Orphans {p0r : ApiRun} {p1now : Int} {res : (List ApiRequest)} (h : children_Orphans p0r p1now = some res) : ACalls Tryd.prog 17 [.agg (AV.cs (rowApiRun p0r)), .c (.int .i64 p1now)] [] (AV.os 0 27 rowApiRequest res) [] := by
 unfold children_Orphans at h
 refine acalls (fn := Tryd.f17) [0, 1, 2, 4, 5, 7, 8, 11, 14, 15, 16, 17, 26, 30, 36] (by kernel_rfl) Tryd.func17 rfl (by kernel_rfl) (by kernel_rfl) <| w_sr <| o_box (v := .agg aSSSILIIIIIISIISLLIISLLBLLLLLLLLLII) (n := 0) (cs := aSSSILIIIIIISIISLLIISLLBLLLLLLLLLII) (σ' := [aSSSILIIIIIISIISLLIISLLBLLLLLLLLLII]) rfl rfl rfl rfl rfl <| sV (v := AV.nil) rfl <| o_ek (fr' := [(1, aI), (2, .box 0 0)]) rfl rfl <| w_seqw <| w_sr <| o_p rfl (p_loads (us := aSSSILIIIIIISIISLLIISLLBLLLLLLLLLII) tv37 rfl rfl rfl rfl) ?_
 obtain ⟨x1, hx1, h2⟩ := bind_s h
 refine o_v (ov_call (v := aB) rfl (w_children_closed hx1) ⟨(le_aggc rfl ⟨rfl, rfl, rfl, rfl, rfl, rfl, rfl, rfl, rfl, rfl, rfl, rfl, rfl, rfl, rfl, rfl, rfl, rfl, rfl, rfl, rfl, rfl, rfl, rfl, rfl, rfl, rfl, rfl, rfl, rfl, rfl, rfl, rfl, rfl, trivial⟩), trivial⟩ rfl rfl rfl) <| o_p rfl (p_not rfl) <| o_ek (fr' := [(1, aI), (2, .box 0 0), (11, aB)]) rfl rfl <| w_ch h2 rfl (fun hb3 h3 => ?_) (fun hb3 h3 => ?_)
 ·
  refine w_sr <| sV (v := AV.nil) rfl <| o_ek (fr' := [(4, AV.nil)]) rfl rfl <| w_ret <| e_seq_r ?_
  obtain rfl := sy h3
  exact e_ret (rs' := [.tmp 4]) rfl <| r_tmp (v := AV.nil) rfl <| r_nil <| fin_gen [1000000] rfl rfl rfl (le_nos rfl) st_nil
 ·
  refine w_skip <| e_kw <| w_sr <| sV (v := AV.nil) rfl <| o_ek (fr' := [(1, aI), (2, .box 0 0), (5, AV.nil)]) rfl rfl <| w_seqw <| w_sr <| o_p rfl (p_fa tf37x5 rfl) <| o_p rfl (p_fa tf33x12 rfl) <| o_p rfl (p_load (v := aL) tv29 rfl rfl rfl) <| o_p rfl (p_len ti29 (isl_c rfl)) ?_
  refine mI rfl <| o_ek (fr' := [(1, aI), (2, .box 0 0), (5, AV.nil), (14, aL), (15, aI), (16, aI)]) rfl rfl ?_
  obtain ⟨x5, hx5, h6⟩ := bind_s h3
  refine w_jtail cl_kw (fun j7 => x5 = j7) (fun (j7 : (List ApiRequest)) => ([(5, AV.os 0 27 rowApiRequest j7)] : Fr)) (fun (j7 : (List ApiRequest)) => ([[.c (.str p0r.Workflow), .c (.str p0r.ID), .c (.str p0r.Parent), .c (.int .i64 p0r.ParentSeq), .c (PV.ls 24 rowApiEvent p0r.History), .c (.int .i64 p0r.Pending.Next), .c (.int .i64 p0r.Pending.Status), .c (.int .i64 p0r.Pending.Task), .c (.int .i64 p0r.Pending.TaskID), .c (.int .i64 p0r.Pending.Attempt), .c (.int .i64 p0r.Pending.Seq), .c (.str p0r.Pending.Name), .c (.int .i64 p0r.Pending.Input.Kind), .c (.int .i64 p0r.Pending.Input.Int), .c (.str p0r.Pending.Input.Text), .c (PV.ls 5 rowApiValue p0r.Pending.Input.Items), .c (PV.ls 1 rowS p0r.Pending.Input.Keys), .c (.int .i64 p0r.Pending.Attrs.Kind), .c (.int .i64 p0r.Pending.Attrs.Int), .c (.str p0r.Pending.Attrs.Text), .c (PV.ls 5 rowApiValue p0r.Pending.Attrs.Items), .c (PV.ls 1 rowS p0r.Pending.Attrs.Keys), .c (.bool p0r.Pending.Cancel), .c (PV.ls 32 rowApiAct p0r.Pending.Acts), .c (PV.ls 3 rowApiTimer p0r.Pending.Timers), .c (PV.ls 6 rowApiKid p0r.Pending.Kids), .c (PV.ls 4 rowApiSend p0r.Pending.Sends), .c (PV.ls 2 rowApiUpd p0r.Pending.Updates), .c (PV.ls 1 rowS p0r.Pending.Requests), .c (PV.ls 24 rowApiEvent p0r.Buffer), .c (PV.ls 7 rowApiAdmit p0r.Admits), .c (PV.ls 9 rowApiTask p0r.Tasks), .c (.int .i64 p0r.NextTask), .c (.int .i64 p0r.Version)]] : St)) ?_ ?_
  ·
   refine w_block <| w_loopo _ (fun (s8 : ((List ApiRequest) × Int)) => ([(1, .c (.int .i64 p1now)), (2, .box 0 0), (5, AV.os 0 27 rowApiRequest s8.1), (14, .c (PV.ls 6 rowApiKid p0r.Pending.Kids)), (15, .c (.int .i64 ((p0r.Pending.Kids).length : Int))), (16, .c (.int .i64 s8.2))] : Fr)) (fun (s8 : ((List ApiRequest) × Int)) => ([[.c (.str p0r.Workflow), .c (.str p0r.ID), .c (.str p0r.Parent), .c (.int .i64 p0r.ParentSeq), .c (PV.ls 24 rowApiEvent p0r.History), .c (.int .i64 p0r.Pending.Next), .c (.int .i64 p0r.Pending.Status), .c (.int .i64 p0r.Pending.Task), .c (.int .i64 p0r.Pending.TaskID), .c (.int .i64 p0r.Pending.Attempt), .c (.int .i64 p0r.Pending.Seq), .c (.str p0r.Pending.Name), .c (.int .i64 p0r.Pending.Input.Kind), .c (.int .i64 p0r.Pending.Input.Int), .c (.str p0r.Pending.Input.Text), .c (PV.ls 5 rowApiValue p0r.Pending.Input.Items), .c (PV.ls 1 rowS p0r.Pending.Input.Keys), .c (.int .i64 p0r.Pending.Attrs.Kind), .c (.int .i64 p0r.Pending.Attrs.Int), .c (.str p0r.Pending.Attrs.Text), .c (PV.ls 5 rowApiValue p0r.Pending.Attrs.Items), .c (PV.ls 1 rowS p0r.Pending.Attrs.Keys), .c (.bool p0r.Pending.Cancel), .c (PV.ls 32 rowApiAct p0r.Pending.Acts), .c (PV.ls 3 rowApiTimer p0r.Pending.Timers), .c (PV.ls 6 rowApiKid p0r.Pending.Kids), .c (PV.ls 4 rowApiSend p0r.Pending.Sends), .c (PV.ls 2 rowApiUpd p0r.Pending.Updates), .c (PV.ls 1 rowS p0r.Pending.Requests), .c (PV.ls 24 rowApiEvent p0r.Buffer), .c (PV.ls 7 rowApiAdmit p0r.Admits), .c (PV.ls 9 rowApiTask p0r.Tasks), .c (.int .i64 p0r.NextTask), .c (.int .i64 p0r.Version)]] : St)) hx5 (w_weak [1000000] 1 rfl rfl rfl rfl ⟨lr, lr, (le_nos rfl), lr, lr, lr, trivial⟩ (st_r rfl st_nil)) ?_
   intro s8 st8 hs8 ho8
   unfold children_Orphans_l1 at hs8
   refine w_sr <| o_p rfl (p_lss rfl rfl) <| o_ek (fr' := [(1, aI), (2, .box 0 0), (5, aO), (14, aL), (15, aI), (16, aI), (17, aB)]) rfl rfl <| w_seqw <| w_ch hs8 rfl (fun hb9 h9 => ?_) (fun hb9 h9 => ?_)
   ·
    refine w_skip <| e_kw <| w_seqw <| w_block <| w_seqw <| w_region ?_
    obtain ⟨x10, hx10, h11⟩ := bind_s h9
    refine o_p rfl (p_ia (cs := [PV.int _ _, PV.int _ _, PV.str _, PV.str _, PV.int _ _, PV.str _]) ts29 (isl_c rfl) rfl hx10 rfl) <| o_p rfl (p_loades (us := [PV.int _ _, PV.int _ _, PV.str _, PV.str _, PV.int _ _, PV.str _]) tv87 rfl rfl rfl) <| o_alloc (n := 1) (cs := aIISSIS) (σ' := [aSSSILIIIIIISIISLLIISLLBLLLLLLLLLII, aIISSIS]) tz87 rfl rfl rfl <| o_store (v := .agg aIISSIS) (us := aIISSIS) (cs := aIISSIS) (σ' := [aSSSILIIIIIISIISLLIISLLBLLLLLLLLLII, aIISSIS]) rfl tv87 rfl rfl rfl rfl rfl rfl rfl rfl <| o_ek (fr' := [(1, aI), (2, .box 0 0), (5, aO), (7, .box 1 0), (14, aL), (15, aI), (16, aI)]) rfl rfl <| w_sr <| mI rfl <| o_p rfl (p_fa tf87x2 rfl) <| o_p rfl (p_load (v := aS) tv9 rfl rfl rfl) <| o_p rfl (p_fa tf87x5 rfl) <| o_p rfl (p_load (v := aS) tv9 rfl rfl rfl) <| o_p rfl (p_buildc (c0 := [aI, aI, aS, aS, aS, aS, aI, aI, aI, aI, aI, aI, aS, AV.nil, AV.nil, aS, aI, aI, aI, aI, aI, aI, aI, aI, AV.nil, AV.nil, aS]) (cs := [aI, aI, aS, aS, aS, aS, aI, aI, aI, aI, aI, aI, aS, AV.nil, AV.nil, aS, aI, aI, aI, aI, aI, aI, aI, aI, AV.nil, AV.nil, aS]) tb44 rfl (fill_cons (v := aI) (us := [_]) (cs' := u27) rfl rfl rfl rfl rfl rfl (fill_cons (v := aS) (us := [_]) (cs' := u27) rfl rfl rfl rfl rfl rfl (fill_cons (v := aS) (us := [_]) (cs' := u27) rfl rfl rfl rfl rfl rfl fill_nil)))) ?_
    refine o_alloc (n := 2) (cs := [aI, aI, aS, aS, aS, aS, aI, aI, aI, aI, aI, aI, aS, AV.nil, AV.nil, aS, aI, aI, aI, aI, aI, aI, aI, aI, AV.nil, AV.nil, aS]) (σ' := [aSSSILIIIIIISIISLLIISLLBLLLLLLLLLII, aIISSIS, [aI, aI, aS, aS, aS, aS, aI, aI, aI, aI, aI, aI, aS, AV.nil, AV.nil, aS, aI, aI, aI, aI, aI, aI, aI, aI, AV.nil, AV.nil, aS]]) tz44 rfl rfl rfl <| o_store (v := .agg [aI, aI, aS, aS, aS, aS, aI, aI, aI, aI, aI, aI, aS, AV.nil, AV.nil, aS, aI, aI, aI, aI, aI, aI, aI, aI, AV.nil, AV.nil, aS]) (us := [aI, aI, aS, aS, aS, aS, aI, aI, aI, aI, aI, aI, aS, AV.nil, AV.nil, aS, aI, aI, aI, aI, aI, aI, aI, aI, AV.nil, AV.nil, aS]) (cs := [aI, aI, aS, aS, aS, aS, aI, aI, aI, aI, aI, aI, aS, AV.nil, AV.nil, aS, aI, aI, aI, aI, aI, aI, aI, aI, AV.nil, AV.nil, aS]) (σ' := [aSSSILIIIIIISIISLLIISLLBLLLLLLLLLII, aIISSIS, [aI, aI, aS, aS, aS, aS, aI, aI, aI, aI, aI, aI, aS, AV.nil, AV.nil, aS, aI, aI, aI, aI, aI, aI, aI, aI, AV.nil, AV.nil, aS]]) rfl tv44 rfl rfl rfl rfl rfl rfl rfl rfl <| o_ek (fr' := [(1, aI), (2, .box 0 0), (5, aO), (7, .box 1 0), (8, .box 2 0), (14, aL), (15, aI), (16, aI)]) rfl rfl ?_
    obtain ⟨x12, hx12, h13⟩ := bind_s h11
    refine w_join (fun j14 => x12 = Fl.go j14) (fun (j14 : (Int × (List UInt8) × (List UInt8))) => ([(1, .c (.int .i64 p1now)), (2, .box 0 0), (5, AV.os 0 27 rowApiRequest s8.1), (8, .box 2 0), (14, .c (PV.ls 6 rowApiKid p0r.Pending.Kids)), (15, .c (.int .i64 ((p0r.Pending.Kids).length : Int))), (16, .c (.int .i64 s8.2))] : Fr)) (fun (j14 : (Int × (List UInt8) × (List UInt8))) => ([[.c (.str p0r.Workflow), .c (.str p0r.ID), .c (.str p0r.Parent), .c (.int .i64 p0r.ParentSeq), .c (PV.ls 24 rowApiEvent p0r.History), .c (.int .i64 p0r.Pending.Next), .c (.int .i64 p0r.Pending.Status), .c (.int .i64 p0r.Pending.Task), .c (.int .i64 p0r.Pending.TaskID), .c (.int .i64 p0r.Pending.Attempt), .c (.int .i64 p0r.Pending.Seq), .c (.str p0r.Pending.Name), .c (.int .i64 p0r.Pending.Input.Kind), .c (.int .i64 p0r.Pending.Input.Int), .c (.str p0r.Pending.Input.Text), .c (PV.ls 5 rowApiValue p0r.Pending.Input.Items), .c (PV.ls 1 rowS p0r.Pending.Input.Keys), .c (.int .i64 p0r.Pending.Attrs.Kind), .c (.int .i64 p0r.Pending.Attrs.Int), .c (.str p0r.Pending.Attrs.Text), .c (PV.ls 5 rowApiValue p0r.Pending.Attrs.Items), .c (PV.ls 1 rowS p0r.Pending.Attrs.Keys), .c (.bool p0r.Pending.Cancel), .c (PV.ls 32 rowApiAct p0r.Pending.Acts), .c (PV.ls 3 rowApiTimer p0r.Pending.Timers), .c (PV.ls 6 rowApiKid p0r.Pending.Kids), .c (PV.ls 4 rowApiSend p0r.Pending.Sends), .c (PV.ls 2 rowApiUpd p0r.Pending.Updates), .c (PV.ls 1 rowS p0r.Pending.Requests), .c (PV.ls 24 rowApiEvent p0r.Buffer), .c (PV.ls 7 rowApiAdmit p0r.Admits), .c (PV.ls 9 rowApiTask p0r.Tasks), .c (.int .i64 p0r.NextTask), .c (.int .i64 p0r.Version)], [.c (.int .i64 x10.Seq), .c (.int .i64 x10.Event), .c (.str x10.Key), .c (.str x10.Name), .c (.int .i64 x10.Policy), .c (.str x10.Run)], [.c (.int .i64 j14.1), .c (.int .i64 p1now), .c (.str x10.Key), .c (.str x10.Run), .c (.str j14.2.1), .c (.str j14.2.2), .c (.int .i64 (0 : Int)), .c (.int .i64 (0 : Int)), .c (.int .i64 (0 : Int)), .c (.int .i64 (0 : Int)), .c (.int .i64 (0 : Int)), .c (.int .i64 (0 : Int)), .c (.str ([] : List UInt8)), AV.nil, AV.nil, .c (.str ([] : List UInt8)), .c (.int .i64 (0 : Int)), .c (.int .i64 (0 : Int)), .c (.int .i64 (0 : Int)), .c (.int .i64 (0 : Int)), .c (.int .i64 (0 : Int)), .c (.int .i64 (0 : Int)), .c (.int .i64 (0 : Int)), .c (.int .i64 (0 : Int)), AV.nil, AV.nil, .c (.str ([] : List UInt8))]] : St)) ?_ ?_
    ·
     refine w_block <| w_sr <| o_p rfl (p_fa tf87x5 rfl) <| o_p rfl (p_load (v := aS) tv9 rfl rfl rfl) <| o_p rfl (p_seql rfl rfl) <| sB rfl <| o_ek (fr' := [(1, aI), (2, .box 0 0), (5, aO), (7, .box 1 0), (8, .box 2 0), (14, aL), (15, aI), (16, aI), (26, aB)]) rfl rfl <| w_ch hx12 rfl (fun hb15 h15 => ?_) (fun hb15 h15 => ?_)
     ·
      refine w_exit <| e_blk_m rfl <| e_seq_x <| e_blk_h <| e_kw <| w_region <| o_p rfl (p_add rfl rfl) <| mI rfl <| o_end (fr' := [(1, aI), (2, .box 0 0), (5, aO), (7, .box 1 0), (8, .box 2 0), (14, aL), (15, aI), (16, aI), (26, aB)]) rfl ?_
      have h16 := un_done h15 h13
      exact e_l _ (sy h16) (w_weak [0] 1 rfl rfl rfl rfl ⟨lr, lr, lr, lr, lr, lr, trivial⟩ (st_r rfl st_nil))
     ·
      refine w_sr <| o_p rfl (p_fa tf87x4 rfl) <| o_p rfl (p_load (v := aI) tv3 rfl rfl rfl) <| o_p rfl (p_eql rfl rfl) <| sB rfl <| o_ek (fr' := [(1, aI), (2, .box 0 0), (5, aO), (7, .box 1 0), (8, .box 2 0), (14, aL), (15, aI), (16, aI), (30, aB)]) rfl rfl <| w_ch h15 rfl (fun hb17 h17 => ?_) (fun hb17 h17 => ?_)
      ·
       exact w_sr <| o_p rfl (p_fa tf44x0 rfl) <| o_store (v := aI) (us := [aI]) (cs := [aI, aI, aS, aS, aS, aS, aI, aI, aI, aI, aI, aI, aS, AV.nil, AV.nil, aS, aI, aI, aI, aI, aI, aI, aI, aI, AV.nil, AV.nil, aS]) (σ' := [aSSSILIIIIIISIISLLIISLLBLLLLLLLLLII, aIISSIS, [aI, aI, aS, aS, aS, aS, aI, aI, aI, aI, aI, aI, aS, AV.nil, AV.nil, aS, aI, aI, aI, aI, aI, aI, aI, aI, AV.nil, AV.nil, aS]]) rfl tv3 rfl rfl rfl rfl rfl rfl rfl rfl <| o_ek (fr' := [(1, aI), (2, .box 0 0), (5, aO), (8, .box 2 0), (14, aL), (15, aI), (16, aI)]) rfl rfl <| w_region <| o_p rfl (p_fa tf44x5 rfl) <| o_store (v := aS) (us := [aS]) (cs := [aI, aI, aS, aS, aS, aS, aI, aI, aI, aI, aI, aI, aS, AV.nil, AV.nil, aS, aI, aI, aI, aI, aI, aI, aI, aI, AV.nil, AV.nil, aS]) (σ' := [aSSSILIIIIIISIISLLIISLLBLLLLLLLLLII, aIISSIS, [aI, aI, aS, aS, aS, aS, aI, aI, aI, aI, aI, aI, aS, AV.nil, AV.nil, aS, aI, aI, aI, aI, aI, aI, aI, aI, AV.nil, AV.nil, aS]]) rfl tv9 rfl rfl rfl rfl rfl rfl rfl rfl <| o_end (fr' := [(1, aI), (2, .box 0 0), (5, aO), (8, .box 2 0), (14, aL), (15, aI), (16, aI)]) rfl <| e_blk_n <| e_j _ (sy h17) (w_weak [0] 3 rfl rfl rfl rfl ⟨lr, lr, lr, lr, lr, lr, lr, trivial⟩ (st_r rfl (st_r rfl (st_r rfl st_nil))))
      ·
       refine w_sr <| o_p rfl (p_fa tf87x4 rfl) <| o_p rfl (p_load (v := aI) tv3 rfl rfl rfl) <| o_p rfl (p_eql rfl rfl) <| sB rfl <| o_ek (fr' := [(1, aI), (2, .box 0 0), (5, aO), (7, .box 1 0), (8, .box 2 0), (14, aL), (15, aI), (16, aI), (36, aB)]) rfl rfl <| w_ch h17 rfl (fun hb18 h18 => ?_) (fun hb18 h18 => ?_)
       ·
        refine w_sr <| o_p rfl (p_fa tf44x0 rfl) <| o_store (v := aI) (us := [aI]) (cs := [aI, aI, aS, aS, aS, aS, aI, aI, aI, aI, aI, aI, aS, AV.nil, AV.nil, aS, aI, aI, aI, aI, aI, aI, aI, aI, AV.nil, AV.nil, aS]) (σ' := [aSSSILIIIIIISIISLLIISLLBLLLLLLLLLII, aIISSIS, [aI, aI, aS, aS, aS, aS, aI, aI, aI, aI, aI, aI, aS, AV.nil, AV.nil, aS, aI, aI, aI, aI, aI, aI, aI, aI, AV.nil, AV.nil, aS]]) rfl tv3 rfl rfl rfl rfl rfl rfl rfl rfl <| o_ek (fr' := [(1, aI), (2, .box 0 0), (5, aO), (7, .box 1 0), (8, .box 2 0), (14, aL), (15, aI), (16, aI)]) rfl rfl <| w_region <| o_p rfl (p_loads (us := aSSSILIIIIIISIISLLIISLLBLLLLLLLLLII) tv37 rfl rfl rfl rfl) <| o_p rfl (p_fa tf87x0 rfl) <| o_p rfl (p_load (v := aI) tv3 rfl rfl rfl) ?_
        obtain ⟨x19, hx19, h20⟩ := bind_s h18
        exact o_v (ov_call (v := aS) rfl (w_children_identifier hx19) ⟨(le_aggc rfl ⟨rfl, rfl, rfl, rfl, rfl, rfl, rfl, rfl, rfl, rfl, rfl, rfl, rfl, rfl, rfl, rfl, rfl, rfl, rfl, rfl, rfl, rfl, rfl, rfl, rfl, rfl, rfl, rfl, rfl, rfl, rfl, rfl, rfl, rfl, trivial⟩), lr, trivial⟩ rfl rfl rfl) <| o_p rfl (p_fa tf44x4 rfl) <| o_store (v := aS) (us := [aS]) (cs := [aI, aI, aS, aS, aS, aS, aI, aI, aI, aI, aI, aI, aS, AV.nil, AV.nil, aS, aI, aI, aI, aI, aI, aI, aI, aI, AV.nil, AV.nil, aS]) (σ' := [aSSSILIIIIIISIISLLIISLLBLLLLLLLLLII, aIISSIS, [aI, aI, aS, aS, aS, aS, aI, aI, aI, aI, aI, aI, aS, AV.nil, AV.nil, aS, aI, aI, aI, aI, aI, aI, aI, aI, AV.nil, AV.nil, aS]]) rfl tv9 rfl rfl rfl rfl rfl rfl rfl rfl <| o_end (fr' := [(1, aI), (2, .box 0 0), (5, aO), (7, .box 1 0), (8, .box 2 0), (14, aL), (15, aI), (16, aI)]) rfl <| e_blk_n <| e_j _ (sy h20) (w_weak [0] 3 rfl rfl rfl rfl ⟨lr, lr, lr, lr, lr, lr, lr, trivial⟩ (st_r rfl (st_r rfl (st_r rfl st_nil))))
       ·
        refine w_exit <| e_blk_m rfl <| e_seq_x <| e_blk_h <| e_kw <| w_region <| o_p rfl (p_add rfl rfl) <| mI rfl <| o_end (fr' := [(1, aI), (2, .box 0 0), (5, aO), (7, .box 1 0), (8, .box 2 0), (14, aL), (15, aI), (16, aI), (36, aB)]) rfl ?_
        have h21 := un_done h18 h13
        exact e_l _ (sy h21) (w_weak [0] 1 rfl rfl rfl rfl ⟨lr, lr, lr, lr, lr, lr, trivial⟩ (st_r rfl st_nil))
    ·
     intro j14 hj22
     have h22 := un_go hj22 h13
     refine w_region <| mV (v := aO) rfl <| o_p rfl (p_loads (us := [aI, aI, aS, aS, aS, aS, aI, aI, aI, aI, aI, aI, aS, AV.nil, AV.nil, aS, aI, aI, aI, aI, aI, aI, aI, aI, AV.nil, AV.nil, aS]) tv44 rfl rfl rfl rfl) <| o_rows (row := rowApiRequest) (xs := ([(ApiRequest.mk j14.1 p1now x10.Key x10.Run j14.2.1 j14.2.2 (0 : Int) (0 : Int) (0 : Int) (0 : Int) (ApiValue.mk (0 : Int) (0 : Int) ([] : List UInt8) ([] : (List ApiValue)) ([] : (List (List UInt8)))) (ApiPolicy.mk ([] : List UInt8) (0 : Int) (0 : Int) (0 : Int) (0 : Int) (0 : Int) (0 : Int) (0 : Int) (0 : Int) ([] : (List (List UInt8)))) ([] : (List ApiCommand)) ([] : List UInt8))] : List ApiRequest)) (rows := [[_, _, _, _, _, _, _, _, _, _, _, _, _, _, _, _, _, _, _, _, _, _, _, _, _, _, _]]) (σ' := [aSSSILIIIIIISIISLLIISLLBLLLLLLLLLII, aIISSIS, [aI, aI, aS, aS, aS, aS, aI, aI, aI, aI, aI, aI, aS, AV.nil, AV.nil, aS, aI, aI, aI, aI, aI, aI, aI, aI, AV.nil, AV.nil, aS]]) [0, 0, 0, 0, 0, 0, 0, 0, 0, 0, 0, 0, 0, 5, 1, 0, 0, 0, 0, 0, 0, 0, 0, 0, 1, 20, 0] ts47 rfl rfl rfl (arow_cons rfl arow_nil) rfl rfl ?_
     obtain ⟨x23, hx23, h24⟩ := bind_s h22
     exact o_app (row := rowApiRequest) ts47 rfl ti47 rfl (isl_o rfl) (fun _ => rfl) hx23 <| sV (v := aO) rfl <| o_end (fr' := [(1, aI), (2, .box 0 0), (5, aO), (8, .box 2 0), (14, aL), (15, aI), (16, aI)]) rfl <| e_blk_n <| e_kw <| w_region <| o_p rfl (p_add rfl rfl) <| mI rfl <| o_end (fr' := [(1, aI), (2, .box 0 0), (5, aO), (8, .box 2 0), (14, aL), (15, aI), (16, aI)]) rfl <| e_l _ (sy h24) (w_weak [784] 1 rfl rfl rfl rfl ⟨lr, lr, lr, lr, lr, lr, trivial⟩ (st_r rfl st_nil))
   ·
    refine w_exit <| e_seq_x <| e_seq_x <| e_blk_h ?_
    have h25 := un_out h9 ho8
    exact e_j _ (sy h25) (w_weak [0] 1 rfl rfl rfl rfl ⟨lr, trivial⟩ (st_r rfl st_nil))
  ·
   intro j7 hj26
   subst hj26
   refine e_kw <| w_sr <| mV (v := aO) rfl <| sV (v := aO) rfl <| o_ek (fr' := [(4, aO)]) rfl rfl <| w_ret ?_
   obtain rfl := sy h6
   exact e_ret (rs' := [.tmp 4]) rfl <| r_tmp (v := aO) rfl <| r_nil <| fin_gen [0] rfl rfl rfl lr st_nil
end Go.Proofs.YtopijeegnhighaaDoor

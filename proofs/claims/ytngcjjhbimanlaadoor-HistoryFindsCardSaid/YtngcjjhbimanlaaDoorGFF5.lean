import Derived.Test.YtngcjjhbimanlaaDoorGFTy
import Derived.Test.YtngcjjhbimanlaaDoorGFF4
namespace Go.Proofs.YtngcjjhbimanlaaDoor
open Go Abs
set_option maxRecDepth 100000
set_option linter.unusedVariables false
set_option linter.unusedSimpArgs false
noncomputable def slices_IndexFunc_api_Event_api_Event_history_Find_1_l1 (p0s : (List ApiEvent)) (p100vx0 : Int) (p101vx0 : Int) (s4 : Int) : Option (Step Int (Fl Int Unit)) :=
 cond (decide (s4 < ((p0s).length : Int))) ((idx p0s s4).bind fun (x6 : ApiEvent) => (history_Find_1 x6 p100vx0 p101vx0).bind fun (x8 : Bool) => cond x8 (some (Step.out (Fl.done s4))) (some (Step.next (IntKind.wrap .i64 (s4 + (1 : Int)))))) (some (Step.out (Fl.go ())))
noncomputable def slices_IndexFunc_api_Event_api_Event_history_Find_1 (p0s : (List ApiEvent)) (p100vx0 : Int) (p101vx0 : Int) : Option Int :=
 ((loopO (slices_IndexFunc_api_Event_api_Event_history_Find_1_l1 p0s p100vx0 p101vx0) ((0 : Int))) : Option (Fl Int Unit)).bind fun (x1 : (Fl Int Unit)) => Fl.next x1 (fun (j3 : Unit) => (some (-1 : Int)))
theorem w_slices_IndexFunc_api_Event_api_Event_history_Find_1 {p0s : (List ApiEvent)} {p100vx0 : Int} {p101vx0 : Int} {res : Int} (h : slices_IndexFunc_api_Event_api_Event_history_Find_1 p0s p100vx0 p101vx0 = some res) : ACalls Tryd.prog 57 [.c (PV.ls 24 rowApiEvent p0s), .fn 58 [.box 0 0, .box 1 0]] [[.c (.int .i64 p100vx0)], [.c (.int .i64 p101vx0)]] (.c (.int .i64 res)) [[.c (.int .i64 p100vx0)], [.c (.int .i64 p101vx0)]] := by
 unfold slices_IndexFunc_api_Event_api_Event_history_Find_1 at h
 refine acalls (fn := Tryd.f57) [0, 1, 4, 5, 7, 8, 9, 16] (by kernel_rfl) Tryd.func57 rfl (by kernel_rfl) (by kernel_rfl) <| w_sr <| sI rfl <| o_ek (fr' := [(0, aL), (1, .fn _ [.box 0 0, .box 1 0])]) rfl rfl <| w_seqw <| w_sr <| mL rfl <| o_p rfl (p_len ti44 (isl_c rfl)) <| mI rfl <| o_ek (fr' := [(0, aL), (1, .fn _ [.box 0 0, .box 1 0]), (7, aI), (8, aI)]) rfl rfl ?_
 obtain ⟨x1, hx1, h2⟩ := bind_s h
 refine w_jtail cl_kw (fun j3 => x1 = Fl.go j3) (fun (j3 : Unit) => ([] : Fr)) (fun (j3 : Unit) => ([[.c (.int .i64 p100vx0)], [.c (.int .i64 p101vx0)]] : St)) ?_ ?_
 ·
  refine w_block <| w_loopo _ (fun (s4 : Int) => ([(0, .c (PV.ls 24 rowApiEvent p0s)), (1, .fn 58 [.box 0 0, .box 1 0]), (7, .c (.int .i64 ((p0s).length : Int))), (8, .c (.int .i64 s4))] : Fr)) (fun (s4 : Int) => ([[.c (.int .i64 p100vx0)], [.c (.int .i64 p101vx0)]] : St)) hx1 (w_weak [] 2 rfl rfl rfl rfl ⟨lr, lr, lr, lr, trivial⟩ (st_r rfl (st_r rfl st_nil))) ?_
  intro s4 st4 hs4 ho4
  unfold slices_IndexFunc_api_Event_api_Event_history_Find_1_l1 at hs4
  refine w_sr <| o_p rfl (p_lss rfl rfl) <| o_ek (fr' := [(0, aL), (1, .fn _ [.box 0 0, .box 1 0]), (7, aI), (8, aI), (9, aB)]) rfl rfl <| w_seqw <| w_ch hs4 rfl (fun hb5 h5 => ?_) (fun hb5 h5 => ?_)
  ·
   refine w_skip <| e_kw <| w_seqw <| w_block <| w_sr <| mI rfl <| sI rfl <| o_ek (fr' := [(0, aL), (1, .fn _ [.box 0 0, .box 1 0]), (5, aI), (7, aI), (8, aI)]) rfl rfl <| w_sr <| mV (v := .fn _ [.box 0 0, .box 1 0]) rfl <| mL rfl ?_
   refine mI rfl ?_
   obtain ⟨x6, hx6, h7⟩ := bind_s h5
   refine o_p rfl (p_ia (cs := [PV.int _ _, PV.int _ _, PV.int _ _, PV.int _ _, PV.int _ _, PV.int _ _, PV.int _ _, PV.str _, PV.str _, PV.int _ _, PV.int _ _, PV.str _, PV.ls _ _ _, PV.ls _ _ _, PV.str _, PV.int _ _, PV.int _ _, PV.int _ _, PV.int _ _, PV.int _ _, PV.int _ _, PV.int _ _, PV.int _ _, PV.ls _ _ _]) ts44 (isl_c rfl) rfl hx6 rfl) <| o_p rfl (p_loades (us := [PV.int _ _, PV.int _ _, PV.int _ _, PV.int _ _, PV.int _ _, PV.int _ _, PV.int _ _, PV.str _, PV.str _, PV.int _ _, PV.int _ _, PV.str _, PV.ls _ _ _, PV.ls _ _ _, PV.str _, PV.int _ _, PV.int _ _, PV.int _ _, PV.int _ _, PV.int _ _, PV.int _ _, PV.int _ _, PV.int _ _, PV.ls _ _ _]) tv31 rfl rfl rfl) ?_
   obtain ⟨x8, hx8, h9⟩ := bind_s h7
   refine o_call (v := aB) (σ' := [[aI], [aI]]) [0, 1] rfl (w_history_Find_1 hx8) rfl rfl ⟨(le_aggc rfl ⟨rfl, rfl, rfl, rfl, rfl, rfl, rfl, rfl, rfl, rfl, rfl, rfl, rfl, rfl, rfl, rfl, rfl, rfl, rfl, rfl, rfl, rfl, rfl, rfl, trivial⟩), lr, lr, trivial⟩ (st_p ⟨lr, trivial⟩ (st_p ⟨lr, trivial⟩ st_nil)) rfl rfl rfl <| o_ek (fr' := [(0, aL), (1, .fn _ [.box 0 0, .box 1 0]), (5, aI), (7, aI), (8, aI), (16, aB)]) rfl rfl <| w_ch h9 rfl (fun hb10 h10 => ?_) (fun hb10 h10 => ?_)
   ·
    refine w_sr <| mI rfl <| sI rfl <| o_ek (fr' := [(4, aI)]) rfl rfl <| w_ret <| e_blk_r <| e_seq_r <| e_seq_r <| e_blk_r <| e_seq_r <| e_seq_r ?_
    have h11 := un_out h10 ho4
    have h12 := un_done h11 h2
    obtain rfl := sy h12
    exact e_ret (rs' := [.tmp 4]) rfl <| r_tmp (v := aI) rfl <| r_nil <| fin_gen [] rfl rfl rfl lr (st_r rfl (st_r rfl st_nil))
   ·
    exact w_skip <| e_blk_n <| e_kw <| w_region <| o_p rfl (p_add rfl rfl) <| mI rfl <| o_end (fr' := [(0, aL), (1, .fn _ [.box 0 0, .box 1 0]), (5, aI), (7, aI), (8, aI), (16, aB)]) rfl <| e_l _ (sy h10) (w_weak [] 2 rfl rfl rfl rfl ⟨lr, lr, lr, lr, trivial⟩ (st_r rfl (st_r rfl st_nil)))
  ·
   refine w_exit <| e_seq_x <| e_seq_x <| e_blk_h ?_
   have h14 := un_out h5 ho4
   exact e_j _ (sy h14) (w_weak [] 2 rfl rfl rfl rfl trivial (st_r rfl (st_r rfl st_nil)))
 ·
  intro j3 hj15
  have h15 := un_go hj15 h2
  refine e_kw <| w_sr <| sI rfl <| o_ek (fr' := [(4, aI)]) rfl rfl <| w_ret ?_
  obtain rfl := sy h15
  exact e_ret (rs' := [.tmp 4]) rfl <| r_tmp (v := aI) rfl <| r_nil <| fin_gen [] rfl rfl rfl lr (st_r rfl (st_r rfl st_nil))
noncomputable def history_Find (p0l : (List ApiEvent)) (p1kind : Int) (p2seq : Int) : Option (Int × Bool) :=
 (slices_IndexFunc_api_Event_api_Event_history_Find_1 p0l p1kind p2seq).bind fun (x1 : Int) => some ((if (0 : Int) > x1 then (0 : Int) else x1), (decide ((0 : Int) ≤ x1)))
theorem w_history_Find {p0l : (List ApiEvent)} {p1kind : Int} {p2seq : Int} {res : (Int × Bool)} (h : history_Find p0l p1kind p2seq = some res) : ACalls Tryd.prog 29 [.c (PV.ls 24 rowApiEvent p0l), .c (.int .i64 p1kind), .c (.int .i64 p2seq)] [] (.tup [.c (.int .i64 res.1), .c (.bool res.2)]) [] := by
 unfold history_Find at h
 refine acalls (fn := Tryd.f29) [0, 1, 2, 4, 5, 6, 7, 8] (by kernel_rfl) Tryd.func29 rfl (by kernel_rfl) (by kernel_rfl) <| w_sr <| o_box (v := aI) (n := 0) (cs := [aI]) (σ' := [[aI]]) rfl rfl rfl rfl rfl <| o_box (v := aI) (n := 1) (cs := [aI]) (σ' := [[aI], [aI]]) rfl rfl rfl rfl rfl <| sI rfl <| sB rfl <| o_ek (fr' := [(0, aL), (4, .box 0 0), (5, .box 1 0)]) rfl rfl <| w_sr <| mL rfl <| o_p rfl (p_func (cs := [.box 0 0, .box 1 0]) rfl rfl) ?_
 obtain ⟨x1, hx1, h2⟩ := bind_s h
 refine o_call (v := aI) (σ' := [[aI], [aI]]) [0, 1] rfl (w_slices_IndexFunc_api_Event_api_Event_history_Find_1 hx1) rfl rfl ⟨lr, (le_fnp rfl ⟨lr, lr, trivial⟩), trivial⟩ (st_p ⟨lr, trivial⟩ (st_p ⟨lr, trivial⟩ st_nil)) rfl rfl rfl <| sI rfl <| o_ek (fr' := [(8, aI)]) rfl rfl <| w_sr <| mI rfl <| o_p rfl (p_max rfl rfl) <| mI rfl <| o_p rfl (p_geq rfl rfl) <| sI rfl <| sB rfl <| o_ek (fr' := [(6, aI), (7, aB)]) rfl rfl <| w_ret ?_
 obtain rfl := sy h2
 exact e_ret (rs' := [.tmp 6, .tmp 7]) rfl <| r_tmp (v := aI) rfl <| r_tmp (v := aB) rfl <| r_nil <| fin_gen [] rfl rfl rfl (le_tupp rfl ⟨lr, lr, trivial⟩) st_nil
noncomputable def ref24xFind_l1 (p0l : (List ApiEvent)) (p2seq : Int) (p1kind : Int) (s4 : Int) : Option (Step Int (Fl (Int × Bool) Unit)) :=
 cond (decide (s4 < ((p0l).length : Int))) ((idx p0l s4).bind fun (x6 : ApiEvent) => (gd ((decide (x6.Kind = p1kind)) == true) (idx p0l s4)).bind fun (x8 : ApiEvent) => cond (cond (decide (x6.Kind = p1kind)) (decide (x8.Seq = p2seq)) false) (some (Step.out (Fl.done (s4, true)))) (some (Step.next (IntKind.wrap .i64 (s4 + (1 : Int)))))) (some (Step.out (Fl.go ())))
noncomputable def ref24xFind (p0l : (List ApiEvent)) (p1kind : Int) (p2seq : Int) : Option (Int × Bool) :=
 ((loopO (ref24xFind_l1 p0l p2seq p1kind) ((0 : Int))) : Option (Fl (Int × Bool) Unit)).bind fun (x1 : (Fl (Int × Bool) Unit)) => Fl.next x1 (fun (j3 : Unit) => (some ((0 : Int), false)))
theorem w_ref24xFind {p0l : (List ApiEvent)} {p1kind : Int} {p2seq : Int} {res : (Int × Bool)} (h : ref24xFind p0l p1kind p2seq = some res) : ACalls Tryd.prog 30 [.c (PV.ls 24 rowApiEvent p0l), .c (.int .i64 p1kind), .c (.int .i64 p2seq)] [] (.tup [.c (.int .i64 res.1), .c (.bool res.2)]) [] := by
 unfold ref24xFind at h
 refine acalls (fn := Tryd.f30) [0, 1, 2, 6, 7, 8, 12, 30] (by kernel_rfl) Tryd.func30 rfl (by kernel_rfl) (by kernel_rfl) <| w_sr <| sI rfl <| sB rfl <| o_ek (fr' := [(0, aL), (1, aI), (2, aI)]) rfl rfl <| w_seqw <| w_sr <| sI rfl <| o_ek (fr' := [(0, aL), (1, aI), (2, aI), (8, aI)]) rfl rfl ?_
 obtain ⟨x1, hx1, h2⟩ := bind_s h
 refine w_jtail cl_kw (fun j3 => x1 = Fl.go j3) (fun (j3 : Unit) => ([] : Fr)) (fun (j3 : Unit) => ([] : St)) ?_ ?_
 ·
  refine w_block <| w_loopo _ (fun (s4 : Int) => ([(0, .c (PV.ls 24 rowApiEvent p0l)), (1, .c (.int .i64 p1kind)), (2, .c (.int .i64 p2seq)), (8, .c (.int .i64 s4))] : Fr)) (fun (s4 : Int) => ([] : St)) hx1 (w_weak [] 0 rfl rfl rfl rfl ⟨lr, lr, lr, lr, trivial⟩ st_nil) ?_
  intro s4 st4 hs4 ho4
  unfold ref24xFind_l1 at hs4
  refine w_seqw <| w_sr <| mI rfl <| mL rfl <| o_p rfl (p_len ti44 (isl_c rfl)) <| o_p rfl (p_lss rfl rfl) <| o_ek (fr' := [(0, aL), (1, aI), (2, aI), (8, aI), (12, aB)]) rfl rfl <| w_ch hs4 rfl (fun hb5 h5 => ?_) (fun hb5 h5 => ?_)
  ·
   refine w_skip <| e_kw <| w_seqw <| w_block <| w_sr <| mL rfl <| mI rfl ?_
   obtain ⟨x6, hx6, h7⟩ := bind_s h5
   refine o_p rfl (p_ia (cs := [PV.int _ _, PV.int _ _, PV.int _ _, PV.int _ _, PV.int _ _, PV.int _ _, PV.int _ _, PV.str _, PV.str _, PV.int _ _, PV.int _ _, PV.str _, PV.ls _ _ _, PV.ls _ _ _, PV.str _, PV.int _ _, PV.int _ _, PV.int _ _, PV.int _ _, PV.int _ _, PV.int _ _, PV.int _ _, PV.int _ _, PV.ls _ _ _]) ts44 (isl_c rfl) rfl hx6 rfl) <| o_p rfl (p_fae tf31x1 rfl) <| o_p rfl (p_loade (p := PV.int _ _) tv3 rfl rfl) <| mI rfl <| o_p rfl (p_eql rfl rfl) <| mB rfl <| og rfl rfl rfl (fun hc => (p_move (v := aL) rfl)) <| og rfl rfl rfl (fun hc => (p_move (v := aI) rfl)) ?_
   obtain ⟨x8, hx8, h9⟩ := bind_s h7
   refine og rfl rfl rfl (fun hc => (p_ia (cs := [PV.int _ _, PV.int _ _, PV.int _ _, PV.int _ _, PV.int _ _, PV.int _ _, PV.int _ _, PV.str _, PV.str _, PV.int _ _, PV.int _ _, PV.str _, PV.ls _ _ _, PV.ls _ _ _, PV.str _, PV.int _ _, PV.int _ _, PV.int _ _, PV.int _ _, PV.int _ _, PV.int _ _, PV.int _ _, PV.int _ _, PV.ls _ _ _]) ts44 (isl_c (gx rfl hc)) (gx rfl hc) (gd_some hx8 hc) rfl)) <| og rfl rfl rfl (fun hc => (p_fae tf31x3 (gx rfl hc))) <| og rfl rfl rfl (fun hc => (p_loade (p := PV.int _ _) tv3 (gx rfl hc) rfl)) <| og rfl rfl rfl (fun hc => (p_move (v := aI) rfl)) <| og rfl rfl rfl (fun hc => (p_eql (gx rfl hc) (gx rfl hc))) <| o_p rfl (p_picky rfl rfl rfl (fun e => keq e)) <| o_ek (fr' := [(0, aL), (1, aI), (2, aI), (8, aI), (30, aB)]) rfl rfl <| w_ch h9 rfl (fun hb10 h10 => ?_) (fun hb10 h10 => ?_)
   ·
    refine w_sr <| mI rfl <| sI rfl <| sB rfl <| o_ek (fr' := [(6, aI), (7, aB)]) rfl rfl <| w_ret <| e_blk_r <| e_seq_r <| e_seq_r <| e_blk_r <| e_seq_r <| e_seq_r ?_
    have h11 := un_out h10 ho4
    have h12 := un_done h11 h2
    obtain rfl := sy h12
    exact e_ret (rs' := [.tmp 6, .tmp 7]) rfl <| r_tmp (v := aI) rfl <| r_tmp (v := aB) rfl <| r_nil <| fin_gen [] rfl rfl rfl (le_tupp rfl ⟨lr, lr, trivial⟩) st_nil
   ·
    exact w_skip <| e_blk_n <| e_kw <| w_region <| mI rfl <| o_p rfl (p_add rfl rfl) <| sI rfl <| o_end (fr' := [(0, aL), (1, aI), (2, aI), (8, aI), (30, aB)]) rfl <| e_l _ (sy h10) (w_weak [] 0 rfl rfl rfl rfl ⟨lr, lr, lr, lr, trivial⟩ st_nil)
  ·
   refine w_exit <| e_seq_x <| e_seq_x <| e_blk_h ?_
   have h14 := un_out h5 ho4
   exact e_j _ (sy h14) (w_weak [] 0 rfl rfl rfl rfl trivial st_nil)
 ·
  intro j3 hj15
  have h15 := un_go hj15 h2
  refine e_kw <| w_sr <| sI rfl <| sB rfl <| o_ek (fr' := [(6, aI), (7, aB)]) rfl rfl <| w_ret ?_
  obtain rfl := sy h15
  exact e_ret (rs' := [.tmp 6, .tmp 7]) rfl <| r_tmp (v := aI) rfl <| r_tmp (v := aB) rfl <| r_nil <| fin_gen [] rfl rfl rfl (le_tupp rfl ⟨lr, lr, trivial⟩) st_nil
noncomputable def ref22xStatus (p0kind : Int) : Option (Int × Bool) :=
 cond (decide (p0kind = (30 : Int))) (some ((1 : Int), true)) (cond (decide (p0kind = (31 : Int))) (some ((2 : Int), true)) (cond (decide (p0kind = (32 : Int))) (some ((3 : Int), true)) (cond (decide (p0kind = (33 : Int))) (some ((4 : Int), true)) (cond (decide (p0kind = (34 : Int))) (some ((5 : Int), true)) (cond (decide (p0kind = (35 : Int))) (some ((6 : Int), true)) (some ((0 : Int), false)))))))
theorem w_ref22xStatus {p0kind : Int} {res : (Int × Bool)} (h : ref22xStatus p0kind = some res) : ACalls Tryd.prog 18 [.c (.int .i64 p0kind)] [] (.tup [.c (.int .i64 res.1), .c (.bool res.2)]) [] := by
 unfold ref22xStatus at h
 refine acalls (fn := Tryd.f18) [0, 2, 3, 4, 5, 7, 9, 11, 13, 15] (by kernel_rfl) Tryd.func18 rfl (by kernel_rfl) (by kernel_rfl) <| w_sr <| sI rfl <| sB rfl <| o_ek (fr' := [(0, aI)]) rfl rfl <| w_seqw <| w_sr <| mI rfl <| o_ek (fr' := [(4, aI)]) rfl rfl <| w_block <| w_seqw ?_
 refine w_region <| o_p rfl (p_eql rfl rfl) <| sB rfl <| o_ek (fr' := [(4, aI), (5, aB)]) rfl rfl <| w_ch h rfl (fun hb1 h1 => ?_) (fun hb1 h1 => ?_)
 ·
  refine w_sr <| sI rfl <| sB rfl <| o_ek (fr' := [(2, aI), (3, aB)]) rfl rfl <| w_ret <| e_blk_r <| e_seq_r ?_
  obtain rfl := sy h1
  exact e_ret (rs' := [.tmp 2, .tmp 3]) rfl <| r_tmp (v := aI) rfl <| r_tmp (v := aB) rfl <| r_nil <| fin_gen [] rfl rfl rfl (le_tupp rfl ⟨lr, lr, trivial⟩) st_nil
 ·
  refine w_sr <| o_p rfl (p_eql rfl rfl) <| sB rfl <| o_ek (fr' := [(4, aI), (7, aB)]) rfl rfl <| w_ch h1 rfl (fun hb3 h3 => ?_) (fun hb3 h3 => ?_)
  ·
   refine w_sr <| sI rfl <| sB rfl <| o_ek (fr' := [(2, aI), (3, aB)]) rfl rfl <| w_ret <| e_blk_r <| e_seq_r ?_
   obtain rfl := sy h3
   exact e_ret (rs' := [.tmp 2, .tmp 3]) rfl <| r_tmp (v := aI) rfl <| r_tmp (v := aB) rfl <| r_nil <| fin_gen [] rfl rfl rfl (le_tupp rfl ⟨lr, lr, trivial⟩) st_nil
  ·
   refine w_sr <| o_p rfl (p_eql rfl rfl) <| sB rfl <| o_ek (fr' := [(4, aI), (9, aB)]) rfl rfl <| w_ch h3 rfl (fun hb5 h5 => ?_) (fun hb5 h5 => ?_)
   ·
    refine w_sr <| sI rfl <| sB rfl <| o_ek (fr' := [(2, aI), (3, aB)]) rfl rfl <| w_ret <| e_blk_r <| e_seq_r ?_
    obtain rfl := sy h5
    exact e_ret (rs' := [.tmp 2, .tmp 3]) rfl <| r_tmp (v := aI) rfl <| r_tmp (v := aB) rfl <| r_nil <| fin_gen [] rfl rfl rfl (le_tupp rfl ⟨lr, lr, trivial⟩) st_nil
   ·
    refine w_sr <| o_p rfl (p_eql rfl rfl) <| sB rfl <| o_ek (fr' := [(4, aI), (11, aB)]) rfl rfl <| w_ch h5 rfl (fun hb7 h7 => ?_) (fun hb7 h7 => ?_)
    ·
     refine w_sr <| sI rfl <| sB rfl <| o_ek (fr' := [(2, aI), (3, aB)]) rfl rfl <| w_ret <| e_blk_r <| e_seq_r ?_
     obtain rfl := sy h7
     exact e_ret (rs' := [.tmp 2, .tmp 3]) rfl <| r_tmp (v := aI) rfl <| r_tmp (v := aB) rfl <| r_nil <| fin_gen [] rfl rfl rfl (le_tupp rfl ⟨lr, lr, trivial⟩) st_nil
    ·
     refine w_sr <| o_p rfl (p_eql rfl rfl) <| sB rfl <| o_ek (fr' := [(4, aI), (13, aB)]) rfl rfl <| w_ch h7 rfl (fun hb9 h9 => ?_) (fun hb9 h9 => ?_)
     ·
      refine w_sr <| sI rfl <| sB rfl <| o_ek (fr' := [(2, aI), (3, aB)]) rfl rfl <| w_ret <| e_blk_r <| e_seq_r ?_
      obtain rfl := sy h9
      exact e_ret (rs' := [.tmp 2, .tmp 3]) rfl <| r_tmp (v := aI) rfl <| r_tmp (v := aB) rfl <| r_nil <| fin_gen [] rfl rfl rfl (le_tupp rfl ⟨lr, lr, trivial⟩) st_nil
     ·
      refine w_sr <| o_p rfl (p_eql rfl rfl) <| sB rfl <| o_ek (fr' := [(15, aB)]) rfl rfl <| w_ch h9 rfl (fun hb11 h11 => ?_) (fun hb11 h11 => ?_)
      ·
       refine w_sr <| sI rfl <| sB rfl <| o_ek (fr' := [(2, aI), (3, aB)]) rfl rfl <| w_ret <| e_blk_r <| e_seq_r ?_
       obtain rfl := sy h11
       exact e_ret (rs' := [.tmp 2, .tmp 3]) rfl <| r_tmp (v := aI) rfl <| r_tmp (v := aB) rfl <| r_nil <| fin_gen [] rfl rfl rfl (le_tupp rfl ⟨lr, lr, trivial⟩) st_nil
      ·
       refine w_skip <| e_blk_n <| e_kw <| w_sr <| sI rfl <| sB rfl <| o_ek (fr' := [(2, aI), (3, aB)]) rfl rfl <| w_ret ?_
       obtain rfl := sy h11
       exact e_ret (rs' := [.tmp 2, .tmp 3]) rfl <| r_tmp (v := aI) rfl <| r_tmp (v := aB) rfl <| r_nil <| fin_gen [] rfl rfl rfl (le_tupp rfl ⟨lr, lr, trivial⟩) st_nil
noncomputable def ref24xStatus_l1 (p0l : (List ApiEvent)) (s4 : Int) : Option (Step Int (Fl (Int × Int) Unit)) :=
 cond (decide (s4 < ((p0l).length : Int))) ((idx p0l s4).bind fun (x6 : ApiEvent) => (ref22xStatus x6.Kind).bind fun (x8 : (Int × Bool)) => cond x8.2 (some (Step.out (Fl.done (x8.1, s4)))) (some (Step.next (IntKind.wrap .i64 (s4 + (1 : Int)))))) (some (Step.out (Fl.go ())))
noncomputable def ref24xStatus (p0l : (List ApiEvent)) : Option (Int × Int) :=
 ((loopO (ref24xStatus_l1 p0l) ((0 : Int))) : Option (Fl (Int × Int) Unit)).bind fun (x1 : (Fl (Int × Int) Unit)) => Fl.next x1 (fun (j3 : Unit) => (some ((0 : Int), (-1 : Int))))
theorem w_ref24xStatus {p0l : (List ApiEvent)} {res : (Int × Int)} (h : ref24xStatus p0l = some res) : ACalls Tryd.prog 32 [.c (PV.ls 24 rowApiEvent p0l)] [] (.tup [.c (.int .i64 res.1), .c (.int .i64 res.2)]) [] := by
 unfold ref24xStatus at h
 refine acalls (fn := Tryd.f32) [0, 2, 3, 4, 5, 6, 10, 22] (by kernel_rfl) Tryd.func32 rfl (by kernel_rfl) (by kernel_rfl) <| w_sr <| sI rfl <| sI rfl <| o_ek (fr' := [(0, aL)]) rfl rfl <| w_seqw <| w_sr <| sI rfl <| o_ek (fr' := [(0, aL), (4, aI)]) rfl rfl ?_
 obtain ⟨x1, hx1, h2⟩ := bind_s h
 refine w_jtail cl_kw (fun j3 => x1 = Fl.go j3) (fun (j3 : Unit) => ([] : Fr)) (fun (j3 : Unit) => ([] : St)) ?_ ?_
 ·
  refine w_block <| w_loopo _ (fun (s4 : Int) => ([(0, .c (PV.ls 24 rowApiEvent p0l)), (4, .c (.int .i64 s4))] : Fr)) (fun (s4 : Int) => ([] : St)) hx1 (w_weak [] 0 rfl rfl rfl rfl ⟨lr, lr, trivial⟩ st_nil) ?_
  intro s4 st4 hs4 ho4
  unfold ref24xStatus_l1 at hs4
  refine w_seqw <| w_sr <| mI rfl <| mL rfl <| o_p rfl (p_len ti44 (isl_c rfl)) <| o_p rfl (p_lss rfl rfl) <| o_ek (fr' := [(0, aL), (4, aI), (10, aB)]) rfl rfl <| w_ch hs4 rfl (fun hb5 h5 => ?_) (fun hb5 h5 => ?_)
  ·
   refine w_skip <| e_kw <| w_seqw <| w_block <| w_sr <| mL rfl <| mI rfl ?_
   obtain ⟨x6, hx6, h7⟩ := bind_s h5
   refine o_p rfl (p_ia (cs := [PV.int _ _, PV.int _ _, PV.int _ _, PV.int _ _, PV.int _ _, PV.int _ _, PV.int _ _, PV.str _, PV.str _, PV.int _ _, PV.int _ _, PV.str _, PV.ls _ _ _, PV.ls _ _ _, PV.str _, PV.int _ _, PV.int _ _, PV.int _ _, PV.int _ _, PV.int _ _, PV.int _ _, PV.int _ _, PV.int _ _, PV.ls _ _ _]) ts44 (isl_c rfl) rfl hx6 rfl) <| o_p rfl (p_fae tf31x1 rfl) <| o_p rfl (p_loade (p := PV.int _ _) tv3 rfl rfl) ?_
   obtain ⟨x8, hx8, h9⟩ := bind_s h7
   refine o_v (ov_call (v := .tup [aI, aB]) rfl (w_ref22xStatus hx8) ⟨lr, trivial⟩ rfl rfl rfl) <| mV (v := .tup [aI, aB]) rfl <| o_p rfl (p_ex (v := aI) rfl rfl) <| o_p rfl (p_ex (v := aB) rfl rfl) <| sI rfl <| sB rfl <| o_ek (fr' := [(0, aL), (4, aI), (5, aI), (6, aB)]) rfl rfl <| w_sr <| mB rfl <| o_ek (fr' := [(0, aL), (4, aI), (5, aI), (22, aB)]) rfl rfl <| w_ch h9 rfl (fun hb10 h10 => ?_) (fun hb10 h10 => ?_)
   ·
    refine w_sr <| mI rfl <| mI rfl <| sI rfl <| sI rfl <| o_ek (fr' := [(2, aI), (3, aI)]) rfl rfl <| w_ret <| e_blk_r <| e_seq_r <| e_seq_r <| e_blk_r <| e_seq_r ?_
    refine e_seq_r ?_
    have h11 := un_out h10 ho4
    have h12 := un_done h11 h2
    obtain rfl := sy h12
    exact e_ret (rs' := [.tmp 2, .tmp 3]) rfl <| r_tmp (v := aI) rfl <| r_tmp (v := aI) rfl <| r_nil <| fin_gen [] rfl rfl rfl (le_tupp rfl ⟨lr, lr, trivial⟩) st_nil
   ·
    exact w_skip <| e_blk_n <| e_kw <| w_region <| mI rfl <| o_p rfl (p_add rfl rfl) <| sI rfl <| o_end (fr' := [(0, aL), (4, aI), (5, aI), (22, aB)]) rfl <| e_l _ (sy h10) (w_weak [] 0 rfl rfl rfl rfl ⟨lr, lr, trivial⟩ st_nil)
  ·
   refine w_exit <| e_seq_x <| e_seq_x <| e_blk_h ?_
   have h14 := un_out h5 ho4
   exact e_j _ (sy h14) (w_weak [] 0 rfl rfl rfl rfl trivial st_nil)
 ·
  intro j3 hj15
  have h15 := un_go hj15 h2
  refine e_kw <| w_sr <| sI rfl <| sI rfl <| o_ek (fr' := [(2, aI), (3, aI)]) rfl rfl <| w_ret ?_
  obtain rfl := sy h15
  exact e_ret (rs' := [.tmp 2, .tmp 3]) rfl <| r_tmp (v := aI) rfl <| r_tmp (v := aI) rfl <| r_nil <| fin_gen [] rfl rfl rfl (le_tupp rfl ⟨lr, lr, trivial⟩) st_nil
noncomputable def history_Signals_l1 (p0l : (List ApiEvent)) (s4 : ((List (List UInt8)) × Int)) : Option (Step ((List (List UInt8)) × Int) (List (List UInt8))) :=
 cond (decide (s4.2 < ((p0l).length : Int))) ((idx p0l s4.2).bind fun (x6 : ApiEvent) => cond (decide (x6.Kind = (17 : Int))) ((app 16 s4.1 ([x6.Key] : List (List UInt8))).bind fun (x9 : (List (List UInt8))) => some (Step.next (x9, (IntKind.wrap .i64 (s4.2 + (1 : Int)))))) (some (Step.next (s4.1, (IntKind.wrap .i64 (s4.2 + (1 : Int))))))) (some (Step.out s4.1))
noncomputable def history_Signals (p0l : (List ApiEvent)) : Option (List (List UInt8)) :=
 ((loopO (history_Signals_l1 p0l) ((([] : (List (List UInt8))), (0 : Int)))) : Option (List (List UInt8))).bind fun (x1 : (List (List UInt8))) => (some x1)
theorem w_history_Signals {p0l : (List ApiEvent)} {res : (List (List UInt8))} (h : history_Signals p0l = some res) : ACalls Tryd.prog 33 [.c (PV.ls 24 rowApiEvent p0l)] [] (AV.os 0 1 rowS res) [] := by
 unfold history_Signals at h
 refine acalls (fn := Tryd.f33) [0, 2, 3, 5, 6, 7, 8, 9, 14] (by kernel_rfl) Tryd.func33 rfl (by kernel_rfl) (by kernel_rfl) <| w_sr <| sV (v := AV.nil) rfl <| o_ek (fr' := [(0, aL)]) rfl rfl <| w_sr <| sV (v := AV.nil) rfl <| o_ek (fr' := [(0, aL), (3, AV.nil)]) rfl rfl <| w_seqw <| w_sr <| mL rfl ?_
 refine o_p rfl (p_len ti44 (isl_c rfl)) <| mI rfl <| o_ek (fr' := [(3, AV.nil), (6, aL), (7, aI), (8, aI)]) rfl rfl ?_
 obtain ⟨x1, hx1, h2⟩ := bind_s h
 refine w_jtail cl_kw (fun j3 => x1 = j3) (fun (j3 : (List (List UInt8))) => ([(3, AV.os 0 1 rowS j3)] : Fr)) (fun (j3 : (List (List UInt8))) => ([] : St)) ?_ ?_
 ·
  refine w_block <| w_loopo _ (fun (s4 : ((List (List UInt8)) × Int)) => ([(3, AV.os 0 1 rowS s4.1), (6, .c (PV.ls 24 rowApiEvent p0l)), (7, .c (.int .i64 ((p0l).length : Int))), (8, .c (.int .i64 s4.2))] : Fr)) (fun (s4 : ((List (List UInt8)) × Int)) => ([] : St)) hx1 (w_weak [1000000] 0 rfl rfl rfl rfl ⟨(le_nos rfl), lr, lr, lr, trivial⟩ st_nil) ?_
  intro s4 st4 hs4 ho4
  unfold history_Signals_l1 at hs4
  refine w_sr <| o_p rfl (p_lss rfl rfl) <| o_ek (fr' := [(3, aO), (6, aL), (7, aI), (8, aI), (9, aB)]) rfl rfl <| w_seqw <| w_ch hs4 rfl (fun hb5 h5 => ?_) (fun hb5 h5 => ?_)
  ·
   refine w_skip <| e_kw <| w_seqw <| w_block <| w_seqw <| w_region ?_
   obtain ⟨x6, hx6, h7⟩ := bind_s h5
   refine o_p rfl (p_ia (cs := [PV.int _ _, PV.int _ _, PV.int _ _, PV.int _ _, PV.int _ _, PV.int _ _, PV.int _ _, PV.str _, PV.str _, PV.int _ _, PV.int _ _, PV.str _, PV.ls _ _ _, PV.ls _ _ _, PV.str _, PV.int _ _, PV.int _ _, PV.int _ _, PV.int _ _, PV.int _ _, PV.int _ _, PV.int _ _, PV.int _ _, PV.ls _ _ _]) ts44 (isl_c rfl) rfl hx6 rfl) <| o_p rfl (p_loades (us := [PV.int _ _, PV.int _ _, PV.int _ _, PV.int _ _, PV.int _ _, PV.int _ _, PV.int _ _, PV.str _, PV.str _, PV.int _ _, PV.int _ _, PV.str _, PV.ls _ _ _, PV.ls _ _ _, PV.str _, PV.int _ _, PV.int _ _, PV.int _ _, PV.int _ _, PV.int _ _, PV.int _ _, PV.int _ _, PV.int _ _, PV.ls _ _ _]) tv31 rfl rfl rfl) <| o_alloc (n := 0) (cs := [aI, aI, aI, aI, aI, aI, aI, aS, aS, aI, aI, aS, AV.nil, AV.nil, aS, aI, aI, aI, aI, aI, aI, aI, aI, AV.nil]) (σ' := [[aI, aI, aI, aI, aI, aI, aI, aS, aS, aI, aI, aS, AV.nil, AV.nil, aS, aI, aI, aI, aI, aI, aI, aI, aI, AV.nil]]) tz31 rfl rfl rfl <| o_store (v := .agg aIIIIIIISSIISLLSIIIIIIIIL) (us := aIIIIIIISSIISLLSIIIIIIIIL) (cs := [aI, aI, aI, aI, aI, aI, aI, aS, aS, aI, aI, aS, AV.nil, AV.nil, aS, aI, aI, aI, aI, aI, aI, aI, aI, AV.nil]) (σ' := [aIIIIIIISSIISLLSIIIIIIIIL]) rfl tv31 rfl rfl rfl rfl rfl rfl rfl rfl <| o_ek (fr' := [(3, aO), (5, .box 0 0), (6, aL), (7, aI), (8, aI)]) rfl rfl <| w_sr <| o_p rfl (p_fa tf31x1 rfl) <| o_p rfl (p_load (v := aI) tv3 rfl rfl rfl) <| o_p rfl (p_eql rfl rfl) <| o_ek (fr' := [(3, aO), (5, .box 0 0), (6, aL), (7, aI), (8, aI), (14, aB)]) rfl rfl <| w_ch h7 rfl (fun hb8 h8 => ?_) (fun hb8 h8 => ?_)
   ·
    refine w_region <| mV (v := aO) rfl <| o_p rfl (p_fa tf31x8 rfl) <| o_p rfl (p_load (v := aS) tv9 rfl rfl rfl) <| o_rows (row := rowS) (xs := ([x6.Key] : List (List UInt8))) (rows := [[_]]) (σ' := [aIIIIIIISSIISLLSIIIIIIIIL]) [0] ts23 rfl rfl rfl (arow_cons rfl arow_nil) rfl rfl ?_
    obtain ⟨x9, hx9, h10⟩ := bind_s h8
    exact o_app (row := rowS) ts23 rfl ti23 rfl (isl_o rfl) (fun _ => rfl) hx9 <| sV (v := aO) rfl <| o_end (fr' := [(3, aO), (5, .box 0 0), (6, aL), (7, aI), (8, aI), (14, aB)]) rfl <| e_blk_n <| e_kw <| w_region <| o_p rfl (p_add rfl rfl) <| mI rfl <| o_end (fr' := [(3, aO), (5, .box 0 0), (6, aL), (7, aI), (8, aI), (14, aB)]) rfl <| e_l _ (sy h10) (w_weak [304] 0 rfl rfl rfl rfl ⟨lr, lr, lr, lr, trivial⟩ st_nil)
   ·
    exact w_skip <| e_blk_n <| e_kw <| w_region <| o_p rfl (p_add rfl rfl) <| mI rfl <| o_end (fr' := [(3, aO), (5, .box 0 0), (6, aL), (7, aI), (8, aI), (14, aB)]) rfl <| e_l _ (sy h8) (w_weak [0] 0 rfl rfl rfl rfl ⟨lr, lr, lr, lr, trivial⟩ st_nil)
  ·
   refine w_exit <| e_seq_x <| e_seq_x <| e_blk_h ?_
   have h11 := un_out h5 ho4
   exact e_j _ (sy h11) (w_weak [0] 0 rfl rfl rfl rfl ⟨lr, trivial⟩ st_nil)
 ·
  intro j3 hj12
  subst hj12
  refine e_kw <| w_sr <| mV (v := aO) rfl <| sV (v := aO) rfl <| o_ek (fr' := [(2, aO)]) rfl rfl <| w_ret ?_
  obtain rfl := sy h2
  exact e_ret (rs' := [.tmp 2]) rfl <| r_tmp (v := aO) rfl <| r_nil <| fin_gen [0] rfl rfl rfl lr st_nil
noncomputable def ref24xSignals_l1 (p0l : (List ApiEvent)) (s4 : ((List (List UInt8)) × Int)) : Option (Step ((List (List UInt8)) × Int) (List (List UInt8))) :=
 cond (decide (s4.2 < ((p0l).length : Int))) ((idx p0l s4.2).bind fun (x6 : ApiEvent) => cond (decide (x6.Kind = (17 : Int))) ((idx p0l s4.2).bind fun (x9 : ApiEvent) => (app 16 s4.1 ([x9.Key] : List (List UInt8))).bind fun (x11 : (List (List UInt8))) => some (Step.next (x11, (IntKind.wrap .i64 (s4.2 + (1 : Int)))))) (some (Step.next (s4.1, (IntKind.wrap .i64 (s4.2 + (1 : Int))))))) (some (Step.out s4.1))
noncomputable def ref24xSignals (p0l : (List ApiEvent)) : Option (List (List UInt8)) :=
 ((loopO (ref24xSignals_l1 p0l) ((([] : (List (List UInt8))), (0 : Int)))) : Option (List (List UInt8))).bind fun (x1 : (List (List UInt8))) => (some x1)
theorem w_ref24xSignals {p0l : (List ApiEvent)} {res : (List (List UInt8))} (h : ref24xSignals p0l = some res) : ACalls Tryd.prog 34 [.c (PV.ls 24 rowApiEvent p0l)] [] (AV.os 0 1 rowS res) [] := by
 unfold ref24xSignals at h
 refine acalls (fn := Tryd.f34) [0, 2, 3, 4, 8, 16] (by kernel_rfl) Tryd.func34 rfl (by kernel_rfl) (by kernel_rfl) <| w_sr <| sV (v := AV.nil) rfl <| o_ek (fr' := [(0, aL)]) rfl rfl <| w_sr <| sV (v := AV.nil) rfl <| o_ek (fr' := [(0, aL), (3, AV.nil)]) rfl rfl <| w_seqw <| w_sr <| sI rfl ?_
 refine o_ek (fr' := [(0, aL), (3, AV.nil), (4, aI)]) rfl rfl ?_
 obtain ⟨x1, hx1, h2⟩ := bind_s h
 refine w_jtail cl_kw (fun j3 => x1 = j3) (fun (j3 : (List (List UInt8))) => ([(3, AV.os 0 1 rowS j3)] : Fr)) (fun (j3 : (List (List UInt8))) => ([] : St)) ?_ ?_
 ·
  refine w_block <| w_loopo _ (fun (s4 : ((List (List UInt8)) × Int)) => ([(0, .c (PV.ls 24 rowApiEvent p0l)), (3, AV.os 0 1 rowS s4.1), (4, .c (.int .i64 s4.2))] : Fr)) (fun (s4 : ((List (List UInt8)) × Int)) => ([] : St)) hx1 (w_weak [1000000] 0 rfl rfl rfl rfl ⟨lr, (le_nos rfl), lr, trivial⟩ st_nil) ?_
  intro s4 st4 hs4 ho4
  unfold ref24xSignals_l1 at hs4
  refine w_seqw <| w_sr <| mI rfl <| mL rfl <| o_p rfl (p_len ti44 (isl_c rfl)) <| o_p rfl (p_lss rfl rfl) <| o_ek (fr' := [(0, aL), (3, aO), (4, aI), (8, aB)]) rfl rfl <| w_ch hs4 rfl (fun hb5 h5 => ?_) (fun hb5 h5 => ?_)
  ·
   refine w_skip <| e_kw <| w_seqw <| w_block <| w_sr <| mL rfl <| mI rfl ?_
   obtain ⟨x6, hx6, h7⟩ := bind_s h5
   refine o_p rfl (p_ia (cs := [PV.int _ _, PV.int _ _, PV.int _ _, PV.int _ _, PV.int _ _, PV.int _ _, PV.int _ _, PV.str _, PV.str _, PV.int _ _, PV.int _ _, PV.str _, PV.ls _ _ _, PV.ls _ _ _, PV.str _, PV.int _ _, PV.int _ _, PV.int _ _, PV.int _ _, PV.int _ _, PV.int _ _, PV.int _ _, PV.int _ _, PV.ls _ _ _]) ts44 (isl_c rfl) rfl hx6 rfl) <| o_p rfl (p_fae tf31x1 rfl) <| o_p rfl (p_loade (p := PV.int _ _) tv3 rfl rfl) <| o_p rfl (p_eql rfl rfl) <| o_ek (fr' := [(0, aL), (3, aO), (4, aI), (16, aB)]) rfl rfl <| w_ch h7 rfl (fun hb8 h8 => ?_) (fun hb8 h8 => ?_)
   ·
    refine w_region <| mV (v := aO) rfl <| mL rfl <| mI rfl ?_
    obtain ⟨x9, hx9, h10⟩ := bind_s h8
    refine o_p rfl (p_ia (cs := [PV.int _ _, PV.int _ _, PV.int _ _, PV.int _ _, PV.int _ _, PV.int _ _, PV.int _ _, PV.str _, PV.str _, PV.int _ _, PV.int _ _, PV.str _, PV.ls _ _ _, PV.ls _ _ _, PV.str _, PV.int _ _, PV.int _ _, PV.int _ _, PV.int _ _, PV.int _ _, PV.int _ _, PV.int _ _, PV.int _ _, PV.ls _ _ _]) ts44 (isl_c rfl) rfl hx9 rfl) <| o_p rfl (p_fae tf31x8 rfl) <| o_p rfl (p_loade (p := PV.str _) tv9 rfl rfl) <| o_rows (row := rowS) (xs := ([x9.Key] : List (List UInt8))) (rows := [[_]]) (σ' := []) [0] ts23 rfl rfl rfl (arow_cons rfl arow_nil) rfl rfl ?_
    obtain ⟨x11, hx11, h12⟩ := bind_s h10
    exact o_app (row := rowS) ts23 rfl ti23 rfl (isl_o rfl) (fun _ => rfl) hx11 <| sV (v := aO) rfl <| o_end (fr' := [(0, aL), (3, aO), (4, aI), (16, aB)]) rfl <| e_blk_n <| e_kw <| w_region <| mI rfl <| o_p rfl (p_add rfl rfl) <| sI rfl <| o_end (fr' := [(0, aL), (3, aO), (4, aI), (16, aB)]) rfl <| e_l _ (sy h12) (w_weak [384] 0 rfl rfl rfl rfl ⟨lr, lr, lr, trivial⟩ st_nil)
   ·
    exact w_skip <| e_blk_n <| e_kw <| w_region <| mI rfl <| o_p rfl (p_add rfl rfl) <| sI rfl <| o_end (fr' := [(0, aL), (3, aO), (4, aI), (16, aB)]) rfl <| e_l _ (sy h8) (w_weak [0] 0 rfl rfl rfl rfl ⟨lr, lr, lr, trivial⟩ st_nil)
  ·
   refine w_exit <| e_seq_x <| e_seq_x <| e_blk_h ?_
   have h13 := un_out h5 ho4
   exact e_j _ (sy h13) (w_weak [0] 0 rfl rfl rfl rfl ⟨lr, trivial⟩ st_nil)
 ·
  intro j3 hj14
  subst hj14
  refine e_kw <| w_sr <| mV (v := aO) rfl <| sV (v := aO) rfl <| o_ek (fr' := [(2, aO)]) rfl rfl <| w_ret ?_
  obtain rfl := sy h2
  exact e_ret (rs' := [.tmp 2]) rfl <| r_tmp (v := aO) rfl <| r_nil <| fin_gen [0] rfl rfl rfl lr st_nil
noncomputable def law24xHistoryFinds_l1 (x13 : (List (List UInt8))) (x15 : (List (List UInt8))) (s22 : Int) : Option (Step Int (Fl Bool Unit)) :=
 cond (decide (s22 < ((x13).length : Int))) ((idx x13 s22).bind fun (x24 : (List UInt8)) => (idx x15 s22).bind fun (x26 : (List UInt8)) => cond (!decide (x24 = x26)) (some (Step.out (Fl.done false))) (some (Step.next (IntKind.wrap .i64 (s22 + (1 : Int)))))) (some (Step.out (Fl.go ())))
noncomputable def law24xHistoryFinds (p0l : (List ApiEvent)) (p1kind : Int) (p2seq : Int) : Option Bool :=
 cond (decide ((200 : Int) < ((p0l).length : Int))) ((law24xworks).bind fun (x2 : Bool) => some x2) ((history_Find p0l p1kind p2seq).bind fun (x5 : (Int × Bool)) => (ref24xFind p0l p1kind p2seq).bind fun (x7 : (Int × Bool)) => (history_Status p0l).bind fun (x9 : (Int × Int)) => (ref24xStatus p0l).bind fun (x11 : (Int × Int)) => (history_Signals p0l).bind fun (x13 : (List (List UInt8))) => (ref24xSignals p0l).bind fun (x15 : (List (List UInt8))) => cond (cond (cond (cond (cond (!decide (x5.1 = x7.1)) true (!(x5.2 == x7.2))) true (!decide (x9.1 = x11.1))) true (!decide (x9.2 = x11.2))) true (!decide (((x13).length : Int) = ((x15).length : Int)))) (some false) (((loopO (law24xHistoryFinds_l1 x13 x15) ((0 : Int))) : Option (Fl Bool Unit)).bind fun (x19 : (Fl Bool Unit)) => Fl.next x19 (fun (j21 : Unit) => ((law24xworks).bind fun (x34 : Bool) => some x34))))
theorem w_law24xHistoryFinds {p0l : (List ApiEvent)} {p1kind : Int} {p2seq : Int} {res : Bool} (h : law24xHistoryFinds p0l p1kind p2seq = some res) : ACalls Tryd.prog 7 [.c (PV.ls 24 rowApiEvent p0l), .c (.int .i64 p1kind), .c (.int .i64 p2seq)] [] (.c (.bool res)) [] := by
 unfold law24xHistoryFinds at h
 refine acalls (fn := Tryd.f7) [0, 1, 2, 6, 7, 8, 9, 10, 11, 12, 13, 14, 15, 16, 17, 20, 74, 76, 77, 78, 88] (by kernel_rfl) Tryd.func7 rfl (by kernel_rfl) (by kernel_rfl) <| w_sr <| sB rfl <| o_ek (fr' := [(0, aL), (1, aI), (2, aI)]) rfl rfl <| w_seqw <| w_sr <| mL rfl <| o_p rfl (p_len ti44 (isl_c rfl)) <| o_p rfl (p_gtr rfl rfl) <| o_ek (fr' := [(0, aL), (1, aI), (2, aI), (20, aB)]) rfl rfl <| w_ch h rfl (fun hb1 h1 => ?_) (fun hb1 h1 => ?_)
 ·
  refine w_seqw <| w_region ?_
  obtain ⟨x2, hx2, h3⟩ := bind_s h1
  refine o_v (ov_call (v := aB) rfl (w_law24xworks hx2) trivial rfl rfl rfl) <| sB rfl <| o_ek (fr' := [(6, aB)]) rfl rfl <| w_ret <| e_seq_r ?_
  obtain rfl := sy h3
  exact e_ret (rs' := [.tmp 6]) rfl <| r_tmp (v := aB) rfl <| r_nil <| fin_gen [] rfl rfl rfl lr st_nil
 ·
  refine w_skip <| e_kw <| w_sr <| mL rfl <| mI rfl <| mI rfl ?_
  obtain ⟨x5, hx5, h6⟩ := bind_s h1
  refine o_v (ov_call (v := .tup [aI, aB]) rfl (w_history_Find hx5) ⟨lr, lr, lr, trivial⟩ rfl rfl rfl) <| mV (v := .tup [aI, aB]) rfl <| o_p rfl (p_ex (v := aI) rfl rfl) <| o_p rfl (p_ex (v := aB) rfl rfl) <| sI rfl <| sB rfl <| o_ek (fr' := [(0, aL), (1, aI), (2, aI), (7, aI), (8, aB)]) rfl rfl <| w_sr <| mL rfl <| mI rfl <| mI rfl ?_
  obtain ⟨x7, hx7, h8⟩ := bind_s h6
  refine o_v (ov_call (v := .tup [aI, aB]) rfl (w_ref24xFind hx7) ⟨lr, lr, lr, trivial⟩ rfl rfl rfl) <| mV (v := .tup [aI, aB]) rfl <| o_p rfl (p_ex (v := aI) rfl rfl) <| o_p rfl (p_ex (v := aB) rfl rfl) <| sI rfl <| sB rfl <| o_ek (fr' := [(0, aL), (7, aI), (8, aB), (9, aI), (10, aB)]) rfl rfl <| w_sr <| mL rfl ?_
  obtain ⟨x9, hx9, h10⟩ := bind_s h8
  refine o_v (ov_call (v := .tup [aI, aI]) rfl (w_history_Status hx9) ⟨lr, trivial⟩ rfl rfl rfl) <| mV (v := .tup [aI, aI]) rfl <| o_p rfl (p_ex (v := aI) rfl rfl) <| o_p rfl (p_ex (v := aI) rfl rfl) <| sI rfl <| sI rfl <| o_ek (fr' := [(0, aL), (7, aI), (8, aB), (9, aI), (10, aB), (11, aI), (12, aI)]) rfl rfl <| w_sr <| mL rfl ?_
  obtain ⟨x11, hx11, h12⟩ := bind_s h10
  refine o_v (ov_call (v := .tup [aI, aI]) rfl (w_ref24xStatus hx11) ⟨lr, trivial⟩ rfl rfl rfl) <| mV (v := .tup [aI, aI]) rfl <| o_p rfl (p_ex (v := aI) rfl rfl) <| o_p rfl (p_ex (v := aI) rfl rfl) <| sI rfl <| sI rfl <| o_ek (fr' := [(0, aL), (7, aI), (8, aB), (9, aI), (10, aB), (11, aI), (12, aI), (13, aI), (14, aI)]) rfl rfl <| w_sr <| mL rfl ?_
  obtain ⟨x13, hx13, h14⟩ := bind_s h12
  refine o_v (ov_call (v := aO) rfl (w_history_Signals hx13) ⟨lr, trivial⟩ rfl rfl rfl) <| mL rfl ?_
  obtain ⟨x15, hx15, h16⟩ := bind_s h14
  refine o_v (ov_call (v := aO) rfl (w_ref24xSignals hx15) ⟨lr, trivial⟩ rfl rfl rfl) <| sV (v := aO) rfl <| sV (v := aO) rfl <| o_ek (fr' := [(7, aI), (8, aB), (9, aI), (10, aB), (11, aI), (12, aI), (13, aI), (14, aI), (15, aO), (16, aO)]) rfl rfl <| w_seqw <| w_sr <| mI rfl <| mI rfl <| o_p rfl (p_neq rfl rfl) <| mB rfl <| og rfl rfl rfl (fun hc => (p_move (v := aB) rfl)) <| og rfl rfl rfl (fun hc => (p_move (v := aB) rfl)) ?_
  refine og rfl rfl rfl (fun hc => (p_bneq ti4 (gx rfl hc) (gx rfl hc))) <| o_p rfl (p_pickz rfl rfl rfl (fun e => keq e)) <| mB rfl <| og rfl rfl rfl (fun hc => (p_move (v := aI) rfl)) <| og rfl rfl rfl (fun hc => (p_move (v := aI) rfl)) <| og rfl rfl rfl (fun hc => (p_neq (gx rfl hc) (gx rfl hc))) <| o_p rfl (p_pickz rfl rfl rfl (fun e => keq e)) <| mB rfl <| og rfl rfl rfl (fun hc => (p_move (v := aI) rfl)) <| og rfl rfl rfl (fun hc => (p_move (v := aI) rfl)) <| og rfl rfl rfl (fun hc => (p_neq (gx rfl hc) (gx rfl hc))) <| o_p rfl (p_pickz rfl rfl rfl (fun e => keq e)) <| mB rfl ?_
  refine og rfl rfl rfl (fun hc => (p_move (v := aO) rfl)) <| og rfl rfl rfl (fun hc => (p_len ti23 (isl_o (gx rfl hc)))) <| og rfl rfl rfl (fun hc => (p_move (v := aO) rfl)) <| og rfl rfl rfl (fun hc => (p_len ti23 (isl_o (gx rfl hc)))) <| og rfl rfl rfl (fun hc => (p_neq (gx rfl hc) (gx rfl hc))) <| o_p rfl (p_pickz rfl rfl rfl (fun e => keq e)) <| o_ek (fr' := [(15, aO), (16, aO), (74, aB)]) rfl rfl <| w_ch h16 rfl (fun hb17 h17 => ?_) (fun hb17 h17 => ?_)
  ·
   refine w_sr <| sB rfl <| o_ek (fr' := [(6, aB)]) rfl rfl <| w_ret <| e_seq_r ?_
   obtain rfl := sy h17
   exact e_ret (rs' := [.tmp 6]) rfl <| r_tmp (v := aB) rfl <| r_nil <| fin_gen [] rfl rfl rfl lr st_nil
  ·
   refine w_skip <| e_kw <| w_seqw <| w_sr <| mV (v := aO) rfl <| o_p rfl (p_len ti23 (isl_o rfl)) <| mI rfl <| o_ek (fr' := [(15, aO), (16, aO), (76, aI), (77, aI)]) rfl rfl ?_
   obtain ⟨x19, hx19, h20⟩ := bind_s h17
   refine w_jtail cl_kw (fun j21 => x19 = Fl.go j21) (fun (j21 : Unit) => ([] : Fr)) (fun (j21 : Unit) => ([] : St)) ?_ ?_
   ·
    refine w_block <| w_loopo _ (fun (s22 : Int) => ([(15, AV.os 0 1 rowS x13), (16, AV.os 1 1 rowS x15), (76, .c (.int .i64 ((x13).length : Int))), (77, .c (.int .i64 s22))] : Fr)) (fun (s22 : Int) => ([] : St)) hx19 (w_weak [752, 784] 0 rfl rfl rfl rfl ⟨lr, lr, lr, lr, trivial⟩ st_nil) ?_
    intro s22 st22 hs22 ho22
    unfold law24xHistoryFinds_l1 at hs22
    refine w_sr <| o_p rfl (p_lss rfl rfl) <| o_ek (fr' := [(15, aO), (16, aO), (76, aI), (77, aI), (78, aB)]) rfl rfl <| w_seqw <| w_ch hs22 rfl (fun hb23 h23 => ?_) (fun hb23 h23 => ?_)
    ·
     refine w_skip <| e_kw <| w_seqw <| w_block <| w_sr <| mI rfl <| sI rfl <| o_ek (fr' := [(15, aO), (16, aO), (17, aI), (76, aI), (77, aI)]) rfl rfl <| w_seqw <| w_planT [.q 0, .q 1, .q 2, .q 3, .q 4, .q 5, .q 6, .q 7, .q 8] [(some 80, [15]), (some 81, [17]), (some 82, [80, 81]), (some 83, [82]), (some 84, [16]), (some 85, [17]), (some 86, [84, 85]), (some 87, [86]), (some 88, [83, 87])] [0, 0, 3, 7, 0, 0, 48, 112, 255] (by kernel_rfl) <| dq rfl rfl (p_move (v := aO) rfl) <| dq rfl rfl (p_move (v := aI) rfl) ?_
     obtain ⟨x24, hx24, h25⟩ := bind_s h23
     refine dq rfl rfl (p_ia (cs := [PV.str _]) ts23 (isl_o rfl) rfl hx24 rfl) <| dq rfl rfl (p_loade (p := PV.str _) tv9 rfl rfl) <| dq rfl rfl (p_move (v := aO) rfl) <| dq rfl rfl (p_move (v := aI) rfl) ?_
     obtain ⟨x26, hx26, h27⟩ := bind_s h25
     refine dq rfl rfl (p_ia (cs := [PV.str _]) ts23 (isl_o rfl) rfl hx26 rfl) <| dq rfl rfl (p_loade (p := PV.str _) tv9 rfl rfl) <| dq rfl rfl (p_sneq rfl rfl) <| d_ek (fr' := [(15, aO), (16, aO), (76, aI), (77, aI), (88, aB)]) rfl rfl <| w_ch h27 rfl (fun hb28 h28 => ?_) (fun hb28 h28 => ?_)
     ·
      refine w_sr <| sB rfl <| o_ek (fr' := [(6, aB)]) rfl rfl <| w_ret <| e_blk_r <| e_seq_r <| e_seq_r <| e_blk_r <| e_seq_r <| e_seq_r ?_
      have h29 := un_out h28 ho22
      have h30 := un_done h29 h20
      obtain rfl := sy h30
      exact e_ret (rs' := [.tmp 6]) rfl <| r_tmp (v := aB) rfl <| r_nil <| fin_gen [] rfl rfl rfl lr st_nil
     ·
      exact w_skip <| e_blk_n <| e_kw <| w_region <| o_p rfl (p_add rfl rfl) <| mI rfl <| o_end (fr' := [(15, aO), (16, aO), (76, aI), (77, aI), (88, aB)]) rfl <| e_l _ (sy h28) (w_weak [0, 1] 0 rfl rfl rfl rfl ⟨lr, lr, lr, lr, trivial⟩ st_nil)
    ·
     refine w_exit <| e_seq_x <| e_seq_x <| e_blk_h ?_
     have h32 := un_out h23 ho22
     exact e_j _ (sy h32) (w_weak [] 0 rfl rfl rfl rfl trivial st_nil)
   ·
    intro j21 hj33
    have h33 := un_go hj33 h20
    refine e_kw <| w_seqw <| w_region ?_
    obtain ⟨x34, hx34, h35⟩ := bind_s h33
    refine o_v (ov_call (v := aB) rfl (w_law24xworks hx34) trivial rfl rfl rfl) <| sB rfl <| o_ek (fr' := [(6, aB)]) rfl rfl <| w_ret ?_
    obtain rfl := sy h35
    exact e_ret (rs' := [.tmp 6]) rfl <| r_tmp (v := aB) rfl <| r_nil <| fin_gen [] rfl rfl rfl lr st_nil
end Go.Proofs.YtngcjjhbimanlaaDoor

import Derived.Test.YtmbdbdhdcbdcpaaDoorGHTy
import Derived.Test.YtmbdbdhdcbdcpaaDoorGHF0
namespace Go.Proofs.YtmbdbdhdcbdcpaaDoor
open Go Abs
set_option maxRecDepth 100000
set_option linter.unusedVariables false
set_option linter.unusedSimpArgs false
noncomputable def slices_Equal_string_string_l1 (p0s1 : (List (List UInt8))) (p1s2 : (List (List UInt8))) (s6 : Int) : Option (Step Int (Fl Bool Unit)) :=
 cond (decide (s6 < ((p0s1).length : Int))) ((idx p0s1 s6).bind fun (x8 : (List UInt8)) => (idx p1s2 s6).bind fun (x10 : (List UInt8)) => cond (!decide (x8 = x10)) (some (Step.out (Fl.done false))) (some (Step.next (IntKind.wrap .i64 (s6 + (1 : Int)))))) (some (Step.out (Fl.go ())))
noncomputable def slices_Equal_string_string (p0s1 : (List (List UInt8))) (p1s2 : (List (List UInt8))) : Option Bool :=
 cond (!decide (((p0s1).length : Int) = ((p1s2).length : Int))) (some false) (((loopO (slices_Equal_string_string_l1 p0s1 p1s2) ((0 : Int))) : Option (Fl Bool Unit)).bind fun (x3 : (Fl Bool Unit)) => Fl.next x3 (fun (j5 : Unit) => (some true)))
theorem w_slices_Equal_string_string {p0s1 : (List (List UInt8))} {p1s2 : (List (List UInt8))} {res : Bool} (h : slices_Equal_string_string p0s1 p1s2 = some res) : ACalls Tryd.prog 161 [.c (PV.ls 1 rowS p0s1), .c (PV.ls 1 rowS p1s2)] [] (.c (.bool res)) [] := by
 unfold slices_Equal_string_string at h
 refine acalls (fn := Tryd.f161) [0, 1, 4, 5, 10, 12, 13, 14, 24] (by kernel_rfl) Tryd.func161 rfl (by kernel_rfl) (by kernel_rfl) <| w_sr <| sB rfl <| o_ek (fr' := [(0, aL), (1, aL)]) rfl rfl <| w_seqw <| w_sr <| mL rfl <| o_p rfl (p_len ti110 (isl_c rfl)) <| mL rfl <| o_p rfl (p_len ti110 (isl_c rfl)) <| o_p rfl (p_neq rfl rfl) ?_
 refine o_ek (fr' := [(0, aL), (1, aL), (10, aB)]) rfl rfl <| w_ch h rfl (fun hb1 h1 => ?_) (fun hb1 h1 => ?_)
 ·
  refine w_sr <| sB rfl <| o_ek (fr' := [(4, aB)]) rfl rfl <| w_ret <| e_seq_r ?_
  obtain rfl := sy h1
  exact e_ret (rs' := [.tmp 4]) rfl <| r_tmp (v := aB) rfl <| r_nil <| fin_gen [] rfl rfl rfl lr st_nil
 ·
  refine w_skip <| e_kw <| w_seqw <| w_sr <| mL rfl <| o_p rfl (p_len ti110 (isl_c rfl)) <| mI rfl <| o_ek (fr' := [(0, aL), (1, aL), (12, aI), (13, aI)]) rfl rfl ?_
  obtain ⟨x3, hx3, h4⟩ := bind_s h1
  refine w_jtail cl_kw (fun j5 => x3 = Fl.go j5) (fun (j5 : Unit) => ([] : Fr)) (fun (j5 : Unit) => ([] : St)) ?_ ?_
  ·
   refine w_block <| w_loopo _ (fun (s6 : Int) => ([(0, .c (PV.ls 1 rowS p0s1)), (1, .c (PV.ls 1 rowS p1s2)), (12, .c (.int .i64 ((p0s1).length : Int))), (13, .c (.int .i64 s6))] : Fr)) (fun (s6 : Int) => ([] : St)) hx3 (w_weak [] 0 rfl rfl rfl rfl ⟨lr, lr, lr, lr, trivial⟩ st_nil) ?_
   intro s6 st6 hs6 ho6
   unfold slices_Equal_string_string_l1 at hs6
   refine w_sr <| o_p rfl (p_lss rfl rfl) <| o_ek (fr' := [(0, aL), (1, aL), (12, aI), (13, aI), (14, aB)]) rfl rfl <| w_seqw <| w_ch hs6 rfl (fun hb7 h7 => ?_) (fun hb7 h7 => ?_)
   ·
    refine w_skip <| e_kw <| w_seqw <| w_block <| w_sr <| mI rfl <| sI rfl <| o_ek (fr' := [(0, aL), (1, aL), (5, aI), (12, aI), (13, aI)]) rfl rfl <| w_seqw <| w_planT [.q 0, .q 1, .q 2, .q 3, .q 4, .q 5, .q 6, .q 7, .q 8] [(some 16, [0]), (some 17, [5]), (some 18, [16, 17]), (some 19, [18]), (some 20, [1]), (some 21, [5]), (some 22, [20, 21]), (some 23, [22]), (some 24, [19, 23])] [0, 0, 3, 7, 0, 0, 48, 112, 255] (by kernel_rfl) <| dq rfl rfl (p_move (v := aL) rfl) <| dq rfl rfl (p_move (v := aI) rfl) ?_
    obtain ⟨x8, hx8, h9⟩ := bind_s h7
    refine dq rfl rfl (p_ia (cs := [PV.str _]) ts110 (isl_c rfl) rfl hx8 rfl) <| dq rfl rfl (p_loade (p := PV.str _) tv9 rfl rfl) <| dq rfl rfl (p_move (v := aL) rfl) <| dq rfl rfl (p_move (v := aI) rfl) ?_
    obtain ⟨x10, hx10, h11⟩ := bind_s h9
    refine dq rfl rfl (p_ia (cs := [PV.str _]) ts110 (isl_c rfl) rfl hx10 rfl) <| dq rfl rfl (p_loade (p := PV.str _) tv9 rfl rfl) <| dq rfl rfl (p_sneq rfl rfl) <| d_ek (fr' := [(0, aL), (1, aL), (12, aI), (13, aI), (24, aB)]) rfl rfl <| w_ch h11 rfl (fun hb12 h12 => ?_) (fun hb12 h12 => ?_)
    ·
     refine w_sr <| sB rfl <| o_ek (fr' := [(4, aB)]) rfl rfl <| w_ret <| e_blk_r <| e_seq_r <| e_seq_r <| e_blk_r <| e_seq_r <| e_seq_r ?_
     have h13 := un_out h12 ho6
     have h14 := un_done h13 h4
     obtain rfl := sy h14
     exact e_ret (rs' := [.tmp 4]) rfl <| r_tmp (v := aB) rfl <| r_nil <| fin_gen [] rfl rfl rfl lr st_nil
    ·
     exact w_skip <| e_blk_n <| e_kw <| w_region <| o_p rfl (p_add rfl rfl) <| mI rfl <| o_end (fr' := [(0, aL), (1, aL), (12, aI), (13, aI), (24, aB)]) rfl <| e_l _ (sy h12) (w_weak [] 0 rfl rfl rfl rfl ⟨lr, lr, lr, lr, trivial⟩ st_nil)
   ·
    refine w_exit <| e_seq_x <| e_seq_x <| e_blk_h ?_
    have h16 := un_out h7 ho6
    exact e_j _ (sy h16) (w_weak [] 0 rfl rfl rfl rfl trivial st_nil)
  ·
   intro j5 hj17
   have h17 := un_go hj17 h4
   refine e_kw <| w_sr <| sB rfl <| o_ek (fr' := [(4, aB)]) rfl rfl <| w_ret ?_
   obtain rfl := sy h17
   exact e_ret (rs' := [.tmp 4]) rfl <| r_tmp (v := aB) rfl <| r_nil <| fin_gen [] rfl rfl rfl lr st_nil
noncomputable def slices_EqualFunc_api_Value_api_Value_api_Value_api_Value_value_Same_l1 (rec_value_Same : ApiValue → ApiValue → Option Bool) (p0s1 : (List ApiValue)) (p1s2 : (List ApiValue)) (s6 : Int) : Option (Step Int (Fl Bool Unit)) :=
 cond (decide (s6 < ((p0s1).length : Int))) ((idx p0s1 s6).bind fun (x8 : ApiValue) => (idx p1s2 s6).bind fun (x10 : ApiValue) => (rec_value_Same x8 x10).bind fun (x12 : Bool) => cond (!x12) (some (Step.out (Fl.done false))) (some (Step.next (IntKind.wrap .i64 (s6 + (1 : Int)))))) (some (Step.out (Fl.go ())))
mutual
noncomputable def slices_EqualFunc_api_Value_api_Value_api_Value_api_Value_value_SameF : Nat → (List ApiValue) → (List ApiValue) → Option Bool
 | 0, _, _ => none
 | n + 1, p0s1, p1s2 =>
  cond (!decide (((p0s1).length : Int) = ((p1s2).length : Int))) (some false) (((loopO (slices_EqualFunc_api_Value_api_Value_api_Value_api_Value_value_Same_l1 (value_SameF n) p0s1 p1s2) ((0 : Int))) : Option (Fl Bool Unit)).bind fun (x3 : (Fl Bool Unit)) => Fl.next x3 (fun (j5 : Unit) => (some true)))
noncomputable def value_SameF : Nat → ApiValue → ApiValue → Option Bool
 | 0, _, _ => none
 | n + 1, p0a, p1b =>
  (gd ((cond (cond (decide (p0a.Kind = p1b.Kind)) (decide (p0a.Int = p1b.Int)) false) (decide (p0a.Text = p1b.Text)) false) == true) (slices_Equal_string_string p0a.Keys p1b.Keys)).bind fun (x1 : Bool) => (gd ((cond (cond (cond (decide (p0a.Kind = p1b.Kind)) (decide (p0a.Int = p1b.Int)) false) (decide (p0a.Text = p1b.Text)) false) x1 false) == true) ((slices_EqualFunc_api_Value_api_Value_api_Value_api_Value_value_SameF n) p0a.Items p1b.Items)).bind fun (x3 : Bool) => some (cond (cond (cond (cond (decide (p0a.Kind = p1b.Kind)) (decide (p0a.Int = p1b.Int)) false) (decide (p0a.Text = p1b.Text)) false) x1 false) x3 false)
end
theorem wF_slices_EqualFunc_api_Value_api_Value_api_Value_api_Value_value_Same : ∀ n : Nat, (∀ {p0s1 : (List ApiValue)} {p1s2 : (List ApiValue)} {res : Bool}, slices_EqualFunc_api_Value_api_Value_api_Value_api_Value_value_SameF n p0s1 p1s2 = some res → ACalls Tryd.prog 162 [.c (PV.ls 5 rowApiValue p0s1), .c (PV.ls 5 rowApiValue p1s2), .fn 133 []] [] (.c (.bool res)) []) ∧ (∀ {p0a : ApiValue} {p1b : ApiValue} {res : Bool}, value_SameF n p0a p1b = some res → ACalls Tryd.prog 133 [.agg (AV.cs (exApiValue p0a)), .agg (AV.cs (exApiValue p1b))] [] (.c (.bool res)) []) := by
 intro n
 induction n with
 | zero => exact ⟨fun {p0s1 p1s2 res} h => absurd h (by simp [slices_EqualFunc_api_Value_api_Value_api_Value_api_Value_value_SameF]), fun {p0a p1b res} h => absurd h (by simp [value_SameF])⟩
 | succ n ih =>
  obtain ⟨ih_slices_EqualFunc_api_Value_api_Value_api_Value_api_Value_value_Same, ih_value_Same⟩ := ih
  refine ⟨?_, ?_⟩
  ·
   intro p0s1 p1s2 res h
   rw [slices_EqualFunc_api_Value_api_Value_api_Value_api_Value_value_SameF] at h
   refine acalls (fn := Tryd.f162) [0, 1, 2, 6, 7, 8, 9, 14, 15, 16, 17, 18, 30] (by kernel_rfl) Tryd.func162 rfl (by kernel_rfl) (by kernel_rfl) <| w_sr <| sB rfl <| o_ek (fr' := [(0, aL), (1, aL), (2, .fn _ [])]) rfl rfl <| w_seqw <| w_sr <| mL rfl <| o_p rfl (p_len ti109 (isl_c rfl)) <| mL rfl <| o_p rfl (p_len ti109 (isl_c rfl)) <| o_p rfl (p_neq rfl rfl) ?_
   refine o_ek (fr' := [(0, aL), (1, aL), (2, .fn _ []), (14, aB)]) rfl rfl <| w_ch h rfl (fun hb1 h1 => ?_) (fun hb1 h1 => ?_)
   ·
    refine w_sr <| sB rfl <| o_ek (fr' := [(6, aB)]) rfl rfl <| w_ret <| e_seq_r ?_
    obtain rfl := sy h1
    exact e_ret (rs' := [.tmp 6]) rfl <| r_tmp (v := aB) rfl <| r_nil <| fin_gen [] rfl rfl rfl lr st_nil
   ·
    refine w_skip <| e_kw <| w_seqw <| w_sr <| mL rfl <| o_p rfl (p_len ti109 (isl_c rfl)) <| mI rfl <| o_ek (fr' := [(1, aL), (2, .fn _ []), (15, aL), (16, aI), (17, aI)]) rfl rfl ?_
    obtain ⟨x3, hx3, h4⟩ := bind_s h1
    refine w_jtail cl_kw (fun j5 => x3 = Fl.go j5) (fun (j5 : Unit) => ([] : Fr)) (fun (j5 : Unit) => ([] : St)) ?_ ?_
    ·
     refine w_block <| w_loopo _ (fun (s6 : Int) => ([(1, .c (PV.ls 5 rowApiValue p1s2)), (2, .fn 133 []), (15, .c (PV.ls 5 rowApiValue p0s1)), (16, .c (.int .i64 ((p0s1).length : Int))), (17, .c (.int .i64 s6))] : Fr)) (fun (s6 : Int) => ([] : St)) hx3 (w_weak [] 0 rfl rfl rfl rfl ⟨lr, lr, lr, lr, lr, trivial⟩ st_nil) ?_
     intro s6 st6 hs6 ho6
     unfold slices_EqualFunc_api_Value_api_Value_api_Value_api_Value_value_Same_l1 at hs6
     refine w_sr <| o_p rfl (p_lss rfl rfl) <| o_ek (fr' := [(1, aL), (2, .fn _ []), (15, aL), (16, aI), (17, aI), (18, aB)]) rfl rfl <| w_seqw <| w_ch hs6 rfl (fun hb7 h7 => ?_) (fun hb7 h7 => ?_)
     ·
      refine w_skip <| e_kw <| w_seqw <| w_block <| w_sr <| mI rfl ?_
      obtain ⟨x8, hx8, h9⟩ := bind_s h7
      refine o_p rfl (p_ia (cs := [PV.int _ _, PV.int _ _, PV.str _, PV.ls _ _ _, PV.ls _ _ _]) ts109 (isl_c rfl) rfl hx8 (rowApiValue_eq _)) <| o_p rfl (p_loades (us := [PV.int _ _, PV.int _ _, PV.str _, PV.ls _ _ _, PV.ls _ _ _]) tv112 rfl rfl rfl) <| o_alloc (n := 0) (cs := [aI, aI, aS, AV.nil, AV.nil]) (σ' := [[aI, aI, aS, AV.nil, AV.nil]]) tz112 rfl rfl rfl <| sI rfl <| o_store (v := .agg aIISLL) (us := aIISLL) (cs := [aI, aI, aS, AV.nil, AV.nil]) (σ' := [aIISLL]) rfl tv112 rfl rfl rfl rfl rfl rfl rfl rfl <| o_ek (fr' := [(1, aL), (2, .fn _ []), (7, aI), (8, .box 0 0), (15, aL), (16, aI), (17, aI)]) rfl rfl <| w_sr <| mL rfl <| mI rfl ?_
      obtain ⟨x10, hx10, h11⟩ := bind_s h9
      refine o_p rfl (p_ia (cs := [PV.int _ _, PV.int _ _, PV.str _, PV.ls _ _ _, PV.ls _ _ _]) ts109 (isl_c rfl) rfl hx10 (rowApiValue_eq _)) <| o_p rfl (p_loades (us := [PV.int _ _, PV.int _ _, PV.str _, PV.ls _ _ _, PV.ls _ _ _]) tv112 rfl rfl rfl) <| o_alloc (n := 1) (cs := [aI, aI, aS, AV.nil, AV.nil]) (σ' := [aIISLL, [aI, aI, aS, AV.nil, AV.nil]]) tz112 rfl rfl rfl <| o_store (v := .agg aIISLL) (us := aIISLL) (cs := [aI, aI, aS, AV.nil, AV.nil]) (σ' := [aIISLL, aIISLL]) rfl tv112 rfl rfl rfl rfl rfl rfl rfl rfl <| o_ek (fr' := [(1, aL), (2, .fn _ []), (8, .box 0 0), (9, .box 1 0), (15, aL), (16, aI), (17, aI)]) rfl rfl <| w_sr <| mV (v := .fn _ []) rfl <| o_p rfl (p_loads (us := aIISLL) tv112 rfl rfl rfl rfl) <| o_p rfl (p_loads (us := aIISLL) tv112 rfl rfl rfl rfl) ?_
      obtain ⟨x12, hx12, h13⟩ := bind_s h11
      refine o_v (ov_call (v := aB) rfl (ih_value_Same hx12) ⟨(le_aggc rfl ⟨rfl, rfl, rfl, rfl, rfl, trivial⟩), (le_aggc rfl ⟨rfl, rfl, rfl, rfl, rfl, trivial⟩), trivial⟩ rfl rfl rfl) <| o_p rfl (p_not rfl) <| o_ek (fr' := [(1, aL), (2, .fn _ []), (15, aL), (16, aI), (17, aI), (30, aB)]) rfl rfl <| w_ch h13 rfl (fun hb14 h14 => ?_) (fun hb14 h14 => ?_)
      ·
       refine w_sr <| sB rfl <| o_ek (fr' := [(6, aB)]) rfl rfl <| w_ret <| e_blk_r <| e_seq_r <| e_seq_r <| e_blk_r <| e_seq_r <| e_seq_r ?_
       have h15 := un_out h14 ho6
       have h16 := un_done h15 h4
       obtain rfl := sy h16
       exact e_ret (rs' := [.tmp 6]) rfl <| r_tmp (v := aB) rfl <| r_nil <| fin_gen [] rfl rfl rfl lr st_nil
      ·
       exact w_skip <| e_blk_n <| e_kw <| w_region <| o_p rfl (p_add rfl rfl) <| mI rfl <| o_end (fr' := [(1, aL), (2, .fn _ []), (15, aL), (16, aI), (17, aI), (30, aB)]) rfl <| e_l _ (sy h14) (w_weak [] 0 rfl rfl rfl rfl ⟨lr, lr, lr, lr, lr, trivial⟩ st_nil)
     ·
      refine w_exit <| e_seq_x <| e_seq_x <| e_blk_h ?_
      have h18 := un_out h7 ho6
      exact e_j _ (sy h18) (w_weak [] 0 rfl rfl rfl rfl trivial st_nil)
    ·
     intro j5 hj19
     have h19 := un_go hj19 h4
     refine e_kw <| w_sr <| sB rfl <| o_ek (fr' := [(6, aB)]) rfl rfl <| w_ret ?_
     obtain rfl := sy h19
     exact e_ret (rs' := [.tmp 6]) rfl <| r_tmp (v := aB) rfl <| r_nil <| fin_gen [] rfl rfl rfl lr st_nil
  ·
   intro p0a p1b res h
   rw [value_SameF] at h
   refine acalls (fn := Tryd.f133) [0, 1, 2, 3, 4] (by kernel_rfl) Tryd.func133 rfl (by kernel_rfl) (by kernel_rfl) <| w_sr <| o_box (v := .agg aIISLL) (n := 0) (cs := aIISLL) (σ' := [aIISLL]) rfl rfl rfl rfl rfl <| o_box (v := .agg aIISLL) (n := 1) (cs := aIISLL) (σ' := [aIISLL, aIISLL]) rfl rfl rfl rfl rfl <| sB rfl <| o_ek (fr' := [(2, .box 0 0), (3, .box 1 0)]) rfl rfl <| w_sr <| o_p rfl (p_fa tf112x0 rfl) <| o_p rfl (p_load (v := aI) tv3 rfl rfl rfl) <| o_p rfl (p_fa tf112x0 rfl) <| o_p rfl (p_load (v := aI) tv3 rfl rfl rfl) ?_
   refine o_p rfl (p_eql rfl rfl) <| mB rfl <| og rfl rfl rfl (fun hc => (p_fa tf112x1 rfl)) <| og rfl rfl rfl (fun hc => (p_load (v := aI) tv3 (gx rfl hc) rfl rfl)) <| og rfl rfl rfl (fun hc => (p_fa tf112x1 rfl)) <| og rfl rfl rfl (fun hc => (p_load (v := aI) tv3 (gx rfl hc) rfl rfl)) <| og rfl rfl rfl (fun hc => (p_eql (gx rfl hc) (gx rfl hc))) <| o_p rfl (p_picky rfl rfl rfl (fun e => keq e)) <| mB rfl <| og rfl rfl rfl (fun hc => (p_fa tf112x2 rfl)) <| og rfl rfl rfl (fun hc => (p_load (v := aS) tv9 (gx rfl hc) rfl rfl)) <| og rfl rfl rfl (fun hc => (p_fa tf112x2 rfl)) <| og rfl rfl rfl (fun hc => (p_load (v := aS) tv9 (gx rfl hc) rfl rfl)) ?_
   refine og rfl rfl rfl (fun hc => (p_seql (gx rfl hc) (gx rfl hc))) <| o_p rfl (p_picky rfl rfl rfl (fun e => keq e)) <| mB rfl <| og rfl rfl rfl (fun hc => (p_fa tf112x4 rfl)) <| og rfl rfl rfl (fun hc => (p_load (v := aL) tv110 (gx rfl hc) rfl rfl)) <| og rfl rfl rfl (fun hc => (p_fa tf112x4 rfl)) <| og rfl rfl rfl (fun hc => (p_load (v := aL) tv110 (gx rfl hc) rfl rfl)) ?_
   obtain ⟨x1, hx1, h2⟩ := bind_s h
   refine o_g rfl rfl (fun hc => ov_call (v := aB) rfl (w_slices_Equal_string_string (gd_some hx1 hc)) ⟨(le_gv (gx rfl hc) lr), (le_gv (gx rfl hc) lr), trivial⟩ (ok_eq (by repeat (first | exact ok_nil | refine ok_cons rfl ?_ | refine ok_cons (dgv rfl) ?_ | refine ok_cons dar ?_))) rfl rfl) ?_
   refine o_p rfl (p_picky rfl rfl rfl (fun e => keq e)) <| mB rfl <| og rfl rfl rfl (fun hc => (p_fa tf112x3 rfl)) <| og rfl rfl rfl (fun hc => (p_load (v := aL) tv109 (gx rfl hc) rfl rfl)) <| og rfl rfl rfl (fun hc => (p_fa tf112x3 rfl)) <| og rfl rfl rfl (fun hc => (p_load (v := aL) tv109 (gx rfl hc) rfl rfl)) ?_
   obtain ⟨x3, hx3, h4⟩ := bind_s h2
   refine o_g rfl rfl (fun hc => ov_call (v := aB) rfl (ih_slices_EqualFunc_api_Value_api_Value_api_Value_api_Value_value_Same (gd_some hx3 hc)) ⟨(le_gv (gx rfl hc) lr), (le_gv (gx rfl hc) lr), lr, trivial⟩ (ok_eq (by repeat (first | exact ok_nil | refine ok_cons rfl ?_ | refine ok_cons (dgv rfl) ?_ | refine ok_cons dar ?_))) rfl rfl) ?_
   refine o_p rfl (p_picky rfl rfl rfl (fun e => keq e)) <| sB rfl <| o_ek (fr' := [(4, aB)]) rfl rfl <| w_ret ?_
   obtain rfl := sy h4
   exact e_ret (rs' := [.tmp 4]) rfl <| r_tmp (v := aB) rfl <| r_nil <| fin_gen [] rfl rfl rfl lr st_nil
noncomputable def slices_EqualFunc_api_Value_api_Value_api_Value_api_Value_value_Same (p0s1 : (List ApiValue)) (p1s2 : (List ApiValue)) : Option Bool := lim fun n => slices_EqualFunc_api_Value_api_Value_api_Value_api_Value_value_SameF n p0s1 p1s2
theorem w_slices_EqualFunc_api_Value_api_Value_api_Value_api_Value_value_Same {p0s1 : (List ApiValue)} {p1s2 : (List ApiValue)} {res : Bool} (h : slices_EqualFunc_api_Value_api_Value_api_Value_api_Value_value_Same p0s1 p1s2 = some res) : ACalls Tryd.prog 162 [.c (PV.ls 5 rowApiValue p0s1), .c (PV.ls 5 rowApiValue p1s2), .fn 133 []] [] (.c (.bool res)) [] := by
 obtain ⟨n, hn⟩ := lim_some h
 exact (wF_slices_EqualFunc_api_Value_api_Value_api_Value_api_Value_value_Same n).1 hn
noncomputable def value_Same (p0a : ApiValue) (p1b : ApiValue) : Option Bool := lim fun n => value_SameF n p0a p1b
theorem w_value_Same {p0a : ApiValue} {p1b : ApiValue} {res : Bool} (h : value_Same p0a p1b = some res) : ACalls Tryd.prog 133 [.agg (AV.cs (exApiValue p0a)), .agg (AV.cs (exApiValue p1b))] [] (.c (.bool res)) [] := by
 obtain ⟨n, hn⟩ := lim_some h
 exact (wF_slices_EqualFunc_api_Value_api_Value_api_Value_api_Value_value_Same n).2 hn
noncomputable def command_numbers (p100v : ApiPolicy) : Option Unit :=
 some ()
theorem w_command_numbers {p100v : ApiPolicy} {res : Unit} (h : command_numbers p100v = some res) : ACalls Tryd.prog 163 [.box 0 0] [AV.cs (rowApiPolicy p100v)] (.ptrs [(0, 1), (0, 2), (0, 3), (0, 4), (0, 5), (0, 6), (0, 7), (0, 8)]) [AV.cs (rowApiPolicy p100v)] := by
 unfold command_numbers at h
 refine acalls (fn := Tryd.f163) [0, 2] (by kernel_rfl) Tryd.func163 rfl (by kernel_rfl) (by kernel_rfl) <| w_sr <| sV (v := AV.nil) rfl <| o_ek (fr' := [(0, .box 0 0)]) rfl rfl <| w_seqw <| w_planT [.q 0, .q 1, .q 2, .q 3, .q 4, .q 5, .q 6, .q 7, .q 8, .q 9, .q 10, .q 11, .q 12, .q 13, .q 14, .q 15, .q 16, .q 17, .q 18, .q 19, .q 20, .q 21, .q 22, .q 23, .n 24 [], .n 25 []] [(some 3, [0]), (some 4, [3]), (some 5, [4]), (some 6, [0]), (some 7, [6]), (some 8, [7]), (some 9, [0]), (some 10, [9]), (some 11, [10]), (some 12, [0]), (some 13, [12]), (some 14, [13]), (some 15, [0]), (some 16, [15]), (some 17, [16]), (some 18, [0]), (some 19, [18]), (some 20, [19]), (some 21, [0]), (some 22, [21]), (some 23, [22]), (some 24, [0]), (some 25, [24]), (some 26, [25]), (some 27, [5, 8, 11, 14, 17, 20, 23, 26]), (some 2, [27])] [0, 1, 3, 0, 8, 24, 0, 64, 192, 0, 512, 1536, 0, 4096, 12288, 0, 32768, 98304, 0, 262144, 786432, 0, 2097152, 6291456, 16777215, 33554431] (by kernel_rfl) <| dq rfl rfl (p_move (v := .box 0 0) rfl) <| dq rfl rfl (p_nc rfl) <| dq rfl rfl (p_fa tf114x1 rfl) <| dq rfl rfl (p_move (v := .box 0 0) rfl) <| dq rfl rfl (p_nc rfl) <| dq rfl rfl (p_fa tf114x2 rfl) ?_
 refine dq rfl rfl (p_move (v := .box 0 0) rfl) <| dq rfl rfl (p_nc rfl) <| dq rfl rfl (p_fa tf114x3 rfl) <| dq rfl rfl (p_move (v := .box 0 0) rfl) <| dq rfl rfl (p_nc rfl) <| dq rfl rfl (p_fa tf114x4 rfl) <| dq rfl rfl (p_move (v := .box 0 0) rfl) <| dq rfl rfl (p_nc rfl) <| dq rfl rfl (p_fa tf114x5 rfl) <| dq rfl rfl (p_move (v := .box 0 0) rfl) <| dq rfl rfl (p_nc rfl) <| dq rfl rfl (p_fa tf114x6 rfl) <| dq rfl rfl (p_move (v := .box 0 0) rfl) ?_
 refine dq rfl rfl (p_nc rfl) <| dq rfl rfl (p_fa tf114x7 rfl) <| dq rfl rfl (p_move (v := .box 0 0) rfl) <| dq rfl rfl (p_nc rfl) <| dq rfl rfl (p_fa tf114x8 rfl) <| d_n rfl ?_ rfl
 refine o_ptrs (l := [(0, 1), (0, 2), (0, 3), (0, 4), (0, 5), (0, 6), (0, 7), (0, 8)]) ts222 rfl rfl rfl rfl <| o_rc <| ⟨rc_nil, ?_⟩
 refine d_n rfl ?_ rfl
 refine sV (v := .ptrs [(0, 1), (0, 2), (0, 3), (0, 4), (0, 5), (0, 6), (0, 7), (0, 8)]) rfl <| o_rc <| ⟨rc_nil, ?_⟩
 refine d_ek (fr' := [(2, .ptrs [(0, 1), (0, 2), (0, 3), (0, 4), (0, 5), (0, 6), (0, 7), (0, 8)])]) rfl rfl <| w_ret ?_
 obtain rfl := sy h
 exact e_ret (rs' := [.tmp 2]) rfl <| r_tmp (v := .ptrs [(0, 1), (0, 2), (0, 3), (0, 4), (0, 5), (0, 6), (0, 7), (0, 8)]) rfl <| r_nil <| fin_tok [] rfl rfl rfl lr (st_r rfl st_nil)
noncomputable def command_SamePolicy (p0a : ApiPolicy) (p1b : ApiPolicy) : Option Bool :=
 (command_numbers p0a).bind fun (x1 : Unit) => (command_numbers p1b).bind fun (x4 : Unit) => cond (!decide (p0a.ToStart = p1b.ToStart)) (some false) (cond (!decide (p0a.ToClose = p1b.ToClose)) (some false) (cond (!decide (p0a.Total = p1b.Total)) (some false) (cond (!decide (p0a.Beat = p1b.Beat)) (some false) (cond (!decide (p0a.First = p1b.First)) (some false) (cond (!decide (p0a.Coef = p1b.Coef)) (some false) (cond (!decide (p0a.Most = p1b.Most)) (some false) (cond (!decide (p0a.Attempts = p1b.Attempts)) (some false) ((gd ((decide (p0a.Queue = p1b.Queue)) == true) (slices_Equal_string_string p0a.Fatal p1b.Fatal)).bind fun (x23 : Bool) => some (cond (decide (p0a.Queue = p1b.Queue)) x23 false)))))))))
theorem w_command_SamePolicy {p0a : ApiPolicy} {p1b : ApiPolicy} {res : Bool} (h : command_SamePolicy p0a p1b = some res) : ACalls Tryd.prog 134 [.agg (AV.cs (rowApiPolicy p0a)), .agg (AV.cs (rowApiPolicy p1b))] [] (.c (.bool res)) [] := by
 unfold command_SamePolicy at h
 refine acalls (fn := Tryd.f134) [0, 1, 2, 3, 4, 5, 6, 7, 11, 12, 13, 27] (by kernel_rfl) Tryd.func134 rfl (by kernel_rfl) (by kernel_rfl) <| w_sr <| o_box (v := .agg aSIIIIIIIIL) (n := 0) (cs := aSIIIIIIIIL) (σ' := [aSIIIIIIIIL]) rfl rfl rfl rfl rfl <| o_box (v := .agg aSIIIIIIIIL) (n := 1) (cs := aSIIIIIIIIL) (σ' := [aSIIIIIIIIL, aSIIIIIIIIL]) rfl rfl rfl rfl rfl <| sB rfl <| o_ek (fr' := [(2, .box 0 0), (3, .box 1 0)]) rfl rfl <| w_seqw <| w_region ?_
 obtain ⟨x1, hx1, h2⟩ := bind_s h
 refine o_callT (v := .ptrs [(0, 1), (0, 2), (0, 3), (0, 4), (0, 5), (0, 6), (0, 7), (0, 8)]) (σ' := [aSIIIIIIIIL, aSIIIIIIIIL]) 8 [0] [] rfl (w_command_numbers hx1) rfl rfl rfl ⟨lr, trivial⟩ (st_c ⟨rfl, rfl, rfl, rfl, rfl, rfl, rfl, rfl, rfl, rfl, trivial⟩ st_nil) rfl rfl rfl ?_
 obtain ⟨x4, hx4, h5⟩ := bind_s h2
 refine o_callT (v := .ptrs [(1, 1), (1, 2), (1, 3), (1, 4), (1, 5), (1, 6), (1, 7), (1, 8)]) (σ' := [aSIIIIIIIIL, aSIIIIIIIIL]) 9 [1] [] rfl (w_command_numbers hx4) rfl rfl rfl ⟨lr, trivial⟩ (st_c ⟨rfl, rfl, rfl, rfl, rfl, rfl, rfl, rfl, rfl, rfl, trivial⟩ st_nil) rfl rfl rfl <| sV (v := .ptrs [(0, 1), (0, 2), (0, 3), (0, 4), (0, 5), (0, 6), (0, 7), (0, 8)]) rfl <| sV (v := .ptrs [(1, 1), (1, 2), (1, 3), (1, 4), (1, 5), (1, 6), (1, 7), (1, 8)]) rfl <| o_ek (fr' := [(2, .box 0 0), (3, .box 1 0), (5, .ptrs [(0, 1), (0, 2), (0, 3), (0, 4), (0, 5), (0, 6), (0, 7), (0, 8)]), (6, .ptrs [(1, 1), (1, 2), (1, 3), (1, 4), (1, 5), (1, 6), (1, 7), (1, 8)])]) rfl rfl <| w_seqw <| w_sr <| mV (v := .ptrs [(0, 1), (0, 2), (0, 3), (0, 4), (0, 5), (0, 6), (0, 7), (0, 8)]) rfl <| o_p rfl (p_lenp ti222 rfl) <| mI rfl <| o_ek (fr' := [(2, .box 0 0), (3, .box 1 0), (5, .ptrs [(0, 1), (0, 2), (0, 3), (0, 4), (0, 5), (0, 6), (0, 7), (0, 8)]), (6, .ptrs [(1, 1), (1, 2), (1, 3), (1, 4), (1, 5), (1, 6), (1, 7), (1, 8)]), (11, aI), (12, aI)]) rfl rfl <| w_block <| w_unr 64 ?_
 refine lu_s <| w_sr <| o_p rfl (p_k (p_lss rfl rfl) (show _ = .bool true from rfl)) <| o_ek (fr' := [(2, .box 0 0), (3, .box 1 0), (5, .ptrs [(0, 1), (0, 2), (0, 3), (0, 4), (0, 5), (0, 6), (0, 7), (0, 8)]), (6, .ptrs [(1, 1), (1, 2), (1, 3), (1, 4), (1, 5), (1, 6), (1, 7), (1, 8)]), (11, aI), (12, aI), (13, aB)]) rfl rfl <| w_seqw <| w_cond_t rfl <| w_skip <| e_kw <| w_seqw <| w_block <| w_seqw <| w_region ?_
 refine mI rfl <| sI rfl <| o_ek (fr' := [(2, .box 0 0), (3, .box 1 0), (5, .ptrs [(0, 1), (0, 2), (0, 3), (0, 4), (0, 5), (0, 6), (0, 7), (0, 8)]), (6, .ptrs [(1, 1), (1, 2), (1, 3), (1, 4), (1, 5), (1, 6), (1, 7), (1, 8)]), (7, aI), (11, aI), (12, aI)]) rfl rfl <| w_seqw <| w_planT [.q 0, .q 1, .q 2, .q 3, .q 4, .q 5, .q 6, .q 7, .q 8, .q 9, .q 10, .q 11, .q 12] [(some 15, [5]), (some 16, [7]), (some 17, [15, 16]), (some 18, [17]), (some 19, [18]), (some 20, [19]), (some 21, [6]), (some 22, [7]), (some 23, [21, 22]), (some 24, [23]), (some 25, [24]), (some 26, [25]), (some 27, [20, 26])] [0, 0, 3, 7, 15, 31, 0, 0, 192, 448, 960, 1984, 4095] (by kernel_rfl) <| dq rfl rfl (p_move (v := .ptrs [(0, 1), (0, 2), (0, 3), (0, 4), (0, 5), (0, 6), (0, 7), (0, 8)]) rfl) <| dq rfl rfl (p_move (v := aI) rfl) <| dq rfl rfl (p_iap (p := (0, 1)) ts222 rfl rfl rfl) <| dq rfl rfl (p_loadp tv225 rfl) <| dq rfl rfl (p_nc rfl) <| dq rfl rfl (p_load (v := aI) tv3 rfl rfl rfl) <| dq rfl rfl (p_move (v := .ptrs [(1, 1), (1, 2), (1, 3), (1, 4), (1, 5), (1, 6), (1, 7), (1, 8)]) rfl) <| dq rfl rfl (p_move (v := aI) rfl) ?_
 refine dq rfl rfl (p_iap (p := (1, 1)) ts222 rfl rfl rfl) <| dq rfl rfl (p_loadp tv225 rfl) <| dq rfl rfl (p_nc rfl) <| dq rfl rfl (p_load (v := aI) tv3 rfl rfl rfl) <| dq rfl rfl (p_neq rfl rfl) <| d_ek (fr' := [(2, .box 0 0), (3, .box 1 0), (5, .ptrs [(0, 1), (0, 2), (0, 3), (0, 4), (0, 5), (0, 6), (0, 7), (0, 8)]), (6, .ptrs [(1, 1), (1, 2), (1, 3), (1, 4), (1, 5), (1, 6), (1, 7), (1, 8)]), (11, aI), (12, aI), (27, aB)]) rfl rfl <| w_ch h5 rfl (fun hb7 h7 => ?_) (fun hb7 h7 => ?_)
 ·
  refine w_sr <| sB rfl <| o_ek (fr' := [(4, aB)]) rfl rfl <| w_ret <| e_blk_r <| e_seq_r <| e_seq_r <| e_blk_r <| e_seq_r ?_
  obtain rfl := sy h7
  exact e_ret (rs' := [.tmp 4]) rfl <| r_tmp (v := aB) rfl <| r_nil <| fin_gen [] rfl rfl rfl lr st_nil
 ·
  refine w_skip <| e_blk_n <| e_kw <| w_region <| o_p rfl (p_k (p_add rfl rfl) (show _ = .int .i64 (1 : Int) from rfl)) <| mI rfl <| o_end (fr' := [(2, .box 0 0), (3, .box 1 0), (5, .ptrs [(0, 1), (0, 2), (0, 3), (0, 4), (0, 5), (0, 6), (0, 7), (0, 8)]), (6, .ptrs [(1, 1), (1, 2), (1, 3), (1, 4), (1, 5), (1, 6), (1, 7), (1, 8)]), (11, aI), (12, aI), (27, aB)]) rfl <| e_seq_n <| lu_s <| w_sr <| o_p rfl (p_k (p_lss rfl rfl) (show _ = .bool true from rfl)) <| o_ek (fr' := [(2, .box 0 0), (3, .box 1 0), (5, .ptrs [(0, 1), (0, 2), (0, 3), (0, 4), (0, 5), (0, 6), (0, 7), (0, 8)]), (6, .ptrs [(1, 1), (1, 2), (1, 3), (1, 4), (1, 5), (1, 6), (1, 7), (1, 8)]), (11, aI), (12, aI), (13, aB)]) rfl rfl ?_
  refine w_seqw <| w_cond_t rfl <| w_skip <| e_kw <| w_seqw <| w_block <| w_sr <| mI rfl <| sI rfl <| o_ek (fr' := [(2, .box 0 0), (3, .box 1 0), (5, .ptrs [(0, 1), (0, 2), (0, 3), (0, 4), (0, 5), (0, 6), (0, 7), (0, 8)]), (6, .ptrs [(1, 1), (1, 2), (1, 3), (1, 4), (1, 5), (1, 6), (1, 7), (1, 8)]), (7, aI), (11, aI), (12, aI)]) rfl rfl <| w_seqw <| w_planT [.q 0, .q 1, .q 2, .q 3, .q 4, .q 5, .q 6, .q 7, .q 8, .q 9, .q 10, .q 11, .q 12] [(some 15, [5]), (some 16, [7]), (some 17, [15, 16]), (some 18, [17]), (some 19, [18]), (some 20, [19]), (some 21, [6]), (some 22, [7]), (some 23, [21, 22]), (some 24, [23]), (some 25, [24]), (some 26, [25]), (some 27, [20, 26])] [0, 0, 3, 7, 15, 31, 0, 0, 192, 448, 960, 1984, 4095] (by kernel_rfl) ?_
  refine dq rfl rfl (p_move (v := .ptrs [(0, 1), (0, 2), (0, 3), (0, 4), (0, 5), (0, 6), (0, 7), (0, 8)]) rfl) <| dq rfl rfl (p_move (v := aI) rfl) <| dq rfl rfl (p_iap (p := (0, 2)) ts222 rfl rfl rfl) <| dq rfl rfl (p_loadp tv225 rfl) <| dq rfl rfl (p_nc rfl) <| dq rfl rfl (p_load (v := aI) tv3 rfl rfl rfl) <| dq rfl rfl (p_move (v := .ptrs [(1, 1), (1, 2), (1, 3), (1, 4), (1, 5), (1, 6), (1, 7), (1, 8)]) rfl) <| dq rfl rfl (p_move (v := aI) rfl) <| dq rfl rfl (p_iap (p := (1, 2)) ts222 rfl rfl rfl) <| dq rfl rfl (p_loadp tv225 rfl) <| dq rfl rfl (p_nc rfl) <| dq rfl rfl (p_load (v := aI) tv3 rfl rfl rfl) <| dq rfl rfl (p_neq rfl rfl) ?_
  refine d_ek (fr' := [(2, .box 0 0), (3, .box 1 0), (5, .ptrs [(0, 1), (0, 2), (0, 3), (0, 4), (0, 5), (0, 6), (0, 7), (0, 8)]), (6, .ptrs [(1, 1), (1, 2), (1, 3), (1, 4), (1, 5), (1, 6), (1, 7), (1, 8)]), (11, aI), (12, aI), (27, aB)]) rfl rfl <| w_ch h7 rfl (fun hb9 h9 => ?_) (fun hb9 h9 => ?_)
  ·
   refine w_sr <| sB rfl <| o_ek (fr' := [(4, aB)]) rfl rfl <| w_ret <| e_blk_r <| e_seq_r <| e_seq_r <| e_blk_r <| e_seq_r ?_
   obtain rfl := sy h9
   exact e_ret (rs' := [.tmp 4]) rfl <| r_tmp (v := aB) rfl <| r_nil <| fin_gen [] rfl rfl rfl lr st_nil
  ·
   refine w_skip <| e_blk_n <| e_kw <| w_region <| o_p rfl (p_k (p_add rfl rfl) (show _ = .int .i64 (2 : Int) from rfl)) <| mI rfl <| o_end (fr' := [(2, .box 0 0), (3, .box 1 0), (5, .ptrs [(0, 1), (0, 2), (0, 3), (0, 4), (0, 5), (0, 6), (0, 7), (0, 8)]), (6, .ptrs [(1, 1), (1, 2), (1, 3), (1, 4), (1, 5), (1, 6), (1, 7), (1, 8)]), (11, aI), (12, aI), (27, aB)]) rfl <| e_seq_n <| lu_s <| w_sr <| o_p rfl (p_k (p_lss rfl rfl) (show _ = .bool true from rfl)) <| o_ek (fr' := [(2, .box 0 0), (3, .box 1 0), (5, .ptrs [(0, 1), (0, 2), (0, 3), (0, 4), (0, 5), (0, 6), (0, 7), (0, 8)]), (6, .ptrs [(1, 1), (1, 2), (1, 3), (1, 4), (1, 5), (1, 6), (1, 7), (1, 8)]), (11, aI), (12, aI), (13, aB)]) rfl rfl ?_
   refine w_seqw <| w_cond_t rfl <| w_skip <| e_kw <| w_seqw <| w_block <| w_sr <| mI rfl <| sI rfl <| o_ek (fr' := [(2, .box 0 0), (3, .box 1 0), (5, .ptrs [(0, 1), (0, 2), (0, 3), (0, 4), (0, 5), (0, 6), (0, 7), (0, 8)]), (6, .ptrs [(1, 1), (1, 2), (1, 3), (1, 4), (1, 5), (1, 6), (1, 7), (1, 8)]), (7, aI), (11, aI), (12, aI)]) rfl rfl <| w_seqw <| w_planT [.q 0, .q 1, .q 2, .q 3, .q 4, .q 5, .q 6, .q 7, .q 8, .q 9, .q 10, .q 11, .q 12] [(some 15, [5]), (some 16, [7]), (some 17, [15, 16]), (some 18, [17]), (some 19, [18]), (some 20, [19]), (some 21, [6]), (some 22, [7]), (some 23, [21, 22]), (some 24, [23]), (some 25, [24]), (some 26, [25]), (some 27, [20, 26])] [0, 0, 3, 7, 15, 31, 0, 0, 192, 448, 960, 1984, 4095] (by kernel_rfl) ?_
   refine dq rfl rfl (p_move (v := .ptrs [(0, 1), (0, 2), (0, 3), (0, 4), (0, 5), (0, 6), (0, 7), (0, 8)]) rfl) <| dq rfl rfl (p_move (v := aI) rfl) <| dq rfl rfl (p_iap (p := (0, 3)) ts222 rfl rfl rfl) <| dq rfl rfl (p_loadp tv225 rfl) <| dq rfl rfl (p_nc rfl) <| dq rfl rfl (p_load (v := aI) tv3 rfl rfl rfl) <| dq rfl rfl (p_move (v := .ptrs [(1, 1), (1, 2), (1, 3), (1, 4), (1, 5), (1, 6), (1, 7), (1, 8)]) rfl) <| dq rfl rfl (p_move (v := aI) rfl) <| dq rfl rfl (p_iap (p := (1, 3)) ts222 rfl rfl rfl) <| dq rfl rfl (p_loadp tv225 rfl) <| dq rfl rfl (p_nc rfl) <| dq rfl rfl (p_load (v := aI) tv3 rfl rfl rfl) <| dq rfl rfl (p_neq rfl rfl) ?_
   refine d_ek (fr' := [(2, .box 0 0), (3, .box 1 0), (5, .ptrs [(0, 1), (0, 2), (0, 3), (0, 4), (0, 5), (0, 6), (0, 7), (0, 8)]), (6, .ptrs [(1, 1), (1, 2), (1, 3), (1, 4), (1, 5), (1, 6), (1, 7), (1, 8)]), (11, aI), (12, aI), (27, aB)]) rfl rfl <| w_ch h9 rfl (fun hb11 h11 => ?_) (fun hb11 h11 => ?_)
   ·
    refine w_sr <| sB rfl <| o_ek (fr' := [(4, aB)]) rfl rfl <| w_ret <| e_blk_r <| e_seq_r <| e_seq_r <| e_blk_r <| e_seq_r ?_
    obtain rfl := sy h11
    exact e_ret (rs' := [.tmp 4]) rfl <| r_tmp (v := aB) rfl <| r_nil <| fin_gen [] rfl rfl rfl lr st_nil
   ·
    refine w_skip <| e_blk_n <| e_kw <| w_region <| o_p rfl (p_k (p_add rfl rfl) (show _ = .int .i64 (3 : Int) from rfl)) <| mI rfl <| o_end (fr' := [(2, .box 0 0), (3, .box 1 0), (5, .ptrs [(0, 1), (0, 2), (0, 3), (0, 4), (0, 5), (0, 6), (0, 7), (0, 8)]), (6, .ptrs [(1, 1), (1, 2), (1, 3), (1, 4), (1, 5), (1, 6), (1, 7), (1, 8)]), (11, aI), (12, aI), (27, aB)]) rfl <| e_seq_n <| lu_s <| w_sr <| o_p rfl (p_k (p_lss rfl rfl) (show _ = .bool true from rfl)) <| o_ek (fr' := [(2, .box 0 0), (3, .box 1 0), (5, .ptrs [(0, 1), (0, 2), (0, 3), (0, 4), (0, 5), (0, 6), (0, 7), (0, 8)]), (6, .ptrs [(1, 1), (1, 2), (1, 3), (1, 4), (1, 5), (1, 6), (1, 7), (1, 8)]), (11, aI), (12, aI), (13, aB)]) rfl rfl ?_
    refine w_seqw <| w_cond_t rfl <| w_skip <| e_kw <| w_seqw <| w_block <| w_sr <| mI rfl <| sI rfl <| o_ek (fr' := [(2, .box 0 0), (3, .box 1 0), (5, .ptrs [(0, 1), (0, 2), (0, 3), (0, 4), (0, 5), (0, 6), (0, 7), (0, 8)]), (6, .ptrs [(1, 1), (1, 2), (1, 3), (1, 4), (1, 5), (1, 6), (1, 7), (1, 8)]), (7, aI), (11, aI), (12, aI)]) rfl rfl <| w_seqw <| w_planT [.q 0, .q 1, .q 2, .q 3, .q 4, .q 5, .q 6, .q 7, .q 8, .q 9, .q 10, .q 11, .q 12] [(some 15, [5]), (some 16, [7]), (some 17, [15, 16]), (some 18, [17]), (some 19, [18]), (some 20, [19]), (some 21, [6]), (some 22, [7]), (some 23, [21, 22]), (some 24, [23]), (some 25, [24]), (some 26, [25]), (some 27, [20, 26])] [0, 0, 3, 7, 15, 31, 0, 0, 192, 448, 960, 1984, 4095] (by kernel_rfl) ?_
    refine dq rfl rfl (p_move (v := .ptrs [(0, 1), (0, 2), (0, 3), (0, 4), (0, 5), (0, 6), (0, 7), (0, 8)]) rfl) <| dq rfl rfl (p_move (v := aI) rfl) <| dq rfl rfl (p_iap (p := (0, 4)) ts222 rfl rfl rfl) <| dq rfl rfl (p_loadp tv225 rfl) <| dq rfl rfl (p_nc rfl) <| dq rfl rfl (p_load (v := aI) tv3 rfl rfl rfl) <| dq rfl rfl (p_move (v := .ptrs [(1, 1), (1, 2), (1, 3), (1, 4), (1, 5), (1, 6), (1, 7), (1, 8)]) rfl) <| dq rfl rfl (p_move (v := aI) rfl) <| dq rfl rfl (p_iap (p := (1, 4)) ts222 rfl rfl rfl) <| dq rfl rfl (p_loadp tv225 rfl) <| dq rfl rfl (p_nc rfl) <| dq rfl rfl (p_load (v := aI) tv3 rfl rfl rfl) <| dq rfl rfl (p_neq rfl rfl) ?_
    refine d_ek (fr' := [(2, .box 0 0), (3, .box 1 0), (5, .ptrs [(0, 1), (0, 2), (0, 3), (0, 4), (0, 5), (0, 6), (0, 7), (0, 8)]), (6, .ptrs [(1, 1), (1, 2), (1, 3), (1, 4), (1, 5), (1, 6), (1, 7), (1, 8)]), (11, aI), (12, aI), (27, aB)]) rfl rfl <| w_ch h11 rfl (fun hb13 h13 => ?_) (fun hb13 h13 => ?_)
    ·
     refine w_sr <| sB rfl <| o_ek (fr' := [(4, aB)]) rfl rfl <| w_ret <| e_blk_r <| e_seq_r <| e_seq_r <| e_blk_r <| e_seq_r ?_
     obtain rfl := sy h13
     exact e_ret (rs' := [.tmp 4]) rfl <| r_tmp (v := aB) rfl <| r_nil <| fin_gen [] rfl rfl rfl lr st_nil
    ·
     refine w_skip <| e_blk_n <| e_kw <| w_region <| o_p rfl (p_k (p_add rfl rfl) (show _ = .int .i64 (4 : Int) from rfl)) <| mI rfl <| o_end (fr' := [(2, .box 0 0), (3, .box 1 0), (5, .ptrs [(0, 1), (0, 2), (0, 3), (0, 4), (0, 5), (0, 6), (0, 7), (0, 8)]), (6, .ptrs [(1, 1), (1, 2), (1, 3), (1, 4), (1, 5), (1, 6), (1, 7), (1, 8)]), (11, aI), (12, aI), (27, aB)]) rfl <| e_seq_n <| lu_s <| w_sr <| o_p rfl (p_k (p_lss rfl rfl) (show _ = .bool true from rfl)) <| o_ek (fr' := [(2, .box 0 0), (3, .box 1 0), (5, .ptrs [(0, 1), (0, 2), (0, 3), (0, 4), (0, 5), (0, 6), (0, 7), (0, 8)]), (6, .ptrs [(1, 1), (1, 2), (1, 3), (1, 4), (1, 5), (1, 6), (1, 7), (1, 8)]), (11, aI), (12, aI), (13, aB)]) rfl rfl ?_
     refine w_seqw <| w_cond_t rfl <| w_skip <| e_kw <| w_seqw <| w_block <| w_sr <| mI rfl <| sI rfl <| o_ek (fr' := [(2, .box 0 0), (3, .box 1 0), (5, .ptrs [(0, 1), (0, 2), (0, 3), (0, 4), (0, 5), (0, 6), (0, 7), (0, 8)]), (6, .ptrs [(1, 1), (1, 2), (1, 3), (1, 4), (1, 5), (1, 6), (1, 7), (1, 8)]), (7, aI), (11, aI), (12, aI)]) rfl rfl <| w_seqw <| w_planT [.q 0, .q 1, .q 2, .q 3, .q 4, .q 5, .q 6, .q 7, .q 8, .q 9, .q 10, .q 11, .q 12] [(some 15, [5]), (some 16, [7]), (some 17, [15, 16]), (some 18, [17]), (some 19, [18]), (some 20, [19]), (some 21, [6]), (some 22, [7]), (some 23, [21, 22]), (some 24, [23]), (some 25, [24]), (some 26, [25]), (some 27, [20, 26])] [0, 0, 3, 7, 15, 31, 0, 0, 192, 448, 960, 1984, 4095] (by kernel_rfl) ?_
     refine dq rfl rfl (p_move (v := .ptrs [(0, 1), (0, 2), (0, 3), (0, 4), (0, 5), (0, 6), (0, 7), (0, 8)]) rfl) <| dq rfl rfl (p_move (v := aI) rfl) <| dq rfl rfl (p_iap (p := (0, 5)) ts222 rfl rfl rfl) <| dq rfl rfl (p_loadp tv225 rfl) <| dq rfl rfl (p_nc rfl) <| dq rfl rfl (p_load (v := aI) tv3 rfl rfl rfl) <| dq rfl rfl (p_move (v := .ptrs [(1, 1), (1, 2), (1, 3), (1, 4), (1, 5), (1, 6), (1, 7), (1, 8)]) rfl) <| dq rfl rfl (p_move (v := aI) rfl) <| dq rfl rfl (p_iap (p := (1, 5)) ts222 rfl rfl rfl) <| dq rfl rfl (p_loadp tv225 rfl) <| dq rfl rfl (p_nc rfl) <| dq rfl rfl (p_load (v := aI) tv3 rfl rfl rfl) <| dq rfl rfl (p_neq rfl rfl) ?_
     refine d_ek (fr' := [(2, .box 0 0), (3, .box 1 0), (5, .ptrs [(0, 1), (0, 2), (0, 3), (0, 4), (0, 5), (0, 6), (0, 7), (0, 8)]), (6, .ptrs [(1, 1), (1, 2), (1, 3), (1, 4), (1, 5), (1, 6), (1, 7), (1, 8)]), (11, aI), (12, aI), (27, aB)]) rfl rfl <| w_ch h13 rfl (fun hb15 h15 => ?_) (fun hb15 h15 => ?_)
     ·
      refine w_sr <| sB rfl <| o_ek (fr' := [(4, aB)]) rfl rfl <| w_ret <| e_blk_r <| e_seq_r <| e_seq_r <| e_blk_r <| e_seq_r ?_
      obtain rfl := sy h15
      exact e_ret (rs' := [.tmp 4]) rfl <| r_tmp (v := aB) rfl <| r_nil <| fin_gen [] rfl rfl rfl lr st_nil
     ·
      refine w_skip <| e_blk_n <| e_kw <| w_region <| o_p rfl (p_k (p_add rfl rfl) (show _ = .int .i64 (5 : Int) from rfl)) <| mI rfl <| o_end (fr' := [(2, .box 0 0), (3, .box 1 0), (5, .ptrs [(0, 1), (0, 2), (0, 3), (0, 4), (0, 5), (0, 6), (0, 7), (0, 8)]), (6, .ptrs [(1, 1), (1, 2), (1, 3), (1, 4), (1, 5), (1, 6), (1, 7), (1, 8)]), (11, aI), (12, aI), (27, aB)]) rfl <| e_seq_n <| lu_s <| w_sr <| o_p rfl (p_k (p_lss rfl rfl) (show _ = .bool true from rfl)) <| o_ek (fr' := [(2, .box 0 0), (3, .box 1 0), (5, .ptrs [(0, 1), (0, 2), (0, 3), (0, 4), (0, 5), (0, 6), (0, 7), (0, 8)]), (6, .ptrs [(1, 1), (1, 2), (1, 3), (1, 4), (1, 5), (1, 6), (1, 7), (1, 8)]), (11, aI), (12, aI), (13, aB)]) rfl rfl ?_
      refine w_seqw <| w_cond_t rfl <| w_skip <| e_kw <| w_seqw <| w_block <| w_sr <| mI rfl <| sI rfl <| o_ek (fr' := [(2, .box 0 0), (3, .box 1 0), (5, .ptrs [(0, 1), (0, 2), (0, 3), (0, 4), (0, 5), (0, 6), (0, 7), (0, 8)]), (6, .ptrs [(1, 1), (1, 2), (1, 3), (1, 4), (1, 5), (1, 6), (1, 7), (1, 8)]), (7, aI), (11, aI), (12, aI)]) rfl rfl <| w_seqw <| w_planT [.q 0, .q 1, .q 2, .q 3, .q 4, .q 5, .q 6, .q 7, .q 8, .q 9, .q 10, .q 11, .q 12] [(some 15, [5]), (some 16, [7]), (some 17, [15, 16]), (some 18, [17]), (some 19, [18]), (some 20, [19]), (some 21, [6]), (some 22, [7]), (some 23, [21, 22]), (some 24, [23]), (some 25, [24]), (some 26, [25]), (some 27, [20, 26])] [0, 0, 3, 7, 15, 31, 0, 0, 192, 448, 960, 1984, 4095] (by kernel_rfl) ?_
      refine dq rfl rfl (p_move (v := .ptrs [(0, 1), (0, 2), (0, 3), (0, 4), (0, 5), (0, 6), (0, 7), (0, 8)]) rfl) <| dq rfl rfl (p_move (v := aI) rfl) <| dq rfl rfl (p_iap (p := (0, 6)) ts222 rfl rfl rfl) <| dq rfl rfl (p_loadp tv225 rfl) <| dq rfl rfl (p_nc rfl) <| dq rfl rfl (p_load (v := aI) tv3 rfl rfl rfl) <| dq rfl rfl (p_move (v := .ptrs [(1, 1), (1, 2), (1, 3), (1, 4), (1, 5), (1, 6), (1, 7), (1, 8)]) rfl) <| dq rfl rfl (p_move (v := aI) rfl) <| dq rfl rfl (p_iap (p := (1, 6)) ts222 rfl rfl rfl) <| dq rfl rfl (p_loadp tv225 rfl) <| dq rfl rfl (p_nc rfl) <| dq rfl rfl (p_load (v := aI) tv3 rfl rfl rfl) <| dq rfl rfl (p_neq rfl rfl) ?_
      refine d_ek (fr' := [(2, .box 0 0), (3, .box 1 0), (5, .ptrs [(0, 1), (0, 2), (0, 3), (0, 4), (0, 5), (0, 6), (0, 7), (0, 8)]), (6, .ptrs [(1, 1), (1, 2), (1, 3), (1, 4), (1, 5), (1, 6), (1, 7), (1, 8)]), (11, aI), (12, aI), (27, aB)]) rfl rfl <| w_ch h15 rfl (fun hb17 h17 => ?_) (fun hb17 h17 => ?_)
      ·
       refine w_sr <| sB rfl <| o_ek (fr' := [(4, aB)]) rfl rfl <| w_ret <| e_blk_r <| e_seq_r <| e_seq_r <| e_blk_r <| e_seq_r ?_
       obtain rfl := sy h17
       exact e_ret (rs' := [.tmp 4]) rfl <| r_tmp (v := aB) rfl <| r_nil <| fin_gen [] rfl rfl rfl lr st_nil
      ·
       refine w_skip <| e_blk_n <| e_kw <| w_region <| o_p rfl (p_k (p_add rfl rfl) (show _ = .int .i64 (6 : Int) from rfl)) <| mI rfl <| o_end (fr' := [(2, .box 0 0), (3, .box 1 0), (5, .ptrs [(0, 1), (0, 2), (0, 3), (0, 4), (0, 5), (0, 6), (0, 7), (0, 8)]), (6, .ptrs [(1, 1), (1, 2), (1, 3), (1, 4), (1, 5), (1, 6), (1, 7), (1, 8)]), (11, aI), (12, aI), (27, aB)]) rfl <| e_seq_n <| lu_s <| w_sr <| o_p rfl (p_k (p_lss rfl rfl) (show _ = .bool true from rfl)) <| o_ek (fr' := [(2, .box 0 0), (3, .box 1 0), (5, .ptrs [(0, 1), (0, 2), (0, 3), (0, 4), (0, 5), (0, 6), (0, 7), (0, 8)]), (6, .ptrs [(1, 1), (1, 2), (1, 3), (1, 4), (1, 5), (1, 6), (1, 7), (1, 8)]), (11, aI), (12, aI), (13, aB)]) rfl rfl ?_
       refine w_seqw <| w_cond_t rfl <| w_skip <| e_kw <| w_seqw <| w_block <| w_sr <| mI rfl <| sI rfl <| o_ek (fr' := [(2, .box 0 0), (3, .box 1 0), (5, .ptrs [(0, 1), (0, 2), (0, 3), (0, 4), (0, 5), (0, 6), (0, 7), (0, 8)]), (6, .ptrs [(1, 1), (1, 2), (1, 3), (1, 4), (1, 5), (1, 6), (1, 7), (1, 8)]), (7, aI), (11, aI), (12, aI)]) rfl rfl <| w_seqw <| w_planT [.q 0, .q 1, .q 2, .q 3, .q 4, .q 5, .q 6, .q 7, .q 8, .q 9, .q 10, .q 11, .q 12] [(some 15, [5]), (some 16, [7]), (some 17, [15, 16]), (some 18, [17]), (some 19, [18]), (some 20, [19]), (some 21, [6]), (some 22, [7]), (some 23, [21, 22]), (some 24, [23]), (some 25, [24]), (some 26, [25]), (some 27, [20, 26])] [0, 0, 3, 7, 15, 31, 0, 0, 192, 448, 960, 1984, 4095] (by kernel_rfl) ?_
       refine dq rfl rfl (p_move (v := .ptrs [(0, 1), (0, 2), (0, 3), (0, 4), (0, 5), (0, 6), (0, 7), (0, 8)]) rfl) <| dq rfl rfl (p_move (v := aI) rfl) <| dq rfl rfl (p_iap (p := (0, 7)) ts222 rfl rfl rfl) <| dq rfl rfl (p_loadp tv225 rfl) <| dq rfl rfl (p_nc rfl) <| dq rfl rfl (p_load (v := aI) tv3 rfl rfl rfl) <| dq rfl rfl (p_move (v := .ptrs [(1, 1), (1, 2), (1, 3), (1, 4), (1, 5), (1, 6), (1, 7), (1, 8)]) rfl) <| dq rfl rfl (p_move (v := aI) rfl) <| dq rfl rfl (p_iap (p := (1, 7)) ts222 rfl rfl rfl) <| dq rfl rfl (p_loadp tv225 rfl) <| dq rfl rfl (p_nc rfl) <| dq rfl rfl (p_load (v := aI) tv3 rfl rfl rfl) <| dq rfl rfl (p_neq rfl rfl) ?_
       refine d_ek (fr' := [(2, .box 0 0), (3, .box 1 0), (5, .ptrs [(0, 1), (0, 2), (0, 3), (0, 4), (0, 5), (0, 6), (0, 7), (0, 8)]), (6, .ptrs [(1, 1), (1, 2), (1, 3), (1, 4), (1, 5), (1, 6), (1, 7), (1, 8)]), (11, aI), (12, aI), (27, aB)]) rfl rfl <| w_ch h17 rfl (fun hb19 h19 => ?_) (fun hb19 h19 => ?_)
       ·
        refine w_sr <| sB rfl <| o_ek (fr' := [(4, aB)]) rfl rfl <| w_ret <| e_blk_r <| e_seq_r <| e_seq_r <| e_blk_r <| e_seq_r ?_
        obtain rfl := sy h19
        exact e_ret (rs' := [.tmp 4]) rfl <| r_tmp (v := aB) rfl <| r_nil <| fin_gen [] rfl rfl rfl lr st_nil
       ·
        refine w_skip <| e_blk_n <| e_kw <| w_region <| o_p rfl (p_k (p_add rfl rfl) (show _ = .int .i64 (7 : Int) from rfl)) <| mI rfl <| o_end (fr' := [(2, .box 0 0), (3, .box 1 0), (5, .ptrs [(0, 1), (0, 2), (0, 3), (0, 4), (0, 5), (0, 6), (0, 7), (0, 8)]), (6, .ptrs [(1, 1), (1, 2), (1, 3), (1, 4), (1, 5), (1, 6), (1, 7), (1, 8)]), (11, aI), (12, aI), (27, aB)]) rfl <| e_seq_n <| lu_s <| w_sr <| o_p rfl (p_k (p_lss rfl rfl) (show _ = .bool true from rfl)) <| o_ek (fr' := [(2, .box 0 0), (3, .box 1 0), (5, .ptrs [(0, 1), (0, 2), (0, 3), (0, 4), (0, 5), (0, 6), (0, 7), (0, 8)]), (6, .ptrs [(1, 1), (1, 2), (1, 3), (1, 4), (1, 5), (1, 6), (1, 7), (1, 8)]), (11, aI), (12, aI), (13, aB)]) rfl rfl ?_
        refine w_seqw <| w_cond_t rfl <| w_skip <| e_kw <| w_seqw <| w_block <| w_sr <| mI rfl <| sI rfl <| o_ek (fr' := [(2, .box 0 0), (3, .box 1 0), (5, .ptrs [(0, 1), (0, 2), (0, 3), (0, 4), (0, 5), (0, 6), (0, 7), (0, 8)]), (6, .ptrs [(1, 1), (1, 2), (1, 3), (1, 4), (1, 5), (1, 6), (1, 7), (1, 8)]), (7, aI), (11, aI), (12, aI)]) rfl rfl <| w_seqw <| w_planT [.q 0, .q 1, .q 2, .q 3, .q 4, .q 5, .q 6, .q 7, .q 8, .q 9, .q 10, .q 11, .q 12] [(some 15, [5]), (some 16, [7]), (some 17, [15, 16]), (some 18, [17]), (some 19, [18]), (some 20, [19]), (some 21, [6]), (some 22, [7]), (some 23, [21, 22]), (some 24, [23]), (some 25, [24]), (some 26, [25]), (some 27, [20, 26])] [0, 0, 3, 7, 15, 31, 0, 0, 192, 448, 960, 1984, 4095] (by kernel_rfl) ?_
        refine dq rfl rfl (p_move (v := .ptrs [(0, 1), (0, 2), (0, 3), (0, 4), (0, 5), (0, 6), (0, 7), (0, 8)]) rfl) <| dq rfl rfl (p_move (v := aI) rfl) <| dq rfl rfl (p_iap (p := (0, 8)) ts222 rfl rfl rfl) <| dq rfl rfl (p_loadp tv225 rfl) <| dq rfl rfl (p_nc rfl) <| dq rfl rfl (p_load (v := aI) tv3 rfl rfl rfl) <| dq rfl rfl (p_move (v := .ptrs [(1, 1), (1, 2), (1, 3), (1, 4), (1, 5), (1, 6), (1, 7), (1, 8)]) rfl) <| dq rfl rfl (p_move (v := aI) rfl) <| dq rfl rfl (p_iap (p := (1, 8)) ts222 rfl rfl rfl) <| dq rfl rfl (p_loadp tv225 rfl) <| dq rfl rfl (p_nc rfl) <| dq rfl rfl (p_load (v := aI) tv3 rfl rfl rfl) <| dq rfl rfl (p_neq rfl rfl) ?_
        refine d_ek (fr' := [(2, .box 0 0), (3, .box 1 0), (5, .ptrs [(0, 1), (0, 2), (0, 3), (0, 4), (0, 5), (0, 6), (0, 7), (0, 8)]), (6, .ptrs [(1, 1), (1, 2), (1, 3), (1, 4), (1, 5), (1, 6), (1, 7), (1, 8)]), (11, aI), (12, aI), (27, aB)]) rfl rfl <| w_ch h19 rfl (fun hb21 h21 => ?_) (fun hb21 h21 => ?_)
        ·
         refine w_sr <| sB rfl <| o_ek (fr' := [(4, aB)]) rfl rfl <| w_ret <| e_blk_r <| e_seq_r <| e_seq_r <| e_blk_r <| e_seq_r ?_
         obtain rfl := sy h21
         exact e_ret (rs' := [.tmp 4]) rfl <| r_tmp (v := aB) rfl <| r_nil <| fin_gen [] rfl rfl rfl lr st_nil
        ·
         refine w_skip <| e_blk_n <| e_kw <| w_region <| o_p rfl (p_k (p_add rfl rfl) (show _ = .int .i64 (8 : Int) from rfl)) <| mI rfl <| o_end (fr' := [(2, .box 0 0), (3, .box 1 0), (5, .ptrs [(0, 1), (0, 2), (0, 3), (0, 4), (0, 5), (0, 6), (0, 7), (0, 8)]), (6, .ptrs [(1, 1), (1, 2), (1, 3), (1, 4), (1, 5), (1, 6), (1, 7), (1, 8)]), (11, aI), (12, aI), (27, aB)]) rfl <| e_seq_n <| lu_s <| w_sr <| o_p rfl (p_k (p_lss rfl rfl) (show _ = .bool false from rfl)) <| o_ek (fr' := [(2, .box 0 0), (3, .box 1 0), (5, .ptrs [(0, 1), (0, 2), (0, 3), (0, 4), (0, 5), (0, 6), (0, 7), (0, 8)]), (6, .ptrs [(1, 1), (1, 2), (1, 3), (1, 4), (1, 5), (1, 6), (1, 7), (1, 8)]), (11, aI), (12, aI), (13, aB)]) rfl rfl ?_
         refine w_seqw <| w_cond_f rfl <| w_exit <| e_seq_x <| e_seq_x <| e_blk_h <| e_kw <| w_sr <| o_p rfl (p_fa tf114x0 rfl) <| o_p rfl (p_load (v := aS) tv9 rfl rfl rfl) <| o_p rfl (p_fa tf114x0 rfl) <| o_p rfl (p_load (v := aS) tv9 rfl rfl rfl) ?_
         refine o_p rfl (p_seql rfl rfl) <| mB rfl <| og rfl rfl rfl (fun hc => (p_fa tf114x9 rfl)) <| og rfl rfl rfl (fun hc => (p_load (v := aL) tv110 (gx rfl hc) rfl rfl)) <| og rfl rfl rfl (fun hc => (p_fa tf114x9 rfl)) <| og rfl rfl rfl (fun hc => (p_load (v := aL) tv110 (gx rfl hc) rfl rfl)) ?_
         obtain ⟨x23, hx23, h24⟩ := bind_s h21
         refine o_g rfl rfl (fun hc => ov_call (v := aB) rfl (w_slices_Equal_string_string (gd_some hx23 hc)) ⟨(le_gv (gx rfl hc) lr), (le_gv (gx rfl hc) lr), trivial⟩ (ok_eq (by repeat (first | exact ok_nil | refine ok_cons rfl ?_ | refine ok_cons (dgv rfl) ?_ | refine ok_cons dar ?_))) rfl rfl) ?_
         refine o_p rfl (p_picky rfl rfl rfl (fun e => keq e)) <| sB rfl <| o_ek (fr' := [(4, aB)]) rfl rfl <| w_ret ?_
         obtain rfl := sy h24
         exact e_ret (rs' := [.tmp 4]) rfl <| r_tmp (v := aB) rfl <| r_nil <| fin_gen [] rfl rfl rfl lr st_nil
noncomputable def command_bare (p0c : ApiCommand) (p1u : CommandUses) : Option Bool :=
 (gd (((cond (cond (cond (cond p1u.seq_ true (decide (p0c.Seq = (0 : Int)))) (cond p1u.name_ true (decide (p0c.Name = ([] : List UInt8)))) false) (cond p1u.key_ true (decide (p0c.Key = ([] : List UInt8)))) false) (cond p1u.n_ true (decide (p0c.N = (0 : Int)))) false) == true) && (p1u.data_ == false)) (value_Same p0c.Data (ApiValue.mk (0 : Int) (0 : Int) ([] : List UInt8) ([] : (List ApiValue)) ([] : (List (List UInt8)))))).bind fun (x1 : Bool) => (gd (((cond (cond (cond (cond (cond p1u.seq_ true (decide (p0c.Seq = (0 : Int)))) (cond p1u.name_ true (decide (p0c.Name = ([] : List UInt8)))) false) (cond p1u.key_ true (decide (p0c.Key = ([] : List UInt8)))) false) (cond p1u.n_ true (decide (p0c.N = (0 : Int)))) false) (cond p1u.data_ true x1) false) == true) && (p1u.opts_ == false)) (command_SamePolicy p0c.Opts (ApiPolicy.mk ([] : List UInt8) (0 : Int) (0 : Int) (0 : Int) (0 : Int) (0 : Int) (0 : Int) (0 : Int) (0 : Int) ([] : (List (List UInt8)))))).bind fun (x3 : Bool) => some (cond (cond (cond (cond (cond (cond p1u.seq_ true (decide (p0c.Seq = (0 : Int)))) (cond p1u.name_ true (decide (p0c.Name = ([] : List UInt8)))) false) (cond p1u.key_ true (decide (p0c.Key = ([] : List UInt8)))) false) (cond p1u.n_ true (decide (p0c.N = (0 : Int)))) false) (cond p1u.data_ true x1) false) (cond p1u.opts_ true x3) false)
theorem w_command_bare {p0c : ApiCommand} {p1u : CommandUses} {res : Bool} (h : command_bare p0c p1u = some res) : ACalls Tryd.prog 157 [.agg (AV.cs (rowApiCommand p0c)), .agg (AV.cs (rowCommandUses p1u))] [] (.c (.bool res)) [] := by
 unfold command_bare at h
 refine acalls (fn := Tryd.f157) [0, 1, 2, 3, 4] (by kernel_rfl) Tryd.func157 rfl (by kernel_rfl) (by kernel_rfl) <| w_sr <| o_box (v := .agg aIISSIIISLLSIIIIIIIIL) (n := 0) (cs := aIISSIIISLLSIIIIIIIIL) (σ' := [aIISSIIISLLSIIIIIIIIL]) rfl rfl rfl rfl rfl <| o_box (v := .agg aBBBBBB) (n := 1) (cs := aBBBBBB) (σ' := [aIISSIIISLLSIIIIIIIIL, aBBBBBB]) rfl rfl rfl rfl rfl <| sB rfl <| o_ek (fr' := [(2, .box 0 0), (3, .box 1 0)]) rfl rfl <| w_sr <| o_p rfl (p_fa tf216x0 rfl) <| o_p rfl (p_load (v := aB) tv4 rfl rfl rfl) <| mB rfl <| og rfl rfl rfl (fun hc => (p_fa tf194x1 rfl)) ?_
 refine og rfl rfl rfl (fun hc => (p_load (v := aI) tv3 (gx rfl hc) rfl rfl)) <| og rfl rfl rfl (fun hc => (p_eql (gx rfl hc) rfl)) <| o_p rfl (p_pickz rfl rfl rfl (fun e => keq e)) <| mB rfl <| og rfl rfl rfl (fun hc => (p_fa tf216x1 rfl)) <| og rfl rfl rfl (fun hc => (p_load (v := aB) tv4 (gx rfl hc) rfl rfl)) <| og rfl rfl rfl (fun hc => (p_move (v := aB) (gx rfl hc))) <| o_gg rfl rfl (fun hc => ov_p rfl (p_fa tf194x2 rfl)) <| o_gg rfl rfl (fun hc => ov_p rfl (p_load (v := aS) tv9 (gx rfl hc) rfl rfl)) <| o_gg rfl rfl (fun hc => ov_p rfl (p_seql (gx rfl hc) rfl)) <| og rfl rfl rfl (fun hc => (p_pickz (gx rfl hc) rfl rfl (fun e => band hc (keq e)))) <| o_p rfl (p_picky rfl rfl rfl (fun e => keq e)) <| mB rfl ?_
 refine og rfl rfl rfl (fun hc => (p_fa tf216x2 rfl)) <| og rfl rfl rfl (fun hc => (p_load (v := aB) tv4 (gx rfl hc) rfl rfl)) <| og rfl rfl rfl (fun hc => (p_move (v := aB) (gx rfl hc))) <| o_gg rfl rfl (fun hc => ov_p rfl (p_fa tf194x3 rfl)) <| o_gg rfl rfl (fun hc => ov_p rfl (p_load (v := aS) tv9 (gx rfl hc) rfl rfl)) <| o_gg rfl rfl (fun hc => ov_p rfl (p_seql (gx rfl hc) rfl)) <| og rfl rfl rfl (fun hc => (p_pickz (gx rfl hc) rfl rfl (fun e => band hc (keq e)))) <| o_p rfl (p_picky rfl rfl rfl (fun e => keq e)) <| mB rfl <| og rfl rfl rfl (fun hc => (p_fa tf216x3 rfl)) <| og rfl rfl rfl (fun hc => (p_load (v := aB) tv4 (gx rfl hc) rfl rfl)) <| og rfl rfl rfl (fun hc => (p_move (v := aB) (gx rfl hc))) <| o_gg rfl rfl (fun hc => ov_p rfl (p_fa tf194x4 rfl)) ?_
 refine o_gg rfl rfl (fun hc => ov_p rfl (p_load (v := aI) tv3 (gx rfl hc) rfl rfl)) <| o_gg rfl rfl (fun hc => ov_p rfl (p_eql (gx rfl hc) rfl)) <| og rfl rfl rfl (fun hc => (p_pickz (gx rfl hc) rfl rfl (fun e => band hc (keq e)))) <| o_p rfl (p_picky rfl rfl rfl (fun e => keq e)) <| mB rfl <| og rfl rfl rfl (fun hc => (p_fa tf216x4 rfl)) <| og rfl rfl rfl (fun hc => (p_load (v := aB) tv4 (gx rfl hc) rfl rfl)) <| og rfl rfl rfl (fun hc => (p_move (v := aB) (gx rfl hc))) <| o_gg rfl rfl (fun hc => ov_p rfl (p_fa tf194x5 rfl)) <| o_gg rfl rfl (fun hc => ov_p rfl (p_loads (us := aIISLL) tv112 (gx rfl hc) rfl rfl rfl)) <| o_gg rfl rfl (fun hc => ov_p rfl (p_build (cs := [aI, aI, aS, AV.nil, AV.nil]) tb112 rfl)) ?_
 obtain ⟨x1, hx1, h2⟩ := bind_s h
 refine o_gg rfl rfl (fun hc => ov_call (v := aB) rfl (w_value_Same (gd_some hx1 hc)) ⟨(le_gv (gx rfl hc) (le_aggc rfl ⟨rfl, rfl, rfl, rfl, rfl, trivial⟩)), (le_gv (gx rfl hc) (le_aggc rfl ⟨rfl, rfl, rfl, ⟨_, rfl⟩, ⟨_, rfl⟩, trivial⟩)), trivial⟩ (ok_eq (by repeat (first | exact ok_nil | refine ok_cons rfl ?_ | refine ok_cons (dgv rfl) ?_ | refine ok_cons dar ?_))) rfl rfl) ?_
 refine og rfl rfl rfl (fun hc => (p_pickz (gx rfl hc) rfl rfl (fun e => band hc (keq e)))) <| o_p rfl (p_picky rfl rfl rfl (fun e => keq e)) <| mB rfl <| og rfl rfl rfl (fun hc => (p_fa tf216x5 rfl)) <| og rfl rfl rfl (fun hc => (p_load (v := aB) tv4 (gx rfl hc) rfl rfl)) <| og rfl rfl rfl (fun hc => (p_move (v := aB) (gx rfl hc))) <| o_gg rfl rfl (fun hc => ov_p rfl (p_fa tf194x6 rfl)) <| o_gg rfl rfl (fun hc => ov_p rfl (p_loads (us := aSIIIIIIIIL) tv114 (gx rfl hc) rfl rfl rfl)) <| o_gg rfl rfl (fun hc => ov_p rfl (p_buildc (c0 := [aS, aI, aI, aI, aI, aI, aI, aI, aI, AV.nil]) (cs := [aS, aI, aI, aI, aI, aI, aI, aI, aI, AV.nil]) tb114 rfl fill_nil)) ?_
 obtain ⟨x3, hx3, h4⟩ := bind_s h2
 refine o_gg rfl rfl (fun hc => ov_call (v := aB) rfl (w_command_SamePolicy (gd_some hx3 hc)) ⟨(le_gv (gx rfl hc) (le_aggc rfl ⟨rfl, rfl, rfl, rfl, rfl, rfl, rfl, rfl, rfl, rfl, trivial⟩)), (le_gv (gx rfl hc) (le_aggc rfl ⟨rfl, rfl, rfl, rfl, rfl, rfl, rfl, rfl, rfl, ⟨_, rfl⟩, trivial⟩)), trivial⟩ (ok_eq (by repeat (first | exact ok_nil | refine ok_cons rfl ?_ | refine ok_cons (dgv rfl) ?_ | refine ok_cons dar ?_))) rfl rfl) ?_
 refine og rfl rfl rfl (fun hc => (p_pickz (gx rfl hc) rfl rfl (fun e => band hc (keq e)))) <| o_p rfl (p_picky rfl rfl rfl (fun e => keq e)) <| sB rfl <| o_ek (fr' := [(4, aB)]) rfl rfl <| w_ret ?_
 obtain rfl := sy h4
 exact e_ret (rs' := [.tmp 4]) rfl <| r_tmp (v := aB) rfl <| r_nil <| fin_gen [] rfl rfl rfl lr st_nil
noncomputable def command_RightPolicy_1 (p0s : (List UInt8)) : Option Bool :=
 some (decide ((4096 : Int) < ((p0s).length : Int)))
theorem w_command_RightPolicy_1 {p0s : (List UInt8)} {res : Bool} (h : command_RightPolicy_1 p0s = some res) : ACalls Tryd.prog 178 [.c (.str p0s)] [] (.c (.bool res)) [] := by
 unfold command_RightPolicy_1 at h
 refine acalls (fn := Tryd.f178) [0, 2] (by kernel_rfl) Tryd.func178 rfl (by kernel_rfl) (by kernel_rfl) <| w_sr <| sB rfl <| o_ek (fr' := [(0, aS)]) rfl rfl <| w_sr <| mS rfl <| o_p rfl (p_lens ti9 rfl) <| o_p rfl (p_gtr rfl rfl) <| sB rfl <| o_ek (fr' := [(2, aB)]) rfl rfl <| w_ret ?_
 obtain rfl := sy h
 exact e_ret (rs' := [.tmp 2]) rfl <| r_tmp (v := aB) rfl <| r_nil <| fin_gen [] rfl rfl rfl lr st_nil
noncomputable def slices_IndexFunc_string_string_command_RightPolicy_1_l1 (p0s : (List (List UInt8))) (s4 : Int) : Option (Step Int (Fl Int Unit)) :=
 cond (decide (s4 < ((p0s).length : Int))) ((idx p0s s4).bind fun (x6 : (List UInt8)) => (command_RightPolicy_1 x6).bind fun (x8 : Bool) => cond x8 (some (Step.out (Fl.done s4))) (some (Step.next (IntKind.wrap .i64 (s4 + (1 : Int)))))) (some (Step.out (Fl.go ())))
noncomputable def slices_IndexFunc_string_string_command_RightPolicy_1 (p0s : (List (List UInt8))) : Option Int :=
 ((loopO (slices_IndexFunc_string_string_command_RightPolicy_1_l1 p0s) ((0 : Int))) : Option (Fl Int Unit)).bind fun (x1 : (Fl Int Unit)) => Fl.next x1 (fun (j3 : Unit) => (some (-1 : Int)))
theorem w_slices_IndexFunc_string_string_command_RightPolicy_1 {p0s : (List (List UInt8))} {res : Int} (h : slices_IndexFunc_string_string_command_RightPolicy_1 p0s = some res) : ACalls Tryd.prog 183 [.c (PV.ls 1 rowS p0s), .fn 178 []] [] (.c (.int .i64 res)) [] := by
 unfold slices_IndexFunc_string_string_command_RightPolicy_1 at h
 refine acalls (fn := Tryd.f183) [0, 1, 4, 5, 7, 8, 9, 16] (by kernel_rfl) Tryd.func183 rfl (by kernel_rfl) (by kernel_rfl) <| w_sr <| sI rfl <| o_ek (fr' := [(0, aL), (1, .fn _ [])]) rfl rfl <| w_seqw <| w_sr <| mL rfl <| o_p rfl (p_len ti110 (isl_c rfl)) <| mI rfl <| o_ek (fr' := [(0, aL), (1, .fn _ []), (7, aI), (8, aI)]) rfl rfl ?_
 obtain ⟨x1, hx1, h2⟩ := bind_s h
 refine w_jtail cl_kw (fun j3 => x1 = Fl.go j3) (fun (j3 : Unit) => ([] : Fr)) (fun (j3 : Unit) => ([] : St)) ?_ ?_
 ·
  refine w_block <| w_loopo _ (fun (s4 : Int) => ([(0, .c (PV.ls 1 rowS p0s)), (1, .fn 178 []), (7, .c (.int .i64 ((p0s).length : Int))), (8, .c (.int .i64 s4))] : Fr)) (fun (s4 : Int) => ([] : St)) hx1 (w_weak [] 0 rfl rfl rfl rfl ⟨lr, lr, lr, lr, trivial⟩ st_nil) ?_
  intro s4 st4 hs4 ho4
  unfold slices_IndexFunc_string_string_command_RightPolicy_1_l1 at hs4
  refine w_sr <| o_p rfl (p_lss rfl rfl) <| o_ek (fr' := [(0, aL), (1, .fn _ []), (7, aI), (8, aI), (9, aB)]) rfl rfl <| w_seqw <| w_ch hs4 rfl (fun hb5 h5 => ?_) (fun hb5 h5 => ?_)
  ·
   refine w_skip <| e_kw <| w_seqw <| w_block <| w_sr <| mI rfl <| sI rfl <| o_ek (fr' := [(0, aL), (1, .fn _ []), (5, aI), (7, aI), (8, aI)]) rfl rfl <| w_sr <| mV (v := .fn _ []) rfl <| mL rfl ?_
   refine mI rfl ?_
   obtain ⟨x6, hx6, h7⟩ := bind_s h5
   refine o_p rfl (p_ia (cs := [PV.str _]) ts110 (isl_c rfl) rfl hx6 rfl) <| o_p rfl (p_loade (p := PV.str _) tv9 rfl rfl) ?_
   obtain ⟨x8, hx8, h9⟩ := bind_s h7
   refine o_v (ov_call (v := aB) rfl (w_command_RightPolicy_1 hx8) ⟨lr, trivial⟩ rfl rfl rfl) <| o_ek (fr' := [(0, aL), (1, .fn _ []), (5, aI), (7, aI), (8, aI), (16, aB)]) rfl rfl <| w_ch h9 rfl (fun hb10 h10 => ?_) (fun hb10 h10 => ?_)
   ·
    refine w_sr <| mI rfl <| sI rfl <| o_ek (fr' := [(4, aI)]) rfl rfl <| w_ret <| e_blk_r <| e_seq_r <| e_seq_r <| e_blk_r <| e_seq_r <| e_seq_r ?_
    have h11 := un_out h10 ho4
    have h12 := un_done h11 h2
    obtain rfl := sy h12
    exact e_ret (rs' := [.tmp 4]) rfl <| r_tmp (v := aI) rfl <| r_nil <| fin_gen [] rfl rfl rfl lr st_nil
   ·
    exact w_skip <| e_blk_n <| e_kw <| w_region <| o_p rfl (p_add rfl rfl) <| mI rfl <| o_end (fr' := [(0, aL), (1, .fn _ []), (5, aI), (7, aI), (8, aI), (16, aB)]) rfl <| e_l _ (sy h10) (w_weak [] 0 rfl rfl rfl rfl ⟨lr, lr, lr, lr, trivial⟩ st_nil)
  ·
   refine w_exit <| e_seq_x <| e_seq_x <| e_blk_h ?_
   have h14 := un_out h5 ho4
   exact e_j _ (sy h14) (w_weak [] 0 rfl rfl rfl rfl trivial st_nil)
 ·
  intro j3 hj15
  have h15 := un_go hj15 h2
  refine e_kw <| w_sr <| sI rfl <| o_ek (fr' := [(4, aI)]) rfl rfl <| w_ret ?_
  obtain rfl := sy h15
  exact e_ret (rs' := [.tmp 4]) rfl <| r_tmp (v := aI) rfl <| r_nil <| fin_gen [] rfl rfl rfl lr st_nil
noncomputable def slices_ContainsFunc_string_string_command_RightPolicy_1 (p0s : (List (List UInt8))) : Option Bool :=
 (slices_IndexFunc_string_string_command_RightPolicy_1 p0s).bind fun (x1 : Int) => some (decide ((0 : Int) ≤ x1))
theorem w_slices_ContainsFunc_string_string_command_RightPolicy_1 {p0s : (List (List UInt8))} {res : Bool} (h : slices_ContainsFunc_string_string_command_RightPolicy_1 p0s = some res) : ACalls Tryd.prog 174 [.c (PV.ls 1 rowS p0s), .fn 178 []] [] (.c (.bool res)) [] := by
 unfold slices_ContainsFunc_string_string_command_RightPolicy_1 at h
 refine acalls (fn := Tryd.f174) [0, 1, 4] (by kernel_rfl) Tryd.func174 rfl (by kernel_rfl) (by kernel_rfl) <| w_sr <| sB rfl <| o_ek (fr' := [(0, aL), (1, .fn _ [])]) rfl rfl <| w_sr <| mL rfl <| mV (v := .fn _ []) rfl ?_
 obtain ⟨x1, hx1, h2⟩ := bind_s h
 refine o_v (ov_call (v := aI) rfl (w_slices_IndexFunc_string_string_command_RightPolicy_1 hx1) ⟨lr, lr, trivial⟩ rfl rfl rfl) <| o_p rfl (p_geq rfl rfl) <| sB rfl <| o_ek (fr' := [(4, aB)]) rfl rfl <| w_ret ?_
 obtain rfl := sy h2
 exact e_ret (rs' := [.tmp 4]) rfl <| r_tmp (v := aB) rfl <| r_nil <| fin_gen [] rfl rfl rfl lr st_nil
noncomputable def command_RightPolicy_l1 (p0o : ApiPolicy) (s8 : Int) : Option (Step Int (Fl Bool Unit)) :=
 cond (decide (s8 < ((([p0o.ToStart, p0o.ToClose, p0o.Total, p0o.Beat, p0o.First, p0o.Most] : List Int)).length : Int))) ((idx ([p0o.ToStart, p0o.ToClose, p0o.Total, p0o.Beat, p0o.First, p0o.Most] : List Int) s8).bind fun (x10 : Int) => (command_in x10 (0 : Int) (1099511627776 : Int)).bind fun (x12 : Bool) => cond (!x12) (some (Step.out (Fl.done false))) (some (Step.next (IntKind.wrap .i64 (s8 + (1 : Int)))))) (some (Step.out (Fl.go ())))
noncomputable def command_RightPolicy (p0o : ApiPolicy) : Option Bool :=
 (gd ((!decide (p0o.Queue = ([] : List UInt8))) == true) (name_Right p0o.Queue)).bind fun (x1 : Bool) => cond (cond (cond (!decide (p0o.Queue = ([] : List UInt8))) (!x1) false) true (decide ((64 : Int) < ((p0o.Fatal).length : Int)))) (some false) (((loopO (command_RightPolicy_l1 p0o) ((0 : Int))) : Option (Fl Bool Unit)).bind fun (x5 : (Fl Bool Unit)) => Fl.next x5 (fun (j7 : Unit) => ((command_in p0o.Coef (0 : Int) (10000 : Int)).bind fun (x20 : Bool) => (gd (x20 == true) (command_in p0o.Attempts (0 : Int) (1000 : Int))).bind fun (x22 : Bool) => (gd ((cond x20 x22 false) == true) (slices_ContainsFunc_string_string_command_RightPolicy_1 p0o.Fatal)).bind fun (x24 : Bool) => some (cond (cond x20 x22 false) (!x24) false))))
theorem w_command_RightPolicy {p0o : ApiPolicy} {res : Bool} (h : command_RightPolicy p0o = some res) : ACalls Tryd.prog 158 [.agg (AV.cs (rowApiPolicy p0o))] [] (.c (.bool res)) [] := by
 unfold command_RightPolicy at h
 refine acalls (fn := Tryd.f158) [0, 1, 2, 4, 19, 32, 33, 34, 35, 40] (by kernel_rfl) Tryd.func158 rfl (by kernel_rfl) (by kernel_rfl) <| w_sr <| o_box (v := .agg aSIIIIIIIIL) (n := 0) (cs := aSIIIIIIIIL) (σ' := [aSIIIIIIIIL]) rfl rfl rfl rfl rfl <| sB rfl <| o_ek (fr' := [(1, .box 0 0)]) rfl rfl <| w_seqw <| w_sr <| o_p rfl (p_fa tf114x0 rfl) <| o_p rfl (p_load (v := aS) tv9 rfl rfl rfl) <| o_p rfl (p_sneq rfl rfl) <| mB rfl ?_
 refine og rfl rfl rfl (fun hc => (p_fa tf114x0 rfl)) <| og rfl rfl rfl (fun hc => (p_load (v := aS) tv9 (gx rfl hc) rfl rfl)) ?_
 obtain ⟨x1, hx1, h2⟩ := bind_s h
 refine o_g rfl rfl (fun hc => ov_call (v := aB) rfl (w_name_Right (gd_some hx1 hc)) ⟨(le_gv (gx rfl hc) lr), trivial⟩ (ok_eq (by repeat (first | exact ok_nil | refine ok_cons rfl ?_ | refine ok_cons (dgv rfl) ?_ | refine ok_cons dar ?_))) rfl rfl) ?_
 refine og rfl rfl rfl (fun hc => (p_not (gx rfl hc))) <| o_p rfl (p_picky rfl rfl rfl (fun e => keq e)) <| mB rfl <| og rfl rfl rfl (fun hc => (p_fa tf114x9 rfl)) <| og rfl rfl rfl (fun hc => (p_load (v := aL) tv110 (gx rfl hc) rfl rfl)) <| og rfl rfl rfl (fun hc => (p_len ti110 (isl_c (gx rfl hc)))) <| og rfl rfl rfl (fun hc => (p_gtr (gx rfl hc) rfl)) <| o_p rfl (p_pickz rfl rfl rfl (fun e => keq e)) <| o_ek (fr' := [(1, .box 0 0), (19, aB)]) rfl rfl <| w_ch h2 rfl (fun hb3 h3 => ?_) (fun hb3 h3 => ?_)
 ·
  refine w_sr <| sB rfl <| o_ek (fr' := [(2, aB)]) rfl rfl <| w_ret <| e_seq_r ?_
  obtain rfl := sy h3
  exact e_ret (rs' := [.tmp 2]) rfl <| r_tmp (v := aB) rfl <| r_nil <| fin_gen [] rfl rfl rfl lr st_nil
 ·
  refine w_skip <| e_kw <| w_seqw <| w_sr <| o_p rfl (p_fa tf114x1 rfl) <| o_p rfl (p_load (v := aI) tv3 rfl rfl rfl) <| o_p rfl (p_fa tf114x2 rfl) <| o_p rfl (p_load (v := aI) tv3 rfl rfl rfl) <| o_p rfl (p_fa tf114x3 rfl) <| o_p rfl (p_load (v := aI) tv3 rfl rfl rfl) <| o_p rfl (p_fa tf114x4 rfl) <| o_p rfl (p_load (v := aI) tv3 rfl rfl rfl) ?_
  refine o_p rfl (p_fa tf114x5 rfl) <| o_p rfl (p_load (v := aI) tv3 rfl rfl rfl) <| o_p rfl (p_fa tf114x7 rfl) <| o_p rfl (p_load (v := aI) tv3 rfl rfl rfl) <| o_rows (row := (rowI .i64)) (xs := ([p0o.ToStart, p0o.ToClose, p0o.Total, p0o.Beat, p0o.First, p0o.Most] : List Int)) (rows := [[_], [_], [_], [_], [_], [_]]) (σ' := [aSIIIIIIIIL]) [0] ts40 rfl rfl rfl (arow_cons rfl (arow_cons rfl (arow_cons rfl (arow_cons rfl (arow_cons rfl (arow_cons rfl arow_nil)))))) rfl rfl <| o_p rfl (p_len ti40 (isl_o rfl)) <| mI rfl <| o_ek (fr' := [(1, .box 0 0), (32, aO), (33, aI), (34, aI)]) rfl rfl ?_
  obtain ⟨x5, hx5, h6⟩ := bind_s h3
  refine w_jtail cl_kw (fun j7 => x5 = Fl.go j7) (fun (j7 : Unit) => ([(1, .box 0 0)] : Fr)) (fun (j7 : Unit) => ([[.c (.str p0o.Queue), .c (.int .i64 p0o.ToStart), .c (.int .i64 p0o.ToClose), .c (.int .i64 p0o.Total), .c (.int .i64 p0o.Beat), .c (.int .i64 p0o.First), .c (.int .i64 p0o.Coef), .c (.int .i64 p0o.Most), .c (.int .i64 p0o.Attempts), .c (PV.ls 1 rowS p0o.Fatal)]] : St)) ?_ ?_
  ·
   refine w_block <| w_loopo _ (fun (s8 : Int) => ([(1, .box 0 0), (32, AV.os 0 1 (rowI .i64) ([p0o.ToStart, p0o.ToClose, p0o.Total, p0o.Beat, p0o.First, p0o.Most] : List Int)), (33, .c (.int .i64 ((([p0o.ToStart, p0o.ToClose, p0o.Total, p0o.Beat, p0o.First, p0o.Most] : List Int)).length : Int))), (34, .c (.int .i64 s8))] : Fr)) (fun (s8 : Int) => ([[.c (.str p0o.Queue), .c (.int .i64 p0o.ToStart), .c (.int .i64 p0o.ToClose), .c (.int .i64 p0o.Total), .c (.int .i64 p0o.Beat), .c (.int .i64 p0o.First), .c (.int .i64 p0o.Coef), .c (.int .i64 p0o.Most), .c (.int .i64 p0o.Attempts), .c (PV.ls 1 rowS p0o.Fatal)]] : St)) hx5 (w_weak [512] 1 rfl rfl rfl rfl ⟨lr, lr, lr, lr, trivial⟩ (st_r rfl st_nil)) ?_
   intro s8 st8 hs8 ho8
   unfold command_RightPolicy_l1 at hs8
   refine w_sr <| o_p rfl (p_lss rfl rfl) <| o_ek (fr' := [(1, .box 0 0), (32, aO), (33, aI), (34, aI), (35, aB)]) rfl rfl <| w_seqw <| w_ch hs8 rfl (fun hb9 h9 => ?_) (fun hb9 h9 => ?_)
   ·
    refine w_skip <| e_kw <| w_seqw <| w_block <| w_seqw <| w_region ?_
    obtain ⟨x10, hx10, h11⟩ := bind_s h9
    refine o_p rfl (p_ia (cs := [PV.int _ _]) ts40 (isl_o rfl) rfl hx10 rfl) <| o_p rfl (p_loade (p := PV.int _ _) tv3 rfl rfl) <| sI rfl <| o_ek (fr' := [(1, .box 0 0), (4, aI), (32, aO), (33, aI), (34, aI)]) rfl rfl <| w_sr <| mI rfl ?_
    obtain ⟨x12, hx12, h13⟩ := bind_s h11
    refine o_v (ov_call (v := aB) rfl (w_command_in hx12) ⟨lr, lr, lr, trivial⟩ rfl rfl rfl) <| o_p rfl (p_not rfl) <| o_ek (fr' := [(1, .box 0 0), (32, aO), (33, aI), (34, aI), (40, aB)]) rfl rfl <| w_ch h13 rfl (fun hb14 h14 => ?_) (fun hb14 h14 => ?_)
    ·
     refine w_sr <| sB rfl <| o_ek (fr' := [(2, aB)]) rfl rfl <| w_ret <| e_blk_r <| e_seq_r <| e_seq_r <| e_blk_r <| e_seq_r <| e_seq_r ?_
     have h15 := un_out h14 ho8
     have h16 := un_done h15 h6
     obtain rfl := sy h16
     exact e_ret (rs' := [.tmp 2]) rfl <| r_tmp (v := aB) rfl <| r_nil <| fin_gen [] rfl rfl rfl lr st_nil
    ·
     exact w_skip <| e_blk_n <| e_kw <| w_region <| o_p rfl (p_add rfl rfl) <| mI rfl <| o_end (fr' := [(1, .box 0 0), (32, aO), (33, aI), (34, aI), (40, aB)]) rfl <| e_l _ (sy h14) (w_weak [0] 1 rfl rfl rfl rfl ⟨lr, lr, lr, lr, trivial⟩ (st_r rfl st_nil))
   ·
    refine w_exit <| e_seq_x <| e_seq_x <| e_blk_h ?_
    have h18 := un_out h9 ho8
    exact e_j _ (sy h18) (w_weak [] 1 rfl rfl rfl rfl ⟨lr, trivial⟩ (st_r rfl st_nil))
  ·
   intro j7 hj19
   have h19 := un_go hj19 h6
   refine e_kw <| w_sr <| o_p rfl (p_fa tf114x6 rfl) <| o_p rfl (p_load (v := aI) tv3 rfl rfl rfl) ?_
   obtain ⟨x20, hx20, h21⟩ := bind_s h19
   refine o_v (ov_call (v := aB) rfl (w_command_in hx20) ⟨lr, lr, lr, trivial⟩ rfl rfl rfl) <| mB rfl <| og rfl rfl rfl (fun hc => (p_fa tf114x8 rfl)) <| og rfl rfl rfl (fun hc => (p_load (v := aI) tv3 (gx rfl hc) rfl rfl)) ?_
   obtain ⟨x22, hx22, h23⟩ := bind_s h21
   refine o_g rfl rfl (fun hc => ov_call (v := aB) rfl (w_command_in (gd_some hx22 hc)) ⟨(le_gv (gx rfl hc) lr), lr, lr, trivial⟩ (ok_eq (by repeat (first | exact ok_nil | refine ok_cons rfl ?_ | refine ok_cons (dgv rfl) ?_ | refine ok_cons dar ?_))) rfl rfl) ?_
   refine o_p rfl (p_picky rfl rfl rfl (fun e => keq e)) <| mB rfl <| og rfl rfl rfl (fun hc => (p_fa tf114x9 rfl)) <| og rfl rfl rfl (fun hc => (p_load (v := aL) tv110 (gx rfl hc) rfl rfl)) ?_
   obtain ⟨x24, hx24, h25⟩ := bind_s h23
   refine o_g rfl rfl (fun hc => ov_call (v := aB) rfl (w_slices_ContainsFunc_string_string_command_RightPolicy_1 (gd_some hx24 hc)) ⟨(le_gv (gx rfl hc) lr), lr, trivial⟩ (ok_eq (by repeat (first | exact ok_nil | refine ok_cons rfl ?_ | refine ok_cons (dgv rfl) ?_ | refine ok_cons dar ?_))) rfl rfl) ?_
   refine og rfl rfl rfl (fun hc => (p_not (gx rfl hc))) <| o_p rfl (p_picky rfl rfl rfl (fun e => keq e)) <| sB rfl <| o_ek (fr' := [(2, aB)]) rfl rfl <| w_ret ?_
   obtain rfl := sy h25
   exact e_ret (rs' := [.tmp 2]) rfl <| r_tmp (v := aB) rfl <| r_nil <| fin_gen [] rfl rfl rfl lr st_nil
noncomputable def command_ident_l1 (p0s : (List UInt8)) (s4 : Int) : Option (Step Int (Fl Bool Unit)) :=
 cond (decide (s4 < ((p0s).length : Int))) ((idx p0s s4).bind fun (x6 : UInt8) => (gd ((decide (((x6).toNat : Int) < (33 : Int))) == false) (idx p0s s4)).bind fun (x8 : UInt8) => (gd ((cond (decide (((x6).toNat : Int) < (33 : Int))) true (decide ((126 : Int) < ((x8).toNat : Int)))) == false) (idx p0s s4)).bind fun (x10 : UInt8) => (gd ((cond (cond (decide (((x6).toNat : Int) < (33 : Int))) true (decide ((126 : Int) < ((x8).toNat : Int)))) true (decide (((x10).toNat : Int) = (47 : Int)))) == false) (idx p0s s4)).bind fun (x12 : UInt8) => cond (cond (cond (cond (decide (((x6).toNat : Int) < (33 : Int))) true (decide ((126 : Int) < ((x8).toNat : Int)))) true (decide (((x10).toNat : Int) = (47 : Int)))) true (decide (((x12).toNat : Int) = (34 : Int)))) (some (Step.out (Fl.done false))) (some (Step.next (IntKind.wrap .i64 (s4 + (1 : Int)))))) (some (Step.out (Fl.go ())))
noncomputable def command_ident (p0s : (List UInt8)) : Option Bool :=
 ((loopO (command_ident_l1 p0s) ((0 : Int))) : Option (Fl Bool Unit)).bind fun (x1 : (Fl Bool Unit)) => Fl.next x1 (fun (j3 : Unit) => ((command_in ((p0s).length : Int) (1 : Int) (64 : Int)).bind fun (x20 : Bool) => some x20))
theorem w_command_ident {p0s : (List UInt8)} {res : Bool} (h : command_ident p0s = some res) : ACalls Tryd.prog 159 [.c (.str p0s)] [] (.c (.bool res)) [] := by
 unfold command_ident at h
 refine acalls (fn := Tryd.f159) [0, 2, 3, 5, 6, 7, 30] (by kernel_rfl) Tryd.func159 rfl (by kernel_rfl) (by kernel_rfl) <| w_sr <| sB rfl <| o_ek (fr' := [(0, aS)]) rfl rfl <| w_seqw <| w_sr <| mS rfl <| o_p rfl (p_lens ti9 rfl) <| mI rfl <| o_ek (fr' := [(0, aS), (5, aI), (6, aI)]) rfl rfl ?_
 obtain ⟨x1, hx1, h2⟩ := bind_s h
 refine w_jtail cl_kw (fun j3 => x1 = Fl.go j3) (fun (j3 : Unit) => ([(0, .c (.str p0s))] : Fr)) (fun (j3 : Unit) => ([] : St)) ?_ ?_
 ·
  refine w_block <| w_loopo _ (fun (s4 : Int) => ([(0, .c (.str p0s)), (5, .c (.int .i64 ((p0s).length : Int))), (6, .c (.int .i64 s4))] : Fr)) (fun (s4 : Int) => ([] : St)) hx1 (w_weak [] 0 rfl rfl rfl rfl ⟨lr, lr, lr, trivial⟩ st_nil) ?_
  intro s4 st4 hs4 ho4
  unfold command_ident_l1 at hs4
  refine w_sr <| o_p rfl (p_lss rfl rfl) <| o_ek (fr' := [(0, aS), (5, aI), (6, aI), (7, aB)]) rfl rfl <| w_seqw <| w_ch hs4 rfl (fun hb5 h5 => ?_) (fun hb5 h5 => ?_)
  ·
   refine w_skip <| e_kw <| w_seqw <| w_block <| w_sr <| mI rfl <| sI rfl <| o_ek (fr' := [(0, aS), (3, aI), (5, aI), (6, aI)]) rfl rfl <| w_sr <| mS rfl <| mI rfl ?_
   obtain ⟨x6, hx6, h7⟩ := bind_s h5
   refine o_p rfl (p_is ti9 rfl rfl hx6) <| o_p rfl (p_lss rfl rfl) <| mB rfl <| og rfl rfl rfl (fun hc => (p_move (v := aS) rfl)) <| og rfl rfl rfl (fun hc => (p_move (v := aI) rfl)) ?_
   obtain ⟨x8, hx8, h9⟩ := bind_s h7
   refine og rfl rfl rfl (fun hc => (p_is ti9 (gx rfl hc) (gx rfl hc) (gd_some hx8 hc))) <| og rfl rfl rfl (fun hc => (p_gtr (gx rfl hc) rfl)) <| o_p rfl (p_pickz rfl rfl rfl (fun e => keq e)) <| mB rfl <| og rfl rfl rfl (fun hc => (p_move (v := aS) rfl)) <| og rfl rfl rfl (fun hc => (p_move (v := aI) rfl)) ?_
   obtain ⟨x10, hx10, h11⟩ := bind_s h9
   refine og rfl rfl rfl (fun hc => (p_is ti9 (gx rfl hc) (gx rfl hc) (gd_some hx10 hc))) <| og rfl rfl rfl (fun hc => (p_eql (gx rfl hc) rfl)) <| o_p rfl (p_pickz rfl rfl rfl (fun e => keq e)) <| mB rfl <| og rfl rfl rfl (fun hc => (p_move (v := aS) rfl)) <| og rfl rfl rfl (fun hc => (p_move (v := aI) rfl)) ?_
   obtain ⟨x12, hx12, h13⟩ := bind_s h11
   refine og rfl rfl rfl (fun hc => (p_is ti9 (gx rfl hc) (gx rfl hc) (gd_some hx12 hc))) <| og rfl rfl rfl (fun hc => (p_eql (gx rfl hc) rfl)) <| o_p rfl (p_pickz rfl rfl rfl (fun e => keq e)) <| o_ek (fr' := [(0, aS), (5, aI), (6, aI), (30, aB)]) rfl rfl <| w_ch h13 rfl (fun hb14 h14 => ?_) (fun hb14 h14 => ?_)
   ·
    refine w_sr <| sB rfl <| o_ek (fr' := [(2, aB)]) rfl rfl <| w_ret <| e_blk_r <| e_seq_r <| e_seq_r <| e_blk_r <| e_seq_r <| e_seq_r ?_
    have h15 := un_out h14 ho4
    have h16 := un_done h15 h2
    obtain rfl := sy h16
    exact e_ret (rs' := [.tmp 2]) rfl <| r_tmp (v := aB) rfl <| r_nil <| fin_gen [] rfl rfl rfl lr st_nil
   ·
    exact w_skip <| e_blk_n <| e_kw <| w_region <| o_p rfl (p_add rfl rfl) <| mI rfl <| o_end (fr' := [(0, aS), (5, aI), (6, aI), (30, aB)]) rfl <| e_l _ (sy h14) (w_weak [] 0 rfl rfl rfl rfl ⟨lr, lr, lr, trivial⟩ st_nil)
  ·
   refine w_exit <| e_seq_x <| e_seq_x <| e_blk_h ?_
   have h18 := un_out h5 ho4
   exact e_j _ (sy h18) (w_weak [] 0 rfl rfl rfl rfl ⟨lr, trivial⟩ st_nil)
 ·
  intro j3 hj19
  have h19 := un_go hj19 h2
  refine e_kw <| w_sr <| mS rfl <| o_p rfl (p_lens ti9 rfl) ?_
  obtain ⟨x20, hx20, h21⟩ := bind_s h19
  refine o_v (ov_call (v := aB) rfl (w_command_in hx20) ⟨lr, lr, lr, trivial⟩ rfl rfl rfl) <| sB rfl <| o_ek (fr' := [(2, aB)]) rfl rfl <| w_ret ?_
  obtain rfl := sy h21
  exact e_ret (rs' := [.tmp 2]) rfl <| r_tmp (v := aB) rfl <| r_nil <| fin_gen [] rfl rfl rfl lr st_nil
noncomputable def command_input_1 (p0x : ApiValue) : Option Bool :=
 (gd ((cond (!decide (p0x.Kind = (4 : Int))) true (!decide (((p0x.Items).length : Int) = (2 : Int)))) == false) (idx p0x.Items (0 : Int))).bind fun (x1 : ApiValue) => (gd ((cond (cond (!decide (p0x.Kind = (4 : Int))) true (!decide (((p0x.Items).length : Int) = (2 : Int)))) true (!decide (x1.Kind = (3 : Int)))) == false) (idx p0x.Items (0 : Int))).bind fun (x3 : ApiValue) => (gd ((cond (cond (!decide (p0x.Kind = (4 : Int))) true (!decide (((p0x.Items).length : Int) = (2 : Int)))) true (!decide (x1.Kind = (3 : Int)))) == false) (name_Right x3.Text)).bind fun (x5 : Bool) => some (cond (cond (cond (!decide (p0x.Kind = (4 : Int))) true (!decide (((p0x.Items).length : Int) = (2 : Int)))) true (!decide (x1.Kind = (3 : Int)))) true (!x5))
theorem w_command_input_1 {p0x : ApiValue} {res : Bool} (h : command_input_1 p0x = some res) : ACalls Tryd.prog 184 [.agg (AV.cs (exApiValue p0x))] [] (.c (.bool res)) [] := by
 unfold command_input_1 at h
 refine acalls (fn := Tryd.f184) [0, 1, 2] (by kernel_rfl) Tryd.func184 rfl (by kernel_rfl) (by kernel_rfl) <| w_sr <| o_box (v := .agg aIISLL) (n := 0) (cs := aIISLL) (σ' := [aIISLL]) rfl rfl rfl rfl rfl <| sB rfl <| o_ek (fr' := [(1, .box 0 0)]) rfl rfl <| w_sr <| o_p rfl (p_fa tf112x0 rfl) <| o_p rfl (p_load (v := aI) tv3 rfl rfl rfl) <| o_p rfl (p_neq rfl rfl) <| mB rfl <| og rfl rfl rfl (fun hc => (p_fa tf112x3 rfl)) ?_
 refine og rfl rfl rfl (fun hc => (p_load (v := aL) tv109 (gx rfl hc) rfl rfl)) <| og rfl rfl rfl (fun hc => (p_len ti109 (isl_c (gx rfl hc)))) <| og rfl rfl rfl (fun hc => (p_neq (gx rfl hc) rfl)) <| o_p rfl (p_pickz rfl rfl rfl (fun e => keq e)) <| mB rfl <| og rfl rfl rfl (fun hc => (p_fa tf112x3 rfl)) <| og rfl rfl rfl (fun hc => (p_load (v := aL) tv109 (gx rfl hc) rfl rfl)) ?_
 obtain ⟨x1, hx1, h2⟩ := bind_s h
 refine og rfl rfl rfl (fun hc => (p_ia (cs := [PV.int _ _, PV.int _ _, PV.str _, PV.ls _ _ _, PV.ls _ _ _]) ts109 (isl_c (gx rfl hc)) rfl (gd_some hx1 hc) (rowApiValue_eq _))) <| og rfl rfl rfl (fun hc => (p_fae tf112x0 (gx rfl hc))) <| og rfl rfl rfl (fun hc => (p_loade (p := PV.int _ _) tv3 (gx rfl hc) rfl)) <| og rfl rfl rfl (fun hc => (p_neq (gx rfl hc) rfl)) <| o_p rfl (p_pickz rfl rfl rfl (fun e => keq e)) <| mB rfl <| og rfl rfl rfl (fun hc => (p_fa tf112x3 rfl)) <| og rfl rfl rfl (fun hc => (p_load (v := aL) tv109 (gx rfl hc) rfl rfl)) ?_
 obtain ⟨x3, hx3, h4⟩ := bind_s h2
 refine og rfl rfl rfl (fun hc => (p_ia (cs := [PV.int _ _, PV.int _ _, PV.str _, PV.ls _ _ _, PV.ls _ _ _]) ts109 (isl_c (gx rfl hc)) rfl (gd_some hx3 hc) (rowApiValue_eq _))) <| og rfl rfl rfl (fun hc => (p_fae tf112x2 (gx rfl hc))) <| og rfl rfl rfl (fun hc => (p_loade (p := PV.str _) tv9 (gx rfl hc) rfl)) ?_
 obtain ⟨x5, hx5, h6⟩ := bind_s h4
 refine o_g rfl rfl (fun hc => ov_call (v := aB) rfl (w_name_Right (gd_some hx5 hc)) ⟨(le_gv (gx rfl hc) lr), trivial⟩ (ok_eq (by repeat (first | exact ok_nil | refine ok_cons rfl ?_ | refine ok_cons (dgv rfl) ?_ | refine ok_cons dar ?_))) rfl rfl) ?_
 refine og rfl rfl rfl (fun hc => (p_not (gx rfl hc))) <| o_p rfl (p_pickz rfl rfl rfl (fun e => keq e)) <| sB rfl <| o_ek (fr' := [(2, aB)]) rfl rfl <| w_ret ?_
 obtain rfl := sy h6
 exact e_ret (rs' := [.tmp 2]) rfl <| r_tmp (v := aB) rfl <| r_nil <| fin_gen [] rfl rfl rfl lr st_nil
noncomputable def slices_IndexFunc_api_Value_api_Value_command_input_1_l1 (p0s : (List ApiValue)) (s4 : Int) : Option (Step Int (Fl Int Unit)) :=
 cond (decide (s4 < ((p0s).length : Int))) ((idx p0s s4).bind fun (x6 : ApiValue) => (command_input_1 x6).bind fun (x8 : Bool) => cond x8 (some (Step.out (Fl.done s4))) (some (Step.next (IntKind.wrap .i64 (s4 + (1 : Int)))))) (some (Step.out (Fl.go ())))
noncomputable def slices_IndexFunc_api_Value_api_Value_command_input_1 (p0s : (List ApiValue)) : Option Int :=
 ((loopO (slices_IndexFunc_api_Value_api_Value_command_input_1_l1 p0s) ((0 : Int))) : Option (Fl Int Unit)).bind fun (x1 : (Fl Int Unit)) => Fl.next x1 (fun (j3 : Unit) => (some (-1 : Int)))
theorem w_slices_IndexFunc_api_Value_api_Value_command_input_1 {p0s : (List ApiValue)} {res : Int} (h : slices_IndexFunc_api_Value_api_Value_command_input_1 p0s = some res) : ACalls Tryd.prog 177 [.c (PV.ls 5 rowApiValue p0s), .fn 184 []] [] (.c (.int .i64 res)) [] := by
 unfold slices_IndexFunc_api_Value_api_Value_command_input_1 at h
 refine acalls (fn := Tryd.f177) [0, 1, 4, 5, 7, 8, 9, 16] (by kernel_rfl) Tryd.func177 rfl (by kernel_rfl) (by kernel_rfl) <| w_sr <| sI rfl <| o_ek (fr' := [(0, aL), (1, .fn _ [])]) rfl rfl <| w_seqw <| w_sr <| mL rfl <| o_p rfl (p_len ti109 (isl_c rfl)) <| mI rfl <| o_ek (fr' := [(0, aL), (1, .fn _ []), (7, aI), (8, aI)]) rfl rfl ?_
 obtain ⟨x1, hx1, h2⟩ := bind_s h
 refine w_jtail cl_kw (fun j3 => x1 = Fl.go j3) (fun (j3 : Unit) => ([] : Fr)) (fun (j3 : Unit) => ([] : St)) ?_ ?_
 ·
  refine w_block <| w_loopo _ (fun (s4 : Int) => ([(0, .c (PV.ls 5 rowApiValue p0s)), (1, .fn 184 []), (7, .c (.int .i64 ((p0s).length : Int))), (8, .c (.int .i64 s4))] : Fr)) (fun (s4 : Int) => ([] : St)) hx1 (w_weak [] 0 rfl rfl rfl rfl ⟨lr, lr, lr, lr, trivial⟩ st_nil) ?_
  intro s4 st4 hs4 ho4
  unfold slices_IndexFunc_api_Value_api_Value_command_input_1_l1 at hs4
  refine w_sr <| o_p rfl (p_lss rfl rfl) <| o_ek (fr' := [(0, aL), (1, .fn _ []), (7, aI), (8, aI), (9, aB)]) rfl rfl <| w_seqw <| w_ch hs4 rfl (fun hb5 h5 => ?_) (fun hb5 h5 => ?_)
  ·
   refine w_skip <| e_kw <| w_seqw <| w_block <| w_sr <| mI rfl <| sI rfl <| o_ek (fr' := [(0, aL), (1, .fn _ []), (5, aI), (7, aI), (8, aI)]) rfl rfl <| w_sr <| mV (v := .fn _ []) rfl <| mL rfl ?_
   refine mI rfl ?_
   obtain ⟨x6, hx6, h7⟩ := bind_s h5
   refine o_p rfl (p_ia (cs := [PV.int _ _, PV.int _ _, PV.str _, PV.ls _ _ _, PV.ls _ _ _]) ts109 (isl_c rfl) rfl hx6 (rowApiValue_eq _)) <| o_p rfl (p_loades (us := [PV.int _ _, PV.int _ _, PV.str _, PV.ls _ _ _, PV.ls _ _ _]) tv112 rfl rfl rfl) ?_
   obtain ⟨x8, hx8, h9⟩ := bind_s h7
   refine o_v (ov_call (v := aB) rfl (w_command_input_1 hx8) ⟨(le_aggc rfl ⟨rfl, rfl, rfl, rfl, rfl, trivial⟩), trivial⟩ rfl rfl rfl) <| o_ek (fr' := [(0, aL), (1, .fn _ []), (5, aI), (7, aI), (8, aI), (16, aB)]) rfl rfl <| w_ch h9 rfl (fun hb10 h10 => ?_) (fun hb10 h10 => ?_)
   ·
    refine w_sr <| mI rfl <| sI rfl <| o_ek (fr' := [(4, aI)]) rfl rfl <| w_ret <| e_blk_r <| e_seq_r <| e_seq_r <| e_blk_r <| e_seq_r <| e_seq_r ?_
    have h11 := un_out h10 ho4
    have h12 := un_done h11 h2
    obtain rfl := sy h12
    exact e_ret (rs' := [.tmp 4]) rfl <| r_tmp (v := aI) rfl <| r_nil <| fin_gen [] rfl rfl rfl lr st_nil
   ·
    exact w_skip <| e_blk_n <| e_kw <| w_region <| o_p rfl (p_add rfl rfl) <| mI rfl <| o_end (fr' := [(0, aL), (1, .fn _ []), (5, aI), (7, aI), (8, aI), (16, aB)]) rfl <| e_l _ (sy h10) (w_weak [] 0 rfl rfl rfl rfl ⟨lr, lr, lr, lr, trivial⟩ st_nil)
  ·
   refine w_exit <| e_seq_x <| e_seq_x <| e_blk_h ?_
   have h14 := un_out h5 ho4
   exact e_j _ (sy h14) (w_weak [] 0 rfl rfl rfl rfl trivial st_nil)
 ·
  intro j3 hj15
  have h15 := un_go hj15 h2
  refine e_kw <| w_sr <| sI rfl <| o_ek (fr' := [(4, aI)]) rfl rfl <| w_ret ?_
  obtain rfl := sy h15
  exact e_ret (rs' := [.tmp 4]) rfl <| r_tmp (v := aI) rfl <| r_nil <| fin_gen [] rfl rfl rfl lr st_nil
noncomputable def slices_ContainsFunc_api_Value_api_Value_command_input_1 (p0s : (List ApiValue)) : Option Bool :=
 (slices_IndexFunc_api_Value_api_Value_command_input_1 p0s).bind fun (x1 : Int) => some (decide ((0 : Int) ≤ x1))
theorem w_slices_ContainsFunc_api_Value_api_Value_command_input_1 {p0s : (List ApiValue)} {res : Bool} (h : slices_ContainsFunc_api_Value_api_Value_command_input_1 p0s = some res) : ACalls Tryd.prog 153 [.c (PV.ls 5 rowApiValue p0s), .fn 184 []] [] (.c (.bool res)) [] := by
 unfold slices_ContainsFunc_api_Value_api_Value_command_input_1 at h
 refine acalls (fn := Tryd.f153) [0, 1, 4] (by kernel_rfl) Tryd.func153 rfl (by kernel_rfl) (by kernel_rfl) <| w_sr <| sB rfl <| o_ek (fr' := [(0, aL), (1, .fn _ [])]) rfl rfl <| w_sr <| mL rfl <| mV (v := .fn _ []) rfl ?_
 obtain ⟨x1, hx1, h2⟩ := bind_s h
 refine o_v (ov_call (v := aI) rfl (w_slices_IndexFunc_api_Value_api_Value_command_input_1 hx1) ⟨lr, lr, trivial⟩ rfl rfl rfl) <| o_p rfl (p_geq rfl rfl) <| sB rfl <| o_ek (fr' := [(4, aB)]) rfl rfl <| w_ret ?_
 obtain rfl := sy h2
 exact e_ret (rs' := [.tmp 4]) rfl <| r_tmp (v := aB) rfl <| r_nil <| fin_gen [] rfl rfl rfl lr st_nil
end Go.Proofs.YtmbdbdhdcbdcpaaDoor

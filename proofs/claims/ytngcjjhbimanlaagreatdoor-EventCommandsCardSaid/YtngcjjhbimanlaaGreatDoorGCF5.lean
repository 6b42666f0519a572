import Derived.Test.YtngcjjhbimanlaaGreatDoorGCTy
import Derived.Test.YtngcjjhbimanlaaGreatDoorGCF4
namespace Go.Proofs.YtngcjjhbimanlaaGreatDoor
open Go Abs
set_option maxRecDepth 100000
set_option linter.unusedVariables false
set_option linter.unusedSimpArgs false
noncomputable def ref02xRight (p0v : ApiValue) : Option Bool :=
 (ref02xWellFormed p0v).bind fun (x1 : Bool) => (gd (x1 == true) (ref02xWithin p0v)).bind fun (x3 : Bool) => (gd ((cond x1 x3 false) == true) (ref02xFuture p0v)).bind fun (x5 : Bool) => some (cond (cond x1 x3 false) (!x5) false)
theorem w_ref02xRight {p0v : ApiValue} {res : Bool} (h : ref02xRight p0v = some res) : ACalls Tryz.prog 68 [.agg (AV.cs (exApiValue p0v))] [] (.c (.bool res)) [] := by
 unfold ref02xRight at h
 refine acalls (fn := Tryz.f68) [0, 1, 2] (by kernel_rfl) Tryz.func68 rfl (by kernel_rfl) (by kernel_rfl) <| w_sr <| o_box (v := .agg aIISLL) (n := 0) (cs := aIISLL) (σ' := [aIISLL]) rfl rfl rfl rfl rfl <| sB rfl <| o_ek (fr' := [(1, .box 0 0)]) rfl rfl <| w_sr <| o_p rfl (p_loads (us := aIISLL) tv25 rfl rfl rfl rfl) ?_
 obtain ⟨x1, hx1, h2⟩ := bind_s h
 refine o_v (ov_call (v := aB) rfl (w_ref02xWellFormed hx1) ⟨(le_aggc rfl ⟨rfl, rfl, rfl, rfl, rfl, trivial⟩), trivial⟩ rfl rfl rfl) <| mB rfl <| og rfl rfl rfl (fun hc => (p_loads (us := aIISLL) tv25 rfl rfl rfl rfl)) ?_
 obtain ⟨x3, hx3, h4⟩ := bind_s h2
 refine o_g rfl rfl (fun hc => ov_call (v := aB) rfl (w_ref02xWithin (gd_some hx3 hc)) ⟨(le_gv (gx rfl hc) (le_aggc rfl ⟨rfl, rfl, rfl, rfl, rfl, trivial⟩)), trivial⟩ (ok_eq (by repeat (first | exact ok_nil | refine ok_cons rfl ?_ | refine ok_cons (dgv rfl) ?_ | refine ok_cons dar ?_))) rfl rfl) ?_
 refine o_p rfl (p_picky rfl rfl rfl (fun e => keq e)) <| mB rfl <| og rfl rfl rfl (fun hc => (p_loads (us := aIISLL) tv25 rfl rfl rfl rfl)) ?_
 obtain ⟨x5, hx5, h6⟩ := bind_s h4
 refine o_g rfl rfl (fun hc => ov_call (v := aB) rfl (w_ref02xFuture (gd_some hx5 hc)) ⟨(le_gv (gx rfl hc) (le_aggc rfl ⟨rfl, rfl, rfl, rfl, rfl, trivial⟩)), trivial⟩ (ok_eq (by repeat (first | exact ok_nil | refine ok_cons rfl ?_ | refine ok_cons (dgv rfl) ?_ | refine ok_cons dar ?_))) rfl rfl) ?_
 refine og rfl rfl rfl (fun hc => (p_not (gx rfl hc))) <| o_p rfl (p_picky rfl rfl rfl (fun e => keq e)) <| sB rfl <| o_ek (fr' := [(2, aB)]) rfl rfl <| w_ret ?_
 obtain rfl := sy h6
 exact e_ret (rs' := [.tmp 2]) rfl <| r_tmp (v := aB) rfl <| r_nil <| fin_gen [] rfl rfl rfl lr st_nil
noncomputable def ref20xin (p0n : Int) (p1low : Int) (p2high : Int) : Option Bool :=
 some (cond (decide (p1low ≤ p0n)) (decide (p0n ≤ p2high)) false)
theorem w_ref20xin {p0n : Int} {p1low : Int} {p2high : Int} {res : Bool} (h : ref20xin p0n p1low p2high = some res) : ACalls Tryz.prog 69 [.c (.int .i64 p0n), .c (.int .i64 p1low), .c (.int .i64 p2high)] [] (.c (.bool res)) [] := by
 unfold ref20xin at h
 refine acalls (fn := Tryz.f69) [0, 1, 2, 6] (by kernel_rfl) Tryz.func69 rfl (by kernel_rfl) (by kernel_rfl) <| w_sr <| sB rfl <| o_ek (fr' := [(0, aI), (1, aI), (2, aI)]) rfl rfl <| w_sr <| mI rfl <| mI rfl <| o_p rfl (p_geq rfl rfl) <| mB rfl <| og rfl rfl rfl (fun hc => (p_move (v := aI) rfl)) <| og rfl rfl rfl (fun hc => (p_move (v := aI) rfl)) ?_
 refine og rfl rfl rfl (fun hc => (p_leq (gx rfl hc) (gx rfl hc))) <| o_p rfl (p_picky rfl rfl rfl (fun e => keq e)) <| sB rfl <| o_ek (fr' := [(6, aB)]) rfl rfl <| w_ret ?_
 obtain rfl := sy h
 exact e_ret (rs' := [.tmp 6]) rfl <| r_tmp (v := aB) rfl <| r_nil <| fin_gen [] rfl rfl rfl lr st_nil
noncomputable def ref02xSame_l1 (p0a : ApiValue) (p1b : ApiValue) (s6 : Int) : Option (Step Int (Fl Bool Unit)) :=
 cond (decide (s6 < ((p0a.Keys).length : Int))) ((idx p0a.Keys s6).bind fun (x8 : (List UInt8)) => (idx p1b.Keys s6).bind fun (x10 : (List UInt8)) => cond (!decide (x8 = x10)) (some (Step.out (Fl.done false))) (some (Step.next (IntKind.wrap .i64 (s6 + (1 : Int)))))) (some (Step.out (Fl.go ())))
noncomputable def ref02xSame_l2 (rec_ref02xSame : ApiValue → ApiValue → Option Bool) (p0a : ApiValue) (p1b : ApiValue) (s21 : Int) : Option (Step Int (Fl Bool Unit)) :=
 cond (decide (s21 < ((p0a.Items).length : Int))) ((idx p0a.Items s21).bind fun (x23 : ApiValue) => (idx p1b.Items s21).bind fun (x25 : ApiValue) => (rec_ref02xSame x23 x25).bind fun (x27 : Bool) => cond (!x27) (some (Step.out (Fl.done false))) (some (Step.next (IntKind.wrap .i64 (s21 + (1 : Int)))))) (some (Step.out (Fl.go ())))
noncomputable def ref02xSameF : Nat → ApiValue → ApiValue → Option Bool
 | 0, _, _ => none
 | n + 1, p0a, p1b =>
  cond (cond (cond (cond (cond (!decide (p0a.Kind = p1b.Kind)) true (!decide (p0a.Int = p1b.Int))) true (!decide (p0a.Text = p1b.Text))) true (!decide (((p0a.Items).length : Int) = ((p1b.Items).length : Int)))) true (!decide (((p0a.Keys).length : Int) = ((p1b.Keys).length : Int)))) (some false) (((loopO (ref02xSame_l1 p0a p1b) ((0 : Int))) : Option (Fl Bool Unit)).bind fun (x3 : (Fl Bool Unit)) => Fl.next x3 (fun (j5 : Unit) => (((loopO (ref02xSame_l2 (ref02xSameF n) p0a p1b) ((0 : Int))) : Option (Fl Bool Unit)).bind fun (x18 : (Fl Bool Unit)) => Fl.next x18 (fun (j20 : Unit) => (some true)))))
theorem wF_ref02xSame : ∀ n : Nat, (∀ {p0a : ApiValue} {p1b : ApiValue} {res : Bool}, ref02xSameF n p0a p1b = some res → ACalls Tryz.prog 50 [.agg (AV.cs (exApiValue p0a)), .agg (AV.cs (exApiValue p1b))] [] (.c (.bool res)) []) := by
 intro n
 induction n with
 | zero => exact fun {p0a p1b res} h => absurd h (by simp [ref02xSameF])
 | succ n ih =>
  have ih_ref02xSame := @ih
  intro p0a p1b res h
  rw [ref02xSameF] at h
  refine acalls (fn := Tryz.f50) [0, 1, 2, 3, 4, 5, 6, 43, 48, 61, 66, 80] (by kernel_rfl) Tryz.func50 rfl (by kernel_rfl) (by kernel_rfl) <| w_sr <| o_box (v := .agg aIISLL) (n := 0) (cs := aIISLL) (σ' := [aIISLL]) rfl rfl rfl rfl rfl <| o_box (v := .agg aIISLL) (n := 1) (cs := aIISLL) (σ' := [aIISLL, aIISLL]) rfl rfl rfl rfl rfl <| sB rfl <| o_ek (fr' := [(2, .box 0 0), (3, .box 1 0)]) rfl rfl <| w_seqw <| w_sr <| o_p rfl (p_fa tf25x0 rfl) <| o_p rfl (p_load (v := aI) tv3 rfl rfl rfl) <| o_p rfl (p_fa tf25x0 rfl) ?_
  refine o_p rfl (p_load (v := aI) tv3 rfl rfl rfl) <| o_p rfl (p_neq rfl rfl) <| mB rfl <| og rfl rfl rfl (fun hc => (p_fa tf25x1 rfl)) <| og rfl rfl rfl (fun hc => (p_load (v := aI) tv3 (gx rfl hc) rfl rfl)) <| og rfl rfl rfl (fun hc => (p_fa tf25x1 rfl)) <| og rfl rfl rfl (fun hc => (p_load (v := aI) tv3 (gx rfl hc) rfl rfl)) <| og rfl rfl rfl (fun hc => (p_neq (gx rfl hc) (gx rfl hc))) <| o_p rfl (p_pickz rfl rfl rfl (fun e => keq e)) <| mB rfl <| og rfl rfl rfl (fun hc => (p_fa tf25x2 rfl)) <| og rfl rfl rfl (fun hc => (p_load (v := aS) tv9 (gx rfl hc) rfl rfl)) <| og rfl rfl rfl (fun hc => (p_fa tf25x2 rfl)) ?_
  refine og rfl rfl rfl (fun hc => (p_load (v := aS) tv9 (gx rfl hc) rfl rfl)) <| og rfl rfl rfl (fun hc => (p_sneq (gx rfl hc) (gx rfl hc))) <| o_p rfl (p_pickz rfl rfl rfl (fun e => keq e)) <| mB rfl <| og rfl rfl rfl (fun hc => (p_fa tf25x3 rfl)) <| og rfl rfl rfl (fun hc => (p_load (v := aL) tv22 (gx rfl hc) rfl rfl)) <| og rfl rfl rfl (fun hc => (p_len ti22 (isl_c (gx rfl hc)))) <| og rfl rfl rfl (fun hc => (p_fa tf25x3 rfl)) <| og rfl rfl rfl (fun hc => (p_load (v := aL) tv22 (gx rfl hc) rfl rfl)) <| og rfl rfl rfl (fun hc => (p_len ti22 (isl_c (gx rfl hc)))) <| og rfl rfl rfl (fun hc => (p_neq (gx rfl hc) (gx rfl hc))) <| o_p rfl (p_pickz rfl rfl rfl (fun e => keq e)) <| mB rfl ?_
  refine og rfl rfl rfl (fun hc => (p_fa tf25x4 rfl)) <| og rfl rfl rfl (fun hc => (p_load (v := aL) tv23 (gx rfl hc) rfl rfl)) <| og rfl rfl rfl (fun hc => (p_len ti23 (isl_c (gx rfl hc)))) <| og rfl rfl rfl (fun hc => (p_fa tf25x4 rfl)) <| og rfl rfl rfl (fun hc => (p_load (v := aL) tv23 (gx rfl hc) rfl rfl)) <| og rfl rfl rfl (fun hc => (p_len ti23 (isl_c (gx rfl hc)))) <| og rfl rfl rfl (fun hc => (p_neq (gx rfl hc) (gx rfl hc))) <| o_p rfl (p_pickz rfl rfl rfl (fun e => keq e)) <| o_ek (fr' := [(2, .box 0 0), (3, .box 1 0), (43, aB)]) rfl rfl <| w_ch h rfl (fun hb1 h1 => ?_) (fun hb1 h1 => ?_)
  ·
   refine w_sr <| sB rfl <| o_ek (fr' := [(4, aB)]) rfl rfl <| w_ret <| e_seq_r ?_
   obtain rfl := sy h1
   exact e_ret (rs' := [.tmp 4]) rfl <| r_tmp (v := aB) rfl <| r_nil <| fin_gen [] rfl rfl rfl lr st_nil
  ·
   refine w_skip <| e_kw <| w_seqw <| w_sr <| sI rfl <| o_ek (fr' := [(2, .box 0 0), (3, .box 1 0), (5, aI)]) rfl rfl ?_
   obtain ⟨x3, hx3, h4⟩ := bind_s h1
   refine w_jtail cl_kw (fun j5 => x3 = Fl.go j5) (fun (j5 : Unit) => ([(2, .box 0 0), (3, .box 1 0)] : Fr)) (fun (j5 : Unit) => ([[.c (.int .i64 p0a.Kind), .c (.int .i64 p0a.Int), .c (.str p0a.Text), .c (PV.ls 5 rowApiValue p0a.Items), .c (PV.ls 1 rowS p0a.Keys)], [.c (.int .i64 p1b.Kind), .c (.int .i64 p1b.Int), .c (.str p1b.Text), .c (PV.ls 5 rowApiValue p1b.Items), .c (PV.ls 1 rowS p1b.Keys)]] : St)) ?_ ?_
   ·
    refine w_block <| w_loopo _ (fun (s6 : Int) => ([(2, .box 0 0), (3, .box 1 0), (5, .c (.int .i64 s6))] : Fr)) (fun (s6 : Int) => ([[.c (.int .i64 p0a.Kind), .c (.int .i64 p0a.Int), .c (.str p0a.Text), .c (PV.ls 5 rowApiValue p0a.Items), .c (PV.ls 1 rowS p0a.Keys)], [.c (.int .i64 p1b.Kind), .c (.int .i64 p1b.Int), .c (.str p1b.Text), .c (PV.ls 5 rowApiValue p1b.Items), .c (PV.ls 1 rowS p1b.Keys)]] : St)) hx3 (w_weak [] 2 rfl rfl rfl rfl ⟨lr, lr, lr, trivial⟩ (st_r rfl (st_r rfl st_nil))) ?_
    intro s6 st6 hs6 ho6
    unfold ref02xSame_l1 at hs6
    refine w_seqw <| w_sr <| mI rfl <| o_p rfl (p_fa tf25x4 rfl) <| o_p rfl (p_load (v := aL) tv23 rfl rfl rfl) <| o_p rfl (p_len ti23 (isl_c rfl)) <| o_p rfl (p_lss rfl rfl) <| o_ek (fr' := [(2, .box 0 0), (3, .box 1 0), (5, aI), (48, aB)]) rfl rfl <| w_ch hs6 rfl (fun hb7 h7 => ?_) (fun hb7 h7 => ?_)
    ·
     refine w_skip <| e_kw <| w_seqw <| w_block <| w_seqw <| w_planT [.q 0, .q 1, .q 2, .q 3, .q 4, .q 5, .q 6, .q 7, .q 8, .q 9, .q 10] [(some 51, [2]), (some 52, [51]), (some 53, [5]), (some 54, [52, 53]), (some 55, [54]), (some 56, [3]), (some 57, [56]), (some 58, [5]), (some 59, [57, 58]), (some 60, [59]), (some 61, [55, 60])] [0, 1, 0, 7, 15, 0, 32, 0, 224, 480, 1023] (by kernel_rfl) <| dq rfl rfl (p_fa tf25x4 rfl) <| dq rfl rfl (p_load (v := aL) tv23 rfl rfl rfl) <| dq rfl rfl (p_move (v := aI) rfl) ?_
     obtain ⟨x8, hx8, h9⟩ := bind_s h7
     refine dq rfl rfl (p_ia (cs := [PV.str _]) ts23 (isl_c rfl) rfl hx8 rfl) <| dq rfl rfl (p_loade (p := PV.str _) tv9 rfl rfl) <| dq rfl rfl (p_fa tf25x4 rfl) <| dq rfl rfl (p_load (v := aL) tv23 rfl rfl rfl) <| dq rfl rfl (p_move (v := aI) rfl) ?_
     obtain ⟨x10, hx10, h11⟩ := bind_s h9
     refine dq rfl rfl (p_ia (cs := [PV.str _]) ts23 (isl_c rfl) rfl hx10 rfl) <| dq rfl rfl (p_loade (p := PV.str _) tv9 rfl rfl) <| dq rfl rfl (p_sneq rfl rfl) <| d_ek (fr' := [(2, .box 0 0), (3, .box 1 0), (5, aI), (61, aB)]) rfl rfl <| w_ch h11 rfl (fun hb12 h12 => ?_) (fun hb12 h12 => ?_)
     ·
      refine w_sr <| sB rfl <| o_ek (fr' := [(4, aB)]) rfl rfl <| w_ret <| e_blk_r <| e_seq_r <| e_seq_r <| e_blk_r <| e_seq_r <| e_seq_r ?_
      have h13 := un_out h12 ho6
      have h14 := un_done h13 h4
      obtain rfl := sy h14
      exact e_ret (rs' := [.tmp 4]) rfl <| r_tmp (v := aB) rfl <| r_nil <| fin_gen [] rfl rfl rfl lr st_nil
     ·
      exact w_skip <| e_blk_n <| e_kw <| w_region <| mI rfl <| o_p rfl (p_add rfl rfl) <| sI rfl <| o_end (fr' := [(2, .box 0 0), (3, .box 1 0), (5, aI), (61, aB)]) rfl <| e_l _ (sy h12) (w_weak [] 2 rfl rfl rfl rfl ⟨lr, lr, lr, trivial⟩ (st_r rfl (st_r rfl st_nil)))
    ·
     refine w_exit <| e_seq_x <| e_seq_x <| e_blk_h ?_
     have h16 := un_out h7 ho6
     exact e_j _ (sy h16) (w_weak [] 2 rfl rfl rfl rfl ⟨lr, lr, trivial⟩ (st_r rfl (st_r rfl st_nil)))
   ·
    intro j5 hj17
    have h17 := un_go hj17 h4
    refine e_kw <| w_seqw <| w_sr <| sI rfl <| o_ek (fr' := [(2, .box 0 0), (3, .box 1 0), (6, aI)]) rfl rfl ?_
    obtain ⟨x18, hx18, h19⟩ := bind_s h17
    refine w_jtail cl_kw (fun j20 => x18 = Fl.go j20) (fun (j20 : Unit) => ([] : Fr)) (fun (j20 : Unit) => ([[.c (.int .i64 p0a.Kind), .c (.int .i64 p0a.Int), .c (.str p0a.Text), .c (PV.ls 5 rowApiValue p0a.Items), .c (PV.ls 1 rowS p0a.Keys)], [.c (.int .i64 p1b.Kind), .c (.int .i64 p1b.Int), .c (.str p1b.Text), .c (PV.ls 5 rowApiValue p1b.Items), .c (PV.ls 1 rowS p1b.Keys)]] : St)) ?_ ?_
    ·
     refine w_block <| w_loopo _ (fun (s21 : Int) => ([(2, .box 0 0), (3, .box 1 0), (6, .c (.int .i64 s21))] : Fr)) (fun (s21 : Int) => ([[.c (.int .i64 p0a.Kind), .c (.int .i64 p0a.Int), .c (.str p0a.Text), .c (PV.ls 5 rowApiValue p0a.Items), .c (PV.ls 1 rowS p0a.Keys)], [.c (.int .i64 p1b.Kind), .c (.int .i64 p1b.Int), .c (.str p1b.Text), .c (PV.ls 5 rowApiValue p1b.Items), .c (PV.ls 1 rowS p1b.Keys)]] : St)) hx18 (w_weak [] 2 rfl rfl rfl rfl ⟨lr, lr, lr, trivial⟩ (st_r rfl (st_r rfl st_nil))) ?_
     intro s21 st21 hs21 ho21
     unfold ref02xSame_l2 at hs21
     refine w_seqw <| w_sr <| mI rfl <| o_p rfl (p_fa tf25x3 rfl) <| o_p rfl (p_load (v := aL) tv22 rfl rfl rfl) <| o_p rfl (p_len ti22 (isl_c rfl)) <| o_p rfl (p_lss rfl rfl) <| o_ek (fr' := [(2, .box 0 0), (3, .box 1 0), (6, aI), (66, aB)]) rfl rfl <| w_ch hs21 rfl (fun hb22 h22 => ?_) (fun hb22 h22 => ?_)
     ·
      refine w_skip <| e_kw <| w_seqw <| w_block <| w_seqw <| w_planT [.q 0, .q 1, .q 2, .q 3, .q 4, .q 5, .q 6, .q 7, .q 8, .q 9, .q 10, .q 11] [(some 69, [2]), (some 70, [69]), (some 71, [6]), (some 72, [70, 71]), (some 73, [72]), (some 74, [3]), (some 75, [74]), (some 76, [6]), (some 77, [75, 76]), (some 78, [77]), (some 79, [73, 78]), (some 80, [79])] [0, 1, 0, 7, 15, 0, 32, 0, 224, 480, 1023, 2047] (by kernel_rfl) <| dq rfl rfl (p_fa tf25x3 rfl) <| dq rfl rfl (p_load (v := aL) tv22 rfl rfl rfl) <| dq rfl rfl (p_move (v := aI) rfl) ?_
      obtain ⟨x23, hx23, h24⟩ := bind_s h22
      refine dq rfl rfl (p_ia (cs := [PV.int _ _, PV.int _ _, PV.str _, PV.ls _ _ _, PV.ls _ _ _]) ts22 (isl_c rfl) rfl hx23 (rowApiValue_eq _)) <| dq rfl rfl (p_loades (us := [PV.int _ _, PV.int _ _, PV.str _, PV.ls _ _ _, PV.ls _ _ _]) tv25 rfl rfl rfl) <| dq rfl rfl (p_fa tf25x3 rfl) <| dq rfl rfl (p_load (v := aL) tv22 rfl rfl rfl) <| dq rfl rfl (p_move (v := aI) rfl) ?_
      obtain ⟨x25, hx25, h26⟩ := bind_s h24
      refine dq rfl rfl (p_ia (cs := [PV.int _ _, PV.int _ _, PV.str _, PV.ls _ _ _, PV.ls _ _ _]) ts22 (isl_c rfl) rfl hx25 (rowApiValue_eq _)) <| dq rfl rfl (p_loades (us := [PV.int _ _, PV.int _ _, PV.str _, PV.ls _ _ _, PV.ls _ _ _]) tv25 rfl rfl rfl) ?_
      obtain ⟨x27, hx27, h28⟩ := bind_s h26
      refine d_q rfl (qv_call (v := aB) rfl (ih_ref02xSame hx27) ⟨(le_aggc rfl ⟨rfl, rfl, rfl, rfl, rfl, trivial⟩), (le_aggc rfl ⟨rfl, rfl, rfl, rfl, rfl, trivial⟩), trivial⟩ rfl) <| dq rfl rfl (p_not rfl) <| d_ek (fr' := [(2, .box 0 0), (3, .box 1 0), (6, aI), (80, aB)]) rfl rfl <| w_ch h28 rfl (fun hb29 h29 => ?_) (fun hb29 h29 => ?_)
      ·
       refine w_sr <| sB rfl <| o_ek (fr' := [(4, aB)]) rfl rfl <| w_ret <| e_blk_r <| e_seq_r <| e_seq_r <| e_blk_r <| e_seq_r <| e_seq_r ?_
       have h30 := un_out h29 ho21
       have h31 := un_done h30 h19
       obtain rfl := sy h31
       exact e_ret (rs' := [.tmp 4]) rfl <| r_tmp (v := aB) rfl <| r_nil <| fin_gen [] rfl rfl rfl lr st_nil
      ·
       exact w_skip <| e_blk_n <| e_kw <| w_region <| mI rfl <| o_p rfl (p_add rfl rfl) <| sI rfl <| o_end (fr' := [(2, .box 0 0), (3, .box 1 0), (6, aI), (80, aB)]) rfl <| e_l _ (sy h29) (w_weak [] 2 rfl rfl rfl rfl ⟨lr, lr, lr, trivial⟩ (st_r rfl (st_r rfl st_nil)))
     ·
      refine w_exit <| e_seq_x <| e_seq_x <| e_blk_h ?_
      have h33 := un_out h22 ho21
      exact e_j _ (sy h33) (w_weak [] 2 rfl rfl rfl rfl trivial (st_r rfl (st_r rfl st_nil)))
    ·
     intro j20 hj34
     have h34 := un_go hj34 h19
     refine e_kw <| w_sr <| sB rfl <| o_ek (fr' := [(4, aB)]) rfl rfl <| w_ret ?_
     obtain rfl := sy h34
     exact e_ret (rs' := [.tmp 4]) rfl <| r_tmp (v := aB) rfl <| r_nil <| fin_gen [] rfl rfl rfl lr st_nil
noncomputable def ref02xSame (p0a : ApiValue) (p1b : ApiValue) : Option Bool := lim fun n => ref02xSameF n p0a p1b
theorem w_ref02xSame {p0a : ApiValue} {p1b : ApiValue} {res : Bool} (h : ref02xSame p0a p1b = some res) : ACalls Tryz.prog 50 [.agg (AV.cs (exApiValue p0a)), .agg (AV.cs (exApiValue p1b))] [] (.c (.bool res)) [] := by
 obtain ⟨n, hn⟩ := lim_some h
 exact (wF_ref02xSame n) hn
noncomputable def ref20xSamePolicy_l1 (p0a : ApiPolicy) (p1b : ApiPolicy) (s8 : Int) : Option (Step Int (Fl Bool Unit)) :=
 cond (decide (s8 < ((p0a.Fatal).length : Int))) ((idx p0a.Fatal s8).bind fun (x10 : (List UInt8)) => (idx p1b.Fatal s8).bind fun (x12 : (List UInt8)) => cond (!decide (x10 = x12)) (some (Step.out (Fl.done false))) (some (Step.next (IntKind.wrap .i64 (s8 + (1 : Int)))))) (some (Step.out (Fl.go ())))
noncomputable def ref20xSamePolicy (p0a : ApiPolicy) (p1b : ApiPolicy) : Option Bool :=
 cond (cond (cond (cond (cond (!decide (p0a.Queue = p1b.Queue)) true (!decide (p0a.ToStart = p1b.ToStart))) true (!decide (p0a.ToClose = p1b.ToClose))) true (!decide (p0a.Total = p1b.Total))) true (!decide (p0a.Beat = p1b.Beat))) (some false) (cond (cond (cond (cond (cond (!decide (p0a.First = p1b.First)) true (!decide (p0a.Coef = p1b.Coef))) true (!decide (p0a.Most = p1b.Most))) true (!decide (p0a.Attempts = p1b.Attempts))) true (!decide (((p0a.Fatal).length : Int) = ((p1b.Fatal).length : Int)))) (some false) (((loopO (ref20xSamePolicy_l1 p0a p1b) ((0 : Int))) : Option (Fl Bool Unit)).bind fun (x5 : (Fl Bool Unit)) => Fl.next x5 (fun (j7 : Unit) => (some true))))
theorem w_ref20xSamePolicy {p0a : ApiPolicy} {p1b : ApiPolicy} {res : Bool} (h : ref20xSamePolicy p0a p1b = some res) : ACalls Tryz.prog 51 [.agg (AV.cs (rowApiPolicy p0a)), .agg (AV.cs (rowApiPolicy p1b))] [] (.c (.bool res)) [] := by
 unfold ref20xSamePolicy at h
 refine acalls (fn := Tryz.f51) [0, 1, 2, 3, 4, 5, 38, 73, 78, 91] (by kernel_rfl) Tryz.func51 rfl (by kernel_rfl) (by kernel_rfl) <| w_sr <| o_box (v := .agg aSIIIIIIIIL) (n := 0) (cs := aSIIIIIIIIL) (σ' := [aSIIIIIIIIL]) rfl rfl rfl rfl rfl <| o_box (v := .agg aSIIIIIIIIL) (n := 1) (cs := aSIIIIIIIIL) (σ' := [aSIIIIIIIIL, aSIIIIIIIIL]) rfl rfl rfl rfl rfl <| sB rfl <| o_ek (fr' := [(2, .box 0 0), (3, .box 1 0)]) rfl rfl <| w_seqw <| w_sr <| o_p rfl (p_fa tf27x0 rfl) <| o_p rfl (p_load (v := aS) tv9 rfl rfl rfl) <| o_p rfl (p_fa tf27x0 rfl) ?_
 refine o_p rfl (p_load (v := aS) tv9 rfl rfl rfl) <| o_p rfl (p_sneq rfl rfl) <| mB rfl <| og rfl rfl rfl (fun hc => (p_fa tf27x1 rfl)) <| og rfl rfl rfl (fun hc => (p_load (v := aI) tv3 (gx rfl hc) rfl rfl)) <| og rfl rfl rfl (fun hc => (p_fa tf27x1 rfl)) <| og rfl rfl rfl (fun hc => (p_load (v := aI) tv3 (gx rfl hc) rfl rfl)) <| og rfl rfl rfl (fun hc => (p_neq (gx rfl hc) (gx rfl hc))) <| o_p rfl (p_pickz rfl rfl rfl (fun e => keq e)) <| mB rfl <| og rfl rfl rfl (fun hc => (p_fa tf27x2 rfl)) <| og rfl rfl rfl (fun hc => (p_load (v := aI) tv3 (gx rfl hc) rfl rfl)) <| og rfl rfl rfl (fun hc => (p_fa tf27x2 rfl)) ?_
 refine og rfl rfl rfl (fun hc => (p_load (v := aI) tv3 (gx rfl hc) rfl rfl)) <| og rfl rfl rfl (fun hc => (p_neq (gx rfl hc) (gx rfl hc))) <| o_p rfl (p_pickz rfl rfl rfl (fun e => keq e)) <| mB rfl <| og rfl rfl rfl (fun hc => (p_fa tf27x3 rfl)) <| og rfl rfl rfl (fun hc => (p_load (v := aI) tv3 (gx rfl hc) rfl rfl)) <| og rfl rfl rfl (fun hc => (p_fa tf27x3 rfl)) <| og rfl rfl rfl (fun hc => (p_load (v := aI) tv3 (gx rfl hc) rfl rfl)) <| og rfl rfl rfl (fun hc => (p_neq (gx rfl hc) (gx rfl hc))) <| o_p rfl (p_pickz rfl rfl rfl (fun e => keq e)) <| mB rfl <| og rfl rfl rfl (fun hc => (p_fa tf27x4 rfl)) <| og rfl rfl rfl (fun hc => (p_load (v := aI) tv3 (gx rfl hc) rfl rfl)) ?_
 refine og rfl rfl rfl (fun hc => (p_fa tf27x4 rfl)) <| og rfl rfl rfl (fun hc => (p_load (v := aI) tv3 (gx rfl hc) rfl rfl)) <| og rfl rfl rfl (fun hc => (p_neq (gx rfl hc) (gx rfl hc))) <| o_p rfl (p_pickz rfl rfl rfl (fun e => keq e)) <| o_ek (fr' := [(2, .box 0 0), (3, .box 1 0), (38, aB)]) rfl rfl <| w_ch h rfl (fun hb1 h1 => ?_) (fun hb1 h1 => ?_)
 ·
  refine w_sr <| sB rfl <| o_ek (fr' := [(4, aB)]) rfl rfl <| w_ret <| e_seq_r ?_
  obtain rfl := sy h1
  exact e_ret (rs' := [.tmp 4]) rfl <| r_tmp (v := aB) rfl <| r_nil <| fin_gen [] rfl rfl rfl lr st_nil
 ·
  refine w_skip <| e_kw <| w_seqw <| w_sr <| o_p rfl (p_fa tf27x5 rfl) <| o_p rfl (p_load (v := aI) tv3 rfl rfl rfl) <| o_p rfl (p_fa tf27x5 rfl) <| o_p rfl (p_load (v := aI) tv3 rfl rfl rfl) <| o_p rfl (p_neq rfl rfl) <| mB rfl <| og rfl rfl rfl (fun hc => (p_fa tf27x6 rfl)) <| og rfl rfl rfl (fun hc => (p_load (v := aI) tv3 (gx rfl hc) rfl rfl)) ?_
  refine og rfl rfl rfl (fun hc => (p_fa tf27x6 rfl)) <| og rfl rfl rfl (fun hc => (p_load (v := aI) tv3 (gx rfl hc) rfl rfl)) <| og rfl rfl rfl (fun hc => (p_neq (gx rfl hc) (gx rfl hc))) <| o_p rfl (p_pickz rfl rfl rfl (fun e => keq e)) <| mB rfl <| og rfl rfl rfl (fun hc => (p_fa tf27x7 rfl)) <| og rfl rfl rfl (fun hc => (p_load (v := aI) tv3 (gx rfl hc) rfl rfl)) <| og rfl rfl rfl (fun hc => (p_fa tf27x7 rfl)) <| og rfl rfl rfl (fun hc => (p_load (v := aI) tv3 (gx rfl hc) rfl rfl)) <| og rfl rfl rfl (fun hc => (p_neq (gx rfl hc) (gx rfl hc))) <| o_p rfl (p_pickz rfl rfl rfl (fun e => keq e)) <| mB rfl <| og rfl rfl rfl (fun hc => (p_fa tf27x8 rfl)) ?_
  refine og rfl rfl rfl (fun hc => (p_load (v := aI) tv3 (gx rfl hc) rfl rfl)) <| og rfl rfl rfl (fun hc => (p_fa tf27x8 rfl)) <| og rfl rfl rfl (fun hc => (p_load (v := aI) tv3 (gx rfl hc) rfl rfl)) <| og rfl rfl rfl (fun hc => (p_neq (gx rfl hc) (gx rfl hc))) <| o_p rfl (p_pickz rfl rfl rfl (fun e => keq e)) <| mB rfl <| og rfl rfl rfl (fun hc => (p_fa tf27x9 rfl)) <| og rfl rfl rfl (fun hc => (p_load (v := aL) tv23 (gx rfl hc) rfl rfl)) <| og rfl rfl rfl (fun hc => (p_len ti23 (isl_c (gx rfl hc)))) <| og rfl rfl rfl (fun hc => (p_fa tf27x9 rfl)) <| og rfl rfl rfl (fun hc => (p_load (v := aL) tv23 (gx rfl hc) rfl rfl)) <| og rfl rfl rfl (fun hc => (p_len ti23 (isl_c (gx rfl hc)))) <| og rfl rfl rfl (fun hc => (p_neq (gx rfl hc) (gx rfl hc))) ?_
  refine o_p rfl (p_pickz rfl rfl rfl (fun e => keq e)) <| o_ek (fr' := [(2, .box 0 0), (3, .box 1 0), (73, aB)]) rfl rfl <| w_ch h1 rfl (fun hb3 h3 => ?_) (fun hb3 h3 => ?_)
  ·
   refine w_sr <| sB rfl <| o_ek (fr' := [(4, aB)]) rfl rfl <| w_ret <| e_seq_r ?_
   obtain rfl := sy h3
   exact e_ret (rs' := [.tmp 4]) rfl <| r_tmp (v := aB) rfl <| r_nil <| fin_gen [] rfl rfl rfl lr st_nil
  ·
   refine w_skip <| e_kw <| w_seqw <| w_sr <| sI rfl <| o_ek (fr' := [(2, .box 0 0), (3, .box 1 0), (5, aI)]) rfl rfl ?_
   obtain ⟨x5, hx5, h6⟩ := bind_s h3
   refine w_jtail cl_kw (fun j7 => x5 = Fl.go j7) (fun (j7 : Unit) => ([] : Fr)) (fun (j7 : Unit) => ([[.c (.str p0a.Queue), .c (.int .i64 p0a.ToStart), .c (.int .i64 p0a.ToClose), .c (.int .i64 p0a.Total), .c (.int .i64 p0a.Beat), .c (.int .i64 p0a.First), .c (.int .i64 p0a.Coef), .c (.int .i64 p0a.Most), .c (.int .i64 p0a.Attempts), .c (PV.ls 1 rowS p0a.Fatal)], [.c (.str p1b.Queue), .c (.int .i64 p1b.ToStart), .c (.int .i64 p1b.ToClose), .c (.int .i64 p1b.Total), .c (.int .i64 p1b.Beat), .c (.int .i64 p1b.First), .c (.int .i64 p1b.Coef), .c (.int .i64 p1b.Most), .c (.int .i64 p1b.Attempts), .c (PV.ls 1 rowS p1b.Fatal)]] : St)) ?_ ?_
   ·
    refine w_block <| w_loopo _ (fun (s8 : Int) => ([(2, .box 0 0), (3, .box 1 0), (5, .c (.int .i64 s8))] : Fr)) (fun (s8 : Int) => ([[.c (.str p0a.Queue), .c (.int .i64 p0a.ToStart), .c (.int .i64 p0a.ToClose), .c (.int .i64 p0a.Total), .c (.int .i64 p0a.Beat), .c (.int .i64 p0a.First), .c (.int .i64 p0a.Coef), .c (.int .i64 p0a.Most), .c (.int .i64 p0a.Attempts), .c (PV.ls 1 rowS p0a.Fatal)], [.c (.str p1b.Queue), .c (.int .i64 p1b.ToStart), .c (.int .i64 p1b.ToClose), .c (.int .i64 p1b.Total), .c (.int .i64 p1b.Beat), .c (.int .i64 p1b.First), .c (.int .i64 p1b.Coef), .c (.int .i64 p1b.Most), .c (.int .i64 p1b.Attempts), .c (PV.ls 1 rowS p1b.Fatal)]] : St)) hx5 (w_weak [] 2 rfl rfl rfl rfl ⟨lr, lr, lr, trivial⟩ (st_r rfl (st_r rfl st_nil))) ?_
    intro s8 st8 hs8 ho8
    unfold ref20xSamePolicy_l1 at hs8
    refine w_seqw <| w_sr <| mI rfl <| o_p rfl (p_fa tf27x9 rfl) <| o_p rfl (p_load (v := aL) tv23 rfl rfl rfl) <| o_p rfl (p_len ti23 (isl_c rfl)) <| o_p rfl (p_lss rfl rfl) <| o_ek (fr' := [(2, .box 0 0), (3, .box 1 0), (5, aI), (78, aB)]) rfl rfl <| w_ch hs8 rfl (fun hb9 h9 => ?_) (fun hb9 h9 => ?_)
    ·
     refine w_skip <| e_kw <| w_seqw <| w_block <| w_seqw <| w_planT [.q 0, .q 1, .q 2, .q 3, .q 4, .q 5, .q 6, .q 7, .q 8, .q 9, .q 10] [(some 81, [2]), (some 82, [81]), (some 83, [5]), (some 84, [82, 83]), (some 85, [84]), (some 86, [3]), (some 87, [86]), (some 88, [5]), (some 89, [87, 88]), (some 90, [89]), (some 91, [85, 90])] [0, 1, 0, 7, 15, 0, 32, 0, 224, 480, 1023] (by kernel_rfl) <| dq rfl rfl (p_fa tf27x9 rfl) <| dq rfl rfl (p_load (v := aL) tv23 rfl rfl rfl) <| dq rfl rfl (p_move (v := aI) rfl) ?_
     obtain ⟨x10, hx10, h11⟩ := bind_s h9
     refine dq rfl rfl (p_ia (cs := [PV.str _]) ts23 (isl_c rfl) rfl hx10 rfl) <| dq rfl rfl (p_loade (p := PV.str _) tv9 rfl rfl) <| dq rfl rfl (p_fa tf27x9 rfl) <| dq rfl rfl (p_load (v := aL) tv23 rfl rfl rfl) <| dq rfl rfl (p_move (v := aI) rfl) ?_
     obtain ⟨x12, hx12, h13⟩ := bind_s h11
     refine dq rfl rfl (p_ia (cs := [PV.str _]) ts23 (isl_c rfl) rfl hx12 rfl) <| dq rfl rfl (p_loade (p := PV.str _) tv9 rfl rfl) <| dq rfl rfl (p_sneq rfl rfl) <| d_ek (fr' := [(2, .box 0 0), (3, .box 1 0), (5, aI), (91, aB)]) rfl rfl <| w_ch h13 rfl (fun hb14 h14 => ?_) (fun hb14 h14 => ?_)
     ·
      refine w_sr <| sB rfl <| o_ek (fr' := [(4, aB)]) rfl rfl <| w_ret <| e_blk_r <| e_seq_r <| e_seq_r <| e_blk_r <| e_seq_r <| e_seq_r ?_
      have h15 := un_out h14 ho8
      have h16 := un_done h15 h6
      obtain rfl := sy h16
      exact e_ret (rs' := [.tmp 4]) rfl <| r_tmp (v := aB) rfl <| r_nil <| fin_gen [] rfl rfl rfl lr st_nil
     ·
      exact w_skip <| e_blk_n <| e_kw <| w_region <| mI rfl <| o_p rfl (p_add rfl rfl) <| sI rfl <| o_end (fr' := [(2, .box 0 0), (3, .box 1 0), (5, aI), (91, aB)]) rfl <| e_l _ (sy h14) (w_weak [] 2 rfl rfl rfl rfl ⟨lr, lr, lr, trivial⟩ (st_r rfl (st_r rfl st_nil)))
    ·
     refine w_exit <| e_seq_x <| e_seq_x <| e_blk_h ?_
     have h18 := un_out h9 ho8
     exact e_j _ (sy h18) (w_weak [] 2 rfl rfl rfl rfl trivial (st_r rfl (st_r rfl st_nil)))
   ·
    intro j7 hj19
    have h19 := un_go hj19 h6
    refine e_kw <| w_sr <| sB rfl <| o_ek (fr' := [(4, aB)]) rfl rfl <| w_ret ?_
    obtain rfl := sy h19
    exact e_ret (rs' := [.tmp 4]) rfl <| r_tmp (v := aB) rfl <| r_nil <| fin_gen [] rfl rfl rfl lr st_nil
noncomputable def ref20xSame (p0a : ApiCommand) (p1b : ApiCommand) : Option Bool :=
 (gd ((cond (cond (cond (cond (decide (p0a.Kind = p1b.Kind)) (decide (p0a.Seq = p1b.Seq)) false) (decide (p0a.Name = p1b.Name)) false) (decide (p0a.Key = p1b.Key)) false) (decide (p0a.N = p1b.N)) false) == true) (ref02xSame p0a.Data p1b.Data)).bind fun (x1 : Bool) => (gd ((cond (cond (cond (cond (cond (decide (p0a.Kind = p1b.Kind)) (decide (p0a.Seq = p1b.Seq)) false) (decide (p0a.Name = p1b.Name)) false) (decide (p0a.Key = p1b.Key)) false) (decide (p0a.N = p1b.N)) false) x1 false) == true) (ref20xSamePolicy p0a.Opts p1b.Opts)).bind fun (x3 : Bool) => some (cond (cond (cond (cond (cond (cond (decide (p0a.Kind = p1b.Kind)) (decide (p0a.Seq = p1b.Seq)) false) (decide (p0a.Name = p1b.Name)) false) (decide (p0a.Key = p1b.Key)) false) (decide (p0a.N = p1b.N)) false) x1 false) x3 false)
theorem w_ref20xSame {p0a : ApiCommand} {p1b : ApiCommand} {res : Bool} (h : ref20xSame p0a p1b = some res) : ACalls Tryz.prog 70 [.agg (AV.cs (rowApiCommand p0a)), .agg (AV.cs (rowApiCommand p1b))] [] (.c (.bool res)) [] := by
 unfold ref20xSame at h
 refine acalls (fn := Tryz.f70) [0, 1, 2, 3, 4] (by kernel_rfl) Tryz.func70 rfl (by kernel_rfl) (by kernel_rfl) <| w_sr <| o_box (v := .agg aIISSIIISLLSIIIIIIIIL) (n := 0) (cs := aIISSIIISLLSIIIIIIIIL) (σ' := [aIISSIIISLLSIIIIIIIIL]) rfl rfl rfl rfl rfl <| o_box (v := .agg aIISSIIISLLSIIIIIIIIL) (n := 1) (cs := aIISSIIISLLSIIIIIIIIL) (σ' := [aIISSIIISLLSIIIIIIIIL, aIISSIIISLLSIIIIIIIIL]) rfl rfl rfl rfl rfl <| sB rfl <| o_ek (fr' := [(2, .box 0 0), (3, .box 1 0)]) rfl rfl <| w_sr <| o_p rfl (p_fa tf33x0 rfl) <| o_p rfl (p_load (v := aI) tv3 rfl rfl rfl) <| o_p rfl (p_fa tf33x0 rfl) <| o_p rfl (p_load (v := aI) tv3 rfl rfl rfl) ?_
 refine o_p rfl (p_eql rfl rfl) <| mB rfl <| og rfl rfl rfl (fun hc => (p_fa tf33x1 rfl)) <| og rfl rfl rfl (fun hc => (p_load (v := aI) tv3 (gx rfl hc) rfl rfl)) <| og rfl rfl rfl (fun hc => (p_fa tf33x1 rfl)) <| og rfl rfl rfl (fun hc => (p_load (v := aI) tv3 (gx rfl hc) rfl rfl)) <| og rfl rfl rfl (fun hc => (p_eql (gx rfl hc) (gx rfl hc))) <| o_p rfl (p_picky rfl rfl rfl (fun e => keq e)) <| mB rfl <| og rfl rfl rfl (fun hc => (p_fa tf33x2 rfl)) <| og rfl rfl rfl (fun hc => (p_load (v := aS) tv9 (gx rfl hc) rfl rfl)) <| og rfl rfl rfl (fun hc => (p_fa tf33x2 rfl)) <| og rfl rfl rfl (fun hc => (p_load (v := aS) tv9 (gx rfl hc) rfl rfl)) ?_
 refine og rfl rfl rfl (fun hc => (p_seql (gx rfl hc) (gx rfl hc))) <| o_p rfl (p_picky rfl rfl rfl (fun e => keq e)) <| mB rfl <| og rfl rfl rfl (fun hc => (p_fa tf33x3 rfl)) <| og rfl rfl rfl (fun hc => (p_load (v := aS) tv9 (gx rfl hc) rfl rfl)) <| og rfl rfl rfl (fun hc => (p_fa tf33x3 rfl)) <| og rfl rfl rfl (fun hc => (p_load (v := aS) tv9 (gx rfl hc) rfl rfl)) <| og rfl rfl rfl (fun hc => (p_seql (gx rfl hc) (gx rfl hc))) <| o_p rfl (p_picky rfl rfl rfl (fun e => keq e)) <| mB rfl <| og rfl rfl rfl (fun hc => (p_fa tf33x4 rfl)) <| og rfl rfl rfl (fun hc => (p_load (v := aI) tv3 (gx rfl hc) rfl rfl)) <| og rfl rfl rfl (fun hc => (p_fa tf33x4 rfl)) ?_
 refine og rfl rfl rfl (fun hc => (p_load (v := aI) tv3 (gx rfl hc) rfl rfl)) <| og rfl rfl rfl (fun hc => (p_eql (gx rfl hc) (gx rfl hc))) <| o_p rfl (p_picky rfl rfl rfl (fun e => keq e)) <| mB rfl <| og rfl rfl rfl (fun hc => (p_fa tf33x5 rfl)) <| og rfl rfl rfl (fun hc => (p_loads (us := aIISLL) tv25 (gx rfl hc) rfl rfl rfl)) <| og rfl rfl rfl (fun hc => (p_fa tf33x5 rfl)) <| og rfl rfl rfl (fun hc => (p_loads (us := aIISLL) tv25 (gx rfl hc) rfl rfl rfl)) ?_
 obtain ⟨x1, hx1, h2⟩ := bind_s h
 refine o_g rfl rfl (fun hc => ov_call (v := aB) rfl (w_ref02xSame (gd_some hx1 hc)) ⟨(le_gv (gx rfl hc) (le_aggc rfl ⟨rfl, rfl, rfl, rfl, rfl, trivial⟩)), (le_gv (gx rfl hc) (le_aggc rfl ⟨rfl, rfl, rfl, rfl, rfl, trivial⟩)), trivial⟩ (ok_eq (by repeat (first | exact ok_nil | refine ok_cons rfl ?_ | refine ok_cons (dgv rfl) ?_ | refine ok_cons dar ?_))) rfl rfl) ?_
 refine o_p rfl (p_picky rfl rfl rfl (fun e => keq e)) <| mB rfl <| og rfl rfl rfl (fun hc => (p_fa tf33x6 rfl)) <| og rfl rfl rfl (fun hc => (p_loads (us := aSIIIIIIIIL) tv27 (gx rfl hc) rfl rfl rfl)) <| og rfl rfl rfl (fun hc => (p_fa tf33x6 rfl)) <| og rfl rfl rfl (fun hc => (p_loads (us := aSIIIIIIIIL) tv27 (gx rfl hc) rfl rfl rfl)) ?_
 obtain ⟨x3, hx3, h4⟩ := bind_s h2
 refine o_g rfl rfl (fun hc => ov_call (v := aB) rfl (w_ref20xSamePolicy (gd_some hx3 hc)) ⟨(le_gv (gx rfl hc) (le_aggc rfl ⟨rfl, rfl, rfl, rfl, rfl, rfl, rfl, rfl, rfl, rfl, trivial⟩)), (le_gv (gx rfl hc) (le_aggc rfl ⟨rfl, rfl, rfl, rfl, rfl, rfl, rfl, rfl, rfl, rfl, trivial⟩)), trivial⟩ (ok_eq (by repeat (first | exact ok_nil | refine ok_cons rfl ?_ | refine ok_cons (dgv rfl) ?_ | refine ok_cons dar ?_))) rfl rfl) ?_
 refine o_p rfl (p_picky rfl rfl rfl (fun e => keq e)) <| sB rfl <| o_ek (fr' := [(4, aB)]) rfl rfl <| w_ret ?_
 obtain rfl := sy h4
 exact e_ret (rs' := [.tmp 4]) rfl <| r_tmp (v := aB) rfl <| r_nil <| fin_gen [] rfl rfl rfl lr st_nil
noncomputable def ref20xbare (p0c : ApiCommand) : Option ApiCommand :=
 ((((cond (decide (p0c.Kind = (1 : Int))) (some (decide (p0c.Kind = (1 : Int)))) (cond (decide (p0c.Kind = (2 : Int))) (some (decide (p0c.Kind = (2 : Int)))) (cond (decide (p0c.Kind = (3 : Int))) (some (decide (p0c.Kind = (3 : Int)))) (cond (decide (p0c.Kind = (4 : Int))) (some (decide (p0c.Kind = (4 : Int)))) (cond (decide (p0c.Kind = (5 : Int))) (some (decide (p0c.Kind = (5 : Int)))) (some (decide (p0c.Kind = (6 : Int))))))))) : Option Bool).bind fun (x4 : Bool) => (cond x4 (some (0 : Int)) (some p0c.Seq))) : Option Int).bind fun (x1 : Int) => (((((cond (decide (p0c.Kind = (1 : Int))) (some (decide (p0c.Kind = (1 : Int)))) (cond (decide (p0c.Kind = (5 : Int))) (some (decide (p0c.Kind = (5 : Int)))) (cond (decide (p0c.Kind = (6 : Int))) (some (decide (p0c.Kind = (6 : Int)))) (cond (decide (p0c.Kind = (7 : Int))) (some (decide (p0c.Kind = (7 : Int)))) (cond (decide (p0c.Kind = (8 : Int))) (some (decide (p0c.Kind = (8 : Int)))) (some (decide (p0c.Kind = (12 : Int))))))))) : Option Bool).bind fun (x18 : Bool) => (cond x18 (some ([] : List UInt8)) (some p0c.Name))) : Option (List UInt8)).bind fun (x15 : (List UInt8)) => (((((cond (decide (p0c.Kind = (5 : Int))) (some (decide (p0c.Kind = (5 : Int)))) (cond (decide (p0c.Kind = (6 : Int))) (some (decide (p0c.Kind = (6 : Int)))) (cond (decide (p0c.Kind = (8 : Int))) (some (decide (p0c.Kind = (8 : Int)))) (some (decide (p0c.Kind = (9 : Int))))))) : Option Bool).bind fun (x32 : Bool) => (cond x32 (some ([] : List UInt8)) (some p0c.Key))) : Option (List UInt8)).bind fun (x29 : (List UInt8)) => (((((cond (decide (p0c.Kind = (3 : Int))) (some (decide (p0c.Kind = (3 : Int)))) (cond (decide (p0c.Kind = (5 : Int))) (some (decide (p0c.Kind = (5 : Int)))) (cond (decide (p0c.Kind = (7 : Int))) (some (decide (p0c.Kind = (7 : Int)))) (some (decide (p0c.Kind = (9 : Int))))))) : Option Bool).bind fun (x44 : Bool) => (cond x44 (some (0 : Int)) (some p0c.N))) : Option Int).bind fun (x41 : Int) => (((((cond (decide (p0c.Kind = (2 : Int))) (some (decide (p0c.Kind = (2 : Int)))) (cond (decide (p0c.Kind = (3 : Int))) (some (decide (p0c.Kind = (3 : Int)))) (some (decide (p0c.Kind = (4 : Int)))))) : Option Bool).bind fun (x56 : Bool) => (cond x56 (some (ApiCommand.mk p0c.Kind x1 x15 x29 x41 p0c.Data p0c.Opts)) (some (ApiCommand.mk p0c.Kind x1 x15 x29 x41 (ApiValue.mk (0 : Int) (0 : Int) ([] : List UInt8) ([] : (List ApiValue)) ([] : (List (List UInt8)))) p0c.Opts)))) : Option ApiCommand).bind fun (x53 : ApiCommand) => (cond (decide (x53.Kind = (1 : Int))) (some (ApiCommand.mk x53.Kind x53.Seq x53.Name x53.Key x53.N x53.Data (ApiPolicy.mk ([] : List UInt8) (0 : Int) (0 : Int) (0 : Int) (0 : Int) (0 : Int) (0 : Int) (0 : Int) (0 : Int) ([] : (List (List UInt8)))))) (some x53))))))
theorem w_ref20xbare {p0c : ApiCommand} {res : ApiCommand} (h : ref20xbare p0c = some res) : ACalls Tryz.prog 71 [.agg (AV.cs (rowApiCommand p0c))] [] (.agg (AV.cs (rowApiCommand res))) [] := by
 unfold ref20xbare at h
 refine acalls (fn := Tryz.f71) [0, 1, 2, 4, 5, 14, 15, 24, 25, 32, 33, 40, 43, 49] (by kernel_rfl) Tryz.func71 rfl (by kernel_rfl) (by kernel_rfl) <| w_sr <| o_box (v := .agg aIISSIIISLLSIIIIIIIIL) (n := 0) (cs := aIISSIIISLLSIIIIIIIIL) (σ' := [aIISSIIISLLSIIIIIIIIL]) rfl rfl rfl rfl rfl <| o_alloc (n := 1) (cs := [aI, aI, aS, aS, aI, aI, aI, aS, AV.nil, AV.nil, aS, aI, aI, aI, aI, aI, aI, aI, aI, AV.nil]) (σ' := [aIISSIIISLLSIIIIIIIIL, [aI, aI, aS, aS, aI, aI, aI, aS, AV.nil, AV.nil, aS, aI, aI, aI, aI, aI, aI, aI, aI, AV.nil]]) tz33 rfl rfl rfl <| o_ek (fr' := [(1, .box 0 0), (2, .box 1 0)]) rfl rfl ?_
 obtain ⟨x1, hx1, h2⟩ := bind_s h
 refine w_join (fun j3 => x1 = j3) (fun (j3 : Int) => ([(1, .box 0 0), (2, .box 1 0)] : Fr)) (fun (j3 : Int) => ([[.c (.int .i64 p0c.Kind), .c (.int .i64 j3), .c (.str p0c.Name), .c (.str p0c.Key), .c (.int .i64 p0c.N), .c (.int .i64 p0c.Data.Kind), .c (.int .i64 p0c.Data.Int), .c (.str p0c.Data.Text), .c (PV.ls 5 rowApiValue p0c.Data.Items), .c (PV.ls 1 rowS p0c.Data.Keys), .c (.str p0c.Opts.Queue), .c (.int .i64 p0c.Opts.ToStart), .c (.int .i64 p0c.Opts.ToClose), .c (.int .i64 p0c.Opts.Total), .c (.int .i64 p0c.Opts.Beat), .c (.int .i64 p0c.Opts.First), .c (.int .i64 p0c.Opts.Coef), .c (.int .i64 p0c.Opts.Most), .c (.int .i64 p0c.Opts.Attempts), .c (PV.ls 1 rowS p0c.Opts.Fatal)], [.c (.int .i64 (0 : Int)), .c (.int .i64 (0 : Int)), .c (.str ([] : List UInt8)), .c (.str ([] : List UInt8)), .c (.int .i64 (0 : Int)), .c (.int .i64 (0 : Int)), .c (.int .i64 (0 : Int)), .c (.str ([] : List UInt8)), AV.nil, AV.nil, .c (.str ([] : List UInt8)), .c (.int .i64 (0 : Int)), .c (.int .i64 (0 : Int)), .c (.int .i64 (0 : Int)), .c (.int .i64 (0 : Int)), .c (.int .i64 (0 : Int)), .c (.int .i64 (0 : Int)), .c (.int .i64 (0 : Int)), .c (.int .i64 (0 : Int)), AV.nil]] : St)) ?_ ?_
 ·
  refine w_sr <| o_p rfl (p_fa tf33x0 rfl) <| o_p rfl (p_load (v := aI) tv3 rfl rfl rfl) <| o_ek (fr' := [(1, .box 0 0), (2, .box 1 0), (4, aI)]) rfl rfl <| w_block ?_
  obtain ⟨x4, hx4, h5⟩ := bind_s hx1
  refine w_join (fun j6 => x4 = j6) (fun (j6 : Bool) => ([(1, .box 0 0), (2, .box 1 0), (5, .c (.bool j6))] : Fr)) (fun (j6 : Bool) => ([[.c (.int .i64 p0c.Kind), .c (.int .i64 p0c.Seq), .c (.str p0c.Name), .c (.str p0c.Key), .c (.int .i64 p0c.N), .c (.int .i64 p0c.Data.Kind), .c (.int .i64 p0c.Data.Int), .c (.str p0c.Data.Text), .c (PV.ls 5 rowApiValue p0c.Data.Items), .c (PV.ls 1 rowS p0c.Data.Keys), .c (.str p0c.Opts.Queue), .c (.int .i64 p0c.Opts.ToStart), .c (.int .i64 p0c.Opts.ToClose), .c (.int .i64 p0c.Opts.Total), .c (.int .i64 p0c.Opts.Beat), .c (.int .i64 p0c.Opts.First), .c (.int .i64 p0c.Opts.Coef), .c (.int .i64 p0c.Opts.Most), .c (.int .i64 p0c.Opts.Attempts), .c (PV.ls 1 rowS p0c.Opts.Fatal)], [.c (.int .i64 (0 : Int)), .c (.int .i64 (0 : Int)), .c (.str ([] : List UInt8)), .c (.str ([] : List UInt8)), .c (.int .i64 (0 : Int)), .c (.int .i64 (0 : Int)), .c (.int .i64 (0 : Int)), .c (.str ([] : List UInt8)), AV.nil, AV.nil, .c (.str ([] : List UInt8)), .c (.int .i64 (0 : Int)), .c (.int .i64 (0 : Int)), .c (.int .i64 (0 : Int)), .c (.int .i64 (0 : Int)), .c (.int .i64 (0 : Int)), .c (.int .i64 (0 : Int)), .c (.int .i64 (0 : Int)), .c (.int .i64 (0 : Int)), AV.nil]] : St)) ?_ ?_
  ·
   refine w_sr <| o_p rfl (p_eql rfl rfl) <| sB rfl <| o_ek (fr' := [(1, .box 0 0), (2, .box 1 0), (4, aI), (5, aB)]) rfl rfl <| w_ch hx4 rfl (fun hb7 h7 => ?_) (fun hb7 h7 => ?_)
   ·
    exact w_skip <| e_j _ (sy h7) (w_weak [] 2 rfl rfl rfl rfl ⟨lr, lr, lr, trivial⟩ (st_r rfl (st_r rfl st_nil)))
   ·
    refine w_sr <| o_p rfl (p_eql rfl rfl) <| sB rfl <| o_ek (fr' := [(1, .box 0 0), (2, .box 1 0), (4, aI), (5, aB)]) rfl rfl <| w_ch h7 rfl (fun hb8 h8 => ?_) (fun hb8 h8 => ?_)
    ·
     exact w_skip <| e_j _ (sy h8) (w_weak [] 2 rfl rfl rfl rfl ⟨lr, lr, lr, trivial⟩ (st_r rfl (st_r rfl st_nil)))
    ·
     refine w_sr <| o_p rfl (p_eql rfl rfl) <| sB rfl <| o_ek (fr' := [(1, .box 0 0), (2, .box 1 0), (4, aI), (5, aB)]) rfl rfl <| w_ch h8 rfl (fun hb9 h9 => ?_) (fun hb9 h9 => ?_)
     ·
      exact w_skip <| e_j _ (sy h9) (w_weak [] 2 rfl rfl rfl rfl ⟨lr, lr, lr, trivial⟩ (st_r rfl (st_r rfl st_nil)))
     ·
      refine w_sr <| o_p rfl (p_eql rfl rfl) <| sB rfl <| o_ek (fr' := [(1, .box 0 0), (2, .box 1 0), (4, aI), (5, aB)]) rfl rfl <| w_ch h9 rfl (fun hb10 h10 => ?_) (fun hb10 h10 => ?_)
      ·
       exact w_skip <| e_j _ (sy h10) (w_weak [] 2 rfl rfl rfl rfl ⟨lr, lr, lr, trivial⟩ (st_r rfl (st_r rfl st_nil)))
      ·
       refine w_sr <| o_p rfl (p_eql rfl rfl) <| sB rfl <| o_ek (fr' := [(1, .box 0 0), (2, .box 1 0), (4, aI), (5, aB)]) rfl rfl <| w_ch h10 rfl (fun hb11 h11 => ?_) (fun hb11 h11 => ?_)
       ·
        exact w_skip <| e_j _ (sy h11) (w_weak [] 2 rfl rfl rfl rfl ⟨lr, lr, lr, trivial⟩ (st_r rfl (st_r rfl st_nil)))
       ·
        exact w_region <| o_p rfl (p_eql rfl rfl) <| sB rfl <| o_end (fr' := [(1, .box 0 0), (2, .box 1 0), (4, aI), (5, aB)]) rfl <| e_j _ (sy h11) (w_weak [] 2 rfl rfl rfl rfl ⟨lr, lr, lr, trivial⟩ (st_r rfl (st_r rfl st_nil)))
  ·
   intro j6 hj12
   subst hj12
   refine w_ch h5 rfl (fun hb13 h13 => ?_) (fun hb13 h13 => ?_)
   ·
    exact w_region <| o_p rfl (p_fa tf33x1 rfl) <| o_store (v := aI) (us := [aI]) (cs := aIISSIIISLLSIIIIIIIIL) (σ' := [aIISSIIISLLSIIIIIIIIL, [aI, aI, aS, aS, aI, aI, aI, aS, AV.nil, AV.nil, aS, aI, aI, aI, aI, aI, aI, aI, aI, AV.nil]]) rfl tv3 rfl rfl rfl rfl rfl rfl rfl rfl <| o_end (fr' := [(1, .box 0 0), (2, .box 1 0), (5, aB)]) rfl <| e_blk_n <| e_j _ (sy h13) (w_weak [] 2 rfl rfl rfl rfl ⟨lr, lr, trivial⟩ (st_r rfl (st_r rfl st_nil)))
   ·
    exact w_skip <| e_blk_n <| e_j _ (sy h13) (w_weak [] 2 rfl rfl rfl rfl ⟨lr, lr, trivial⟩ (st_r rfl (st_r rfl st_nil)))
 ·
  intro j3 hj14
  subst hj14
  obtain ⟨x15, hx15, h16⟩ := bind_s h2
  refine w_join (fun j17 => x15 = j17) (fun (j17 : (List UInt8)) => ([(1, .box 0 0), (2, .box 1 0)] : Fr)) (fun (j17 : (List UInt8)) => ([[.c (.int .i64 p0c.Kind), .c (.int .i64 x1), .c (.str j17), .c (.str p0c.Key), .c (.int .i64 p0c.N), .c (.int .i64 p0c.Data.Kind), .c (.int .i64 p0c.Data.Int), .c (.str p0c.Data.Text), .c (PV.ls 5 rowApiValue p0c.Data.Items), .c (PV.ls 1 rowS p0c.Data.Keys), .c (.str p0c.Opts.Queue), .c (.int .i64 p0c.Opts.ToStart), .c (.int .i64 p0c.Opts.ToClose), .c (.int .i64 p0c.Opts.Total), .c (.int .i64 p0c.Opts.Beat), .c (.int .i64 p0c.Opts.First), .c (.int .i64 p0c.Opts.Coef), .c (.int .i64 p0c.Opts.Most), .c (.int .i64 p0c.Opts.Attempts), .c (PV.ls 1 rowS p0c.Opts.Fatal)], [.c (.int .i64 (0 : Int)), .c (.int .i64 (0 : Int)), .c (.str ([] : List UInt8)), .c (.str ([] : List UInt8)), .c (.int .i64 (0 : Int)), .c (.int .i64 (0 : Int)), .c (.int .i64 (0 : Int)), .c (.str ([] : List UInt8)), AV.nil, AV.nil, .c (.str ([] : List UInt8)), .c (.int .i64 (0 : Int)), .c (.int .i64 (0 : Int)), .c (.int .i64 (0 : Int)), .c (.int .i64 (0 : Int)), .c (.int .i64 (0 : Int)), .c (.int .i64 (0 : Int)), .c (.int .i64 (0 : Int)), .c (.int .i64 (0 : Int)), AV.nil]] : St)) ?_ ?_
  ·
   refine w_sr <| o_p rfl (p_fa tf33x0 rfl) <| o_p rfl (p_load (v := aI) tv3 rfl rfl rfl) <| o_ek (fr' := [(1, .box 0 0), (2, .box 1 0), (14, aI)]) rfl rfl <| w_block ?_
   obtain ⟨x18, hx18, h19⟩ := bind_s hx15
   refine w_join (fun j20 => x18 = j20) (fun (j20 : Bool) => ([(1, .box 0 0), (2, .box 1 0), (15, .c (.bool j20))] : Fr)) (fun (j20 : Bool) => ([[.c (.int .i64 p0c.Kind), .c (.int .i64 x1), .c (.str p0c.Name), .c (.str p0c.Key), .c (.int .i64 p0c.N), .c (.int .i64 p0c.Data.Kind), .c (.int .i64 p0c.Data.Int), .c (.str p0c.Data.Text), .c (PV.ls 5 rowApiValue p0c.Data.Items), .c (PV.ls 1 rowS p0c.Data.Keys), .c (.str p0c.Opts.Queue), .c (.int .i64 p0c.Opts.ToStart), .c (.int .i64 p0c.Opts.ToClose), .c (.int .i64 p0c.Opts.Total), .c (.int .i64 p0c.Opts.Beat), .c (.int .i64 p0c.Opts.First), .c (.int .i64 p0c.Opts.Coef), .c (.int .i64 p0c.Opts.Most), .c (.int .i64 p0c.Opts.Attempts), .c (PV.ls 1 rowS p0c.Opts.Fatal)], [.c (.int .i64 (0 : Int)), .c (.int .i64 (0 : Int)), .c (.str ([] : List UInt8)), .c (.str ([] : List UInt8)), .c (.int .i64 (0 : Int)), .c (.int .i64 (0 : Int)), .c (.int .i64 (0 : Int)), .c (.str ([] : List UInt8)), AV.nil, AV.nil, .c (.str ([] : List UInt8)), .c (.int .i64 (0 : Int)), .c (.int .i64 (0 : Int)), .c (.int .i64 (0 : Int)), .c (.int .i64 (0 : Int)), .c (.int .i64 (0 : Int)), .c (.int .i64 (0 : Int)), .c (.int .i64 (0 : Int)), .c (.int .i64 (0 : Int)), AV.nil]] : St)) ?_ ?_
   ·
    refine w_sr <| o_p rfl (p_eql rfl rfl) <| sB rfl <| o_ek (fr' := [(1, .box 0 0), (2, .box 1 0), (14, aI), (15, aB)]) rfl rfl <| w_ch hx18 rfl (fun hb21 h21 => ?_) (fun hb21 h21 => ?_)
    ·
     exact w_skip <| e_j _ (sy h21) (w_weak [] 2 rfl rfl rfl rfl ⟨lr, lr, lr, trivial⟩ (st_r rfl (st_r rfl st_nil)))
    ·
     refine w_sr <| o_p rfl (p_eql rfl rfl) <| sB rfl <| o_ek (fr' := [(1, .box 0 0), (2, .box 1 0), (14, aI), (15, aB)]) rfl rfl <| w_ch h21 rfl (fun hb22 h22 => ?_) (fun hb22 h22 => ?_)
     ·
      exact w_skip <| e_j _ (sy h22) (w_weak [] 2 rfl rfl rfl rfl ⟨lr, lr, lr, trivial⟩ (st_r rfl (st_r rfl st_nil)))
     ·
      refine w_sr <| o_p rfl (p_eql rfl rfl) <| sB rfl <| o_ek (fr' := [(1, .box 0 0), (2, .box 1 0), (14, aI), (15, aB)]) rfl rfl <| w_ch h22 rfl (fun hb23 h23 => ?_) (fun hb23 h23 => ?_)
      ·
       exact w_skip <| e_j _ (sy h23) (w_weak [] 2 rfl rfl rfl rfl ⟨lr, lr, lr, trivial⟩ (st_r rfl (st_r rfl st_nil)))
      ·
       refine w_sr <| o_p rfl (p_eql rfl rfl) <| sB rfl <| o_ek (fr' := [(1, .box 0 0), (2, .box 1 0), (14, aI), (15, aB)]) rfl rfl <| w_ch h23 rfl (fun hb24 h24 => ?_) (fun hb24 h24 => ?_)
       ·
        exact w_skip <| e_j _ (sy h24) (w_weak [] 2 rfl rfl rfl rfl ⟨lr, lr, lr, trivial⟩ (st_r rfl (st_r rfl st_nil)))
       ·
        refine w_sr <| o_p rfl (p_eql rfl rfl) <| sB rfl <| o_ek (fr' := [(1, .box 0 0), (2, .box 1 0), (14, aI), (15, aB)]) rfl rfl <| w_ch h24 rfl (fun hb25 h25 => ?_) (fun hb25 h25 => ?_)
        ·
         exact w_skip <| e_j _ (sy h25) (w_weak [] 2 rfl rfl rfl rfl ⟨lr, lr, lr, trivial⟩ (st_r rfl (st_r rfl st_nil)))
        ·
         exact w_region <| o_p rfl (p_eql rfl rfl) <| sB rfl <| o_end (fr' := [(1, .box 0 0), (2, .box 1 0), (14, aI), (15, aB)]) rfl <| e_j _ (sy h25) (w_weak [] 2 rfl rfl rfl rfl ⟨lr, lr, lr, trivial⟩ (st_r rfl (st_r rfl st_nil)))
   ·
    intro j20 hj26
    subst hj26
    refine w_ch h19 rfl (fun hb27 h27 => ?_) (fun hb27 h27 => ?_)
    ·
     exact w_region <| o_p rfl (p_fa tf33x2 rfl) <| o_store (v := aS) (us := [aS]) (cs := aIISSIIISLLSIIIIIIIIL) (σ' := [aIISSIIISLLSIIIIIIIIL, [aI, aI, aS, aS, aI, aI, aI, aS, AV.nil, AV.nil, aS, aI, aI, aI, aI, aI, aI, aI, aI, AV.nil]]) rfl tv9 rfl rfl rfl rfl rfl rfl rfl rfl <| o_end (fr' := [(1, .box 0 0), (2, .box 1 0), (15, aB)]) rfl <| e_blk_n <| e_j _ (sy h27) (w_weak [] 2 rfl rfl rfl rfl ⟨lr, lr, trivial⟩ (st_r rfl (st_r rfl st_nil)))
    ·
     exact w_skip <| e_blk_n <| e_j _ (sy h27) (w_weak [] 2 rfl rfl rfl rfl ⟨lr, lr, trivial⟩ (st_r rfl (st_r rfl st_nil)))
  ·
   intro j17 hj28
   subst hj28
   obtain ⟨x29, hx29, h30⟩ := bind_s h16
   refine w_join (fun j31 => x29 = j31) (fun (j31 : (List UInt8)) => ([(1, .box 0 0), (2, .box 1 0)] : Fr)) (fun (j31 : (List UInt8)) => ([[.c (.int .i64 p0c.Kind), .c (.int .i64 x1), .c (.str x15), .c (.str j31), .c (.int .i64 p0c.N), .c (.int .i64 p0c.Data.Kind), .c (.int .i64 p0c.Data.Int), .c (.str p0c.Data.Text), .c (PV.ls 5 rowApiValue p0c.Data.Items), .c (PV.ls 1 rowS p0c.Data.Keys), .c (.str p0c.Opts.Queue), .c (.int .i64 p0c.Opts.ToStart), .c (.int .i64 p0c.Opts.ToClose), .c (.int .i64 p0c.Opts.Total), .c (.int .i64 p0c.Opts.Beat), .c (.int .i64 p0c.Opts.First), .c (.int .i64 p0c.Opts.Coef), .c (.int .i64 p0c.Opts.Most), .c (.int .i64 p0c.Opts.Attempts), .c (PV.ls 1 rowS p0c.Opts.Fatal)], [.c (.int .i64 (0 : Int)), .c (.int .i64 (0 : Int)), .c (.str ([] : List UInt8)), .c (.str ([] : List UInt8)), .c (.int .i64 (0 : Int)), .c (.int .i64 (0 : Int)), .c (.int .i64 (0 : Int)), .c (.str ([] : List UInt8)), AV.nil, AV.nil, .c (.str ([] : List UInt8)), .c (.int .i64 (0 : Int)), .c (.int .i64 (0 : Int)), .c (.int .i64 (0 : Int)), .c (.int .i64 (0 : Int)), .c (.int .i64 (0 : Int)), .c (.int .i64 (0 : Int)), .c (.int .i64 (0 : Int)), .c (.int .i64 (0 : Int)), AV.nil]] : St)) ?_ ?_
   ·
    refine w_sr <| o_p rfl (p_fa tf33x0 rfl) <| o_p rfl (p_load (v := aI) tv3 rfl rfl rfl) <| o_ek (fr' := [(1, .box 0 0), (2, .box 1 0), (24, aI)]) rfl rfl <| w_block ?_
    obtain ⟨x32, hx32, h33⟩ := bind_s hx29
    refine w_join (fun j34 => x32 = j34) (fun (j34 : Bool) => ([(1, .box 0 0), (2, .box 1 0), (25, .c (.bool j34))] : Fr)) (fun (j34 : Bool) => ([[.c (.int .i64 p0c.Kind), .c (.int .i64 x1), .c (.str x15), .c (.str p0c.Key), .c (.int .i64 p0c.N), .c (.int .i64 p0c.Data.Kind), .c (.int .i64 p0c.Data.Int), .c (.str p0c.Data.Text), .c (PV.ls 5 rowApiValue p0c.Data.Items), .c (PV.ls 1 rowS p0c.Data.Keys), .c (.str p0c.Opts.Queue), .c (.int .i64 p0c.Opts.ToStart), .c (.int .i64 p0c.Opts.ToClose), .c (.int .i64 p0c.Opts.Total), .c (.int .i64 p0c.Opts.Beat), .c (.int .i64 p0c.Opts.First), .c (.int .i64 p0c.Opts.Coef), .c (.int .i64 p0c.Opts.Most), .c (.int .i64 p0c.Opts.Attempts), .c (PV.ls 1 rowS p0c.Opts.Fatal)], [.c (.int .i64 (0 : Int)), .c (.int .i64 (0 : Int)), .c (.str ([] : List UInt8)), .c (.str ([] : List UInt8)), .c (.int .i64 (0 : Int)), .c (.int .i64 (0 : Int)), .c (.int .i64 (0 : Int)), .c (.str ([] : List UInt8)), AV.nil, AV.nil, .c (.str ([] : List UInt8)), .c (.int .i64 (0 : Int)), .c (.int .i64 (0 : Int)), .c (.int .i64 (0 : Int)), .c (.int .i64 (0 : Int)), .c (.int .i64 (0 : Int)), .c (.int .i64 (0 : Int)), .c (.int .i64 (0 : Int)), .c (.int .i64 (0 : Int)), AV.nil]] : St)) ?_ ?_
    ·
     refine w_sr <| o_p rfl (p_eql rfl rfl) <| sB rfl <| o_ek (fr' := [(1, .box 0 0), (2, .box 1 0), (24, aI), (25, aB)]) rfl rfl <| w_ch hx32 rfl (fun hb35 h35 => ?_) (fun hb35 h35 => ?_)
     ·
      exact w_skip <| e_j _ (sy h35) (w_weak [] 2 rfl rfl rfl rfl ⟨lr, lr, lr, trivial⟩ (st_r rfl (st_r rfl st_nil)))
     ·
      refine w_sr <| o_p rfl (p_eql rfl rfl) <| sB rfl <| o_ek (fr' := [(1, .box 0 0), (2, .box 1 0), (24, aI), (25, aB)]) rfl rfl <| w_ch h35 rfl (fun hb36 h36 => ?_) (fun hb36 h36 => ?_)
      ·
       exact w_skip <| e_j _ (sy h36) (w_weak [] 2 rfl rfl rfl rfl ⟨lr, lr, lr, trivial⟩ (st_r rfl (st_r rfl st_nil)))
      ·
       refine w_sr <| o_p rfl (p_eql rfl rfl) <| sB rfl <| o_ek (fr' := [(1, .box 0 0), (2, .box 1 0), (24, aI), (25, aB)]) rfl rfl <| w_ch h36 rfl (fun hb37 h37 => ?_) (fun hb37 h37 => ?_)
       ·
        exact w_skip <| e_j _ (sy h37) (w_weak [] 2 rfl rfl rfl rfl ⟨lr, lr, lr, trivial⟩ (st_r rfl (st_r rfl st_nil)))
       ·
        exact w_region <| o_p rfl (p_eql rfl rfl) <| sB rfl <| o_end (fr' := [(1, .box 0 0), (2, .box 1 0), (24, aI), (25, aB)]) rfl <| e_j _ (sy h37) (w_weak [] 2 rfl rfl rfl rfl ⟨lr, lr, lr, trivial⟩ (st_r rfl (st_r rfl st_nil)))
    ·
     intro j34 hj38
     subst hj38
     refine w_ch h33 rfl (fun hb39 h39 => ?_) (fun hb39 h39 => ?_)
     ·
      exact w_region <| o_p rfl (p_fa tf33x3 rfl) <| o_store (v := aS) (us := [aS]) (cs := aIISSIIISLLSIIIIIIIIL) (σ' := [aIISSIIISLLSIIIIIIIIL, [aI, aI, aS, aS, aI, aI, aI, aS, AV.nil, AV.nil, aS, aI, aI, aI, aI, aI, aI, aI, aI, AV.nil]]) rfl tv9 rfl rfl rfl rfl rfl rfl rfl rfl <| o_end (fr' := [(1, .box 0 0), (2, .box 1 0), (25, aB)]) rfl <| e_blk_n <| e_j _ (sy h39) (w_weak [] 2 rfl rfl rfl rfl ⟨lr, lr, trivial⟩ (st_r rfl (st_r rfl st_nil)))
     ·
      exact w_skip <| e_blk_n <| e_j _ (sy h39) (w_weak [] 2 rfl rfl rfl rfl ⟨lr, lr, trivial⟩ (st_r rfl (st_r rfl st_nil)))
   ·
    intro j31 hj40
    subst hj40
    obtain ⟨x41, hx41, h42⟩ := bind_s h30
    refine w_join (fun j43 => x41 = j43) (fun (j43 : Int) => ([(1, .box 0 0), (2, .box 1 0)] : Fr)) (fun (j43 : Int) => ([[.c (.int .i64 p0c.Kind), .c (.int .i64 x1), .c (.str x15), .c (.str x29), .c (.int .i64 j43), .c (.int .i64 p0c.Data.Kind), .c (.int .i64 p0c.Data.Int), .c (.str p0c.Data.Text), .c (PV.ls 5 rowApiValue p0c.Data.Items), .c (PV.ls 1 rowS p0c.Data.Keys), .c (.str p0c.Opts.Queue), .c (.int .i64 p0c.Opts.ToStart), .c (.int .i64 p0c.Opts.ToClose), .c (.int .i64 p0c.Opts.Total), .c (.int .i64 p0c.Opts.Beat), .c (.int .i64 p0c.Opts.First), .c (.int .i64 p0c.Opts.Coef), .c (.int .i64 p0c.Opts.Most), .c (.int .i64 p0c.Opts.Attempts), .c (PV.ls 1 rowS p0c.Opts.Fatal)], [.c (.int .i64 (0 : Int)), .c (.int .i64 (0 : Int)), .c (.str ([] : List UInt8)), .c (.str ([] : List UInt8)), .c (.int .i64 (0 : Int)), .c (.int .i64 (0 : Int)), .c (.int .i64 (0 : Int)), .c (.str ([] : List UInt8)), AV.nil, AV.nil, .c (.str ([] : List UInt8)), .c (.int .i64 (0 : Int)), .c (.int .i64 (0 : Int)), .c (.int .i64 (0 : Int)), .c (.int .i64 (0 : Int)), .c (.int .i64 (0 : Int)), .c (.int .i64 (0 : Int)), .c (.int .i64 (0 : Int)), .c (.int .i64 (0 : Int)), AV.nil]] : St)) ?_ ?_
    ·
     refine w_sr <| o_p rfl (p_fa tf33x0 rfl) <| o_p rfl (p_load (v := aI) tv3 rfl rfl rfl) <| o_ek (fr' := [(1, .box 0 0), (2, .box 1 0), (32, aI)]) rfl rfl <| w_block ?_
     obtain ⟨x44, hx44, h45⟩ := bind_s hx41
     refine w_join (fun j46 => x44 = j46) (fun (j46 : Bool) => ([(1, .box 0 0), (2, .box 1 0), (33, .c (.bool j46))] : Fr)) (fun (j46 : Bool) => ([[.c (.int .i64 p0c.Kind), .c (.int .i64 x1), .c (.str x15), .c (.str x29), .c (.int .i64 p0c.N), .c (.int .i64 p0c.Data.Kind), .c (.int .i64 p0c.Data.Int), .c (.str p0c.Data.Text), .c (PV.ls 5 rowApiValue p0c.Data.Items), .c (PV.ls 1 rowS p0c.Data.Keys), .c (.str p0c.Opts.Queue), .c (.int .i64 p0c.Opts.ToStart), .c (.int .i64 p0c.Opts.ToClose), .c (.int .i64 p0c.Opts.Total), .c (.int .i64 p0c.Opts.Beat), .c (.int .i64 p0c.Opts.First), .c (.int .i64 p0c.Opts.Coef), .c (.int .i64 p0c.Opts.Most), .c (.int .i64 p0c.Opts.Attempts), .c (PV.ls 1 rowS p0c.Opts.Fatal)], [.c (.int .i64 (0 : Int)), .c (.int .i64 (0 : Int)), .c (.str ([] : List UInt8)), .c (.str ([] : List UInt8)), .c (.int .i64 (0 : Int)), .c (.int .i64 (0 : Int)), .c (.int .i64 (0 : Int)), .c (.str ([] : List UInt8)), AV.nil, AV.nil, .c (.str ([] : List UInt8)), .c (.int .i64 (0 : Int)), .c (.int .i64 (0 : Int)), .c (.int .i64 (0 : Int)), .c (.int .i64 (0 : Int)), .c (.int .i64 (0 : Int)), .c (.int .i64 (0 : Int)), .c (.int .i64 (0 : Int)), .c (.int .i64 (0 : Int)), AV.nil]] : St)) ?_ ?_
     ·
      refine w_sr <| o_p rfl (p_eql rfl rfl) <| sB rfl <| o_ek (fr' := [(1, .box 0 0), (2, .box 1 0), (32, aI), (33, aB)]) rfl rfl <| w_ch hx44 rfl (fun hb47 h47 => ?_) (fun hb47 h47 => ?_)
      ·
       exact w_skip <| e_j _ (sy h47) (w_weak [] 2 rfl rfl rfl rfl ⟨lr, lr, lr, trivial⟩ (st_r rfl (st_r rfl st_nil)))
      ·
       refine w_sr <| o_p rfl (p_eql rfl rfl) <| sB rfl <| o_ek (fr' := [(1, .box 0 0), (2, .box 1 0), (32, aI), (33, aB)]) rfl rfl <| w_ch h47 rfl (fun hb48 h48 => ?_) (fun hb48 h48 => ?_)
       ·
        exact w_skip <| e_j _ (sy h48) (w_weak [] 2 rfl rfl rfl rfl ⟨lr, lr, lr, trivial⟩ (st_r rfl (st_r rfl st_nil)))
       ·
        refine w_sr <| o_p rfl (p_eql rfl rfl) <| sB rfl <| o_ek (fr' := [(1, .box 0 0), (2, .box 1 0), (32, aI), (33, aB)]) rfl rfl <| w_ch h48 rfl (fun hb49 h49 => ?_) (fun hb49 h49 => ?_)
        ·
         exact w_skip <| e_j _ (sy h49) (w_weak [] 2 rfl rfl rfl rfl ⟨lr, lr, lr, trivial⟩ (st_r rfl (st_r rfl st_nil)))
        ·
         exact w_region <| o_p rfl (p_eql rfl rfl) <| sB rfl <| o_end (fr' := [(1, .box 0 0), (2, .box 1 0), (32, aI), (33, aB)]) rfl <| e_j _ (sy h49) (w_weak [] 2 rfl rfl rfl rfl ⟨lr, lr, lr, trivial⟩ (st_r rfl (st_r rfl st_nil)))
     ·
      intro j46 hj50
      subst hj50
      refine w_ch h45 rfl (fun hb51 h51 => ?_) (fun hb51 h51 => ?_)
      ·
       exact w_region <| o_p rfl (p_fa tf33x4 rfl) <| o_store (v := aI) (us := [aI]) (cs := aIISSIIISLLSIIIIIIIIL) (σ' := [aIISSIIISLLSIIIIIIIIL, [aI, aI, aS, aS, aI, aI, aI, aS, AV.nil, AV.nil, aS, aI, aI, aI, aI, aI, aI, aI, aI, AV.nil]]) rfl tv3 rfl rfl rfl rfl rfl rfl rfl rfl <| o_end (fr' := [(1, .box 0 0), (2, .box 1 0), (33, aB)]) rfl <| e_blk_n <| e_j _ (sy h51) (w_weak [] 2 rfl rfl rfl rfl ⟨lr, lr, trivial⟩ (st_r rfl (st_r rfl st_nil)))
      ·
       exact w_skip <| e_blk_n <| e_j _ (sy h51) (w_weak [] 2 rfl rfl rfl rfl ⟨lr, lr, trivial⟩ (st_r rfl (st_r rfl st_nil)))
    ·
     intro j43 hj52
     subst hj52
     obtain ⟨x53, hx53, h54⟩ := bind_s h42
     refine w_join (fun j55 => x53 = j55) (fun (j55 : ApiCommand) => ([(1, .box 0 0), (2, .box 1 0)] : Fr)) (fun (j55 : ApiCommand) => ([[.c (.int .i64 j55.Kind), .c (.int .i64 j55.Seq), .c (.str j55.Name), .c (.str j55.Key), .c (.int .i64 j55.N), .c (.int .i64 j55.Data.Kind), .c (.int .i64 j55.Data.Int), .c (.str j55.Data.Text), .c (PV.ls 5 rowApiValue j55.Data.Items), .c (PV.ls 1 rowS j55.Data.Keys), .c (.str j55.Opts.Queue), .c (.int .i64 j55.Opts.ToStart), .c (.int .i64 j55.Opts.ToClose), .c (.int .i64 j55.Opts.Total), .c (.int .i64 j55.Opts.Beat), .c (.int .i64 j55.Opts.First), .c (.int .i64 j55.Opts.Coef), .c (.int .i64 j55.Opts.Most), .c (.int .i64 j55.Opts.Attempts), .c (PV.ls 1 rowS j55.Opts.Fatal)], [.c (.int .i64 (0 : Int)), .c (.int .i64 (0 : Int)), .c (.str ([] : List UInt8)), .c (.str ([] : List UInt8)), .c (.int .i64 (0 : Int)), .c (.int .i64 (0 : Int)), .c (.int .i64 (0 : Int)), .c (.str ([] : List UInt8)), AV.nil, AV.nil, .c (.str ([] : List UInt8)), .c (.int .i64 (0 : Int)), .c (.int .i64 (0 : Int)), .c (.int .i64 (0 : Int)), .c (.int .i64 (0 : Int)), .c (.int .i64 (0 : Int)), .c (.int .i64 (0 : Int)), .c (.int .i64 (0 : Int)), .c (.int .i64 (0 : Int)), AV.nil]] : St)) ?_ ?_
     ·
      refine w_sr <| o_p rfl (p_fa tf33x0 rfl) <| o_p rfl (p_load (v := aI) tv3 rfl rfl rfl) <| o_ek (fr' := [(1, .box 0 0), (2, .box 1 0), (40, aI)]) rfl rfl <| w_block ?_
      obtain ⟨x56, hx56, h57⟩ := bind_s hx53
      refine w_join (fun j58 => x56 = j58) (fun (j58 : Bool) => ([(1, .box 0 0), (2, .box 1 0), (43, .c (.bool j58))] : Fr)) (fun (j58 : Bool) => ([[.c (.int .i64 p0c.Kind), .c (.int .i64 x1), .c (.str x15), .c (.str x29), .c (.int .i64 x41), .c (.int .i64 p0c.Data.Kind), .c (.int .i64 p0c.Data.Int), .c (.str p0c.Data.Text), .c (PV.ls 5 rowApiValue p0c.Data.Items), .c (PV.ls 1 rowS p0c.Data.Keys), .c (.str p0c.Opts.Queue), .c (.int .i64 p0c.Opts.ToStart), .c (.int .i64 p0c.Opts.ToClose), .c (.int .i64 p0c.Opts.Total), .c (.int .i64 p0c.Opts.Beat), .c (.int .i64 p0c.Opts.First), .c (.int .i64 p0c.Opts.Coef), .c (.int .i64 p0c.Opts.Most), .c (.int .i64 p0c.Opts.Attempts), .c (PV.ls 1 rowS p0c.Opts.Fatal)], [.c (.int .i64 (0 : Int)), .c (.int .i64 (0 : Int)), .c (.str ([] : List UInt8)), .c (.str ([] : List UInt8)), .c (.int .i64 (0 : Int)), .c (.int .i64 (0 : Int)), .c (.int .i64 (0 : Int)), .c (.str ([] : List UInt8)), AV.nil, AV.nil, .c (.str ([] : List UInt8)), .c (.int .i64 (0 : Int)), .c (.int .i64 (0 : Int)), .c (.int .i64 (0 : Int)), .c (.int .i64 (0 : Int)), .c (.int .i64 (0 : Int)), .c (.int .i64 (0 : Int)), .c (.int .i64 (0 : Int)), .c (.int .i64 (0 : Int)), AV.nil]] : St)) ?_ ?_
      ·
       refine w_sr <| o_p rfl (p_eql rfl rfl) <| sB rfl <| o_ek (fr' := [(1, .box 0 0), (2, .box 1 0), (40, aI), (43, aB)]) rfl rfl <| w_ch hx56 rfl (fun hb59 h59 => ?_) (fun hb59 h59 => ?_)
       ·
        exact w_skip <| e_j _ (sy h59) (w_weak [] 2 rfl rfl rfl rfl ⟨lr, lr, lr, trivial⟩ (st_r rfl (st_r rfl st_nil)))
       ·
        refine w_sr <| o_p rfl (p_eql rfl rfl) <| sB rfl <| o_ek (fr' := [(1, .box 0 0), (2, .box 1 0), (40, aI), (43, aB)]) rfl rfl <| w_ch h59 rfl (fun hb60 h60 => ?_) (fun hb60 h60 => ?_)
        ·
         exact w_skip <| e_j _ (sy h60) (w_weak [] 2 rfl rfl rfl rfl ⟨lr, lr, lr, trivial⟩ (st_r rfl (st_r rfl st_nil)))
        ·
         exact w_region <| o_p rfl (p_eql rfl rfl) <| sB rfl <| o_end (fr' := [(1, .box 0 0), (2, .box 1 0), (40, aI), (43, aB)]) rfl <| e_j _ (sy h60) (w_weak [] 2 rfl rfl rfl rfl ⟨lr, lr, lr, trivial⟩ (st_r rfl (st_r rfl st_nil)))
      ·
       intro j58 hj61
       subst hj61
       refine w_ch h57 rfl (fun hb62 h62 => ?_) (fun hb62 h62 => ?_)
       ·
        exact w_skip <| e_blk_n <| e_j _ (sy h62) (w_weak [] 2 rfl rfl rfl rfl ⟨lr, lr, trivial⟩ (st_r rfl (st_r rfl st_nil)))
       ·
        exact w_region <| o_p rfl (p_build (cs := [aI, aI, aS, AV.nil, AV.nil]) tb25 rfl) <| o_p rfl (p_fa tf33x5 rfl) <| o_store (v := .agg [aI, aI, aS, AV.nil, AV.nil]) (us := [aI, aI, aS, AV.nil, AV.nil]) (cs := aIISSIIISLLSIIIIIIIIL) (σ' := [[aI, aI, aS, aS, aI, aI, aI, aS, AV.nil, AV.nil, aS, aI, aI, aI, aI, aI, aI, aI, aI, aL], [aI, aI, aS, aS, aI, aI, aI, aS, AV.nil, AV.nil, aS, aI, aI, aI, aI, aI, aI, aI, aI, AV.nil]]) rfl tv25 rfl rfl rfl rfl rfl rfl rfl rfl <| o_end (fr' := [(1, .box 0 0), (2, .box 1 0), (43, aB)]) rfl <| e_blk_n <| e_j _ (sy h62) (w_weak [] 2 rfl rfl rfl rfl ⟨lr, lr, trivial⟩ (st_p ⟨lr, lr, lr, lr, lr, lr, lr, lr, le_nls, le_nls, lr, lr, lr, lr, lr, lr, lr, lr, lr, lr, trivial⟩ (st_r rfl st_nil)))
     ·
      intro j55 hj63
      subst hj63
      refine w_seqw <| w_sr <| o_p rfl (p_fa tf33x0 rfl) <| o_p rfl (p_load (v := aI) tv3 rfl rfl rfl) <| o_p rfl (p_eql rfl rfl) <| o_ek (fr' := [(1, .box 0 0), (2, .box 1 0), (49, aB)]) rfl rfl <| w_ch h54 rfl (fun hb64 h64 => ?_) (fun hb64 h64 => ?_)
      ·
       refine w_region <| o_p rfl (p_buildc (c0 := [aS, aI, aI, aI, aI, aI, aI, aI, aI, AV.nil]) (cs := [aS, aI, aI, aI, aI, aI, aI, aI, aI, AV.nil]) tb27 rfl fill_nil) <| o_p rfl (p_fa tf33x6 rfl) <| o_store (v := .agg [aS, aI, aI, aI, aI, aI, aI, aI, aI, AV.nil]) (us := [aS, aI, aI, aI, aI, aI, aI, aI, aI, AV.nil]) (cs := aIISSIIISLLSIIIIIIIIL) (σ' := [[aI, aI, aS, aS, aI, aI, aI, aS, aL, aL, aS, aI, aI, aI, aI, aI, aI, aI, aI, AV.nil], [aI, aI, aS, aS, aI, aI, aI, aS, AV.nil, AV.nil, aS, aI, aI, aI, aI, aI, aI, aI, aI, AV.nil]]) rfl tv27 rfl rfl rfl rfl rfl rfl rfl rfl <| o_ek (fr' := [(1, .box 0 0), (2, .box 1 0)]) rfl rfl <| w_sr <| o_p rfl (p_loads (us := [aI, aI, aS, aS, aI, aI, aI, aS, aL, aL, aS, aI, aI, aI, aI, aI, aI, aI, aI, AV.nil]) tv33 rfl rfl rfl rfl) <| o_store (v := .agg [aI, aI, aS, aS, aI, aI, aI, aS, aL, aL, aS, aI, aI, aI, aI, aI, aI, aI, aI, AV.nil]) (us := [aI, aI, aS, aS, aI, aI, aI, aS, aL, aL, aS, aI, aI, aI, aI, aI, aI, aI, aI, AV.nil]) (cs := [aI, aI, aS, aS, aI, aI, aI, aS, AV.nil, AV.nil, aS, aI, aI, aI, aI, aI, aI, aI, aI, AV.nil]) (σ' := [[aI, aI, aS, aS, aI, aI, aI, aS, aL, aL, aS, aI, aI, aI, aI, aI, aI, aI, aI, AV.nil], [aI, aI, aS, aS, aI, aI, aI, aS, aL, aL, aS, aI, aI, aI, aI, aI, aI, aI, aI, AV.nil]]) rfl tv33 rfl rfl rfl rfl rfl rfl rfl rfl <| o_ek (fr' := [(2, .box 1 0)]) rfl rfl <| w_ret ?_
       obtain rfl := sy h64
       exact e_ret (rs' := [.cell 2 33]) rfl <| r_cells (us := [aI, aI, aS, aS, aI, aI, aI, aS, aL, aL, aS, aI, aI, aI, aI, aI, aI, aI, aI, AV.nil]) (cs := [aI, aI, aS, aS, aI, aI, aI, aS, aL, aL, aS, aI, aI, aI, aI, aI, aI, aI, aI, AV.nil]) tv33 rfl rfl rfl rfl <| r_nil <| fin_gen [] rfl rfl rfl (le_aggc rfl ⟨rfl, rfl, rfl, rfl, rfl, rfl, rfl, rfl, rfl, rfl, rfl, rfl, rfl, rfl, rfl, rfl, rfl, rfl, rfl, ⟨_, rfl⟩, trivial⟩) st_nil
      ·
       refine w_skip <| e_kw <| w_sr <| o_p rfl (p_loads (us := aIISSIIISLLSIIIIIIIIL) tv33 rfl rfl rfl rfl) <| o_store (v := .agg aIISSIIISLLSIIIIIIIIL) (us := aIISSIIISLLSIIIIIIIIL) (cs := [aI, aI, aS, aS, aI, aI, aI, aS, AV.nil, AV.nil, aS, aI, aI, aI, aI, aI, aI, aI, aI, AV.nil]) (σ' := [aIISSIIISLLSIIIIIIIIL, aIISSIIISLLSIIIIIIIIL]) rfl tv33 rfl rfl rfl rfl rfl rfl rfl rfl <| o_ek (fr' := [(2, .box 1 0)]) rfl rfl <| w_ret ?_
       obtain rfl := sy h64
       exact e_ret (rs' := [.cell 2 33]) rfl <| r_cells (us := aIISSIIISLLSIIIIIIIIL) (cs := aIISSIIISLLSIIIIIIIIL) tv33 rfl rfl rfl rfl <| r_nil <| fin_gen [] rfl rfl rfl (le_aggc rfl ⟨rfl, rfl, rfl, rfl, rfl, rfl, rfl, rfl, rfl, rfl, rfl, rfl, rfl, rfl, rfl, rfl, rfl, rfl, rfl, rfl, trivial⟩) st_nil
noncomputable def ref20xIdent_l1 (p0s : (List UInt8)) (s6 : Int) : Option (Step Int (Fl Bool Unit)) :=
 cond (decide (s6 < ((p0s).length : Int))) ((idx p0s s6).bind fun (x8 : UInt8) => (gd ((decide (((x8).toNat : Int) < (33 : Int))) == false) (idx p0s s6)).bind fun (x10 : UInt8) => (gd ((cond (decide (((x8).toNat : Int) < (33 : Int))) true (decide ((126 : Int) < ((x10).toNat : Int)))) == false) (idx p0s s6)).bind fun (x12 : UInt8) => (gd ((cond (cond (decide (((x8).toNat : Int) < (33 : Int))) true (decide ((126 : Int) < ((x10).toNat : Int)))) true (decide (((x12).toNat : Int) = (47 : Int)))) == false) (idx p0s s6)).bind fun (x14 : UInt8) => cond (cond (cond (cond (decide (((x8).toNat : Int) < (33 : Int))) true (decide ((126 : Int) < ((x10).toNat : Int)))) true (decide (((x12).toNat : Int) = (47 : Int)))) true (decide (((x14).toNat : Int) = (34 : Int)))) (some (Step.out (Fl.done false))) (some (Step.next (IntKind.wrap .i64 (s6 + (1 : Int)))))) (some (Step.out (Fl.go ())))
noncomputable def ref20xIdent (p0s : (List UInt8)) : Option Bool :=
 cond (cond (decide (((p0s).length : Int) < (1 : Int))) true (decide ((64 : Int) < ((p0s).length : Int)))) (some false) (((loopO (ref20xIdent_l1 p0s) ((0 : Int))) : Option (Fl Bool Unit)).bind fun (x3 : (Fl Bool Unit)) => Fl.next x3 (fun (j5 : Unit) => (some true)))
theorem w_ref20xIdent {p0s : (List UInt8)} {res : Bool} (h : ref20xIdent p0s = some res) : ACalls Tryz.prog 72 [.c (.str p0s)] [] (.c (.bool res)) [] := by
 unfold ref20xIdent at h
 refine acalls (fn := Tryz.f72) [0, 2, 3, 11, 15, 39] (by kernel_rfl) Tryz.func72 rfl (by kernel_rfl) (by kernel_rfl) <| w_sr <| sB rfl <| o_ek (fr' := [(0, aS)]) rfl rfl <| w_seqw <| w_sr <| mS rfl <| o_p rfl (p_lens ti9 rfl) <| o_p rfl (p_lss rfl rfl) <| mB rfl <| og rfl rfl rfl (fun hc => (p_move (v := aS) rfl)) ?_
 refine og rfl rfl rfl (fun hc => (p_lens ti9 (gx rfl hc))) <| og rfl rfl rfl (fun hc => (p_gtr (gx rfl hc) rfl)) <| o_p rfl (p_pickz rfl rfl rfl (fun e => keq e)) <| o_ek (fr' := [(0, aS), (11, aB)]) rfl rfl <| w_ch h rfl (fun hb1 h1 => ?_) (fun hb1 h1 => ?_)
 ·
  refine w_sr <| sB rfl <| o_ek (fr' := [(2, aB)]) rfl rfl <| w_ret <| e_seq_r ?_
  obtain rfl := sy h1
  exact e_ret (rs' := [.tmp 2]) rfl <| r_tmp (v := aB) rfl <| r_nil <| fin_gen [] rfl rfl rfl lr st_nil
 ·
  refine w_skip <| e_kw <| w_seqw <| w_sr <| sI rfl <| o_ek (fr' := [(0, aS), (3, aI)]) rfl rfl ?_
  obtain ⟨x3, hx3, h4⟩ := bind_s h1
  refine w_jtail cl_kw (fun j5 => x3 = Fl.go j5) (fun (j5 : Unit) => ([] : Fr)) (fun (j5 : Unit) => ([] : St)) ?_ ?_
  ·
   refine w_block <| w_loopo _ (fun (s6 : Int) => ([(0, .c (.str p0s)), (3, .c (.int .i64 s6))] : Fr)) (fun (s6 : Int) => ([] : St)) hx3 (w_weak [] 0 rfl rfl rfl rfl ⟨lr, lr, trivial⟩ st_nil) ?_
   intro s6 st6 hs6 ho6
   unfold ref20xIdent_l1 at hs6
   refine w_seqw <| w_sr <| mI rfl <| mS rfl <| o_p rfl (p_lens ti9 rfl) <| o_p rfl (p_lss rfl rfl) <| o_ek (fr' := [(0, aS), (3, aI), (15, aB)]) rfl rfl <| w_ch hs6 rfl (fun hb7 h7 => ?_) (fun hb7 h7 => ?_)
   ·
    refine w_skip <| e_kw <| w_seqw <| w_block <| w_sr <| mS rfl <| mI rfl ?_
    obtain ⟨x8, hx8, h9⟩ := bind_s h7
    refine o_p rfl (p_is ti9 rfl rfl hx8) <| o_p rfl (p_lss rfl rfl) <| mB rfl <| og rfl rfl rfl (fun hc => (p_move (v := aS) rfl)) <| og rfl rfl rfl (fun hc => (p_move (v := aI) rfl)) ?_
    obtain ⟨x10, hx10, h11⟩ := bind_s h9
    refine og rfl rfl rfl (fun hc => (p_is ti9 (gx rfl hc) (gx rfl hc) (gd_some hx10 hc))) <| og rfl rfl rfl (fun hc => (p_gtr (gx rfl hc) rfl)) <| o_p rfl (p_pickz rfl rfl rfl (fun e => keq e)) <| mB rfl <| og rfl rfl rfl (fun hc => (p_move (v := aS) rfl)) <| og rfl rfl rfl (fun hc => (p_move (v := aI) rfl)) ?_
    obtain ⟨x12, hx12, h13⟩ := bind_s h11
    refine og rfl rfl rfl (fun hc => (p_is ti9 (gx rfl hc) (gx rfl hc) (gd_some hx12 hc))) <| og rfl rfl rfl (fun hc => (p_eql (gx rfl hc) rfl)) <| o_p rfl (p_pickz rfl rfl rfl (fun e => keq e)) <| mB rfl <| og rfl rfl rfl (fun hc => (p_move (v := aS) rfl)) <| og rfl rfl rfl (fun hc => (p_move (v := aI) rfl)) ?_
    obtain ⟨x14, hx14, h15⟩ := bind_s h13
    refine og rfl rfl rfl (fun hc => (p_is ti9 (gx rfl hc) (gx rfl hc) (gd_some hx14 hc))) <| og rfl rfl rfl (fun hc => (p_eql (gx rfl hc) rfl)) <| o_p rfl (p_pickz rfl rfl rfl (fun e => keq e)) <| o_ek (fr' := [(0, aS), (3, aI), (39, aB)]) rfl rfl <| w_ch h15 rfl (fun hb16 h16 => ?_) (fun hb16 h16 => ?_)
    ·
     refine w_sr <| sB rfl <| o_ek (fr' := [(2, aB)]) rfl rfl <| w_ret <| e_blk_r <| e_seq_r <| e_seq_r <| e_blk_r <| e_seq_r <| e_seq_r ?_
     have h17 := un_out h16 ho6
     have h18 := un_done h17 h4
     obtain rfl := sy h18
     exact e_ret (rs' := [.tmp 2]) rfl <| r_tmp (v := aB) rfl <| r_nil <| fin_gen [] rfl rfl rfl lr st_nil
    ·
     exact w_skip <| e_blk_n <| e_kw <| w_region <| mI rfl <| o_p rfl (p_add rfl rfl) <| sI rfl <| o_end (fr' := [(0, aS), (3, aI), (39, aB)]) rfl <| e_l _ (sy h16) (w_weak [] 0 rfl rfl rfl rfl ⟨lr, lr, trivial⟩ st_nil)
   ·
    refine w_exit <| e_seq_x <| e_seq_x <| e_blk_h ?_
    have h20 := un_out h7 ho6
    exact e_j _ (sy h20) (w_weak [] 0 rfl rfl rfl rfl trivial st_nil)
  ·
   intro j5 hj21
   have h21 := un_go hj21 h4
   refine e_kw <| w_sr <| sB rfl <| o_ek (fr' := [(2, aB)]) rfl rfl <| w_ret ?_
   obtain rfl := sy h21
   exact e_ret (rs' := [.tmp 2]) rfl <| r_tmp (v := aB) rfl <| r_nil <| fin_gen [] rfl rfl rfl lr st_nil
noncomputable def ref20xRightPolicy_l1 (p0o : ApiPolicy) (s4 : Int) : Option (Step Int (Fl Bool Unit)) :=
 cond (decide (s4 < ((([p0o.ToStart, p0o.ToClose, p0o.Total, p0o.Beat, p0o.First, p0o.Most] : List Int)).length : Int))) ((idx ([p0o.ToStart, p0o.ToClose, p0o.Total, p0o.Beat, p0o.First, p0o.Most] : List Int) s4).bind fun (x6 : Int) => (ref20xin x6 (0 : Int) (1099511627776 : Int)).bind fun (x8 : Bool) => cond (!x8) (some (Step.out (Fl.done false))) (some (Step.next (IntKind.wrap .i64 (s4 + (1 : Int)))))) (some (Step.out (Fl.go ())))
noncomputable def ref20xRightPolicy_l2 (p0o : ApiPolicy) (s19 : Int) : Option (Step Int (Fl Bool Unit)) :=
 cond (decide (s19 < ((p0o.Fatal).length : Int))) ((idx p0o.Fatal s19).bind fun (x21 : (List UInt8)) => cond (decide ((4096 : Int) < ((x21).length : Int))) (some (Step.out (Fl.done false))) (some (Step.next (IntKind.wrap .i64 (s19 + (1 : Int)))))) (some (Step.out (Fl.go ())))
noncomputable def ref20xRightPolicy (p0o : ApiPolicy) : Option Bool :=
 ((loopO (ref20xRightPolicy_l1 p0o) ((0 : Int))) : Option (Fl Bool Unit)).bind fun (x1 : (Fl Bool Unit)) => Fl.next x1 (fun (j3 : Unit) => (((loopO (ref20xRightPolicy_l2 p0o) ((0 : Int))) : Option (Fl Bool Unit)).bind fun (x16 : (Fl Bool Unit)) => Fl.next x16 (fun (j18 : Unit) => ((gd ((decide (p0o.Queue = ([] : List UInt8))) == false) (ref06xRight p0o.Queue)).bind fun (x29 : Bool) => (gd ((cond (decide (p0o.Queue = ([] : List UInt8))) true x29) == true) (ref20xin p0o.Coef (0 : Int) (10000 : Int))).bind fun (x31 : Bool) => (gd ((cond (cond (decide (p0o.Queue = ([] : List UInt8))) true x29) x31 false) == true) (ref20xin p0o.Attempts (0 : Int) (1000 : Int))).bind fun (x33 : Bool) => some (cond (cond (cond (cond (decide (p0o.Queue = ([] : List UInt8))) true x29) x31 false) x33 false) (decide (((p0o.Fatal).length : Int) ≤ (64 : Int))) false)))))
theorem w_ref20xRightPolicy {p0o : ApiPolicy} {res : Bool} (h : ref20xRightPolicy p0o = some res) : ACalls Tryz.prog 73 [.agg (AV.cs (rowApiPolicy p0o))] [] (.c (.bool res)) [] := by
 unfold ref20xRightPolicy at h
 refine acalls (fn := Tryz.f73) [0, 1, 2, 3, 4, 5, 22, 30, 35, 44] (by kernel_rfl) Tryz.func73 rfl (by kernel_rfl) (by kernel_rfl) <| w_sr <| o_box (v := .agg aSIIIIIIIIL) (n := 0) (cs := aSIIIIIIIIL) (σ' := [aSIIIIIIIIL]) rfl rfl rfl rfl rfl <| sB rfl <| o_ek (fr' := [(1, .box 0 0)]) rfl rfl <| w_sr <| o_p rfl (p_fa tf27x1 rfl) <| o_p rfl (p_load (v := aI) tv3 rfl rfl rfl) <| o_p rfl (p_fa tf27x2 rfl) <| o_p rfl (p_load (v := aI) tv3 rfl rfl rfl) <| o_p rfl (p_fa tf27x3 rfl) ?_
 refine o_p rfl (p_load (v := aI) tv3 rfl rfl rfl) <| o_p rfl (p_fa tf27x4 rfl) <| o_p rfl (p_load (v := aI) tv3 rfl rfl rfl) <| o_p rfl (p_fa tf27x5 rfl) <| o_p rfl (p_load (v := aI) tv3 rfl rfl rfl) <| o_p rfl (p_fa tf27x7 rfl) <| o_p rfl (p_load (v := aI) tv3 rfl rfl rfl) <| o_rows (row := (rowI .i64)) (xs := ([p0o.ToStart, p0o.ToClose, p0o.Total, p0o.Beat, p0o.First, p0o.Most] : List Int)) (rows := [[_], [_], [_], [_], [_], [_]]) (σ' := [aSIIIIIIIIL]) [0] ts70 rfl rfl rfl (arow_cons rfl (arow_cons rfl (arow_cons rfl (arow_cons rfl (arow_cons rfl (arow_cons rfl arow_nil)))))) rfl rfl <| sV (v := aO) rfl <| o_ek (fr' := [(1, .box 0 0), (3, aO)]) rfl rfl <| w_seqw <| w_seqw <| w_region ?_
 refine sI rfl <| o_ek (fr' := [(1, .box 0 0), (3, aO), (4, aI)]) rfl rfl ?_
 obtain ⟨x1, hx1, h2⟩ := bind_s h
 refine w_jtail cl_kw (fun j3 => x1 = Fl.go j3) (fun (j3 : Unit) => ([(1, .box 0 0)] : Fr)) (fun (j3 : Unit) => ([[.c (.str p0o.Queue), .c (.int .i64 p0o.ToStart), .c (.int .i64 p0o.ToClose), .c (.int .i64 p0o.Total), .c (.int .i64 p0o.Beat), .c (.int .i64 p0o.First), .c (.int .i64 p0o.Coef), .c (.int .i64 p0o.Most), .c (.int .i64 p0o.Attempts), .c (PV.ls 1 rowS p0o.Fatal)]] : St)) ?_ ?_
 ·
  refine w_block <| w_loopo _ (fun (s4 : Int) => ([(1, .box 0 0), (3, AV.os 0 1 (rowI .i64) ([p0o.ToStart, p0o.ToClose, p0o.Total, p0o.Beat, p0o.First, p0o.Most] : List Int)), (4, .c (.int .i64 s4))] : Fr)) (fun (s4 : Int) => ([[.c (.str p0o.Queue), .c (.int .i64 p0o.ToStart), .c (.int .i64 p0o.ToClose), .c (.int .i64 p0o.Total), .c (.int .i64 p0o.Beat), .c (.int .i64 p0o.First), .c (.int .i64 p0o.Coef), .c (.int .i64 p0o.Most), .c (.int .i64 p0o.Attempts), .c (PV.ls 1 rowS p0o.Fatal)]] : St)) hx1 (w_weak [288] 1 rfl rfl rfl rfl ⟨lr, lr, lr, trivial⟩ (st_r rfl st_nil)) ?_
  intro s4 st4 hs4 ho4
  unfold ref20xRightPolicy_l1 at hs4
  refine w_seqw <| w_sr <| mI rfl <| mV (v := aO) rfl <| o_p rfl (p_len ti70 (isl_o rfl)) <| o_p rfl (p_lss rfl rfl) <| o_ek (fr' := [(1, .box 0 0), (3, aO), (4, aI), (22, aB)]) rfl rfl <| w_ch hs4 rfl (fun hb5 h5 => ?_) (fun hb5 h5 => ?_)
  ·
   refine w_skip <| e_kw <| w_seqw <| w_block <| w_sr <| mV (v := aO) rfl <| mI rfl ?_
   obtain ⟨x6, hx6, h7⟩ := bind_s h5
   refine o_p rfl (p_ia (cs := [PV.int _ _]) ts70 (isl_o rfl) rfl hx6 rfl) <| o_p rfl (p_loade (p := PV.int _ _) tv3 rfl rfl) ?_
   obtain ⟨x8, hx8, h9⟩ := bind_s h7
   refine o_v (ov_call (v := aB) rfl (w_ref20xin hx8) ⟨lr, lr, lr, trivial⟩ rfl rfl rfl) <| o_p rfl (p_not rfl) <| o_ek (fr' := [(1, .box 0 0), (3, aO), (4, aI), (30, aB)]) rfl rfl <| w_ch h9 rfl (fun hb10 h10 => ?_) (fun hb10 h10 => ?_)
   ·
    refine w_sr <| sB rfl <| o_ek (fr' := [(2, aB)]) rfl rfl <| w_ret <| e_blk_r <| e_seq_r <| e_seq_r <| e_blk_r <| e_seq_r <| e_seq_r ?_
    have h11 := un_out h10 ho4
    have h12 := un_done h11 h2
    obtain rfl := sy h12
    exact e_ret (rs' := [.tmp 2]) rfl <| r_tmp (v := aB) rfl <| r_nil <| fin_gen [] rfl rfl rfl lr st_nil
   ·
    exact w_skip <| e_blk_n <| e_kw <| w_region <| mI rfl <| o_p rfl (p_add rfl rfl) <| sI rfl <| o_end (fr' := [(1, .box 0 0), (3, aO), (4, aI), (30, aB)]) rfl <| e_l _ (sy h10) (w_weak [0] 1 rfl rfl rfl rfl ⟨lr, lr, lr, trivial⟩ (st_r rfl st_nil))
  ·
   refine w_exit <| e_seq_x <| e_seq_x <| e_blk_h ?_
   have h14 := un_out h5 ho4
   exact e_j _ (sy h14) (w_weak [] 1 rfl rfl rfl rfl ⟨lr, trivial⟩ (st_r rfl st_nil))
 ·
  intro j3 hj15
  have h15 := un_go hj15 h2
  refine e_kw <| w_seqw <| w_sr <| sI rfl <| o_ek (fr' := [(1, .box 0 0), (5, aI)]) rfl rfl ?_
  obtain ⟨x16, hx16, h17⟩ := bind_s h15
  refine w_jtail cl_kw (fun j18 => x16 = Fl.go j18) (fun (j18 : Unit) => ([(1, .box 0 0)] : Fr)) (fun (j18 : Unit) => ([[.c (.str p0o.Queue), .c (.int .i64 p0o.ToStart), .c (.int .i64 p0o.ToClose), .c (.int .i64 p0o.Total), .c (.int .i64 p0o.Beat), .c (.int .i64 p0o.First), .c (.int .i64 p0o.Coef), .c (.int .i64 p0o.Most), .c (.int .i64 p0o.Attempts), .c (PV.ls 1 rowS p0o.Fatal)]] : St)) ?_ ?_
  ·
   refine w_block <| w_loopo _ (fun (s19 : Int) => ([(1, .box 0 0), (5, .c (.int .i64 s19))] : Fr)) (fun (s19 : Int) => ([[.c (.str p0o.Queue), .c (.int .i64 p0o.ToStart), .c (.int .i64 p0o.ToClose), .c (.int .i64 p0o.Total), .c (.int .i64 p0o.Beat), .c (.int .i64 p0o.First), .c (.int .i64 p0o.Coef), .c (.int .i64 p0o.Most), .c (.int .i64 p0o.Attempts), .c (PV.ls 1 rowS p0o.Fatal)]] : St)) hx16 (w_weak [] 1 rfl rfl rfl rfl ⟨lr, lr, trivial⟩ (st_r rfl st_nil)) ?_
   intro s19 st19 hs19 ho19
   unfold ref20xRightPolicy_l2 at hs19
   refine w_seqw <| w_sr <| mI rfl <| o_p rfl (p_fa tf27x9 rfl) <| o_p rfl (p_load (v := aL) tv23 rfl rfl rfl) <| o_p rfl (p_len ti23 (isl_c rfl)) <| o_p rfl (p_lss rfl rfl) <| o_ek (fr' := [(1, .box 0 0), (5, aI), (35, aB)]) rfl rfl <| w_ch hs19 rfl (fun hb20 h20 => ?_) (fun hb20 h20 => ?_)
   ·
    refine w_skip <| e_kw <| w_seqw <| w_block <| w_sr <| o_p rfl (p_fa tf27x9 rfl) <| o_p rfl (p_load (v := aL) tv23 rfl rfl rfl) <| mI rfl ?_
    obtain ⟨x21, hx21, h22⟩ := bind_s h20
    refine o_p rfl (p_ia (cs := [PV.str _]) ts23 (isl_c rfl) rfl hx21 rfl) <| o_p rfl (p_loade (p := PV.str _) tv9 rfl rfl) <| o_p rfl (p_lens ti9 rfl) <| o_p rfl (p_gtr rfl rfl) <| o_ek (fr' := [(1, .box 0 0), (5, aI), (44, aB)]) rfl rfl <| w_ch h22 rfl (fun hb23 h23 => ?_) (fun hb23 h23 => ?_)
    ·
     refine w_sr <| sB rfl <| o_ek (fr' := [(2, aB)]) rfl rfl <| w_ret <| e_blk_r <| e_seq_r <| e_seq_r <| e_blk_r <| e_seq_r <| e_seq_r ?_
     have h24 := un_out h23 ho19
     have h25 := un_done h24 h17
     obtain rfl := sy h25
     exact e_ret (rs' := [.tmp 2]) rfl <| r_tmp (v := aB) rfl <| r_nil <| fin_gen [] rfl rfl rfl lr st_nil
    ·
     exact w_skip <| e_blk_n <| e_kw <| w_region <| mI rfl <| o_p rfl (p_add rfl rfl) <| sI rfl <| o_end (fr' := [(1, .box 0 0), (5, aI), (44, aB)]) rfl <| e_l _ (sy h23) (w_weak [] 1 rfl rfl rfl rfl ⟨lr, lr, trivial⟩ (st_r rfl st_nil))
   ·
    refine w_exit <| e_seq_x <| e_seq_x <| e_blk_h ?_
    have h27 := un_out h20 ho19
    exact e_j _ (sy h27) (w_weak [] 1 rfl rfl rfl rfl ⟨lr, trivial⟩ (st_r rfl st_nil))
  ·
   intro j18 hj28
   have h28 := un_go hj28 h17
   refine e_kw <| w_sr <| o_p rfl (p_fa tf27x0 rfl) <| o_p rfl (p_load (v := aS) tv9 rfl rfl rfl) <| o_p rfl (p_seql rfl rfl) <| mB rfl <| og rfl rfl rfl (fun hc => (p_fa tf27x0 rfl)) <| og rfl rfl rfl (fun hc => (p_load (v := aS) tv9 (gx rfl hc) rfl rfl)) ?_
   obtain ⟨x29, hx29, h30⟩ := bind_s h28
   refine o_g rfl rfl (fun hc => ov_call (v := aB) rfl (w_ref06xRight (gd_some hx29 hc)) ⟨(le_gv (gx rfl hc) lr), trivial⟩ (ok_eq (by repeat (first | exact ok_nil | refine ok_cons rfl ?_ | refine ok_cons (dgv rfl) ?_ | refine ok_cons dar ?_))) rfl rfl) ?_
   refine o_p rfl (p_pickz rfl rfl rfl (fun e => keq e)) <| mB rfl <| og rfl rfl rfl (fun hc => (p_fa tf27x6 rfl)) <| og rfl rfl rfl (fun hc => (p_load (v := aI) tv3 (gx rfl hc) rfl rfl)) ?_
   obtain ⟨x31, hx31, h32⟩ := bind_s h30
   refine o_g rfl rfl (fun hc => ov_call (v := aB) rfl (w_ref20xin (gd_some hx31 hc)) ⟨(le_gv (gx rfl hc) lr), lr, lr, trivial⟩ (ok_eq (by repeat (first | exact ok_nil | refine ok_cons rfl ?_ | refine ok_cons (dgv rfl) ?_ | refine ok_cons dar ?_))) rfl rfl) ?_
   refine o_p rfl (p_picky rfl rfl rfl (fun e => keq e)) <| mB rfl <| og rfl rfl rfl (fun hc => (p_fa tf27x8 rfl)) <| og rfl rfl rfl (fun hc => (p_load (v := aI) tv3 (gx rfl hc) rfl rfl)) ?_
   obtain ⟨x33, hx33, h34⟩ := bind_s h32
   refine o_g rfl rfl (fun hc => ov_call (v := aB) rfl (w_ref20xin (gd_some hx33 hc)) ⟨(le_gv (gx rfl hc) lr), lr, lr, trivial⟩ (ok_eq (by repeat (first | exact ok_nil | refine ok_cons rfl ?_ | refine ok_cons (dgv rfl) ?_ | refine ok_cons dar ?_))) rfl rfl) ?_
   refine o_p rfl (p_picky rfl rfl rfl (fun e => keq e)) <| mB rfl <| og rfl rfl rfl (fun hc => (p_fa tf27x9 rfl)) <| og rfl rfl rfl (fun hc => (p_load (v := aL) tv23 (gx rfl hc) rfl rfl)) <| og rfl rfl rfl (fun hc => (p_len ti23 (isl_c (gx rfl hc)))) <| og rfl rfl rfl (fun hc => (p_leq (gx rfl hc) rfl)) <| o_p rfl (p_picky rfl rfl rfl (fun e => keq e)) <| sB rfl <| o_ek (fr' := [(2, aB)]) rfl rfl <| w_ret ?_
   obtain rfl := sy h34
   exact e_ret (rs' := [.tmp 2]) rfl <| r_tmp (v := aB) rfl <| r_nil <| fin_gen [] rfl rfl rfl lr st_nil
end Go.Proofs.YtngcjjhbimanlaaGreatDoor

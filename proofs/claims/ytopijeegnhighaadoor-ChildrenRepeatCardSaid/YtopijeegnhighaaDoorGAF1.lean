import Derived.Test.YtopijeegnhighaaDoorGATy
import Derived.Test.YtopijeegnhighaaDoorGAF0
namespace Go.Proofs.YtopijeegnhighaaDoor
open Go Abs
set_option maxRecDepth 100000
set_option linter.unusedVariables false
set_option linter.unusedSimpArgs false
noncomputable def ref02xSame_l1 (p0a : ApiValue) (p1b : ApiValue) (s6 : Int) : Option (Step Int (Fl Bool Unit)) :=
 cond (decide (s6 < ((p0a.Keys).length : Int))) ((idx p0a.Keys s6).bind fun (x8 : (List UInt8)) => (idx p1b.Keys s6).bind fun (x10 : (List UInt8)) => cond (!decide (x8 = x10)) (some (Step.out (Fl.done false))) (some (Step.next (IntKind.wrap .i64 (s6 + (1 : Int)))))) (some (Step.out (Fl.go ())))
noncomputable def ref02xSame_l2 (rec_ref02xSame : ApiValue → ApiValue → Option Bool) (p0a : ApiValue) (p1b : ApiValue) (s21 : Int) : Option (Step Int (Fl Bool Unit)) :=
 cond (decide (s21 < ((p0a.Items).length : Int))) ((idx p0a.Items s21).bind fun (x23 : ApiValue) => (idx p1b.Items s21).bind fun (x25 : ApiValue) => (rec_ref02xSame x23 x25).bind fun (x27 : Bool) => cond (!x27) (some (Step.out (Fl.done false))) (some (Step.next (IntKind.wrap .i64 (s21 + (1 : Int)))))) (some (Step.out (Fl.go ())))
noncomputable def ref02xSameF : Nat → ApiValue → ApiValue → Option Bool
 | 0, _, _ => none
 | n + 1, p0a, p1b =>
  cond (cond (cond (cond (cond (!decide (p0a.Kind = p1b.Kind)) true (!decide (p0a.Int = p1b.Int))) true (!decide (p0a.Text = p1b.Text))) true (!decide (((p0a.Items).length : Int) = ((p1b.Items).length : Int)))) true (!decide (((p0a.Keys).length : Int) = ((p1b.Keys).length : Int)))) (some false) (((loopO (ref02xSame_l1 p0a p1b) ((0 : Int))) : Option (Fl Bool Unit)).bind fun (x3 : (Fl Bool Unit)) => Fl.next x3 (fun (j5 : Unit) => (((loopO (ref02xSame_l2 (ref02xSameF n) p0a p1b) ((0 : Int))) : Option (Fl Bool Unit)).bind fun (x18 : (Fl Bool Unit)) => Fl.next x18 (fun (j20 : Unit) => (some true)))))
theorem wF_ref02xSame : ∀ n : Nat, (∀ {p0a : ApiValue} {p1b : ApiValue} {res : Bool}, ref02xSameF n p0a p1b = some res → ACalls Tryd.prog 29 [.agg (AV.cs (exApiValue p0a)), .agg (AV.cs (exApiValue p1b))] [] (.c (.bool res)) []) := by
 intro n
 induction n with
 | zero => exact fun {p0a p1b res} h => absurd h (by simp [ref02xSameF])
 | succ n ih =>
  have ih_ref02xSame := @ih
  intro p0a p1b res h
  rw [ref02xSameF] at h
  refine acalls (fn := Tryd.f29) [0, 1, 2, 3, 4, 5, 6, 43, 48, 61, 66, 80] (by kernel_rfl) Tryd.func29 rfl (by kernel_rfl) (by kernel_rfl) <| w_sr <| o_box (v := .agg aIISLL) (n := 0) (cs := aIISLL) (σ' := [aIISLL]) rfl rfl rfl rfl rfl <| o_box (v := .agg aIISLL) (n := 1) (cs := aIISLL) (σ' := [aIISLL, aIISLL]) rfl rfl rfl rfl rfl <| sB rfl <| o_ek (fr' := [(2, .box 0 0), (3, .box 1 0)]) rfl rfl <| w_seqw <| w_sr <| o_p rfl (p_fa tf26x0 rfl) <| o_p rfl (p_load (v := aI) tv3 rfl rfl rfl) <| o_p rfl (p_fa tf26x0 rfl) ?_
  refine o_p rfl (p_load (v := aI) tv3 rfl rfl rfl) <| o_p rfl (p_neq rfl rfl) <| mB rfl <| og rfl rfl rfl (fun hc => (p_fa tf26x1 rfl)) <| og rfl rfl rfl (fun hc => (p_load (v := aI) tv3 (gx rfl hc) rfl rfl)) <| og rfl rfl rfl (fun hc => (p_fa tf26x1 rfl)) <| og rfl rfl rfl (fun hc => (p_load (v := aI) tv3 (gx rfl hc) rfl rfl)) <| og rfl rfl rfl (fun hc => (p_neq (gx rfl hc) (gx rfl hc))) <| o_p rfl (p_pickz rfl rfl rfl (fun e => keq e)) <| mB rfl <| og rfl rfl rfl (fun hc => (p_fa tf26x2 rfl)) <| og rfl rfl rfl (fun hc => (p_load (v := aS) tv9 (gx rfl hc) rfl rfl)) <| og rfl rfl rfl (fun hc => (p_fa tf26x2 rfl)) ?_
  refine og rfl rfl rfl (fun hc => (p_load (v := aS) tv9 (gx rfl hc) rfl rfl)) <| og rfl rfl rfl (fun hc => (p_sneq (gx rfl hc) (gx rfl hc))) <| o_p rfl (p_pickz rfl rfl rfl (fun e => keq e)) <| mB rfl <| og rfl rfl rfl (fun hc => (p_fa tf26x3 rfl)) <| og rfl rfl rfl (fun hc => (p_load (v := aL) tv23 (gx rfl hc) rfl rfl)) <| og rfl rfl rfl (fun hc => (p_len ti23 (isl_c (gx rfl hc)))) <| og rfl rfl rfl (fun hc => (p_fa tf26x3 rfl)) <| og rfl rfl rfl (fun hc => (p_load (v := aL) tv23 (gx rfl hc) rfl rfl)) <| og rfl rfl rfl (fun hc => (p_len ti23 (isl_c (gx rfl hc)))) <| og rfl rfl rfl (fun hc => (p_neq (gx rfl hc) (gx rfl hc))) <| o_p rfl (p_pickz rfl rfl rfl (fun e => keq e)) <| mB rfl ?_
  refine og rfl rfl rfl (fun hc => (p_fa tf26x4 rfl)) <| og rfl rfl rfl (fun hc => (p_load (v := aL) tv24 (gx rfl hc) rfl rfl)) <| og rfl rfl rfl (fun hc => (p_len ti24 (isl_c (gx rfl hc)))) <| og rfl rfl rfl (fun hc => (p_fa tf26x4 rfl)) <| og rfl rfl rfl (fun hc => (p_load (v := aL) tv24 (gx rfl hc) rfl rfl)) <| og rfl rfl rfl (fun hc => (p_len ti24 (isl_c (gx rfl hc)))) <| og rfl rfl rfl (fun hc => (p_neq (gx rfl hc) (gx rfl hc))) <| o_p rfl (p_pickz rfl rfl rfl (fun e => keq e)) <| o_ek (fr' := [(2, .box 0 0), (3, .box 1 0), (43, aB)]) rfl rfl <| w_ch h rfl (fun hb1 h1 => ?_) (fun hb1 h1 => ?_)
  ·
   refine w_sr <| sB rfl <| o_ek (fr' := [(4, aB)]) rfl rfl <| w_ret <| e_seq_r ?_
   obtain rfl := sy h1
   exact e_ret (rs' := [.tmp 4]) rfl <| r_tmp (v := aB) rfl <| r_nil <| fin_gen [] rfl rfl rfl lr st_nil
  ·
   refine w_skip <| e_kw <| w_seqw <| w_sr <| sI rfl <| o_ek (fr' := [(2, .box 0 0), (3, .box 1 0), (5, aI)]) rfl rfl ?_
   obtain ⟨x3, hx3, h4⟩ := bind_s h1
   refine w_jtail cl_kw (fun j5 => x3 = Fl.go j5) (fun (j5 : Unit) => ([(2, .box 0 0), (3, .box 1 0)] : Fr)) (fun (j5 : Unit) => ([[.c (.int .i64 p0a.Kind), .c (.int .i64 p0a.Int), .c (.str p0a.Text), .c (PV.ls 5 rowApiValue p0a.Items), .c (PV.ls 1 rowS p0a.Keys)], [.c (.int .i64 p1b.Kind), .c (.int .i64 p1b.Int), .c (.str p1b.Text), .c (PV.ls 5 rowApiValue p1b.Items), .c (PV.ls 1 rowS p1b.Keys)]] : St)) ?_ ?_
   ·
    refine w_block <| w_loopo _ (fun (s6 : Int) => ([(2, .box 0 0), (3, .box 1 0), (5, .c (.int .i64 s6))] : Fr)) (fun (s6 : Int) => ([[.c (.int .i64 p0a.Kind), .c (.int .i64 p0a.Int), .c (.str p0a.Text), .c (PV.ls 5 rowApiValue p0a.Items), .c (PV.ls 1 rowS p0a.Keys)], [.c (.int .i64 p1b.Kind), .c (.int .i64 p1b.Int), .c (.str p1b.Text), .c (PV.ls 5 rowApiValue p1b.Items), .c (PV.ls 1 rowS p1b.Keys)]] : St)) hx3 (w_weak [] 2 rfl rfl rfl rfl ⟨lr, lr, lr, trivial⟩ (st_r rfl (st_r rfl st_nil))) ?_
    intro s6 st6 hs6 ho6
    unfold ref02xSame_l1 at hs6
    refine w_seqw <| w_sr <| mI rfl <| o_p rfl (p_fa tf26x4 rfl) <| o_p rfl (p_load (v := aL) tv24 rfl rfl rfl) <| o_p rfl (p_len ti24 (isl_c rfl)) <| o_p rfl (p_lss rfl rfl) <| o_ek (fr' := [(2, .box 0 0), (3, .box 1 0), (5, aI), (48, aB)]) rfl rfl <| w_ch hs6 rfl (fun hb7 h7 => ?_) (fun hb7 h7 => ?_)
    ·
     refine w_skip <| e_kw <| w_seqw <| w_block <| w_seqw <| w_planT [.q 0, .q 1, .q 2, .q 3, .q 4, .q 5, .q 6, .q 7, .q 8, .q 9, .q 10] [(some 51, [2]), (some 52, [51]), (some 53, [5]), (some 54, [52, 53]), (some 55, [54]), (some 56, [3]), (some 57, [56]), (some 58, [5]), (some 59, [57, 58]), (some 60, [59]), (some 61, [55, 60])] [0, 1, 0, 7, 15, 0, 32, 0, 224, 480, 1023] (by kernel_rfl) <| dq rfl rfl (p_fa tf26x4 rfl) <| dq rfl rfl (p_load (v := aL) tv24 rfl rfl rfl) <| dq rfl rfl (p_move (v := aI) rfl) ?_
     obtain ⟨x8, hx8, h9⟩ := bind_s h7
     refine dq rfl rfl (p_ia (cs := [PV.str _]) ts24 (isl_c rfl) rfl hx8 rfl) <| dq rfl rfl (p_loade (p := PV.str _) tv9 rfl rfl) <| dq rfl rfl (p_fa tf26x4 rfl) <| dq rfl rfl (p_load (v := aL) tv24 rfl rfl rfl) <| dq rfl rfl (p_move (v := aI) rfl) ?_
     obtain ⟨x10, hx10, h11⟩ := bind_s h9
     refine dq rfl rfl (p_ia (cs := [PV.str _]) ts24 (isl_c rfl) rfl hx10 rfl) <| dq rfl rfl (p_loade (p := PV.str _) tv9 rfl rfl) <| dq rfl rfl (p_sneq rfl rfl) <| d_ek (fr' := [(2, .box 0 0), (3, .box 1 0), (5, aI), (61, aB)]) rfl rfl <| w_ch h11 rfl (fun hb12 h12 => ?_) (fun hb12 h12 => ?_)
     ·
      refine w_sr <| sB rfl <| o_ek (fr' := [(4, aB)]) rfl rfl <| w_ret <| e_blk_r <| e_seq_r <| e_seq_r <| e_blk_r <| e_seq_r <| e_seq_r ?_
      have h13 := un_out h12 ho6
      have h14 := un_done h13 h4
      obtain rfl := sy h14
      exact e_ret (rs' := [.tmp 4]) rfl <| r_tmp (v := aB) rfl <| r_nil <| fin_gen [] rfl rfl rfl lr st_nil
     ·
      exact w_skip <| e_blk_n <| e_kw <| w_region <| mI rfl <| o_p rfl (p_add rfl rfl) <| sI rfl <| o_end (fr' := [(2, .box 0 0), (3, .box 1 0), (5, aI), (61, aB)]) rfl <| e_l _ (sy h12) (w_weak [] 2 rfl rfl rfl rfl ⟨lr, lr, lr, trivial⟩ (st_r rfl (st_r rfl st_nil)))
    ·
     refine w_exit <| e_seq_x <| e_seq_x <| e_blk_h ?_
     have h16 := un_out h7 ho6
     exact e_j _ (sy h16) (w_weak [] 2 rfl rfl rfl rfl ⟨lr, lr, trivial⟩ (st_r rfl (st_r rfl st_nil)))
   ·
    intro j5 hj17
    have h17 := un_go hj17 h4
    refine e_kw <| w_seqw <| w_sr <| sI rfl <| o_ek (fr' := [(2, .box 0 0), (3, .box 1 0), (6, aI)]) rfl rfl ?_
    obtain ⟨x18, hx18, h19⟩ := bind_s h17
    refine w_jtail cl_kw (fun j20 => x18 = Fl.go j20) (fun (j20 : Unit) => ([] : Fr)) (fun (j20 : Unit) => ([[.c (.int .i64 p0a.Kind), .c (.int .i64 p0a.Int), .c (.str p0a.Text), .c (PV.ls 5 rowApiValue p0a.Items), .c (PV.ls 1 rowS p0a.Keys)], [.c (.int .i64 p1b.Kind), .c (.int .i64 p1b.Int), .c (.str p1b.Text), .c (PV.ls 5 rowApiValue p1b.Items), .c (PV.ls 1 rowS p1b.Keys)]] : St)) ?_ ?_
    ·
     refine w_block <| w_loopo _ (fun (s21 : Int) => ([(2, .box 0 0), (3, .box 1 0), (6, .c (.int .i64 s21))] : Fr)) (fun (s21 : Int) => ([[.c (.int .i64 p0a.Kind), .c (.int .i64 p0a.Int), .c (.str p0a.Text), .c (PV.ls 5 rowApiValue p0a.Items), .c (PV.ls 1 rowS p0a.Keys)], [.c (.int .i64 p1b.Kind), .c (.int .i64 p1b.Int), .c (.str p1b.Text), .c (PV.ls 5 rowApiValue p1b.Items), .c (PV.ls 1 rowS p1b.Keys)]] : St)) hx18 (w_weak [] 2 rfl rfl rfl rfl ⟨lr, lr, lr, trivial⟩ (st_r rfl (st_r rfl st_nil))) ?_
     intro s21 st21 hs21 ho21
     unfold ref02xSame_l2 at hs21
     refine w_seqw <| w_sr <| mI rfl <| o_p rfl (p_fa tf26x3 rfl) <| o_p rfl (p_load (v := aL) tv23 rfl rfl rfl) <| o_p rfl (p_len ti23 (isl_c rfl)) <| o_p rfl (p_lss rfl rfl) <| o_ek (fr' := [(2, .box 0 0), (3, .box 1 0), (6, aI), (66, aB)]) rfl rfl <| w_ch hs21 rfl (fun hb22 h22 => ?_) (fun hb22 h22 => ?_)
     ·
      refine w_skip <| e_kw <| w_seqw <| w_block <| w_seqw <| w_planT [.q 0, .q 1, .q 2, .q 3, .q 4, .q 5, .q 6, .q 7, .q 8, .q 9, .q 10, .q 11] [(some 69, [2]), (some 70, [69]), (some 71, [6]), (some 72, [70, 71]), (some 73, [72]), (some 74, [3]), (some 75, [74]), (some 76, [6]), (some 77, [75, 76]), (some 78, [77]), (some 79, [73, 78]), (some 80, [79])] [0, 1, 0, 7, 15, 0, 32, 0, 224, 480, 1023, 2047] (by kernel_rfl) <| dq rfl rfl (p_fa tf26x3 rfl) <| dq rfl rfl (p_load (v := aL) tv23 rfl rfl rfl) <| dq rfl rfl (p_move (v := aI) rfl) ?_
      obtain ⟨x23, hx23, h24⟩ := bind_s h22
      refine dq rfl rfl (p_ia (cs := [PV.int _ _, PV.int _ _, PV.str _, PV.ls _ _ _, PV.ls _ _ _]) ts23 (isl_c rfl) rfl hx23 (rowApiValue_eq _)) <| dq rfl rfl (p_loades (us := [PV.int _ _, PV.int _ _, PV.str _, PV.ls _ _ _, PV.ls _ _ _]) tv26 rfl rfl rfl) <| dq rfl rfl (p_fa tf26x3 rfl) <| dq rfl rfl (p_load (v := aL) tv23 rfl rfl rfl) <| dq rfl rfl (p_move (v := aI) rfl) ?_
      obtain ⟨x25, hx25, h26⟩ := bind_s h24
      refine dq rfl rfl (p_ia (cs := [PV.int _ _, PV.int _ _, PV.str _, PV.ls _ _ _, PV.ls _ _ _]) ts23 (isl_c rfl) rfl hx25 (rowApiValue_eq _)) <| dq rfl rfl (p_loades (us := [PV.int _ _, PV.int _ _, PV.str _, PV.ls _ _ _, PV.ls _ _ _]) tv26 rfl rfl rfl) ?_
      obtain ⟨x27, hx27, h28⟩ := bind_s h26
      refine d_q rfl (qv_call (v := aB) rfl (ih_ref02xSame hx27) ⟨(le_aggc rfl ⟨rfl, rfl, rfl, rfl, rfl, trivial⟩), (le_aggc rfl ⟨rfl, rfl, rfl, rfl, rfl, trivial⟩), trivial⟩ rfl) <| dq rfl rfl (p_not rfl) <| d_ek (fr' := [(2, .box 0 0), (3, .box 1 0), (6, aI), (80, aB)]) rfl rfl <| w_ch h28 rfl (fun hb29 h29 => ?_) (fun hb29 h29 => ?_)
      ·
       refine w_sr <| sB rfl <| o_ek (fr' := [(4, aB)]) rfl rfl <| w_ret <| e_blk_r <| e_seq_r <| e_seq_r <| e_blk_r <| e_seq_r <| e_seq_r ?_
       have h30 := un_out h29 ho21
       have h31 := un_done h30 h19
       obtain rfl := sy h31
       exact e_ret (rs' := [.tmp 4]) rfl <| r_tmp (v := aB) rfl <| r_nil <| fin_gen [] rfl rfl rfl lr st_nil
      ·
       exact w_skip <| e_blk_n <| e_kw <| w_region <| mI rfl <| o_p rfl (p_add rfl rfl) <| sI rfl <| o_end (fr' := [(2, .box 0 0), (3, .box 1 0), (6, aI), (80, aB)]) rfl <| e_l _ (sy h29) (w_weak [] 2 rfl rfl rfl rfl ⟨lr, lr, lr, trivial⟩ (st_r rfl (st_r rfl st_nil)))
     ·
      refine w_exit <| e_seq_x <| e_seq_x <| e_blk_h ?_
      have h33 := un_out h22 ho21
      exact e_j _ (sy h33) (w_weak [] 2 rfl rfl rfl rfl trivial (st_r rfl (st_r rfl st_nil)))
    ·
     intro j20 hj34
     have h34 := un_go hj34 h19
     refine e_kw <| w_sr <| sB rfl <| o_ek (fr' := [(4, aB)]) rfl rfl <| w_ret ?_
     obtain rfl := sy h34
     exact e_ret (rs' := [.tmp 4]) rfl <| r_tmp (v := aB) rfl <| r_nil <| fin_gen [] rfl rfl rfl lr st_nil
noncomputable def ref02xSame (p0a : ApiValue) (p1b : ApiValue) : Option Bool := lim fun n => ref02xSameF n p0a p1b
theorem w_ref02xSame {p0a : ApiValue} {p1b : ApiValue} {res : Bool} (h : ref02xSame p0a p1b = some res) : ACalls Tryd.prog 29 [.agg (AV.cs (exApiValue p0a)), .agg (AV.cs (exApiValue p1b))] [] (.c (.bool res)) [] := by
 obtain ⟨n, hn⟩ := lim_some h
 exact (wF_ref02xSame n) hn
noncomputable def ref20xSamePolicy_l1 (p0a : ApiPolicy) (p1b : ApiPolicy) (s8 : Int) : Option (Step Int (Fl Bool Unit)) :=
 cond (decide (s8 < ((p0a.Fatal).length : Int))) ((idx p0a.Fatal s8).bind fun (x10 : (List UInt8)) => (idx p1b.Fatal s8).bind fun (x12 : (List UInt8)) => cond (!decide (x10 = x12)) (some (Step.out (Fl.done false))) (some (Step.next (IntKind.wrap .i64 (s8 + (1 : Int)))))) (some (Step.out (Fl.go ())))
noncomputable def ref20xSamePolicy (p0a : ApiPolicy) (p1b : ApiPolicy) : Option Bool :=
 cond (cond (cond (cond (cond (!decide (p0a.Queue = p1b.Queue)) true (!decide (p0a.ToStart = p1b.ToStart))) true (!decide (p0a.ToClose = p1b.ToClose))) true (!decide (p0a.Total = p1b.Total))) true (!decide (p0a.Beat = p1b.Beat))) (some false) (cond (cond (cond (cond (cond (!decide (p0a.First = p1b.First)) true (!decide (p0a.Coef = p1b.Coef))) true (!decide (p0a.Most = p1b.Most))) true (!decide (p0a.Attempts = p1b.Attempts))) true (!decide (((p0a.Fatal).length : Int) = ((p1b.Fatal).length : Int)))) (some false) (((loopO (ref20xSamePolicy_l1 p0a p1b) ((0 : Int))) : Option (Fl Bool Unit)).bind fun (x5 : (Fl Bool Unit)) => Fl.next x5 (fun (j7 : Unit) => (some true))))
theorem w_ref20xSamePolicy {p0a : ApiPolicy} {p1b : ApiPolicy} {res : Bool} (h : ref20xSamePolicy p0a p1b = some res) : ACalls Tryd.prog 57 [.agg (AV.cs (rowApiPolicy p0a)), .agg (AV.cs (rowApiPolicy p1b))] [] (.c (.bool res)) [] := by
 unfold ref20xSamePolicy at h
 refine acalls (fn := Tryd.f57) [0, 1, 2, 3, 4, 5, 38, 73, 78, 91] (by kernel_rfl) Tryd.func57 rfl (by kernel_rfl) (by kernel_rfl) <| w_sr <| o_box (v := .agg aSIIIIIIIIL) (n := 0) (cs := aSIIIIIIIIL) (σ' := [aSIIIIIIIIL]) rfl rfl rfl rfl rfl <| o_box (v := .agg aSIIIIIIIIL) (n := 1) (cs := aSIIIIIIIIL) (σ' := [aSIIIIIIIIL, aSIIIIIIIIL]) rfl rfl rfl rfl rfl <| sB rfl <| o_ek (fr' := [(2, .box 0 0), (3, .box 1 0)]) rfl rfl <| w_seqw <| w_sr <| o_p rfl (p_fa tf41x0 rfl) <| o_p rfl (p_load (v := aS) tv9 rfl rfl rfl) <| o_p rfl (p_fa tf41x0 rfl) ?_
 refine o_p rfl (p_load (v := aS) tv9 rfl rfl rfl) <| o_p rfl (p_sneq rfl rfl) <| mB rfl <| og rfl rfl rfl (fun hc => (p_fa tf41x1 rfl)) <| og rfl rfl rfl (fun hc => (p_load (v := aI) tv3 (gx rfl hc) rfl rfl)) <| og rfl rfl rfl (fun hc => (p_fa tf41x1 rfl)) <| og rfl rfl rfl (fun hc => (p_load (v := aI) tv3 (gx rfl hc) rfl rfl)) <| og rfl rfl rfl (fun hc => (p_neq (gx rfl hc) (gx rfl hc))) <| o_p rfl (p_pickz rfl rfl rfl (fun e => keq e)) <| mB rfl <| og rfl rfl rfl (fun hc => (p_fa tf41x2 rfl)) <| og rfl rfl rfl (fun hc => (p_load (v := aI) tv3 (gx rfl hc) rfl rfl)) <| og rfl rfl rfl (fun hc => (p_fa tf41x2 rfl)) ?_
 refine og rfl rfl rfl (fun hc => (p_load (v := aI) tv3 (gx rfl hc) rfl rfl)) <| og rfl rfl rfl (fun hc => (p_neq (gx rfl hc) (gx rfl hc))) <| o_p rfl (p_pickz rfl rfl rfl (fun e => keq e)) <| mB rfl <| og rfl rfl rfl (fun hc => (p_fa tf41x3 rfl)) <| og rfl rfl rfl (fun hc => (p_load (v := aI) tv3 (gx rfl hc) rfl rfl)) <| og rfl rfl rfl (fun hc => (p_fa tf41x3 rfl)) <| og rfl rfl rfl (fun hc => (p_load (v := aI) tv3 (gx rfl hc) rfl rfl)) <| og rfl rfl rfl (fun hc => (p_neq (gx rfl hc) (gx rfl hc))) <| o_p rfl (p_pickz rfl rfl rfl (fun e => keq e)) <| mB rfl <| og rfl rfl rfl (fun hc => (p_fa tf41x4 rfl)) <| og rfl rfl rfl (fun hc => (p_load (v := aI) tv3 (gx rfl hc) rfl rfl)) ?_
 refine og rfl rfl rfl (fun hc => (p_fa tf41x4 rfl)) <| og rfl rfl rfl (fun hc => (p_load (v := aI) tv3 (gx rfl hc) rfl rfl)) <| og rfl rfl rfl (fun hc => (p_neq (gx rfl hc) (gx rfl hc))) <| o_p rfl (p_pickz rfl rfl rfl (fun e => keq e)) <| o_ek (fr' := [(2, .box 0 0), (3, .box 1 0), (38, aB)]) rfl rfl <| w_ch h rfl (fun hb1 h1 => ?_) (fun hb1 h1 => ?_)
 ·
  refine w_sr <| sB rfl <| o_ek (fr' := [(4, aB)]) rfl rfl <| w_ret <| e_seq_r ?_
  obtain rfl := sy h1
  exact e_ret (rs' := [.tmp 4]) rfl <| r_tmp (v := aB) rfl <| r_nil <| fin_gen [] rfl rfl rfl lr st_nil
 ·
  refine w_skip <| e_kw <| w_seqw <| w_sr <| o_p rfl (p_fa tf41x5 rfl) <| o_p rfl (p_load (v := aI) tv3 rfl rfl rfl) <| o_p rfl (p_fa tf41x5 rfl) <| o_p rfl (p_load (v := aI) tv3 rfl rfl rfl) <| o_p rfl (p_neq rfl rfl) <| mB rfl <| og rfl rfl rfl (fun hc => (p_fa tf41x6 rfl)) <| og rfl rfl rfl (fun hc => (p_load (v := aI) tv3 (gx rfl hc) rfl rfl)) ?_
  refine og rfl rfl rfl (fun hc => (p_fa tf41x6 rfl)) <| og rfl rfl rfl (fun hc => (p_load (v := aI) tv3 (gx rfl hc) rfl rfl)) <| og rfl rfl rfl (fun hc => (p_neq (gx rfl hc) (gx rfl hc))) <| o_p rfl (p_pickz rfl rfl rfl (fun e => keq e)) <| mB rfl <| og rfl rfl rfl (fun hc => (p_fa tf41x7 rfl)) <| og rfl rfl rfl (fun hc => (p_load (v := aI) tv3 (gx rfl hc) rfl rfl)) <| og rfl rfl rfl (fun hc => (p_fa tf41x7 rfl)) <| og rfl rfl rfl (fun hc => (p_load (v := aI) tv3 (gx rfl hc) rfl rfl)) <| og rfl rfl rfl (fun hc => (p_neq (gx rfl hc) (gx rfl hc))) <| o_p rfl (p_pickz rfl rfl rfl (fun e => keq e)) <| mB rfl <| og rfl rfl rfl (fun hc => (p_fa tf41x8 rfl)) ?_
  refine og rfl rfl rfl (fun hc => (p_load (v := aI) tv3 (gx rfl hc) rfl rfl)) <| og rfl rfl rfl (fun hc => (p_fa tf41x8 rfl)) <| og rfl rfl rfl (fun hc => (p_load (v := aI) tv3 (gx rfl hc) rfl rfl)) <| og rfl rfl rfl (fun hc => (p_neq (gx rfl hc) (gx rfl hc))) <| o_p rfl (p_pickz rfl rfl rfl (fun e => keq e)) <| mB rfl <| og rfl rfl rfl (fun hc => (p_fa tf41x9 rfl)) <| og rfl rfl rfl (fun hc => (p_load (v := aL) tv24 (gx rfl hc) rfl rfl)) <| og rfl rfl rfl (fun hc => (p_len ti24 (isl_c (gx rfl hc)))) <| og rfl rfl rfl (fun hc => (p_fa tf41x9 rfl)) <| og rfl rfl rfl (fun hc => (p_load (v := aL) tv24 (gx rfl hc) rfl rfl)) <| og rfl rfl rfl (fun hc => (p_len ti24 (isl_c (gx rfl hc)))) <| og rfl rfl rfl (fun hc => (p_neq (gx rfl hc) (gx rfl hc))) ?_
  refine o_p rfl (p_pickz rfl rfl rfl (fun e => keq e)) <| o_ek (fr' := [(2, .box 0 0), (3, .box 1 0), (73, aB)]) rfl rfl <| w_ch h1 rfl (fun hb3 h3 => ?_) (fun hb3 h3 => ?_)
  ·
   refine w_sr <| sB rfl <| o_ek (fr' := [(4, aB)]) rfl rfl <| w_ret <| e_seq_r ?_
   obtain rfl := sy h3
   exact e_ret (rs' := [.tmp 4]) rfl <| r_tmp (v := aB) rfl <| r_nil <| fin_gen [] rfl rfl rfl lr st_nil
  ·
   refine w_skip <| e_kw <| w_seqw <| w_sr <| sI rfl <| o_ek (fr' := [(2, .box 0 0), (3, .box 1 0), (5, aI)]) rfl rfl ?_
   obtain ⟨x5, hx5, h6⟩ := bind_s h3
   refine w_jtail cl_kw (fun j7 => x5 = Fl.go j7) (fun (j7 : Unit) => ([] : Fr)) (fun (j7 : Unit) => ([[.c (.str p0a.Queue), .c (.int .i64 p0a.ToStart), .c (.int .i64 p0a.ToClose), .c (.int .i64 p0a.Total), .c (.int .i64 p0a.Beat), .c (.int .i64 p0a.First), .c (.int .i64 p0a.Coef), .c (.int .i64 p0a.Most), .c (.int .i64 p0a.Attempts), .c (PV.ls 1 rowS p0a.Fatal)], [.c (.str p1b.Queue), .c (.int .i64 p1b.ToStart), .c (.int .i64 p1b.ToClose), .c (.int .i64 p1b.Total), .c (.int .i64 p1b.Beat), .c (.int .i64 p1b.First), .c (.int .i64 p1b.Coef), .c (.int .i64 p1b.Most), .c (.int .i64 p1b.Attempts), .c (PV.ls 1 rowS p1b.Fatal)]] : St)) ?_ ?_
   ·
    refine w_block <| w_loopo _ (fun (s8 : Int) => ([(2, .box 0 0), (3, .box 1 0), (5, .c (.int .i64 s8))] : Fr)) (fun (s8 : Int) => ([[.c (.str p0a.Queue), .c (.int .i64 p0a.ToStart), .c (.int .i64 p0a.ToClose), .c (.int .i64 p0a.Total), .c (.int .i64 p0a.Beat), .c (.int .i64 p0a.First), .c (.int .i64 p0a.Coef), .c (.int .i64 p0a.Most), .c (.int .i64 p0a.Attempts), .c (PV.ls 1 rowS p0a.Fatal)], [.c (.str p1b.Queue), .c (.int .i64 p1b.ToStart), .c (.int .i64 p1b.ToClose), .c (.int .i64 p1b.Total), .c (.int .i64 p1b.Beat), .c (.int .i64 p1b.First), .c (.int .i64 p1b.Coef), .c (.int .i64 p1b.Most), .c (.int .i64 p1b.Attempts), .c (PV.ls 1 rowS p1b.Fatal)]] : St)) hx5 (w_weak [] 2 rfl rfl rfl rfl ⟨lr, lr, lr, trivial⟩ (st_r rfl (st_r rfl st_nil))) ?_
    intro s8 st8 hs8 ho8
    unfold ref20xSamePolicy_l1 at hs8
    refine w_seqw <| w_sr <| mI rfl <| o_p rfl (p_fa tf41x9 rfl) <| o_p rfl (p_load (v := aL) tv24 rfl rfl rfl) <| o_p rfl (p_len ti24 (isl_c rfl)) <| o_p rfl (p_lss rfl rfl) <| o_ek (fr' := [(2, .box 0 0), (3, .box 1 0), (5, aI), (78, aB)]) rfl rfl <| w_ch hs8 rfl (fun hb9 h9 => ?_) (fun hb9 h9 => ?_)
    ·
     refine w_skip <| e_kw <| w_seqw <| w_block <| w_seqw <| w_planT [.q 0, .q 1, .q 2, .q 3, .q 4, .q 5, .q 6, .q 7, .q 8, .q 9, .q 10] [(some 81, [2]), (some 82, [81]), (some 83, [5]), (some 84, [82, 83]), (some 85, [84]), (some 86, [3]), (some 87, [86]), (some 88, [5]), (some 89, [87, 88]), (some 90, [89]), (some 91, [85, 90])] [0, 1, 0, 7, 15, 0, 32, 0, 224, 480, 1023] (by kernel_rfl) <| dq rfl rfl (p_fa tf41x9 rfl) <| dq rfl rfl (p_load (v := aL) tv24 rfl rfl rfl) <| dq rfl rfl (p_move (v := aI) rfl) ?_
     obtain ⟨x10, hx10, h11⟩ := bind_s h9
     refine dq rfl rfl (p_ia (cs := [PV.str _]) ts24 (isl_c rfl) rfl hx10 rfl) <| dq rfl rfl (p_loade (p := PV.str _) tv9 rfl rfl) <| dq rfl rfl (p_fa tf41x9 rfl) <| dq rfl rfl (p_load (v := aL) tv24 rfl rfl rfl) <| dq rfl rfl (p_move (v := aI) rfl) ?_
     obtain ⟨x12, hx12, h13⟩ := bind_s h11
     refine dq rfl rfl (p_ia (cs := [PV.str _]) ts24 (isl_c rfl) rfl hx12 rfl) <| dq rfl rfl (p_loade (p := PV.str _) tv9 rfl rfl) <| dq rfl rfl (p_sneq rfl rfl) <| d_ek (fr' := [(2, .box 0 0), (3, .box 1 0), (5, aI), (91, aB)]) rfl rfl <| w_ch h13 rfl (fun hb14 h14 => ?_) (fun hb14 h14 => ?_)
     ·
      refine w_sr <| sB rfl <| o_ek (fr' := [(4, aB)]) rfl rfl <| w_ret <| e_blk_r <| e_seq_r <| e_seq_r <| e_blk_r <| e_seq_r <| e_seq_r ?_
      have h15 := un_out h14 ho8
      have h16 := un_done h15 h6
      obtain rfl := sy h16
      exact e_ret (rs' := [.tmp 4]) rfl <| r_tmp (v := aB) rfl <| r_nil <| fin_gen [] rfl rfl rfl lr st_nil
     ·
      exact w_skip <| e_blk_n <| e_kw <| w_region <| mI rfl <| o_p rfl (p_add rfl rfl) <| sI rfl <| o_end (fr' := [(2, .box 0 0), (3, .box 1 0), (5, aI), (91, aB)]) rfl <| e_l _ (sy h14) (w_weak [] 2 rfl rfl rfl rfl ⟨lr, lr, lr, trivial⟩ (st_r rfl (st_r rfl st_nil)))
    ·
     refine w_exit <| e_seq_x <| e_seq_x <| e_blk_h ?_
     have h18 := un_out h9 ho8
     exact e_j _ (sy h18) (w_weak [] 2 rfl rfl rfl rfl trivial (st_r rfl (st_r rfl st_nil)))
   ·
    intro j7 hj19
    have h19 := un_go hj19 h6
    refine e_kw <| w_sr <| sB rfl <| o_ek (fr' := [(4, aB)]) rfl rfl <| w_ret ?_
    obtain rfl := sy h19
    exact e_ret (rs' := [.tmp 4]) rfl <| r_tmp (v := aB) rfl <| r_nil <| fin_gen [] rfl rfl rfl lr st_nil
noncomputable def law45xsame (p0a : ApiRequest) (p1b : ApiRequest) : Option Bool :=
 cond (cond (cond (cond (cond (cond (cond (!decide (p0a.Kind = p1b.Kind)) true (!decide (p0a.Time = p1b.Time))) true (!decide (p0a.Workflow = p1b.Workflow))) true (!decide (p0a.Run = p1b.Run))) true (!decide (p0a.ID = p1b.ID))) true (!decide (p0a.Name = p1b.Name))) true (!decide (p0a.Parent = p1b.Parent))) (some false) ((gd ((cond (cond (cond (decide (p0a.Token = p1b.Token)) (decide (p0a.Event = p1b.Event)) false) (decide (p0a.Seq = p1b.Seq)) false) (decide (p0a.N = p1b.N)) false) == true) (ref02xSame p0a.Data p1b.Data)).bind fun (x3 : Bool) => (gd ((cond (cond (cond (cond (cond (decide (p0a.Token = p1b.Token)) (decide (p0a.Event = p1b.Event)) false) (decide (p0a.Seq = p1b.Seq)) false) (decide (p0a.N = p1b.N)) false) x3 false) (decide (((p0a.Commands).length : Int) = ((p1b.Commands).length : Int))) false) == true) (ref20xSamePolicy p0a.Opts p1b.Opts)).bind fun (x5 : Bool) => some (cond (cond (cond (cond (cond (cond (decide (p0a.Token = p1b.Token)) (decide (p0a.Event = p1b.Event)) false) (decide (p0a.Seq = p1b.Seq)) false) (decide (p0a.N = p1b.N)) false) x3 false) (decide (((p0a.Commands).length : Int) = ((p1b.Commands).length : Int))) false) x5 false))
theorem w_law45xsame {p0a : ApiRequest} {p1b : ApiRequest} {res : Bool} (h : law45xsame p0a p1b = some res) : ACalls Tryd.prog 19 [.agg (AV.cs (rowApiRequest p0a)), .agg (AV.cs (rowApiRequest p1b))] [] (.c (.bool res)) [] := by
 unfold law45xsame at h
 refine acalls (fn := Tryd.f19) [0, 1, 2, 3, 4, 51] (by kernel_rfl) Tryd.func19 rfl (by kernel_rfl) (by kernel_rfl) <| w_sr <| o_box (v := .agg aIISSSSIIIIIISLLSIIIIIIIILLS) (n := 0) (cs := aIISSSSIIIIIISLLSIIIIIIIILLS) (σ' := [aIISSSSIIIIIISLLSIIIIIIIILLS]) rfl rfl rfl rfl rfl <| o_box (v := .agg aIISSSSIIIIIISLLSIIIIIIIILLS) (n := 1) (cs := aIISSSSIIIIIISLLSIIIIIIIILLS) (σ' := [aIISSSSIIIIIISLLSIIIIIIIILLS, aIISSSSIIIIIISLLSIIIIIIIILLS]) rfl rfl rfl rfl rfl <| sB rfl <| o_ek (fr' := [(2, .box 0 0), (3, .box 1 0)]) rfl rfl <| w_seqw <| w_sr <| o_p rfl (p_fa tf44x0 rfl) <| o_p rfl (p_load (v := aI) tv3 rfl rfl rfl) <| o_p rfl (p_fa tf44x0 rfl) ?_
 refine o_p rfl (p_load (v := aI) tv3 rfl rfl rfl) <| o_p rfl (p_neq rfl rfl) <| mB rfl <| og rfl rfl rfl (fun hc => (p_fa tf44x1 rfl)) <| og rfl rfl rfl (fun hc => (p_load (v := aI) tv3 (gx rfl hc) rfl rfl)) <| og rfl rfl rfl (fun hc => (p_fa tf44x1 rfl)) <| og rfl rfl rfl (fun hc => (p_load (v := aI) tv3 (gx rfl hc) rfl rfl)) <| og rfl rfl rfl (fun hc => (p_neq (gx rfl hc) (gx rfl hc))) <| o_p rfl (p_pickz rfl rfl rfl (fun e => keq e)) <| mB rfl <| og rfl rfl rfl (fun hc => (p_fa tf44x2 rfl)) <| og rfl rfl rfl (fun hc => (p_load (v := aS) tv9 (gx rfl hc) rfl rfl)) <| og rfl rfl rfl (fun hc => (p_fa tf44x2 rfl)) ?_
 refine og rfl rfl rfl (fun hc => (p_load (v := aS) tv9 (gx rfl hc) rfl rfl)) <| og rfl rfl rfl (fun hc => (p_sneq (gx rfl hc) (gx rfl hc))) <| o_p rfl (p_pickz rfl rfl rfl (fun e => keq e)) <| mB rfl <| og rfl rfl rfl (fun hc => (p_fa tf44x3 rfl)) <| og rfl rfl rfl (fun hc => (p_load (v := aS) tv9 (gx rfl hc) rfl rfl)) <| og rfl rfl rfl (fun hc => (p_fa tf44x3 rfl)) <| og rfl rfl rfl (fun hc => (p_load (v := aS) tv9 (gx rfl hc) rfl rfl)) <| og rfl rfl rfl (fun hc => (p_sneq (gx rfl hc) (gx rfl hc))) <| o_p rfl (p_pickz rfl rfl rfl (fun e => keq e)) <| mB rfl <| og rfl rfl rfl (fun hc => (p_fa tf44x4 rfl)) <| og rfl rfl rfl (fun hc => (p_load (v := aS) tv9 (gx rfl hc) rfl rfl)) ?_
 refine og rfl rfl rfl (fun hc => (p_fa tf44x4 rfl)) <| og rfl rfl rfl (fun hc => (p_load (v := aS) tv9 (gx rfl hc) rfl rfl)) <| og rfl rfl rfl (fun hc => (p_sneq (gx rfl hc) (gx rfl hc))) <| o_p rfl (p_pickz rfl rfl rfl (fun e => keq e)) <| mB rfl <| og rfl rfl rfl (fun hc => (p_fa tf44x5 rfl)) <| og rfl rfl rfl (fun hc => (p_load (v := aS) tv9 (gx rfl hc) rfl rfl)) <| og rfl rfl rfl (fun hc => (p_fa tf44x5 rfl)) <| og rfl rfl rfl (fun hc => (p_load (v := aS) tv9 (gx rfl hc) rfl rfl)) <| og rfl rfl rfl (fun hc => (p_sneq (gx rfl hc) (gx rfl hc))) <| o_p rfl (p_pickz rfl rfl rfl (fun e => keq e)) <| mB rfl <| og rfl rfl rfl (fun hc => (p_fa tf44x13 rfl)) ?_
 refine og rfl rfl rfl (fun hc => (p_load (v := aS) tv9 (gx rfl hc) rfl rfl)) <| og rfl rfl rfl (fun hc => (p_fa tf44x13 rfl)) <| og rfl rfl rfl (fun hc => (p_load (v := aS) tv9 (gx rfl hc) rfl rfl)) <| og rfl rfl rfl (fun hc => (p_sneq (gx rfl hc) (gx rfl hc))) <| o_p rfl (p_pickz rfl rfl rfl (fun e => keq e)) <| o_ek (fr' := [(2, .box 0 0), (3, .box 1 0), (51, aB)]) rfl rfl <| w_ch h rfl (fun hb1 h1 => ?_) (fun hb1 h1 => ?_)
 ·
  refine w_sr <| sB rfl <| o_ek (fr' := [(4, aB)]) rfl rfl <| w_ret <| e_seq_r ?_
  obtain rfl := sy h1
  exact e_ret (rs' := [.tmp 4]) rfl <| r_tmp (v := aB) rfl <| r_nil <| fin_gen [] rfl rfl rfl lr st_nil
 ·
  refine w_skip <| e_kw <| w_sr <| o_p rfl (p_fa tf44x6 rfl) <| o_p rfl (p_load (v := aI) tv3 rfl rfl rfl) <| o_p rfl (p_fa tf44x6 rfl) <| o_p rfl (p_load (v := aI) tv3 rfl rfl rfl) <| o_p rfl (p_eql rfl rfl) <| mB rfl <| og rfl rfl rfl (fun hc => (p_fa tf44x7 rfl)) <| og rfl rfl rfl (fun hc => (p_load (v := aI) tv3 (gx rfl hc) rfl rfl)) <| og rfl rfl rfl (fun hc => (p_fa tf44x7 rfl)) ?_
  refine og rfl rfl rfl (fun hc => (p_load (v := aI) tv3 (gx rfl hc) rfl rfl)) <| og rfl rfl rfl (fun hc => (p_eql (gx rfl hc) (gx rfl hc))) <| o_p rfl (p_picky rfl rfl rfl (fun e => keq e)) <| mB rfl <| og rfl rfl rfl (fun hc => (p_fa tf44x8 rfl)) <| og rfl rfl rfl (fun hc => (p_load (v := aI) tv3 (gx rfl hc) rfl rfl)) <| og rfl rfl rfl (fun hc => (p_fa tf44x8 rfl)) <| og rfl rfl rfl (fun hc => (p_load (v := aI) tv3 (gx rfl hc) rfl rfl)) <| og rfl rfl rfl (fun hc => (p_eql (gx rfl hc) (gx rfl hc))) <| o_p rfl (p_picky rfl rfl rfl (fun e => keq e)) <| mB rfl <| og rfl rfl rfl (fun hc => (p_fa tf44x9 rfl)) <| og rfl rfl rfl (fun hc => (p_load (v := aI) tv3 (gx rfl hc) rfl rfl)) ?_
  refine og rfl rfl rfl (fun hc => (p_fa tf44x9 rfl)) <| og rfl rfl rfl (fun hc => (p_load (v := aI) tv3 (gx rfl hc) rfl rfl)) <| og rfl rfl rfl (fun hc => (p_eql (gx rfl hc) (gx rfl hc))) <| o_p rfl (p_picky rfl rfl rfl (fun e => keq e)) <| mB rfl <| og rfl rfl rfl (fun hc => (p_fa tf44x10 rfl)) <| og rfl rfl rfl (fun hc => (p_loads (us := aIISLL) tv26 (gx rfl hc) rfl rfl rfl)) <| og rfl rfl rfl (fun hc => (p_fa tf44x10 rfl)) <| og rfl rfl rfl (fun hc => (p_loads (us := aIISLL) tv26 (gx rfl hc) rfl rfl rfl)) ?_
  obtain ⟨x3, hx3, h4⟩ := bind_s h1
  refine o_g rfl rfl (fun hc => ov_call (v := aB) rfl (w_ref02xSame (gd_some hx3 hc)) ⟨(le_gv (gx rfl hc) (le_aggc rfl ⟨rfl, rfl, rfl, rfl, rfl, trivial⟩)), (le_gv (gx rfl hc) (le_aggc rfl ⟨rfl, rfl, rfl, rfl, rfl, trivial⟩)), trivial⟩ (ok_eq (by repeat (first | exact ok_nil | refine ok_cons rfl ?_ | refine ok_cons (dgv rfl) ?_))) rfl rfl) ?_
  refine o_p rfl (p_picky rfl rfl rfl (fun e => keq e)) <| mB rfl <| og rfl rfl rfl (fun hc => (p_fa tf44x12 rfl)) <| og rfl rfl rfl (fun hc => (p_load (v := aL) tv42 (gx rfl hc) rfl rfl)) <| og rfl rfl rfl (fun hc => (p_len ti42 (isl_c (gx rfl hc)))) <| og rfl rfl rfl (fun hc => (p_fa tf44x12 rfl)) <| og rfl rfl rfl (fun hc => (p_load (v := aL) tv42 (gx rfl hc) rfl rfl)) <| og rfl rfl rfl (fun hc => (p_len ti42 (isl_c (gx rfl hc)))) <| og rfl rfl rfl (fun hc => (p_eql (gx rfl hc) (gx rfl hc))) <| o_p rfl (p_picky rfl rfl rfl (fun e => keq e)) <| mB rfl <| og rfl rfl rfl (fun hc => (p_fa tf44x11 rfl)) <| og rfl rfl rfl (fun hc => (p_loads (us := aSIIIIIIIIL) tv41 (gx rfl hc) rfl rfl rfl)) ?_
  refine og rfl rfl rfl (fun hc => (p_fa tf44x11 rfl)) <| og rfl rfl rfl (fun hc => (p_loads (us := aSIIIIIIIIL) tv41 (gx rfl hc) rfl rfl rfl)) ?_
  obtain ⟨x5, hx5, h6⟩ := bind_s h4
  refine o_g rfl rfl (fun hc => ov_call (v := aB) rfl (w_ref20xSamePolicy (gd_some hx5 hc)) ⟨(le_gv (gx rfl hc) (le_aggc rfl ⟨rfl, rfl, rfl, rfl, rfl, rfl, rfl, rfl, rfl, rfl, trivial⟩)), (le_gv (gx rfl hc) (le_aggc rfl ⟨rfl, rfl, rfl, rfl, rfl, rfl, rfl, rfl, rfl, rfl, trivial⟩)), trivial⟩ (ok_eq (by repeat (first | exact ok_nil | refine ok_cons rfl ?_ | refine ok_cons (dgv rfl) ?_))) rfl rfl) ?_
  refine o_p rfl (p_picky rfl rfl rfl (fun e => keq e)) <| sB rfl <| o_ek (fr' := [(4, aB)]) rfl rfl <| w_ret ?_
  obtain rfl := sy h6
  exact e_ret (rs' := [.tmp 4]) rfl <| r_tmp (v := aB) rfl <| r_nil <| fin_gen [] rfl rfl rfl lr st_nil
noncomputable def law45xworks  : Option Bool :=
 (children_Report (ApiRun.mk ([107, 105, 100] : List UInt8) ([114, 49] : List UInt8) ([97, 47, 114, 49] : List UInt8) (3 : Int) ([(ApiEvent.mk (1 : Int) (1 : Int) (0 : Int) (0 : Int) (0 : Int) (0 : Int) (0 : Int) ([116] : List UInt8) ([107] : List UInt8) (ApiValue.mk (0 : Int) (0 : Int) ([] : List UInt8) ([] : (List ApiValue)) ([] : (List (List UInt8)))) (ApiPolicy.mk ([] : List UInt8) (0 : Int) (0 : Int) (0 : Int) (0 : Int) (0 : Int) (0 : Int) (0 : Int) (0 : Int) ([] : (List (List UInt8))))), (ApiEvent.mk (2 : Int) (30 : Int) (0 : Int) (0 : Int) (0 : Int) (0 : Int) (0 : Int) ([] : List UInt8) ([] : List UInt8) (ApiValue.mk (2 : Int) (7 : Int) ([] : List UInt8) ([] : (List ApiValue)) ([] : (List (List UInt8)))) (ApiPolicy.mk ([] : List UInt8) (0 : Int) (0 : Int) (0 : Int) (0 : Int) (0 : Int) (0 : Int) (0 : Int) (0 : Int) ([] : (List (List UInt8)))))] : List ApiEvent) (ApiPending.mk (0 : Int) (0 : Int) (0 : Int) (0 : Int) (0 : Int) (0 : Int) ([] : List UInt8) (ApiValue.mk (0 : Int) (0 : Int) ([] : List UInt8) ([] : (List ApiValue)) ([] : (List (List UInt8)))) (ApiValue.mk (0 : Int) (0 : Int) ([] : List UInt8) ([] : (List ApiValue)) ([] : (List (List UInt8)))) false ([] : (List ApiAct)) ([] : (List ApiTimer)) ([] : (List ApiKid)) ([] : (List ApiSend)) ([] : (List ApiUpd)) ([] : (List (List UInt8)))) ([] : (List ApiEvent)) ([] : (List ApiAdmit)) ([] : (List ApiTask)) (0 : Int) (0 : Int)) (5 : Int)).bind fun (x1 : (ApiRequest × Bool)) => (gd (x1.2 == true) (law45xsame x1.1 (ApiRequest.mk (15 : Int) (5 : Int) ([97] : List UInt8) ([114, 49] : List UInt8) ([] : List UInt8) ([] : List UInt8) (0 : Int) (0 : Int) (3 : Int) (21 : Int) (ApiValue.mk (2 : Int) (7 : Int) ([] : List UInt8) ([] : (List ApiValue)) ([] : (List (List UInt8)))) (ApiPolicy.mk ([] : List UInt8) (0 : Int) (0 : Int) (0 : Int) (0 : Int) (0 : Int) (0 : Int) (0 : Int) (0 : Int) ([] : (List (List UInt8)))) ([] : (List ApiCommand)) ([] : List UInt8)))).bind fun (x3 : Bool) => (gd ((cond x1.2 x3 false) == true) (children_Orphans (ApiRun.mk ([107, 105, 100] : List UInt8) ([114, 49] : List UInt8) ([97, 47, 114, 49] : List UInt8) (3 : Int) ([(ApiEvent.mk (1 : Int) (1 : Int) (0 : Int) (0 : Int) (0 : Int) (0 : Int) (0 : Int) ([116] : List UInt8) ([107] : List UInt8) (ApiValue.mk (0 : Int) (0 : Int) ([] : List UInt8) ([] : (List ApiValue)) ([] : (List (List UInt8)))) (ApiPolicy.mk ([] : List UInt8) (0 : Int) (0 : Int) (0 : Int) (0 : Int) (0 : Int) (0 : Int) (0 : Int) (0 : Int) ([] : (List (List UInt8))))), (ApiEvent.mk (2 : Int) (30 : Int) (0 : Int) (0 : Int) (0 : Int) (0 : Int) (0 : Int) ([] : List UInt8) ([] : List UInt8) (ApiValue.mk (2 : Int) (7 : Int) ([] : List UInt8) ([] : (List ApiValue)) ([] : (List (List UInt8)))) (ApiPolicy.mk ([] : List UInt8) (0 : Int) (0 : Int) (0 : Int) (0 : Int) (0 : Int) (0 : Int) (0 : Int) (0 : Int) ([] : (List (List UInt8)))))] : List ApiEvent) (ApiPending.mk (0 : Int) (0 : Int) (0 : Int) (0 : Int) (0 : Int) (0 : Int) ([] : List UInt8) (ApiValue.mk (0 : Int) (0 : Int) ([] : List UInt8) ([] : (List ApiValue)) ([] : (List (List UInt8)))) (ApiValue.mk (0 : Int) (0 : Int) ([] : List UInt8) ([] : (List ApiValue)) ([] : (List (List UInt8)))) false ([] : (List ApiAct)) ([] : (List ApiTimer)) ([] : (List ApiKid)) ([] : (List ApiSend)) ([] : (List ApiUpd)) ([] : (List (List UInt8)))) ([] : (List ApiEvent)) ([] : (List ApiAdmit)) ([] : (List ApiTask)) (0 : Int) (0 : Int)) (5 : Int))).bind fun (x5 : (List ApiRequest)) => some (cond (cond x1.2 x3 false) (decide (((x5).length : Int) = (0 : Int))) false)
theorem w_law45xworks  {res : Bool} (h : law45xworks = some res) : ACalls Tryd.prog 14 [] [] (.c (.bool res)) [] := by
 unfold law45xworks at h
 refine acalls (fn := Tryd.f14) [0, 1, 2, 3, 4, 5] (by kernel_rfl) Tryd.func14 rfl (by kernel_rfl) (by kernel_rfl) <| w_sr <| sB rfl <| o_ek (fr' := []) rfl rfl <| w_sr <| o_p rfl (p_buildc (c0 := [aI, aI, aI, aI, aI, aI, aI, aS, aS, aI, aI, aS, AV.nil, AV.nil, aS, aI, aI, aI, aI, aI, aI, aI, aI, AV.nil]) (cs := [aI, aI, aI, aI, aI, aI, aI, aS, aS, aI, aI, aS, AV.nil, AV.nil, aS, aI, aI, aI, aI, aI, aI, aI, aI, AV.nil]) tb80 rfl (fill_cons (v := aI) (us := [_]) (cs' := u24) rfl rfl rfl rfl rfl rfl (fill_cons (v := aI) (us := [_]) (cs' := u24) rfl rfl rfl rfl rfl rfl (fill_cons (v := aS) (us := [_]) (cs' := u24) rfl rfl rfl rfl rfl rfl (fill_cons (v := aS) (us := [_]) (cs' := u24) rfl rfl rfl rfl rfl rfl fill_nil))))) <| o_p rfl (p_build (cs := [aI, aI, aS, AV.nil, AV.nil]) tb26 rfl) <| o_p rfl (p_buildc (c0 := [aI, aI, aI, aI, aI, aI, aI, aS, aS, aI, aI, aS, AV.nil, AV.nil, aS, aI, aI, aI, aI, aI, aI, aI, aI, AV.nil]) (cs := [aI, aI, aI, aI, aI, aI, aI, aS, aS, aI, aI, aS, AV.nil, AV.nil, aS, aI, aI, aI, aI, aI, aI, aI, aI, AV.nil]) tb80 rfl (fill_cons (v := aI) (us := [_]) (cs' := u24) rfl rfl rfl rfl rfl rfl (fill_cons (v := aI) (us := [_]) (cs' := u24) rfl rfl rfl rfl rfl rfl (fill_cons (v := .agg [aI, aI, aS, AV.nil, AV.nil]) (us := u5) (cs' := u24) rfl rfl rfl rfl rfl rfl fill_nil)))) <| o_rows (row := rowApiEvent) (xs := ([(ApiEvent.mk (1 : Int) (1 : Int) (0 : Int) (0 : Int) (0 : Int) (0 : Int) (0 : Int) ([116] : List UInt8) ([107] : List UInt8) (ApiValue.mk (0 : Int) (0 : Int) ([] : List UInt8) ([] : (List ApiValue)) ([] : (List (List UInt8)))) (ApiPolicy.mk ([] : List UInt8) (0 : Int) (0 : Int) (0 : Int) (0 : Int) (0 : Int) (0 : Int) (0 : Int) (0 : Int) ([] : (List (List UInt8))))), (ApiEvent.mk (2 : Int) (30 : Int) (0 : Int) (0 : Int) (0 : Int) (0 : Int) (0 : Int) ([] : List UInt8) ([] : List UInt8) (ApiValue.mk (2 : Int) (7 : Int) ([] : List UInt8) ([] : (List ApiValue)) ([] : (List (List UInt8)))) (ApiPolicy.mk ([] : List UInt8) (0 : Int) (0 : Int) (0 : Int) (0 : Int) (0 : Int) (0 : Int) (0 : Int) (0 : Int) ([] : (List (List UInt8)))))] : List ApiEvent)) (rows := [[_, _, _, _, _, _, _, _, _, _, _, _, _, _, _, _, _, _, _, _, _, _, _, _], [_, _, _, _, _, _, _, _, _, _, _, _, _, _, _, _, _, _, _, _, _, _, _, _]]) (σ' := []) [0, 0, 0, 0, 0, 0, 0, 0, 0, 0, 0, 0, 5, 1, 0, 0, 0, 0, 0, 0, 0, 0, 0, 1] ts22 rfl rfl rfl (arow_cons rfl (arow_cons rfl arow_nil)) rfl rfl <| sV (v := aO) rfl <| o_ek (fr' := [(1, aO)]) rfl rfl ?_
 refine w_sr <| mV (v := aO) rfl <| o_p rfl (p_buildc (c0 := [aS, aS, aS, aI, AV.nil, aI, aI, aI, aI, aI, aI, aS, aI, aI, aS, AV.nil, AV.nil, aI, aI, aS, AV.nil, AV.nil, aB, AV.nil, AV.nil, AV.nil, AV.nil, AV.nil, AV.nil, AV.nil, AV.nil, AV.nil, aI, aI]) (cs := [aS, aS, aS, aI, aO, aI, aI, aI, aI, aI, aI, aS, aI, aI, aS, AV.nil, AV.nil, aI, aI, aS, AV.nil, AV.nil, aB, AV.nil, AV.nil, AV.nil, AV.nil, AV.nil, AV.nil, AV.nil, AV.nil, AV.nil, aI, aI]) tb37 rfl (fill_cons (v := aS) (us := [_]) (cs' := u34) rfl rfl rfl rfl rfl rfl (fill_cons (v := aS) (us := [_]) (cs' := u34) rfl rfl rfl rfl rfl rfl (fill_cons (v := aS) (us := [_]) (cs' := u34) rfl rfl rfl rfl rfl rfl (fill_cons (v := aI) (us := [_]) (cs' := u34) rfl rfl rfl rfl rfl rfl (fill_cons (v := aO) (us := [_]) (cs' := u34) rfl rfl rfl rfl rfl rfl fill_nil)))))) <| o_alloc (n := 0) (cs := [aS, aS, aS, aI, AV.nil, aI, aI, aI, aI, aI, aI, aS, aI, aI, aS, AV.nil, AV.nil, aI, aI, aS, AV.nil, AV.nil, aB, AV.nil, AV.nil, AV.nil, AV.nil, AV.nil, AV.nil, AV.nil, AV.nil, AV.nil, aI, aI]) (σ' := [[aS, aS, aS, aI, AV.nil, aI, aI, aI, aI, aI, aI, aS, aI, aI, aS, AV.nil, AV.nil, aI, aI, aS, AV.nil, AV.nil, aB, AV.nil, AV.nil, AV.nil, AV.nil, AV.nil, AV.nil, AV.nil, AV.nil, AV.nil, aI, aI]]) tz37 rfl rfl rfl <| o_store (v := .agg [aS, aS, aS, aI, aO, aI, aI, aI, aI, aI, aI, aS, aI, aI, aS, AV.nil, AV.nil, aI, aI, aS, AV.nil, AV.nil, aB, AV.nil, AV.nil, AV.nil, AV.nil, AV.nil, AV.nil, AV.nil, AV.nil, AV.nil, aI, aI]) (us := [aS, aS, aS, aI, aO, aI, aI, aI, aI, aI, aI, aS, aI, aI, aS, AV.nil, AV.nil, aI, aI, aS, AV.nil, AV.nil, aB, AV.nil, AV.nil, AV.nil, AV.nil, AV.nil, AV.nil, AV.nil, AV.nil, AV.nil, aI, aI]) (cs := [aS, aS, aS, aI, AV.nil, aI, aI, aI, aI, aI, aI, aS, aI, aI, aS, AV.nil, AV.nil, aI, aI, aS, AV.nil, AV.nil, aB, AV.nil, AV.nil, AV.nil, AV.nil, AV.nil, AV.nil, AV.nil, AV.nil, AV.nil, aI, aI]) (σ' := [[aS, aS, aS, aI, aO, aI, aI, aI, aI, aI, aI, aS, aI, aI, aS, AV.nil, AV.nil, aI, aI, aS, AV.nil, AV.nil, aB, AV.nil, AV.nil, AV.nil, AV.nil, AV.nil, AV.nil, AV.nil, AV.nil, AV.nil, aI, aI]]) rfl tv37 rfl rfl rfl rfl rfl rfl rfl rfl <| o_ek (fr' := [(2, .box 0 0)]) rfl rfl <| w_sr <| o_p rfl (p_loads (us := [aS, aS, aS, aI, aO, aI, aI, aI, aI, aI, aI, aS, aI, aI, aS, AV.nil, AV.nil, aI, aI, aS, AV.nil, AV.nil, aB, AV.nil, AV.nil, AV.nil, AV.nil, AV.nil, AV.nil, AV.nil, AV.nil, AV.nil, aI, aI]) tv37 rfl rfl rfl rfl) ?_
 obtain ⟨x1, hx1, h2⟩ := bind_s h
 refine o_v (ov_call (v := .tup [.agg aIISSSSIIIIIISLLSIIIIIIIILLS, aB]) rfl (w_children_Report hx1) ⟨(le_aggc rfl ⟨rfl, rfl, rfl, rfl, rfl, rfl, rfl, rfl, rfl, rfl, rfl, rfl, rfl, rfl, rfl, ⟨_, rfl⟩, ⟨_, rfl⟩, rfl, rfl, rfl, ⟨_, rfl⟩, ⟨_, rfl⟩, rfl, ⟨_, rfl⟩, ⟨_, rfl⟩, ⟨_, rfl⟩, ⟨_, rfl⟩, ⟨_, rfl⟩, ⟨_, rfl⟩, ⟨_, rfl⟩, ⟨_, rfl⟩, ⟨_, rfl⟩, rfl, rfl, trivial⟩), lr, trivial⟩ rfl rfl rfl) <| mV (v := .tup [.agg aIISSSSIIIIIISLLSIIIIIIIILLS, aB]) rfl <| o_p rfl (p_ex (v := .agg aIISSSSIIIIIISLLSIIIIIIIILLS) rfl rfl) <| o_p rfl (p_ex (v := aB) rfl rfl) <| o_alloc (n := 1) (cs := [aI, aI, aS, aS, aS, aS, aI, aI, aI, aI, aI, aI, aS, AV.nil, AV.nil, aS, aI, aI, aI, aI, aI, aI, aI, aI, AV.nil, AV.nil, aS]) (σ' := [[aS, aS, aS, aI, aO, aI, aI, aI, aI, aI, aI, aS, aI, aI, aS, AV.nil, AV.nil, aI, aI, aS, AV.nil, AV.nil, aB, AV.nil, AV.nil, AV.nil, AV.nil, AV.nil, AV.nil, AV.nil, AV.nil, AV.nil, aI, aI], [aI, aI, aS, aS, aS, aS, aI, aI, aI, aI, aI, aI, aS, AV.nil, AV.nil, aS, aI, aI, aI, aI, aI, aI, aI, aI, AV.nil, AV.nil, aS]]) tz44 rfl rfl rfl <| o_store (v := .agg aIISSSSIIIIIISLLSIIIIIIIILLS) (us := aIISSSSIIIIIISLLSIIIIIIIILLS) (cs := [aI, aI, aS, aS, aS, aS, aI, aI, aI, aI, aI, aI, aS, AV.nil, AV.nil, aS, aI, aI, aI, aI, aI, aI, aI, aI, AV.nil, AV.nil, aS]) (σ' := [[aS, aS, aS, aI, aO, aI, aI, aI, aI, aI, aI, aS, aI, aI, aS, AV.nil, AV.nil, aI, aI, aS, AV.nil, AV.nil, aB, AV.nil, AV.nil, AV.nil, AV.nil, AV.nil, AV.nil, AV.nil, AV.nil, AV.nil, aI, aI], aIISSSSIIIIIISLLSIIIIIIIILLS]) rfl tv44 rfl rfl rfl rfl rfl rfl rfl rfl <| sB rfl <| o_ek (fr' := [(2, .box 0 0), (3, .box 1 0), (4, aB)]) rfl rfl <| w_sr <| o_p rfl (p_build (cs := [aI, aI, aS, AV.nil, AV.nil]) tb26 rfl) <| o_p rfl (p_buildc (c0 := [aI, aI, aS, aS, aS, aS, aI, aI, aI, aI, aI, aI, aS, AV.nil, AV.nil, aS, aI, aI, aI, aI, aI, aI, aI, aI, AV.nil, AV.nil, aS]) (cs := [aI, aI, aS, aS, aS, aS, aI, aI, aI, aI, aI, aI, aS, AV.nil, AV.nil, aS, aI, aI, aI, aI, aI, aI, aI, aI, AV.nil, AV.nil, aS]) tb44 rfl (fill_cons (v := aI) (us := [_]) (cs' := u27) rfl rfl rfl rfl rfl rfl (fill_cons (v := aI) (us := [_]) (cs' := u27) rfl rfl rfl rfl rfl rfl (fill_cons (v := aS) (us := [_]) (cs' := u27) rfl rfl rfl rfl rfl rfl (fill_cons (v := aS) (us := [_]) (cs' := u27) rfl rfl rfl rfl rfl rfl (fill_cons (v := aI) (us := [_]) (cs' := u27) rfl rfl rfl rfl rfl rfl (fill_cons (v := aI) (us := [_]) (cs' := u27) rfl rfl rfl rfl rfl rfl (fill_cons (v := .agg [aI, aI, aS, AV.nil, AV.nil]) (us := u5) (cs' := u27) rfl rfl rfl rfl rfl rfl fill_nil)))))))) <| o_alloc (n := 2) (cs := [aI, aI, aS, aS, aS, aS, aI, aI, aI, aI, aI, aI, aS, AV.nil, AV.nil, aS, aI, aI, aI, aI, aI, aI, aI, aI, AV.nil, AV.nil, aS]) (σ' := [[aS, aS, aS, aI, aO, aI, aI, aI, aI, aI, aI, aS, aI, aI, aS, AV.nil, AV.nil, aI, aI, aS, AV.nil, AV.nil, aB, AV.nil, AV.nil, AV.nil, AV.nil, AV.nil, AV.nil, AV.nil, AV.nil, AV.nil, aI, aI], aIISSSSIIIIIISLLSIIIIIIIILLS, [aI, aI, aS, aS, aS, aS, aI, aI, aI, aI, aI, aI, aS, AV.nil, AV.nil, aS, aI, aI, aI, aI, aI, aI, aI, aI, AV.nil, AV.nil, aS]]) tz44 rfl rfl rfl ?_
 refine o_store (v := .agg [aI, aI, aS, aS, aS, aS, aI, aI, aI, aI, aI, aI, aS, AV.nil, AV.nil, aS, aI, aI, aI, aI, aI, aI, aI, aI, AV.nil, AV.nil, aS]) (us := [aI, aI, aS, aS, aS, aS, aI, aI, aI, aI, aI, aI, aS, AV.nil, AV.nil, aS, aI, aI, aI, aI, aI, aI, aI, aI, AV.nil, AV.nil, aS]) (cs := [aI, aI, aS, aS, aS, aS, aI, aI, aI, aI, aI, aI, aS, AV.nil, AV.nil, aS, aI, aI, aI, aI, aI, aI, aI, aI, AV.nil, AV.nil, aS]) (σ' := [[aS, aS, aS, aI, aO, aI, aI, aI, aI, aI, aI, aS, aI, aI, aS, AV.nil, AV.nil, aI, aI, aS, AV.nil, AV.nil, aB, AV.nil, AV.nil, AV.nil, AV.nil, AV.nil, AV.nil, AV.nil, AV.nil, AV.nil, aI, aI], aIISSSSIIIIIISLLSIIIIIIIILLS, [aI, aI, aS, aS, aS, aS, aI, aI, aI, aI, aI, aI, aS, AV.nil, AV.nil, aS, aI, aI, aI, aI, aI, aI, aI, aI, AV.nil, AV.nil, aS]]) rfl tv44 rfl rfl rfl rfl rfl rfl rfl rfl <| o_ek (fr' := [(2, .box 0 0), (3, .box 1 0), (4, aB), (5, .box 2 0)]) rfl rfl <| w_sr <| mB rfl <| mB rfl <| og rfl rfl rfl (fun hc => (p_loads (us := aIISSSSIIIIIISLLSIIIIIIIILLS) tv44 rfl rfl rfl rfl)) <| og rfl rfl rfl (fun hc => (p_loads (us := [aI, aI, aS, aS, aS, aS, aI, aI, aI, aI, aI, aI, aS, AV.nil, AV.nil, aS, aI, aI, aI, aI, aI, aI, aI, aI, AV.nil, AV.nil, aS]) tv44 rfl rfl rfl rfl)) ?_
 obtain ⟨x3, hx3, h4⟩ := bind_s h2
 refine o_g rfl rfl (fun hc => ov_call (v := aB) rfl (w_law45xsame (gd_some hx3 hc)) ⟨(le_gv (gx rfl hc) (le_aggc rfl ⟨rfl, rfl, rfl, rfl, rfl, rfl, rfl, rfl, rfl, rfl, rfl, rfl, rfl, rfl, rfl, rfl, rfl, rfl, rfl, rfl, rfl, rfl, rfl, rfl, rfl, rfl, rfl, trivial⟩)), (le_gv (gx rfl hc) (le_aggc rfl ⟨rfl, rfl, rfl, rfl, rfl, rfl, rfl, rfl, rfl, rfl, rfl, rfl, rfl, ⟨_, rfl⟩, ⟨_, rfl⟩, rfl, rfl, rfl, rfl, rfl, rfl, rfl, rfl, rfl, ⟨_, rfl⟩, ⟨_, rfl⟩, rfl, trivial⟩)), trivial⟩ (ok_eq (by repeat (first | exact ok_nil | refine ok_cons rfl ?_ | refine ok_cons (dgv rfl) ?_))) rfl rfl) ?_
 refine o_p rfl (p_picky rfl rfl rfl (fun e => keq e)) <| mB rfl <| og rfl rfl rfl (fun hc => (p_loads (us := [aS, aS, aS, aI, aO, aI, aI, aI, aI, aI, aI, aS, aI, aI, aS, AV.nil, AV.nil, aI, aI, aS, AV.nil, AV.nil, aB, AV.nil, AV.nil, AV.nil, AV.nil, AV.nil, AV.nil, AV.nil, AV.nil, AV.nil, aI, aI]) tv37 rfl rfl rfl rfl)) ?_
 obtain ⟨x5, hx5, h6⟩ := bind_s h4
 refine o_g rfl rfl (fun hc => ov_call (v := aO) rfl (w_children_Orphans (gd_some hx5 hc)) ⟨(le_gv (gx rfl hc) (le_aggc rfl ⟨rfl, rfl, rfl, rfl, rfl, rfl, rfl, rfl, rfl, rfl, rfl, rfl, rfl, rfl, rfl, ⟨_, rfl⟩, ⟨_, rfl⟩, rfl, rfl, rfl, ⟨_, rfl⟩, ⟨_, rfl⟩, rfl, ⟨_, rfl⟩, ⟨_, rfl⟩, ⟨_, rfl⟩, ⟨_, rfl⟩, ⟨_, rfl⟩, ⟨_, rfl⟩, ⟨_, rfl⟩, ⟨_, rfl⟩, ⟨_, rfl⟩, rfl, rfl, trivial⟩)), lr, trivial⟩ (ok_eq (by repeat (first | exact ok_nil | refine ok_cons rfl ?_ | refine ok_cons (dgv rfl) ?_))) rfl rfl) ?_
 refine og rfl rfl rfl (fun hc => (p_len ti47 (isl_o (gx rfl hc)))) <| og rfl rfl rfl (fun hc => (p_eql (gx rfl hc) rfl)) <| o_p rfl (p_picky rfl rfl rfl (fun e => keq e)) <| sB rfl <| o_ek (fr' := [(0, aB)]) rfl rfl <| w_ret ?_
 obtain rfl := sy h6
 exact e_ret (rs' := [.tmp 0]) rfl <| r_tmp (v := aB) rfl <| r_nil <| fin_gen [] rfl rfl rfl lr st_nil
noncomputable def ref22xStatus (p0kind : Int) : Option (Int × Bool) :=
 cond (decide (p0kind = (30 : Int))) (some ((1 : Int), true)) (cond (decide (p0kind = (31 : Int))) (some ((2 : Int), true)) (cond (decide (p0kind = (32 : Int))) (some ((3 : Int), true)) (cond (decide (p0kind = (33 : Int))) (some ((4 : Int), true)) (cond (decide (p0kind = (34 : Int))) (some ((5 : Int), true)) (cond (decide (p0kind = (35 : Int))) (some ((6 : Int), true)) (some ((0 : Int), false)))))))
theorem w_ref22xStatus {p0kind : Int} {res : (Int × Bool)} (h : ref22xStatus p0kind = some res) : ACalls Tryd.prog 82 [.c (.int .i64 p0kind)] [] (.tup [.c (.int .i64 res.1), .c (.bool res.2)]) [] := by
 unfold ref22xStatus at h
 refine acalls (fn := Tryd.f82) [0, 2, 3, 4, 5, 7, 9, 11, 13, 15] (by kernel_rfl) Tryd.func82 rfl (by kernel_rfl) (by kernel_rfl) <| w_sr <| sI rfl <| sB rfl <| o_ek (fr' := [(0, aI)]) rfl rfl <| w_seqw <| w_sr <| mI rfl <| o_ek (fr' := [(4, aI)]) rfl rfl <| w_block <| w_seqw ?_
 refine w_region <| o_p rfl (p_eql rfl rfl) <| sB rfl <| o_ek (fr' := [(4, aI), (5, aB)]) rfl rfl <| w_ch h rfl (fun hb1 h1 => ?_) (fun hb1 h1 => ?_)
 ·
  refine w_sr <| sI rfl <| sB rfl <| o_ek (fr' := [(2, aI), (3, aB)]) rfl rfl <| w_ret <| e_blk_r <| e_seq_r ?_
  obtain rfl := sy h1
  exact e_ret (rs' := [.tmp 2, .tmp 3]) rfl <| r_tmp (v := aI) rfl <| r_tmp (v := aB) rfl <| r_nil <| fin_gen [] rfl rfl rfl (le_tupp rfl ⟨lr, lr, trivial⟩) st_nil
 ·
  refine w_sr <| o_p rfl (p_eql rfl rfl) <| sB rfl <| o_ek (fr' := [(4, aI), (7, aB)]) rfl rfl <| w_ch h1 rfl (fun hb3 h3 => ?_) (fun hb3 h3 => ?_)
  ·
   refine w_sr <| sI rfl <| sB rfl <| o_ek (fr' := [(2, aI), (3, aB)]) rfl rfl <| w_ret <| e_blk_r <| e_seq_r ?_
   obtain rfl := sy h3
   exact e_ret (rs' := [.tmp 2, .tmp 3]) rfl <| r_tmp (v := aI) rfl <| r_tmp (v := aB) rfl <| r_nil <| fin_gen [] rfl rfl rfl (le_tupp rfl ⟨lr, lr, trivial⟩) st_nil
  ·
   refine w_sr <| o_p rfl (p_eql rfl rfl) <| sB rfl <| o_ek (fr' := [(4, aI), (9, aB)]) rfl rfl <| w_ch h3 rfl (fun hb5 h5 => ?_) (fun hb5 h5 => ?_)
   ·
    refine w_sr <| sI rfl <| sB rfl <| o_ek (fr' := [(2, aI), (3, aB)]) rfl rfl <| w_ret <| e_blk_r <| e_seq_r ?_
    obtain rfl := sy h5
    exact e_ret (rs' := [.tmp 2, .tmp 3]) rfl <| r_tmp (v := aI) rfl <| r_tmp (v := aB) rfl <| r_nil <| fin_gen [] rfl rfl rfl (le_tupp rfl ⟨lr, lr, trivial⟩) st_nil
   ·
    refine w_sr <| o_p rfl (p_eql rfl rfl) <| sB rfl <| o_ek (fr' := [(4, aI), (11, aB)]) rfl rfl <| w_ch h5 rfl (fun hb7 h7 => ?_) (fun hb7 h7 => ?_)
    ·
     refine w_sr <| sI rfl <| sB rfl <| o_ek (fr' := [(2, aI), (3, aB)]) rfl rfl <| w_ret <| e_blk_r <| e_seq_r ?_
     obtain rfl := sy h7
     exact e_ret (rs' := [.tmp 2, .tmp 3]) rfl <| r_tmp (v := aI) rfl <| r_tmp (v := aB) rfl <| r_nil <| fin_gen [] rfl rfl rfl (le_tupp rfl ⟨lr, lr, trivial⟩) st_nil
    ·
     refine w_sr <| o_p rfl (p_eql rfl rfl) <| sB rfl <| o_ek (fr' := [(4, aI), (13, aB)]) rfl rfl <| w_ch h7 rfl (fun hb9 h9 => ?_) (fun hb9 h9 => ?_)
     ·
      refine w_sr <| sI rfl <| sB rfl <| o_ek (fr' := [(2, aI), (3, aB)]) rfl rfl <| w_ret <| e_blk_r <| e_seq_r ?_
      obtain rfl := sy h9
      exact e_ret (rs' := [.tmp 2, .tmp 3]) rfl <| r_tmp (v := aI) rfl <| r_tmp (v := aB) rfl <| r_nil <| fin_gen [] rfl rfl rfl (le_tupp rfl ⟨lr, lr, trivial⟩) st_nil
     ·
      refine w_sr <| o_p rfl (p_eql rfl rfl) <| sB rfl <| o_ek (fr' := [(15, aB)]) rfl rfl <| w_ch h9 rfl (fun hb11 h11 => ?_) (fun hb11 h11 => ?_)
      ·
       refine w_sr <| sI rfl <| sB rfl <| o_ek (fr' := [(2, aI), (3, aB)]) rfl rfl <| w_ret <| e_blk_r <| e_seq_r ?_
       obtain rfl := sy h11
       exact e_ret (rs' := [.tmp 2, .tmp 3]) rfl <| r_tmp (v := aI) rfl <| r_tmp (v := aB) rfl <| r_nil <| fin_gen [] rfl rfl rfl (le_tupp rfl ⟨lr, lr, trivial⟩) st_nil
      ·
       refine w_skip <| e_blk_n <| e_kw <| w_sr <| sI rfl <| sB rfl <| o_ek (fr' := [(2, aI), (3, aB)]) rfl rfl <| w_ret ?_
       obtain rfl := sy h11
       exact e_ret (rs' := [.tmp 2, .tmp 3]) rfl <| r_tmp (v := aI) rfl <| r_tmp (v := aB) rfl <| r_nil <| fin_gen [] rfl rfl rfl (le_tupp rfl ⟨lr, lr, trivial⟩) st_nil
noncomputable def ref24xStatus_l1 (p0l : (List ApiEvent)) (s4 : Int) : Option (Step Int (Fl (Int × Int) Unit)) :=
 cond (decide (s4 < ((p0l).length : Int))) ((idx p0l s4).bind fun (x6 : ApiEvent) => (ref22xStatus x6.Kind).bind fun (x8 : (Int × Bool)) => cond x8.2 (some (Step.out (Fl.done (x8.1, s4)))) (some (Step.next (IntKind.wrap .i64 (s4 + (1 : Int)))))) (some (Step.out (Fl.go ())))
noncomputable def ref24xStatus (p0l : (List ApiEvent)) : Option (Int × Int) :=
 ((loopO (ref24xStatus_l1 p0l) ((0 : Int))) : Option (Fl (Int × Int) Unit)).bind fun (x1 : (Fl (Int × Int) Unit)) => Fl.next x1 (fun (j3 : Unit) => (some ((0 : Int), (-1 : Int))))
theorem w_ref24xStatus {p0l : (List ApiEvent)} {res : (Int × Int)} (h : ref24xStatus p0l = some res) : ACalls Tryd.prog 51 [.c (PV.ls 24 rowApiEvent p0l)] [] (.tup [.c (.int .i64 res.1), .c (.int .i64 res.2)]) [] := by
 unfold ref24xStatus at h
 refine acalls (fn := Tryd.f51) [0, 2, 3, 4, 5, 6, 10, 22] (by kernel_rfl) Tryd.func51 rfl (by kernel_rfl) (by kernel_rfl) <| w_sr <| sI rfl <| sI rfl <| o_ek (fr' := [(0, aL)]) rfl rfl <| w_seqw <| w_sr <| sI rfl <| o_ek (fr' := [(0, aL), (4, aI)]) rfl rfl ?_
 obtain ⟨x1, hx1, h2⟩ := bind_s h
 refine w_jtail cl_kw (fun j3 => x1 = Fl.go j3) (fun (j3 : Unit) => ([] : Fr)) (fun (j3 : Unit) => ([] : St)) ?_ ?_
 ·
  refine w_block <| w_loopo _ (fun (s4 : Int) => ([(0, .c (PV.ls 24 rowApiEvent p0l)), (4, .c (.int .i64 s4))] : Fr)) (fun (s4 : Int) => ([] : St)) hx1 (w_weak [] 0 rfl rfl rfl rfl ⟨lr, lr, trivial⟩ st_nil) ?_
  intro s4 st4 hs4 ho4
  unfold ref24xStatus_l1 at hs4
  refine w_seqw <| w_sr <| mI rfl <| mL rfl <| o_p rfl (p_len ti22 (isl_c rfl)) <| o_p rfl (p_lss rfl rfl) <| o_ek (fr' := [(0, aL), (4, aI), (10, aB)]) rfl rfl <| w_ch hs4 rfl (fun hb5 h5 => ?_) (fun hb5 h5 => ?_)
  ·
   refine w_skip <| e_kw <| w_seqw <| w_block <| w_sr <| mL rfl <| mI rfl ?_
   obtain ⟨x6, hx6, h7⟩ := bind_s h5
   refine o_p rfl (p_ia (cs := [PV.int _ _, PV.int _ _, PV.int _ _, PV.int _ _, PV.int _ _, PV.int _ _, PV.int _ _, PV.str _, PV.str _, PV.int _ _, PV.int _ _, PV.str _, PV.ls _ _ _, PV.ls _ _ _, PV.str _, PV.int _ _, PV.int _ _, PV.int _ _, PV.int _ _, PV.int _ _, PV.int _ _, PV.int _ _, PV.int _ _, PV.ls _ _ _]) ts22 (isl_c rfl) rfl hx6 rfl) <| o_p rfl (p_fae tf80x1 rfl) <| o_p rfl (p_loade (p := PV.int _ _) tv3 rfl rfl) ?_
   obtain ⟨x8, hx8, h9⟩ := bind_s h7
   refine o_v (ov_call (v := .tup [aI, aB]) rfl (w_ref22xStatus hx8) ⟨lr, trivial⟩ rfl rfl rfl) <| mV (v := .tup [aI, aB]) rfl <| o_p rfl (p_ex (v := aI) rfl rfl) <| o_p rfl (p_ex (v := aB) rfl rfl) <| sI rfl <| sB rfl <| o_ek (fr' := [(0, aL), (4, aI), (5, aI), (6, aB)]) rfl rfl <| w_sr <| mB rfl <| o_ek (fr' := [(0, aL), (4, aI), (5, aI), (22, aB)]) rfl rfl <| w_ch h9 rfl (fun hb10 h10 => ?_) (fun hb10 h10 => ?_)
   ·
    refine w_sr <| mI rfl <| mI rfl <| sI rfl <| sI rfl <| o_ek (fr' := [(2, aI), (3, aI)]) rfl rfl <| w_ret <| e_blk_r <| e_seq_r <| e_seq_r <| e_blk_r <| e_seq_r ?_
    refine e_seq_r ?_
    have h11 := un_out h10 ho4
    have h12 := un_done h11 h2
    obtain rfl := sy h12
    exact e_ret (rs' := [.tmp 2, .tmp 3]) rfl <| r_tmp (v := aI) rfl <| r_tmp (v := aI) rfl <| r_nil <| fin_gen [] rfl rfl rfl (le_tupp rfl ⟨lr, lr, trivial⟩) st_nil
   ·
    exact w_skip <| e_blk_n <| e_kw <| w_region <| mI rfl <| o_p rfl (p_add rfl rfl) <| sI rfl <| o_end (fr' := [(0, aL), (4, aI), (5, aI), (22, aB)]) rfl <| e_l _ (sy h10) (w_weak [] 0 rfl rfl rfl rfl ⟨lr, lr, trivial⟩ st_nil)
  ·
   refine w_exit <| e_seq_x <| e_seq_x <| e_blk_h ?_
   have h14 := un_out h5 ho4
   exact e_j _ (sy h14) (w_weak [] 0 rfl rfl rfl rfl trivial st_nil)
 ·
  intro j3 hj15
  have h15 := un_go hj15 h2
  refine e_kw <| w_sr <| sI rfl <| sI rfl <| o_ek (fr' := [(2, aI), (3, aI)]) rfl rfl <| w_ret ?_
  obtain rfl := sy h15
  exact e_ret (rs' := [.tmp 2, .tmp 3]) rfl <| r_tmp (v := aI) rfl <| r_tmp (v := aI) rfl <| r_nil <| fin_gen [] rfl rfl rfl (le_tupp rfl ⟨lr, lr, trivial⟩) st_nil
noncomputable def ref06xSplit_l1 (p0key : (List UInt8)) (s4 : (Int × Int)) : Option (Step (Int × Int) (Fl ((List UInt8) × (List UInt8) × Bool) Int)) :=
 cond (decide (s4.2 < ((p0key).length : Int))) ((idx p0key s4.2).bind fun (x6 : UInt8) => cond (cond (decide (((x6).toNat : Int) = (47 : Int))) (decide ((0 : Int) ≤ s4.1)) false) (some (Step.out (Fl.done (([] : List UInt8), ([] : List UInt8), false)))) ((idx p0key s4.2).bind fun (x12 : UInt8) => cond (decide (((x12).toNat : Int) = (47 : Int))) (some (Step.next (s4.2, (IntKind.wrap .i64 (s4.2 + (1 : Int)))))) (some (Step.next (s4.1, (IntKind.wrap .i64 (s4.2 + (1 : Int)))))))) (some (Step.out (Fl.go s4.1)))
noncomputable def ref06xSplit (p0key : (List UInt8)) : Option ((List UInt8) × (List UInt8) × Bool) :=
 ((loopO (ref06xSplit_l1 p0key) (((-1 : Int), (0 : Int)))) : Option (Fl ((List UInt8) × (List UInt8) × Bool) Int)).bind fun (x1 : (Fl ((List UInt8) × (List UInt8) × Bool) Int)) => Fl.next x1 (fun (j3 : Int) => (cond (decide (j3 < (0 : Int))) (some (([] : List UInt8), ([] : List UInt8), false)) ((slcH p0key j3).bind fun (x19 : (List UInt8)) => (slcL p0key (IntKind.wrap .i64 (j3 + (1 : Int)))).bind fun (x21 : (List UInt8)) => some ((List.take (Int.toNat j3) p0key), (List.drop (Int.toNat (IntKind.wrap .i64 (j3 + (1 : Int)))) p0key), true))))
theorem w_ref06xSplit {p0key : (List UInt8)} {res : ((List UInt8) × (List UInt8) × Bool)} (h : ref06xSplit p0key = some res) : ACalls Tryd.prog 52 [.c (.str p0key)] [] (.tup [.c (.str res.1), .c (.str res.2.1), .c (.bool res.2.2)]) [] := by
 unfold ref06xSplit at h
 refine acalls (fn := Tryd.f52) [0, 2, 3, 4, 5, 6, 10, 20, 24, 27] (by kernel_rfl) Tryd.func52 rfl (by kernel_rfl) (by kernel_rfl) <| w_sr <| sS rfl <| sS rfl <| sB rfl <| o_ek (fr' := [(0, aS)]) rfl rfl <| w_sr <| sI rfl <| o_ek (fr' := [(0, aS), (5, aI)]) rfl rfl <| w_seqw <| w_seqw ?_
 refine w_region <| sI rfl <| o_ek (fr' := [(0, aS), (5, aI), (6, aI)]) rfl rfl ?_
 obtain ⟨x1, hx1, h2⟩ := bind_s h
 refine w_jtail cl_kw (fun j3 => x1 = Fl.go j3) (fun (j3 : Int) => ([(0, .c (.str p0key)), (5, .c (.int .i64 j3))] : Fr)) (fun (j3 : Int) => ([] : St)) ?_ ?_
 ·
  refine w_block <| w_loopo _ (fun (s4 : (Int × Int)) => ([(0, .c (.str p0key)), (5, .c (.int .i64 s4.1)), (6, .c (.int .i64 s4.2))] : Fr)) (fun (s4 : (Int × Int)) => ([] : St)) hx1 (w_weak [] 0 rfl rfl rfl rfl ⟨lr, lr, lr, trivial⟩ st_nil) ?_
  intro s4 st4 hs4 ho4
  unfold ref06xSplit_l1 at hs4
  refine w_seqw <| w_sr <| mI rfl <| mS rfl <| o_p rfl (p_lens ti9 rfl) <| o_p rfl (p_lss rfl rfl) <| o_ek (fr' := [(0, aS), (5, aI), (6, aI), (10, aB)]) rfl rfl <| w_ch hs4 rfl (fun hb5 h5 => ?_) (fun hb5 h5 => ?_)
  ·
   refine w_skip <| e_kw <| w_seqw <| w_block <| w_seqw <| w_sr <| mS rfl <| mI rfl ?_
   obtain ⟨x6, hx6, h7⟩ := bind_s h5
   refine o_p rfl (p_is ti9 rfl rfl hx6) <| o_p rfl (p_eql rfl rfl) <| mB rfl <| og rfl rfl rfl (fun hc => (p_move (v := aI) rfl)) <| og rfl rfl rfl (fun hc => (p_geq (gx rfl hc) rfl)) <| o_p rfl (p_picky rfl rfl rfl (fun e => keq e)) <| o_ek (fr' := [(0, aS), (5, aI), (6, aI), (20, aB)]) rfl rfl <| w_ch h7 rfl (fun hb8 h8 => ?_) (fun hb8 h8 => ?_)
   ·
    refine w_sr <| sS rfl <| sS rfl <| sB rfl <| o_ek (fr' := [(2, aS), (3, aS), (4, aB)]) rfl rfl <| w_ret <| e_seq_r <| e_blk_r <| e_seq_r <| e_seq_r <| e_blk_r <| e_seq_r ?_
    refine e_seq_r ?_
    have h9 := un_out h8 ho4
    have h10 := un_done h9 h2
    obtain rfl := sy h10
    exact e_ret (rs' := [.tmp 2, .tmp 3, .tmp 4]) rfl <| r_tmp (v := aS) rfl <| r_tmp (v := aS) rfl <| r_tmp (v := aB) rfl <| r_nil <| fin_gen [] rfl rfl rfl (le_tupp rfl ⟨lr, lr, lr, trivial⟩) st_nil
   ·
    refine w_skip <| e_kw <| w_sr <| mS rfl <| mI rfl ?_
    obtain ⟨x12, hx12, h13⟩ := bind_s h8
    refine o_p rfl (p_is ti9 rfl rfl hx12) <| o_p rfl (p_eql rfl rfl) <| o_ek (fr' := [(0, aS), (5, aI), (6, aI), (24, aB)]) rfl rfl <| w_ch h13 rfl (fun hb14 h14 => ?_) (fun hb14 h14 => ?_)
    ·
     exact w_region <| mI rfl <| sI rfl <| o_end (fr' := [(0, aS), (5, aI), (6, aI), (24, aB)]) rfl <| e_blk_n <| e_kw <| w_region <| mI rfl <| o_p rfl (p_add rfl rfl) <| sI rfl <| o_end (fr' := [(0, aS), (5, aI), (6, aI), (24, aB)]) rfl <| e_l _ (sy h14) (w_weak [] 0 rfl rfl rfl rfl ⟨lr, lr, lr, trivial⟩ st_nil)
    ·
     exact w_skip <| e_blk_n <| e_kw <| w_region <| mI rfl <| o_p rfl (p_add rfl rfl) <| sI rfl <| o_end (fr' := [(0, aS), (5, aI), (6, aI), (24, aB)]) rfl <| e_l _ (sy h14) (w_weak [] 0 rfl rfl rfl rfl ⟨lr, lr, lr, trivial⟩ st_nil)
  ·
   refine w_exit <| e_seq_x <| e_seq_x <| e_blk_h ?_
   have h15 := un_out h5 ho4
   exact e_j _ (sy h15) (w_weak [] 0 rfl rfl rfl rfl ⟨lr, lr, trivial⟩ st_nil)
 ·
  intro j3 hj16
  have h16 := un_go hj16 h2
  refine e_kw <| w_seqw <| w_sr <| mI rfl <| o_p rfl (p_lss rfl rfl) <| o_ek (fr' := [(0, aS), (5, aI), (27, aB)]) rfl rfl <| w_ch h16 rfl (fun hb17 h17 => ?_) (fun hb17 h17 => ?_)
  ·
   refine w_sr <| sS rfl <| sS rfl <| sB rfl <| o_ek (fr' := [(2, aS), (3, aS), (4, aB)]) rfl rfl <| w_ret <| e_seq_r ?_
   obtain rfl := sy h17
   exact e_ret (rs' := [.tmp 2, .tmp 3, .tmp 4]) rfl <| r_tmp (v := aS) rfl <| r_tmp (v := aS) rfl <| r_tmp (v := aB) rfl <| r_nil <| fin_gen [] rfl rfl rfl (le_tupp rfl ⟨lr, lr, lr, trivial⟩) st_nil
  ·
   refine w_skip <| e_kw <| w_seqw <| w_planT [.q 0, .q 1, .q 2, .q 3, .q 4, .q 5, .q 6, .n 7 [3, 4, 5, 6], .n 8 [], .n 9 []] [(some 28, [0]), (some 29, [5]), (some 30, [28, 29]), (some 31, [0]), (some 32, [5]), (some 33, [32]), (some 34, [31, 33]), (some 2, [30]), (some 3, [34]), (some 4, [])] [0, 0, 3, 0, 0, 16, 56, 7, 255, 511] (by kernel_rfl) <| dq rfl rfl (p_move (v := aS) rfl) <| dq rfl rfl (p_move (v := aI) rfl) ?_
   obtain ⟨x19, hx19, h20⟩ := bind_s h17
   refine dq rfl rfl (p_slS_h ti9 rfl rfl (slcH_some hx19).1) <| dq rfl rfl (p_move (v := aS) rfl) <| dq rfl rfl (p_move (v := aI) rfl) <| dq rfl rfl (p_add rfl rfl) ?_
   obtain ⟨x21, hx21, h22⟩ := bind_s h20
   refine dq rfl rfl (p_slS_l ti9 rfl rfl (slcL_some hx21).1) <| d_n rfl ?_ rfl
   refine sS rfl <| o_rc <| ⟨(rc_q (v := aS) rfl rfl (qv_p rfl (p_move (v := aS) rfl)) (rc_q (v := aI) rfl rfl (qv_p rfl (p_move (v := aI) rfl)) (rc_q (v := aI) rfl rfl (qv_p rfl (p_add rfl rfl)) (rc_q (v := aS) rfl rfl (qv_p rfl (p_slS_l ti9 rfl rfl (slcL_some hx21).1)) rc_nil)))), ?_⟩
   refine d_n rfl ?_ rfl
   refine sS rfl <| o_rc <| ⟨rc_nil, ?_⟩
   refine d_n rfl ?_ rfl
   refine sB rfl <| o_rc <| ⟨rc_nil, ?_⟩
   refine d_ek (fr' := [(2, aS), (3, aS), (4, aB)]) rfl rfl <| w_ret ?_
   obtain rfl := sy h22
   exact e_ret (rs' := [.tmp 2, .tmp 3, .tmp 4]) rfl <| r_tmp (v := aS) rfl <| r_tmp (v := aS) rfl <| r_tmp (v := aB) rfl <| r_nil <| fin_gen [] rfl rfl rfl (le_tupp rfl ⟨lr, lr, lr, trivial⟩) st_nil
end Go.Proofs.YtopijeegnhighaaDoor

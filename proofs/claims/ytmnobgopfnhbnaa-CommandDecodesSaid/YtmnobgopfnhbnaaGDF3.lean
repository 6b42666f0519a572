import Derived.Test.YtmnobgopfnhbnaaGDTy
namespace Go.Proofs.Ytmnobgopfnhbnaa
open Go Abs
set_option maxRecDepth 100000
set_option linter.unusedVariables false
set_option linter.unusedSimpArgs false
noncomputable def ref20xSamePolicy_l1 (p0a : ApiPolicy) (p1b : ApiPolicy) (s8 : Int) : Option (Step Int (Fl Bool Unit)) :=
 cond (decide (s8 < ((p0a.Fatal).length : Int))) ((idx p0a.Fatal s8).bind fun (x10 : (List UInt8)) => (idx p1b.Fatal s8).bind fun (x12 : (List UInt8)) => cond (!decide (x10 = x12)) (some (Step.out (Fl.done false))) (some (Step.next (IntKind.wrap .i64 (s8 + (1 : Int)))))) (some (Step.out (Fl.go ())))
noncomputable def ref20xSamePolicy (p0a : ApiPolicy) (p1b : ApiPolicy) : Option Bool :=
 cond (cond (cond (cond (cond (!decide (p0a.Queue = p1b.Queue)) true (!decide (p0a.ToStart = p1b.ToStart))) true (!decide (p0a.ToClose = p1b.ToClose))) true (!decide (p0a.Total = p1b.Total))) true (!decide (p0a.Beat = p1b.Beat))) (some false) (cond (cond (cond (cond (cond (!decide (p0a.First = p1b.First)) true (!decide (p0a.Coef = p1b.Coef))) true (!decide (p0a.Most = p1b.Most))) true (!decide (p0a.Attempts = p1b.Attempts))) true (!decide (((p0a.Fatal).length : Int) = ((p1b.Fatal).length : Int)))) (some false) (((loopO (ref20xSamePolicy_l1 p0a p1b) ((0 : Int))) : Option (Fl Bool Unit)).bind fun (x5 : (Fl Bool Unit)) => Fl.next x5 (fun (j7 : Unit) => (some true))))
theorem w_ref20xSamePolicy {p0a : ApiPolicy} {p1b : ApiPolicy} {res : Bool} (h : ref20xSamePolicy p0a p1b = some res) : ACalls Try.prog 19 [.agg (AV.cs (rowApiPolicy p0a)), .agg (AV.cs (rowApiPolicy p1b))] [] (.c (.bool res)) [] := by
 unfold ref20xSamePolicy at h
 refine acalls (fn := Try.f19) [0, 1, 2, 3, 4, 5, 38, 73, 78, 91] (by kernel_rfl) Try.func19 rfl (by kernel_rfl) (by kernel_rfl) <| w_sr <| o_box (v := .agg aSIIIIIIIIL) (n := 0) (cs := aSIIIIIIIIL) (σ' := [aSIIIIIIIIL]) rfl rfl rfl rfl rfl <| o_box (v := .agg aSIIIIIIIIL) (n := 1) (cs := aSIIIIIIIIL) (σ' := [aSIIIIIIIIL, aSIIIIIIIIL]) rfl rfl rfl rfl rfl <| sB rfl <| o_ek (fr' := [(2, .box 0 0), (3, .box 1 0)]) rfl rfl <| w_seqw <| w_sr <| o_p rfl (p_fa tf27x0 rfl) <| o_p rfl (p_load (v := aS) tv9 rfl rfl rfl) <| o_p rfl (p_fa tf27x0 rfl) ?_
 refine o_p rfl (p_load (v := aS) tv9 rfl rfl rfl) <| o_p rfl (p_sneq rfl rfl) <| mB rfl <| og rfl rfl rfl (fun hc => (p_fa tf27x1 rfl)) <| og rfl rfl rfl (fun hc => (p_load (v := aI) tv3 (gx rfl hc) rfl rfl)) <| og rfl rfl rfl (fun hc => (p_fa tf27x1 rfl)) <| og rfl rfl rfl (fun hc => (p_load (v := aI) tv3 (gx rfl hc) rfl rfl)) <| og rfl rfl rfl (fun hc => (p_neq (gx rfl hc) (gx rfl hc))) <| o_p rfl (p_pickz rfl rfl rfl (fun e => keq e)) <| mB rfl <| og rfl rfl rfl (fun hc => (p_fa tf27x2 rfl)) <| og rfl rfl rfl (fun hc => (p_load (v := aI) tv3 (gx rfl hc) rfl rfl)) <| og rfl rfl rfl (fun hc => (p_fa tf27x2 rfl)) ?_
 refine og rfl rfl rfl (fun hc => (p_load (v := aI) tv3 (gx rfl hc) rfl rfl)) <| og rfl rfl rfl (fun hc => (p_neq (gx rfl hc) (gx rfl hc))) <| o_p rfl (p_pickz rfl rfl rfl (fun e => keq e)) <| mB rfl <| og rfl rfl rfl (fun hc => (p_fa tf27x3 rfl)) <| og rfl rfl rfl (fun hc => (p_load (v := aI) tv3 (gx rfl hc) rfl rfl)) <| og rfl rfl rfl (fun hc => (p_fa tf27x3 rfl)) <| og rfl rfl rfl (fun hc => (p_load (v := aI) tv3 (gx rfl hc) rfl rfl)) <| og rfl rfl rfl (fun hc => (p_neq (gx rfl hc) (gx rfl hc))) <| o_p rfl (p_pickz rfl rfl rfl (fun e => keq e)) <| mB rfl <| og rfl rfl rfl (fun hc => (p_fa tf27x4 rfl)) <| og rfl rfl rfl (fun hc => (p_load (v := aI) tv3 (gx rfl hc) rfl rfl)) ?_
 refine og rfl rfl rfl (fun hc => (p_fa tf27x4 rfl)) <| og rfl rfl rfl (fun hc => (p_load (v := aI) tv3 (gx rfl hc) rfl rfl)) <| og rfl rfl rfl (fun hc => (p_neq (gx rfl hc) (gx rfl hc))) <| o_p rfl (p_pickz rfl rfl rfl (fun e => keq e)) <| o_ek (fr' := [(2, .box 0 0), (3, .box 1 0), (38, aB)]) rfl rfl <| w_ch h rfl (fun hb1 h1 => ?_) (fun hb1 h1 => ?_)
 ·
  refine w_sr <| sB rfl <| o_ek (fr' := [(4, aB)]) rfl rfl <| w_ret <| e_seq_r ?_
  obtain rfl := sy h1
  exact e_ret (rs' := [.tmp 4]) rfl <| r_tmp (v := aB) rfl <| r_nil <| fin_gen [] rfl rfl rfl lr st_nil
 ·
  refine w_skip <| e_kw <| w_seqw <| w_sr <| o_p rfl (p_fa tf27x5 rfl) <| o_p rfl (p_load (v := aI) tv3 rfl rfl rfl) <| o_p rfl (p_fa tf27x5 rfl) <| o_p rfl (p_load (v := aI) tv3 rfl rfl rfl) <| o_p rfl (p_neq rfl rfl) <| mB rfl <| og rfl rfl rfl (fun hc => (p_fa tf27x6 rfl)) <| og rfl rfl rfl (fun hc => (p_load (v := aI) tv3 (gx rfl hc) rfl rfl)) ?_
  refine og rfl rfl rfl (fun hc => (p_fa tf27x6 rfl)) <| og rfl rfl rfl (fun hc => (p_load (v := aI) tv3 (gx rfl hc) rfl rfl)) <| og rfl rfl rfl (fun hc => (p_neq (gx rfl hc) (gx rfl hc))) <| o_p rfl (p_pickz rfl rfl rfl (fun e => keq e)) <| mB rfl <| og rfl rfl rfl (fun hc => (p_fa tf27x7 rfl)) <| og rfl rfl rfl (fun hc => (p_load (v := aI) tv3 (gx rfl hc) rfl rfl)) <| og rfl rfl rfl (fun hc => (p_fa tf27x7 rfl)) <| og rfl rfl rfl (fun hc => (p_load (v := aI) tv3 (gx rfl hc) rfl rfl)) <| og rfl rfl rfl (fun hc => (p_neq (gx rfl hc) (gx rfl hc))) <| o_p rfl (p_pickz rfl rfl rfl (fun e => keq e)) <| mB rfl <| og rfl rfl rfl (fun hc => (p_fa tf27x8 rfl)) ?_
  refine og rfl rfl rfl (fun hc => (p_load (v := aI) tv3 (gx rfl hc) rfl rfl)) <| og rfl rfl rfl (fun hc => (p_fa tf27x8 rfl)) <| og rfl rfl rfl (fun hc => (p_load (v := aI) tv3 (gx rfl hc) rfl rfl)) <| og rfl rfl rfl (fun hc => (p_neq (gx rfl hc) (gx rfl hc))) <| o_p rfl (p_pickz rfl rfl rfl (fun e => keq e)) <| mB rfl <| og rfl rfl rfl (fun hc => (p_fa tf27x9 rfl)) <| og rfl rfl rfl (fun hc => (p_load (v := aL) tv23 (gx rfl hc) rfl rfl)) <| og rfl rfl rfl (fun hc => (p_len ti23 (isl_c (gx rfl hc)))) <| og rfl rfl rfl (fun hc => (p_fa tf27x9 rfl)) <| og rfl rfl rfl (fun hc => (p_load (v := aL) tv23 (gx rfl hc) rfl rfl)) <| og rfl rfl rfl (fun hc => (p_len ti23 (isl_c (gx rfl hc)))) <| og rfl rfl rfl (fun hc => (p_neq (gx rfl hc) (gx rfl hc))) ?_
  refine o_p rfl (p_pickz rfl rfl rfl (fun e => keq e)) <| o_ek (fr' := [(2, .box 0 0), (3, .box 1 0), (73, aB)]) rfl rfl <| w_ch h1 rfl (fun hb3 h3 => ?_) (fun hb3 h3 => ?_)
  ·
   refine w_sr <| sB rfl <| o_ek (fr' := [(4, aB)]) rfl rfl <| w_ret <| e_seq_r ?_
   obtain rfl := sy h3
   exact e_ret (rs' := [.tmp 4]) rfl <| r_tmp (v := aB) rfl <| r_nil <| fin_gen [] rfl rfl rfl lr st_nil
  ·
   refine w_skip <| e_kw <| w_seqw <| w_sr <| sI rfl <| o_ek (fr' := [(2, .box 0 0), (3, .box 1 0), (5, aI)]) rfl rfl ?_
   obtain ⟨x5, hx5, h6⟩ := bind_s h3
   refine w_jtail cl_kw (fun j7 => x5 = Fl.go j7) (fun (j7 : Unit) => ([] : Fr)) (fun (j7 : Unit) => ([[.c (.str p0a.Queue), .c (.int .i64 p0a.ToStart), .c (.int .i64 p0a.ToClose), .c (.int .i64 p0a.Total), .c (.int .i64 p0a.Beat), .c (.int .i64 p0a.First), .c (.int .i64 p0a.Coef), .c (.int .i64 p0a.Most), .c (.int .i64 p0a.Attempts), .c (PV.ls 1 rowS p0a.Fatal)], [.c (.str p1b.Queue), .c (.int .i64 p1b.ToStart), .c (.int .i64 p1b.ToClose), .c (.int .i64 p1b.Total), .c (.int .i64 p1b.Beat), .c (.int .i64 p1b.First), .c (.int .i64 p1b.Coef), .c (.int .i64 p1b.Most), .c (.int .i64 p1b.Attempts), .c (PV.ls 1 rowS p1b.Fatal)]] : St)) ?_ ?_
   ·
    refine w_block <| w_loopo _ (fun (s8 : Int) => ([(2, .box 0 0), (3, .box 1 0), (5, .c (.int .i64 s8))] : Fr)) (fun (s8 : Int) => ([[.c (.str p0a.Queue), .c (.int .i64 p0a.ToStart), .c (.int .i64 p0a.ToClose), .c (.int .i64 p0a.Total), .c (.int .i64 p0a.Beat), .c (.int .i64 p0a.First), .c (.int .i64 p0a.Coef), .c (.int .i64 p0a.Most), .c (.int .i64 p0a.Attempts), .c (PV.ls 1 rowS p0a.Fatal)], [.c (.str p1b.Queue), .c (.int .i64 p1b.ToStart), .c (.int .i64 p1b.ToClose), .c (.int .i64 p1b.Total), .c (.int .i64 p1b.Beat), .c (.int .i64 p1b.First), .c (.int .i64 p1b.Coef), .c (.int .i64 p1b.Most), .c (.int .i64 p1b.Attempts), .c (PV.ls 1 rowS p1b.Fatal)]] : St)) hx5 (w_weak [] 2 rfl rfl rfl rfl ⟨lr, lr, lr, trivial⟩ (st_r rfl (st_r rfl st_nil))) ?_
    intro s8 st8 hs8 ho8
    unfold ref20xSamePolicy_l1 at hs8
    refine w_seqw <| w_sr <| mI rfl <| o_p rfl (p_fa tf27x9 rfl) <| o_p rfl (p_load (v := aL) tv23 rfl rfl rfl) <| o_p rfl (p_len ti23 (isl_c rfl)) <| o_p rfl (p_lss rfl rfl) <| o_ek (fr' := [(2, .box 0 0), (3, .box 1 0), (5, aI), (78, aB)]) rfl rfl <| w_ch hs8 rfl (fun hb9 h9 => ?_) (fun hb9 h9 => ?_)
    ·
     refine w_skip <| e_kw <| w_seqw <| w_block <| w_seqw <| w_planT [.q 0, .q 1, .q 2, .q 3, .q 4, .q 5, .q 6, .q 7, .q 8, .q 9, .q 10] [(some 81, [2]), (some 82, [81]), (some 83, [5]), (some 84, [82, 83]), (some 85, [84]), (some 86, [3]), (some 87, [86]), (some 88, [5]), (some 89, [87, 88]), (some 90, [89]), (some 91, [85, 90])] [0, 1, 0, 7, 15, 0, 32, 0, 224, 480, 1023] (by kernel_rfl) <| dq rfl rfl (p_fa tf27x9 rfl) <| dq rfl rfl (p_load (v := aL) tv23 rfl rfl rfl) <| dq rfl rfl (p_move (v := aI) rfl) ?_
     obtain ⟨x10, hx10, h11⟩ := bind_s h9
     refine dq rfl rfl (p_ia (cs := [.str _]) ts23 (isl_c rfl) rfl hx10 rfl) <| dq rfl rfl (p_loade (p := .str _) tv9 rfl rfl) <| dq rfl rfl (p_fa tf27x9 rfl) <| dq rfl rfl (p_load (v := aL) tv23 rfl rfl rfl) <| dq rfl rfl (p_move (v := aI) rfl) ?_
     obtain ⟨x12, hx12, h13⟩ := bind_s h11
     refine dq rfl rfl (p_ia (cs := [.str _]) ts23 (isl_c rfl) rfl hx12 rfl) <| dq rfl rfl (p_loade (p := .str _) tv9 rfl rfl) <| dq rfl rfl (p_sneq rfl rfl) <| d_ek (fr' := [(2, .box 0 0), (3, .box 1 0), (5, aI), (91, aB)]) rfl rfl <| w_ch h13 rfl (fun hb14 h14 => ?_) (fun hb14 h14 => ?_)
     ·
      refine w_sr <| sB rfl <| o_ek (fr' := [(4, aB)]) rfl rfl <| w_ret <| e_blk_r <| e_seq_r <| e_seq_r <| e_blk_r <| e_seq_r <| e_seq_r ?_
      have h15 := un_out h14 ho8
      have h16 := un_done h15 h6
      obtain rfl := sy h16
      exact e_ret (rs' := [.tmp 4]) rfl <| r_tmp (v := aB) rfl <| r_nil <| fin_gen [] rfl rfl rfl lr st_nil
     ·
      exact w_skip <| e_blk_n <| e_kw <| w_region <| mI rfl <| o_p rfl (p_add rfl rfl) <| sI rfl <| o_end (fr' := [(2, .box 0 0), (3, .box 1 0), (5, aI), (91, aB)]) rfl <| e_l _ (sy h14) (w_weak [] 2 rfl rfl rfl rfl ⟨lr, lr, lr, trivial⟩ (st_r rfl (st_r rfl st_nil)))
    ·
     refine w_exit <| e_seq_x <| e_seq_x <| e_blk_h ?_
     have h18 := un_out h9 ho8
     exact e_j _ (sy h18) (w_weak [] 2 rfl rfl rfl rfl trivial (st_r rfl (st_r rfl st_nil)))
   ·
    intro j7 hj19
    have h19 := un_go hj19 h6
    refine e_kw <| w_sr <| sB rfl <| o_ek (fr' := [(4, aB)]) rfl rfl <| w_ret ?_
    obtain rfl := sy h19
    exact e_ret (rs' := [.tmp 4]) rfl <| r_tmp (v := aB) rfl <| r_nil <| fin_gen [] rfl rfl rfl lr st_nil
noncomputable def ref02xSame_l1 (p0a : ApiValue) (p1b : ApiValue) (s6 : Int) : Option (Step Int (Fl Bool Unit)) :=
 cond (decide (s6 < ((p0a.Keys).length : Int))) ((idx p0a.Keys s6).bind fun (x8 : (List UInt8)) => (idx p1b.Keys s6).bind fun (x10 : (List UInt8)) => cond (!decide (x8 = x10)) (some (Step.out (Fl.done false))) (some (Step.next (IntKind.wrap .i64 (s6 + (1 : Int)))))) (some (Step.out (Fl.go ())))
noncomputable def ref02xSame_l2 (rec_ref02xSame : ApiValue → ApiValue → Option Bool) (p0a : ApiValue) (p1b : ApiValue) (s21 : Int) : Option (Step Int (Fl Bool Unit)) :=
 cond (decide (s21 < ((p0a.Items).length : Int))) ((idx p0a.Items s21).bind fun (x23 : ApiValue) => (idx p1b.Items s21).bind fun (x25 : ApiValue) => (rec_ref02xSame x23 x25).bind fun (x27 : Bool) => cond (!x27) (some (Step.out (Fl.done false))) (some (Step.next (IntKind.wrap .i64 (s21 + (1 : Int)))))) (some (Step.out (Fl.go ())))
noncomputable def ref02xSameF : Nat → ApiValue → ApiValue → Option Bool
 | 0, _, _ => none
 | n + 1, p0a, p1b =>
  cond (cond (cond (cond (cond (!decide (p0a.Kind = p1b.Kind)) true (!decide (p0a.Int = p1b.Int))) true (!decide (p0a.Text = p1b.Text))) true (!decide (((p0a.Items).length : Int) = ((p1b.Items).length : Int)))) true (!decide (((p0a.Keys).length : Int) = ((p1b.Keys).length : Int)))) (some false) (((loopO (ref02xSame_l1 p0a p1b) ((0 : Int))) : Option (Fl Bool Unit)).bind fun (x3 : (Fl Bool Unit)) => Fl.next x3 (fun (j5 : Unit) => (((loopO (ref02xSame_l2 (ref02xSameF n) p0a p1b) ((0 : Int))) : Option (Fl Bool Unit)).bind fun (x18 : (Fl Bool Unit)) => Fl.next x18 (fun (j20 : Unit) => (some true)))))
theorem wF_ref02xSame : ∀ n : Nat, (∀ {p0a : ApiValue} {p1b : ApiValue} {res : Bool}, ref02xSameF n p0a p1b = some res → ACalls Try.prog 61 [.agg (AV.cs (exApiValue p0a)), .agg (AV.cs (exApiValue p1b))] [] (.c (.bool res)) []) := by
 intro n
 induction n with
 | zero => exact fun {p0a p1b res} h => absurd h (by simp [ref02xSameF])
 | succ n ih =>
  have ih_ref02xSame := @ih
  intro p0a p1b res h
  rw [ref02xSameF] at h
  refine acalls (fn := Try.f61) [0, 1, 2, 3, 4, 5, 6, 43, 48, 61, 66, 80] (by kernel_rfl) Try.func61 rfl (by kernel_rfl) (by kernel_rfl) <| w_sr <| o_box (v := .agg aIISLL) (n := 0) (cs := aIISLL) (σ' := [aIISLL]) rfl rfl rfl rfl rfl <| o_box (v := .agg aIISLL) (n := 1) (cs := aIISLL) (σ' := [aIISLL, aIISLL]) rfl rfl rfl rfl rfl <| sB rfl <| o_ek (fr' := [(2, .box 0 0), (3, .box 1 0)]) rfl rfl <| w_seqw <| w_sr <| o_p rfl (p_fa tf25x0 rfl) <| o_p rfl (p_load (v := aI) tv3 rfl rfl rfl) <| o_p rfl (p_fa tf25x0 rfl) ?_
  refine o_p rfl (p_load (v := aI) tv3 rfl rfl rfl) <| o_p rfl (p_neq rfl rfl) <| mB rfl <| og rfl rfl rfl (fun hc => (p_fa tf25x1 rfl)) <| og rfl rfl rfl (fun hc => (p_load (v := aI) tv3 (gx rfl hc) rfl rfl)) <| og rfl rfl rfl (fun hc => (p_fa tf25x1 rfl)) <| og rfl rfl rfl (fun hc => (p_load (v := aI) tv3 (gx rfl hc) rfl rfl)) <| og rfl rfl rfl (fun hc => (p_neq (gx rfl hc) (gx rfl hc))) <| o_p rfl (p_pickz rfl rfl rfl (fun e => keq e)) <| mB rfl <| og rfl rfl rfl (fun hc => (p_fa tf25x2 rfl)) <| og rfl rfl rfl (fun hc => (p_load (v := aS) tv9 (gx rfl hc) rfl rfl)) <| og rfl rfl rfl (fun hc => (p_fa tf25x2 rfl)) ?_
  refine og rfl rfl rfl (fun hc => (p_load (v := aS) tv9 (gx rfl hc) rfl rfl)) <| og rfl rfl rfl (fun hc => (p_sneq (gx rfl hc) (gx rfl hc))) <| o_p rfl (p_pickz rfl rfl rfl (fun e => keq e)) <| mB rfl <| og rfl rfl rfl (fun hc => (p_fa tf25x3 rfl)) <| og rfl rfl rfl (fun hc => (p_load (v := aL) tv22 (gx rfl hc) rfl rfl)) <| og rfl rfl rfl (fun hc => (p_len ti22 (isl_c (gx rfl hc)))) <| og rfl rfl rfl (fun hc => (p_fa tf25x3 rfl)) <| og rfl rfl rfl (fun hc => (p_load (v := aL) tv22 (gx rfl hc) rfl rfl)) <| og rfl rfl rfl (fun hc => (p_len ti22 (isl_c (gx rfl hc)))) <| og rfl rfl rfl (fun hc => (p_neq (gx rfl hc) (gx rfl hc))) <| o_p rfl (p_pickz rfl rfl rfl (fun e => keq e)) <| mB rfl ?_
  refine og rfl rfl rfl (fun hc => (p_fa tf25x4 rfl)) <| og rfl rfl rfl (fun hc => (p_load (v := aL) tv23 (gx rfl hc) rfl rfl)) <| og rfl rfl rfl (fun hc => (p_len ti23 (isl_c (gx rfl hc)))) <| og rfl rfl rfl (fun hc => (p_fa tf25x4 rfl)) <| og rfl rfl rfl (fun hc => (p_load (v := aL) tv23 (gx rfl hc) rfl rfl)) <| og rfl rfl rfl (fun hc => (p_len ti23 (isl_c (gx rfl hc)))) <| og rfl rfl rfl (fun hc => (p_neq (gx rfl hc) (gx rfl hc))) <| o_p rfl (p_pickz rfl rfl rfl (fun e => keq e)) <| o_ek (fr' := [(2, .box 0 0), (3, .box 1 0), (43, aB)]) rfl rfl <| w_ch h rfl (fun hb1 h1 => ?_) (fun hb1 h1 => ?_)
  ·
   refine w_sr <| sB rfl <| o_ek (fr' := [(4, aB)]) rfl rfl <| w_ret <| e_seq_r ?_
   obtain rfl := sy h1
   exact e_ret (rs' := [.tmp 4]) rfl <| r_tmp (v := aB) rfl <| r_nil <| fin_gen [] rfl rfl rfl lr st_nil
  ·
   refine w_skip <| e_kw <| w_seqw <| w_sr <| sI rfl <| o_ek (fr' := [(2, .box 0 0), (3, .box 1 0), (5, aI)]) rfl rfl ?_
   obtain ⟨x3, hx3, h4⟩ := bind_s h1
   refine w_jtail cl_kw (fun j5 => x3 = Fl.go j5) (fun (j5 : Unit) => ([(2, .box 0 0), (3, .box 1 0)] : Fr)) (fun (j5 : Unit) => ([[.c (.int .i64 p0a.Kind), .c (.int .i64 p0a.Int), .c (.str p0a.Text), .c (PV.ls 5 rowApiValue p0a.Items), .c (PV.ls 1 rowS p0a.Keys)], [.c (.int .i64 p1b.Kind), .c (.int .i64 p1b.Int), .c (.str p1b.Text), .c (PV.ls 5 rowApiValue p1b.Items), .c (PV.ls 1 rowS p1b.Keys)]] : St)) ?_ ?_
   ·
    refine w_block <| w_loopo _ (fun (s6 : Int) => ([(2, .box 0 0), (3, .box 1 0), (5, .c (.int .i64 s6))] : Fr)) (fun (s6 : Int) => ([[.c (.int .i64 p0a.Kind), .c (.int .i64 p0a.Int), .c (.str p0a.Text), .c (PV.ls 5 rowApiValue p0a.Items), .c (PV.ls 1 rowS p0a.Keys)], [.c (.int .i64 p1b.Kind), .c (.int .i64 p1b.Int), .c (.str p1b.Text), .c (PV.ls 5 rowApiValue p1b.Items), .c (PV.ls 1 rowS p1b.Keys)]] : St)) hx3 (w_weak [] 2 rfl rfl rfl rfl ⟨lr, lr, lr, trivial⟩ (st_r rfl (st_r rfl st_nil))) ?_
    intro s6 st6 hs6 ho6
    unfold ref02xSame_l1 at hs6
    refine w_seqw <| w_sr <| mI rfl <| o_p rfl (p_fa tf25x4 rfl) <| o_p rfl (p_load (v := aL) tv23 rfl rfl rfl) <| o_p rfl (p_len ti23 (isl_c rfl)) <| o_p rfl (p_lss rfl rfl) <| o_ek (fr' := [(2, .box 0 0), (3, .box 1 0), (5, aI), (48, aB)]) rfl rfl <| w_ch hs6 rfl (fun hb7 h7 => ?_) (fun hb7 h7 => ?_)
    ·
     refine w_skip <| e_kw <| w_seqw <| w_block <| w_seqw <| w_planT [.q 0, .q 1, .q 2, .q 3, .q 4, .q 5, .q 6, .q 7, .q 8, .q 9, .q 10] [(some 51, [2]), (some 52, [51]), (some 53, [5]), (some 54, [52, 53]), (some 55, [54]), (some 56, [3]), (some 57, [56]), (some 58, [5]), (some 59, [57, 58]), (some 60, [59]), (some 61, [55, 60])] [0, 1, 0, 7, 15, 0, 32, 0, 224, 480, 1023] (by kernel_rfl) <| dq rfl rfl (p_fa tf25x4 rfl) <| dq rfl rfl (p_load (v := aL) tv23 rfl rfl rfl) <| dq rfl rfl (p_move (v := aI) rfl) ?_
     obtain ⟨x8, hx8, h9⟩ := bind_s h7
     refine dq rfl rfl (p_ia (cs := [.str _]) ts23 (isl_c rfl) rfl hx8 rfl) <| dq rfl rfl (p_loade (p := .str _) tv9 rfl rfl) <| dq rfl rfl (p_fa tf25x4 rfl) <| dq rfl rfl (p_load (v := aL) tv23 rfl rfl rfl) <| dq rfl rfl (p_move (v := aI) rfl) ?_
     obtain ⟨x10, hx10, h11⟩ := bind_s h9
     refine dq rfl rfl (p_ia (cs := [.str _]) ts23 (isl_c rfl) rfl hx10 rfl) <| dq rfl rfl (p_loade (p := .str _) tv9 rfl rfl) <| dq rfl rfl (p_sneq rfl rfl) <| d_ek (fr' := [(2, .box 0 0), (3, .box 1 0), (5, aI), (61, aB)]) rfl rfl <| w_ch h11 rfl (fun hb12 h12 => ?_) (fun hb12 h12 => ?_)
     ·
      refine w_sr <| sB rfl <| o_ek (fr' := [(4, aB)]) rfl rfl <| w_ret <| e_blk_r <| e_seq_r <| e_seq_r <| e_blk_r <| e_seq_r <| e_seq_r ?_
      have h13 := un_out h12 ho6
      have h14 := un_done h13 h4
      obtain rfl := sy h14
      exact e_ret (rs' := [.tmp 4]) rfl <| r_tmp (v := aB) rfl <| r_nil <| fin_gen [] rfl rfl rfl lr st_nil
     ·
      exact w_skip <| e_blk_n <| e_kw <| w_region <| mI rfl <| o_p rfl (p_add rfl rfl) <| sI rfl <| o_end (fr' := [(2, .box 0 0), (3, .box 1 0), (5, aI), (61, aB)]) rfl <| e_l _ (sy h12) (w_weak [] 2 rfl rfl rfl rfl ⟨lr, lr, lr, trivial⟩ (st_r rfl (st_r rfl st_nil)))
    ·
     refine w_exit <| e_seq_x <| e_seq_x <| e_blk_h ?_
     have h16 := un_out h7 ho6
     exact e_j _ (sy h16) (w_weak [] 2 rfl rfl rfl rfl ⟨lr, lr, trivial⟩ (st_r rfl (st_r rfl st_nil)))
   ·
    intro j5 hj17
    have h17 := un_go hj17 h4
    refine e_kw <| w_seqw <| w_sr <| sI rfl <| o_ek (fr' := [(2, .box 0 0), (3, .box 1 0), (6, aI)]) rfl rfl ?_
    obtain ⟨x18, hx18, h19⟩ := bind_s h17
    refine w_jtail cl_kw (fun j20 => x18 = Fl.go j20) (fun (j20 : Unit) => ([] : Fr)) (fun (j20 : Unit) => ([[.c (.int .i64 p0a.Kind), .c (.int .i64 p0a.Int), .c (.str p0a.Text), .c (PV.ls 5 rowApiValue p0a.Items), .c (PV.ls 1 rowS p0a.Keys)], [.c (.int .i64 p1b.Kind), .c (.int .i64 p1b.Int), .c (.str p1b.Text), .c (PV.ls 5 rowApiValue p1b.Items), .c (PV.ls 1 rowS p1b.Keys)]] : St)) ?_ ?_
    ·
     refine w_block <| w_loopo _ (fun (s21 : Int) => ([(2, .box 0 0), (3, .box 1 0), (6, .c (.int .i64 s21))] : Fr)) (fun (s21 : Int) => ([[.c (.int .i64 p0a.Kind), .c (.int .i64 p0a.Int), .c (.str p0a.Text), .c (PV.ls 5 rowApiValue p0a.Items), .c (PV.ls 1 rowS p0a.Keys)], [.c (.int .i64 p1b.Kind), .c (.int .i64 p1b.Int), .c (.str p1b.Text), .c (PV.ls 5 rowApiValue p1b.Items), .c (PV.ls 1 rowS p1b.Keys)]] : St)) hx18 (w_weak [] 2 rfl rfl rfl rfl ⟨lr, lr, lr, trivial⟩ (st_r rfl (st_r rfl st_nil))) ?_
     intro s21 st21 hs21 ho21
     unfold ref02xSame_l2 at hs21
     refine w_seqw <| w_sr <| mI rfl <| o_p rfl (p_fa tf25x3 rfl) <| o_p rfl (p_load (v := aL) tv22 rfl rfl rfl) <| o_p rfl (p_len ti22 (isl_c rfl)) <| o_p rfl (p_lss rfl rfl) <| o_ek (fr' := [(2, .box 0 0), (3, .box 1 0), (6, aI), (66, aB)]) rfl rfl <| w_ch hs21 rfl (fun hb22 h22 => ?_) (fun hb22 h22 => ?_)
     ·
      refine w_skip <| e_kw <| w_seqw <| w_block <| w_seqw <| w_planT [.q 0, .q 1, .q 2, .q 3, .q 4, .q 5, .q 6, .q 7, .q 8, .q 9, .q 10, .q 11] [(some 69, [2]), (some 70, [69]), (some 71, [6]), (some 72, [70, 71]), (some 73, [72]), (some 74, [3]), (some 75, [74]), (some 76, [6]), (some 77, [75, 76]), (some 78, [77]), (some 79, [73, 78]), (some 80, [79])] [0, 1, 0, 7, 15, 0, 32, 0, 224, 480, 1023, 2047] (by kernel_rfl) <| dq rfl rfl (p_fa tf25x3 rfl) <| dq rfl rfl (p_load (v := aL) tv22 rfl rfl rfl) <| dq rfl rfl (p_move (v := aI) rfl) ?_
      obtain ⟨x23, hx23, h24⟩ := bind_s h22
      refine dq rfl rfl (p_ia (cs := [.int _ _, .int _ _, .str _, PV.ls _ _ _, PV.ls _ _ _]) ts22 (isl_c rfl) rfl hx23 (rowApiValue_eq _)) <| dq rfl rfl (p_loades (us := [.int _ _, .int _ _, .str _, PV.ls _ _ _, PV.ls _ _ _]) tv25 rfl rfl rfl) <| dq rfl rfl (p_fa tf25x3 rfl) <| dq rfl rfl (p_load (v := aL) tv22 rfl rfl rfl) <| dq rfl rfl (p_move (v := aI) rfl) ?_
      obtain ⟨x25, hx25, h26⟩ := bind_s h24
      refine dq rfl rfl (p_ia (cs := [.int _ _, .int _ _, .str _, PV.ls _ _ _, PV.ls _ _ _]) ts22 (isl_c rfl) rfl hx25 (rowApiValue_eq _)) <| dq rfl rfl (p_loades (us := [.int _ _, .int _ _, .str _, PV.ls _ _ _, PV.ls _ _ _]) tv25 rfl rfl rfl) ?_
      obtain ⟨x27, hx27, h28⟩ := bind_s h26
      refine d_q rfl (qv_call (v := aB) rfl (ih_ref02xSame hx27) ⟨(le_aggc rfl ⟨rfl, rfl, rfl, rfl, rfl, trivial⟩), (le_aggc rfl ⟨rfl, rfl, rfl, rfl, rfl, trivial⟩), trivial⟩ rfl) <| dq rfl rfl (p_not rfl) <| d_ek (fr' := [(2, .box 0 0), (3, .box 1 0), (6, aI), (80, aB)]) rfl rfl <| w_ch h28 rfl (fun hb29 h29 => ?_) (fun hb29 h29 => ?_)
      ·
       refine w_sr <| sB rfl <| o_ek (fr' := [(4, aB)]) rfl rfl <| w_ret <| e_blk_r <| e_seq_r <| e_seq_r <| e_blk_r <| e_seq_r <| e_seq_r ?_
       have h30 := un_out h29 ho21
       have h31 := un_done h30 h19
       obtain rfl := sy h31
       exact e_ret (rs' := [.tmp 4]) rfl <| r_tmp (v := aB) rfl <| r_nil <| fin_gen [] rfl rfl rfl lr st_nil
      ·
       exact w_skip <| e_blk_n <| e_kw <| w_region <| mI rfl <| o_p rfl (p_add rfl rfl) <| sI rfl <| o_end (fr' := [(2, .box 0 0), (3, .box 1 0), (6, aI), (80, aB)]) rfl <| e_l _ (sy h29) (w_weak [] 2 rfl rfl rfl rfl ⟨lr, lr, lr, trivial⟩ (st_r rfl (st_r rfl st_nil)))
     ·
      refine w_exit <| e_seq_x <| e_seq_x <| e_blk_h ?_
      have h33 := un_out h22 ho21
      exact e_j _ (sy h33) (w_weak [] 2 rfl rfl rfl rfl trivial (st_r rfl (st_r rfl st_nil)))
    ·
     intro j20 hj34
     have h34 := un_go hj34 h19
     refine e_kw <| w_sr <| sB rfl <| o_ek (fr' := [(4, aB)]) rfl rfl <| w_ret ?_
     obtain rfl := sy h34
     exact e_ret (rs' := [.tmp 4]) rfl <| r_tmp (v := aB) rfl <| r_nil <| fin_gen [] rfl rfl rfl lr st_nil
noncomputable def ref02xSame (p0a : ApiValue) (p1b : ApiValue) : Option Bool := lim fun n => ref02xSameF n p0a p1b
theorem w_ref02xSame {p0a : ApiValue} {p1b : ApiValue} {res : Bool} (h : ref02xSame p0a p1b = some res) : ACalls Try.prog 61 [.agg (AV.cs (exApiValue p0a)), .agg (AV.cs (exApiValue p1b))] [] (.c (.bool res)) [] := by
 obtain ⟨n, hn⟩ := lim_some h
 exact (wF_ref02xSame n) hn
noncomputable def ref20xSame (p0a : ApiCommand) (p1b : ApiCommand) : Option Bool :=
 (gd ((cond (cond (cond (cond (decide (p0a.Kind = p1b.Kind)) (decide (p0a.Seq = p1b.Seq)) false) (decide (p0a.Name = p1b.Name)) false) (decide (p0a.Key = p1b.Key)) false) (decide (p0a.N = p1b.N)) false) == true) (ref02xSame p0a.Data p1b.Data)).bind fun (x1 : Bool) => (gd ((cond (cond (cond (cond (cond (decide (p0a.Kind = p1b.Kind)) (decide (p0a.Seq = p1b.Seq)) false) (decide (p0a.Name = p1b.Name)) false) (decide (p0a.Key = p1b.Key)) false) (decide (p0a.N = p1b.N)) false) x1 false) == true) (ref20xSamePolicy p0a.Opts p1b.Opts)).bind fun (x3 : Bool) => some (cond (cond (cond (cond (cond (cond (decide (p0a.Kind = p1b.Kind)) (decide (p0a.Seq = p1b.Seq)) false) (decide (p0a.Name = p1b.Name)) false) (decide (p0a.Key = p1b.Key)) false) (decide (p0a.N = p1b.N)) false) x1 false) x3 false)
theorem w_ref20xSame {p0a : ApiCommand} {p1b : ApiCommand} {res : Bool} (h : ref20xSame p0a p1b = some res) : ACalls Try.prog 21 [.agg (AV.cs (rowApiCommand p0a)), .agg (AV.cs (rowApiCommand p1b))] [] (.c (.bool res)) [] := by
 unfold ref20xSame at h
 refine acalls (fn := Try.f21) [0, 1, 2, 3, 4] (by kernel_rfl) Try.func21 rfl (by kernel_rfl) (by kernel_rfl) <| w_sr <| o_box (v := .agg aIISSIIISLLSIIIIIIIIL) (n := 0) (cs := aIISSIIISLLSIIIIIIIIL) (σ' := [aIISSIIISLLSIIIIIIIIL]) rfl rfl rfl rfl rfl <| o_box (v := .agg aIISSIIISLLSIIIIIIIIL) (n := 1) (cs := aIISSIIISLLSIIIIIIIIL) (σ' := [aIISSIIISLLSIIIIIIIIL, aIISSIIISLLSIIIIIIIIL]) rfl rfl rfl rfl rfl <| sB rfl <| o_ek (fr' := [(2, .box 0 0), (3, .box 1 0)]) rfl rfl <| w_sr <| o_p rfl (p_fa tf29x0 rfl) <| o_p rfl (p_load (v := aI) tv3 rfl rfl rfl) <| o_p rfl (p_fa tf29x0 rfl) <| o_p rfl (p_load (v := aI) tv3 rfl rfl rfl) ?_
 refine o_p rfl (p_eql rfl rfl) <| mB rfl <| og rfl rfl rfl (fun hc => (p_fa tf29x1 rfl)) <| og rfl rfl rfl (fun hc => (p_load (v := aI) tv3 (gx rfl hc) rfl rfl)) <| og rfl rfl rfl (fun hc => (p_fa tf29x1 rfl)) <| og rfl rfl rfl (fun hc => (p_load (v := aI) tv3 (gx rfl hc) rfl rfl)) <| og rfl rfl rfl (fun hc => (p_eql (gx rfl hc) (gx rfl hc))) <| o_p rfl (p_picky rfl rfl rfl (fun e => keq e)) <| mB rfl <| og rfl rfl rfl (fun hc => (p_fa tf29x2 rfl)) <| og rfl rfl rfl (fun hc => (p_load (v := aS) tv9 (gx rfl hc) rfl rfl)) <| og rfl rfl rfl (fun hc => (p_fa tf29x2 rfl)) <| og rfl rfl rfl (fun hc => (p_load (v := aS) tv9 (gx rfl hc) rfl rfl)) ?_
 refine og rfl rfl rfl (fun hc => (p_seql (gx rfl hc) (gx rfl hc))) <| o_p rfl (p_picky rfl rfl rfl (fun e => keq e)) <| mB rfl <| og rfl rfl rfl (fun hc => (p_fa tf29x3 rfl)) <| og rfl rfl rfl (fun hc => (p_load (v := aS) tv9 (gx rfl hc) rfl rfl)) <| og rfl rfl rfl (fun hc => (p_fa tf29x3 rfl)) <| og rfl rfl rfl (fun hc => (p_load (v := aS) tv9 (gx rfl hc) rfl rfl)) <| og rfl rfl rfl (fun hc => (p_seql (gx rfl hc) (gx rfl hc))) <| o_p rfl (p_picky rfl rfl rfl (fun e => keq e)) <| mB rfl <| og rfl rfl rfl (fun hc => (p_fa tf29x4 rfl)) <| og rfl rfl rfl (fun hc => (p_load (v := aI) tv3 (gx rfl hc) rfl rfl)) <| og rfl rfl rfl (fun hc => (p_fa tf29x4 rfl)) ?_
 refine og rfl rfl rfl (fun hc => (p_load (v := aI) tv3 (gx rfl hc) rfl rfl)) <| og rfl rfl rfl (fun hc => (p_eql (gx rfl hc) (gx rfl hc))) <| o_p rfl (p_picky rfl rfl rfl (fun e => keq e)) <| mB rfl <| og rfl rfl rfl (fun hc => (p_fa tf29x5 rfl)) <| og rfl rfl rfl (fun hc => (p_loads (us := aIISLL) tv25 (gx rfl hc) rfl rfl rfl)) <| og rfl rfl rfl (fun hc => (p_fa tf29x5 rfl)) <| og rfl rfl rfl (fun hc => (p_loads (us := aIISLL) tv25 (gx rfl hc) rfl rfl rfl)) ?_
 obtain ⟨x1, hx1, h2⟩ := bind_s h
 refine o_g rfl rfl (fun hc => ov_call (v := aB) rfl (w_ref02xSame (gd_some hx1 hc)) ⟨(le_gv (gx rfl hc) (le_aggc rfl ⟨rfl, rfl, rfl, rfl, rfl, trivial⟩)), (le_gv (gx rfl hc) (le_aggc rfl ⟨rfl, rfl, rfl, rfl, rfl, trivial⟩)), trivial⟩ (ok_eq (by repeat (first | exact ok_nil | refine ok_cons rfl ?_ | refine ok_cons (dgv rfl) ?_))) rfl rfl) ?_
 refine o_p rfl (p_picky rfl rfl rfl (fun e => keq e)) <| mB rfl <| og rfl rfl rfl (fun hc => (p_fa tf29x6 rfl)) <| og rfl rfl rfl (fun hc => (p_loads (us := aSIIIIIIIIL) tv27 (gx rfl hc) rfl rfl rfl)) <| og rfl rfl rfl (fun hc => (p_fa tf29x6 rfl)) <| og rfl rfl rfl (fun hc => (p_loads (us := aSIIIIIIIIL) tv27 (gx rfl hc) rfl rfl rfl)) ?_
 obtain ⟨x3, hx3, h4⟩ := bind_s h2
 refine o_g rfl rfl (fun hc => ov_call (v := aB) rfl (w_ref20xSamePolicy (gd_some hx3 hc)) ⟨(le_gv (gx rfl hc) (le_aggc rfl ⟨rfl, rfl, rfl, rfl, rfl, rfl, rfl, rfl, rfl, rfl, trivial⟩)), (le_gv (gx rfl hc) (le_aggc rfl ⟨rfl, rfl, rfl, rfl, rfl, rfl, rfl, rfl, rfl, rfl, trivial⟩)), trivial⟩ (ok_eq (by repeat (first | exact ok_nil | refine ok_cons rfl ?_ | refine ok_cons (dgv rfl) ?_))) rfl rfl) ?_
 refine o_p rfl (p_picky rfl rfl rfl (fun e => keq e)) <| sB rfl <| o_ek (fr' := [(4, aB)]) rfl rfl <| w_ret ?_
 obtain rfl := sy h4
 exact e_ret (rs' := [.tmp 4]) rfl <| r_tmp (v := aB) rfl <| r_nil <| fin_gen [] rfl rfl rfl lr st_nil
noncomputable def slices_Clone_byte_byte (p0s : (List UInt8)) : Option (List UInt8) :=
 app 1 ([] : List UInt8) p0s
theorem w_slices_Clone_byte_byte {p0s : (List UInt8)} {res : (List UInt8)} (h : slices_Clone_byte_byte p0s = some res) : ACalls Try.prog 63 [.c (PV.ls 1 brow p0s)] [] (AV.os 0 1 brow res) [] := by
 unfold slices_Clone_byte_byte at h
 refine acalls (fn := Try.f63) [0, 2, 4] (by kernel_rfl) Try.func63 rfl (by kernel_rfl) (by kernel_rfl) ?_
 obtain ⟨hm, he⟩ := app_some h
 rw [List.nil_append] at he
 subst he
 refine w_sr <| o_p rfl (p_assign (v := .nil) rfl) <| o_end (fr' := [(0, .c (PV.ls _ _ _)), (2, .nil)]) rfl <| e_kw <| w_seqw <| w_sr <| o_p rfl (p_move (v := .c (PV.ls _ _ _)) rfl) <| o_nilc (row := brow) ti40 (isl_c rfl) (fun b hb => ?_)
 refine o_end (fr' := [(0, .c (PV.ls _ _ _)), (2, .nil), (4, .c (.bool _))]) rfl <| e_kw <| w_cond b rfl (fun e => ?_) (fun e => ?_)
 ·
  rw [hb e]
  exact w_sr <| o_p rfl (p_assign (v := .nil) rfl) <| o_end (fr' := [(0, .c (PV.ls _ _ _)), (2, .nil), (4, .c (.bool _))]) rfl <| e_kw <| w_ret <| e_seq_r <| e_ret (rs' := [.tmp 2]) rfl <| r_tmp (v := .nil) rfl <| r_nil <| fin_gen [] rfl rfl rfl (le_nos rfl) st_nil
 ·
  refine w_skip <| e_kw <| w_sr <| o_rows (row := brow) (xs := ([] : List UInt8)) (rows := []) (σ' := []) [] ts40 rfl rfl rfl arow_nil rfl rfl <| o_p rfl (p_move (v := .c (PV.ls _ _ _)) rfl) <| o_app (row := brow) ts40 rfl ti40 rfl (isl_c rfl) (fun _ => rfl) h <| o_p rfl (p_assign (v := AV.os _ _ _ _) rfl) <| o_end (fr' := [(0, .c (PV.ls _ _ _)), (2, AV.os _ _ _ _), (4, .c (.bool _))]) rfl <| e_kw <| w_ret <| e_ret (rs' := [.tmp 2]) rfl <| r_tmp (v := AV.os _ _ _ _) rfl ?_
  exact r_nil <| fin_gen [112] rfl rfl rfl lr st_nil
noncomputable def wire_Open (p0b : (List UInt8)) : Option WireReader :=
 (slices_Clone_byte_byte p0b).bind fun (x1 : (List UInt8)) => some (WireReader.mk x1 (0 : Int) (0 : Int) true)
theorem w_wire_Open {p0b : (List UInt8)} {res : WireReader} (h : wire_Open p0b = some res) : ACalls Try.prog 23 [.c (PV.ls 1 brow p0b)] [] (.box 0 0) [AV.cs (rowWireReader res)] := by
 unfold wire_Open at h
 refine acalls (fn := Try.f23) [0, 2] (by kernel_rfl) Try.func23 rfl (by kernel_rfl) (by kernel_rfl) <| w_sr <| sV (v := .nilptr) rfl <| o_ek (fr' := [(0, aL)]) rfl rfl <| w_sr <| mL rfl ?_
 obtain ⟨x1, hx1, h2⟩ := bind_s h
 refine o_v (ov_call (v := aO) rfl (w_slices_Clone_byte_byte hx1) ⟨lr, trivial⟩ rfl rfl rfl) <| o_p rfl (p_build (cs := [aO, aI, aI, aB]) tb78 rfl) <| o_box (v := .agg [aO, aI, aI, aB]) (n := 0) (cs := [aO, aI, aI, aB]) (σ' := [[aO, aI, aI, aB]]) rfl rfl rfl rfl rfl <| sV (v := .box 0 0) rfl <| o_ek (fr' := [(2, .box 0 0)]) rfl rfl <| w_ret ?_
 obtain rfl := sy h2
 exact e_ret (rs' := [.tmp 2]) rfl <| r_tmp (v := .box 0 0) rfl <| r_nil <| fin_new (off := 0) (j := 0) rfl rfl rfl rfl rfl (st_c ⟨rfl, rfl, rfl, rfl, trivial⟩ st_nil)
noncomputable def wire_Reader_Err (p100v : WireReader) : Option Int :=
 cond (!p100v.made_) (some (1 : Int)) (some p100v.err_)
theorem w_wire_Reader_Err {p100v : WireReader} {res : Int} (h : wire_Reader_Err p100v = some res) : ACalls Try.prog 27 [.box 0 0] [AV.cs (rowWireReader p100v)] (.c (.int .i64 res)) [AV.cs (rowWireReader p100v)] := by
 unfold wire_Reader_Err at h
 refine acalls (fn := Try.f27) [0, 2, 11] (by kernel_rfl) Try.func27 rfl (by kernel_rfl) (by kernel_rfl) <| w_sr <| sI rfl <| o_ek (fr' := [(0, .box 0 0)]) rfl rfl <| w_seqw <| w_sr <| mV (v := .box 0 0) rfl <| o_p rfl (p_peql ti41 rfl rfl) <| mB rfl <| o_yes rfl rfl rfl <| mV (v := .box 0 0) rfl ?_
 refine o_yes rfl rfl rfl <| o_p rfl (p_nc rfl) <| o_yes rfl rfl rfl <| o_p rfl (p_fa tf78x3 rfl) <| o_yes rfl rfl rfl <| o_p rfl (p_load (v := aB) tv4 rfl rfl rfl) <| o_yes rfl rfl rfl <| o_p rfl (p_not rfl) <| o_p rfl (p_pick_f rfl rfl rfl) <| o_ek (fr' := [(0, .box 0 0), (11, aB)]) rfl rfl <| w_ch h rfl (fun hb1 h1 => ?_) (fun hb1 h1 => ?_)
 ·
  refine w_sr <| sI rfl <| o_ek (fr' := [(2, aI)]) rfl rfl <| w_ret <| e_seq_r ?_
  obtain rfl := sy h1
  exact e_ret (rs' := [.tmp 2]) rfl <| r_tmp (v := aI) rfl <| r_nil <| fin_gen [] rfl rfl rfl lr (st_r rfl st_nil)
 ·
  refine w_skip <| e_kw <| w_sr <| mV (v := .box 0 0) rfl <| o_p rfl (p_nc rfl) <| o_p rfl (p_fa tf78x2 rfl) <| o_p rfl (p_load (v := aI) tv34 rfl rfl rfl) <| sI rfl <| o_ek (fr' := [(2, aI)]) rfl rfl <| w_ret ?_
  obtain rfl := sy h1
  exact e_ret (rs' := [.tmp 2]) rfl <| r_tmp (v := aI) rfl <| r_nil <| fin_gen [] rfl rfl rfl lr (st_r rfl st_nil)
noncomputable def wire_Reader_dead (p100v : WireReader) : Option Bool :=
 some (cond (!p100v.made_) true (!decide (p100v.err_ = (0 : Int))))
theorem w_wire_Reader_dead {p100v : WireReader} {res : Bool} (h : wire_Reader_dead p100v = some res) : ACalls Try.prog 72 [.box 0 0] [AV.cs (rowWireReader p100v)] (.c (.bool res)) [AV.cs (rowWireReader p100v)] := by
 unfold wire_Reader_dead at h
 refine acalls (fn := Try.f72) [0, 2] (by kernel_rfl) Try.func72 rfl (by kernel_rfl) (by kernel_rfl) <| w_sr <| sB rfl <| o_ek (fr' := [(0, .box 0 0)]) rfl rfl <| w_sr <| mV (v := .box 0 0) rfl <| o_p rfl (p_peql ti41 rfl rfl) <| mB rfl <| o_yes rfl rfl rfl <| mV (v := .box 0 0) rfl <| o_yes rfl rfl rfl ?_
 refine o_p rfl (p_nc rfl) <| o_yes rfl rfl rfl <| o_p rfl (p_fa tf78x3 rfl) <| o_yes rfl rfl rfl <| o_p rfl (p_load (v := aB) tv4 rfl rfl rfl) <| o_yes rfl rfl rfl <| o_p rfl (p_not rfl) <| o_p rfl (p_pick_f rfl rfl rfl) <| mB rfl <| og rfl rfl rfl (fun hc => (p_move (v := .box 0 0) rfl)) <| og rfl rfl rfl (fun hc => (p_nc (gx rfl hc))) <| og rfl rfl rfl (fun hc => (p_fa tf78x2 (gx rfl hc))) <| og rfl rfl rfl (fun hc => (p_load (v := aI) tv34 (gx rfl hc) rfl rfl)) ?_
 refine og rfl rfl rfl (fun hc => (p_neq (gx rfl hc) rfl)) <| o_p rfl (p_pickz rfl rfl rfl (fun e => keq e)) <| sB rfl <| o_ek (fr' := [(2, aB)]) rfl rfl <| w_ret ?_
 obtain rfl := sy h
 exact e_ret (rs' := [.tmp 2]) rfl <| r_tmp (v := aB) rfl <| r_nil <| fin_gen [] rfl rfl rfl lr (st_r rfl st_nil)
noncomputable def wire_Reader_Int_l1 (p100v : WireReader) (p1low : Int) (p2high : Int) (s10 : (Int × Int)) : Option (Step (Int × Int) (Fl (Int × WireReader) Unit)) :=
 cond (decide (s10.2 < (10 : Int))) (cond (decide ((((List.drop (Int.toNat p100v.at_) p100v.b_)).length : Int) ≤ s10.2)) (some (Step.out (Fl.done ((0 : Int), (WireReader.mk p100v.b_ p100v.at_ (4 : Int) p100v.made_))))) ((idx (List.drop (Int.toNat p100v.at_) p100v.b_) s10.2).bind fun (x16 : UInt8) => (nn (IntKind.wrap .i64 ((7 : Int) * s10.2))).bind fun (x18 : Int) => cond (decide ((128 : Int) ≤ ((x16).toNat : Int))) (some (Step.next ((abits .or .u64 s10.1 (IntKind.wrap .u64 ((IntKind.wrap .u64 (abits .and .u8 ((x16).toNat : Int) (127 : Int))) * 2 ^ (min (Int.toNat (IntKind.wrap .i64 ((7 : Int) * s10.2))) (IntKind.bits .u64))))), (IntKind.wrap .i64 (s10.2 + (1 : Int)))))) (cond (cond (cond (decide ((0 : Int) < s10.2)) (decide (((x16).toNat : Int) = (0 : Int))) false) true (cond (decide (s10.2 = (9 : Int))) (decide ((1 : Int) < ((x16).toNat : Int))) false)) (some (Step.out (Fl.done ((0 : Int), (WireReader.mk p100v.b_ p100v.at_ (3 : Int) p100v.made_))))) (cond (cond (decide ((abits .xor .i64 (IntKind.wrap .i64 (Int.fdiv (abits .or .u64 s10.1 (IntKind.wrap .u64 ((IntKind.wrap .u64 (abits .and .u8 ((x16).toNat : Int) (127 : Int))) * 2 ^ (min (Int.toNat (IntKind.wrap .i64 ((7 : Int) * s10.2))) (IntKind.bits .u64))))) (2 ^ (min (Int.toNat (1 : Int)) (IntKind.bits .u64))))) (IntKind.wrap .i64 (0 - (IntKind.wrap .i64 (abits .and .u64 (abits .or .u64 s10.1 (IntKind.wrap .u64 ((IntKind.wrap .u64 (abits .and .u8 ((x16).toNat : Int) (127 : Int))) * 2 ^ (min (Int.toNat (IntKind.wrap .i64 ((7 : Int) * s10.2))) (IntKind.bits .u64))))) (1 : Int)))))) < p1low)) true (decide (p2high < (abits .xor .i64 (IntKind.wrap .i64 (Int.fdiv (abits .or .u64 s10.1 (IntKind.wrap .u64 ((IntKind.wrap .u64 (abits .and .u8 ((x16).toNat : Int) (127 : Int))) * 2 ^ (min (Int.toNat (IntKind.wrap .i64 ((7 : Int) * s10.2))) (IntKind.bits .u64))))) (2 ^ (min (Int.toNat (1 : Int)) (IntKind.bits .u64))))) (IntKind.wrap .i64 (0 - (IntKind.wrap .i64 (abits .and .u64 (abits .or .u64 s10.1 (IntKind.wrap .u64 ((IntKind.wrap .u64 (abits .and .u8 ((x16).toNat : Int) (127 : Int))) * 2 ^ (min (Int.toNat (IntKind.wrap .i64 ((7 : Int) * s10.2))) (IntKind.bits .u64))))) (1 : Int))))))))) (some (Step.out (Fl.done ((0 : Int), (WireReader.mk p100v.b_ (IntKind.wrap .i64 (p100v.at_ + (IntKind.wrap .i64 (s10.2 + (1 : Int))))) (14 : Int) p100v.made_))))) (some (Step.out (Fl.done ((abits .xor .i64 (IntKind.wrap .i64 (Int.fdiv (abits .or .u64 s10.1 (IntKind.wrap .u64 ((IntKind.wrap .u64 (abits .and .u8 ((x16).toNat : Int) (127 : Int))) * 2 ^ (min (Int.toNat (IntKind.wrap .i64 ((7 : Int) * s10.2))) (IntKind.bits .u64))))) (2 ^ (min (Int.toNat (1 : Int)) (IntKind.bits .u64))))) (IntKind.wrap .i64 (0 - (IntKind.wrap .i64 (abits .and .u64 (abits .or .u64 s10.1 (IntKind.wrap .u64 ((IntKind.wrap .u64 (abits .and .u8 ((x16).toNat : Int) (127 : Int))) * 2 ^ (min (Int.toNat (IntKind.wrap .i64 ((7 : Int) * s10.2))) (IntKind.bits .u64))))) (1 : Int)))))), (WireReader.mk p100v.b_ (IntKind.wrap .i64 (p100v.at_ + (IntKind.wrap .i64 (s10.2 + (1 : Int))))) p100v.err_ p100v.made_))))))))) (some (Step.out (Fl.go ())))
noncomputable def wire_Reader_Int (p1low : Int) (p2high : Int) (p100v : WireReader) : Option (Int × WireReader) :=
 (wire_Reader_dead p100v).bind fun (x1 : Bool) => cond x1 (some ((0 : Int), p100v)) ((slcL p100v.b_ p100v.at_).bind fun (x5 : (List UInt8)) => ((loopO (wire_Reader_Int_l1 p100v p1low p2high) (((0 : Int), (0 : Int)))) : Option (Fl (Int × WireReader) Unit)).bind fun (x7 : (Fl (Int × WireReader) Unit)) => Fl.next x7 (fun (j9 : Unit) => (some ((0 : Int), (WireReader.mk p100v.b_ p100v.at_ (3 : Int) p100v.made_)))))
theorem w_wire_Reader_Int {p1low : Int} {p2high : Int} {p100v : WireReader} {res : (Int × WireReader)} (h : wire_Reader_Int p1low p2high p100v = some res) : ACalls Try.prog 93 [.box 0 0, .c (.int .i64 p1low), .c (.int .i64 p2high)] [AV.cs (rowWireReader p100v)] (.c (.int .i64 res.1)) [AV.cs (rowWireReader res.2)] := by
 unfold wire_Reader_Int at h
 refine acalls (fn := Try.f93) [0, 1, 2, 6, 7, 8, 9, 10, 11, 13, 23, 24, 29, 46, 60, 88] (by kernel_rfl) Try.func93 rfl (by kernel_rfl) (by kernel_rfl) <| w_sr <| sI rfl <| o_ek (fr' := [(0, .box 0 0), (1, aI), (2, aI)]) rfl rfl <| w_seqw <| w_sr <| mV (v := .box 0 0) rfl ?_
 obtain ⟨x1, hx1, h2⟩ := bind_s h
 refine o_call (v := aB) (σ' := [aLIIB]) [0] rfl (w_wire_Reader_dead hx1) rfl rfl ⟨lr, trivial⟩ (st_c ⟨rfl, rfl, rfl, rfl, trivial⟩ st_nil) rfl rfl rfl <| o_ek (fr' := [(0, .box 0 0), (1, aI), (2, aI), (13, aB)]) rfl rfl <| w_ch h2 rfl (fun hb3 h3 => ?_) (fun hb3 h3 => ?_)
 ·
  refine w_sr <| sI rfl <| o_ek (fr' := [(6, aI)]) rfl rfl <| w_ret <| e_seq_r ?_
  obtain rfl := sy h3
  exact e_ret (rs' := [.tmp 6]) rfl <| r_tmp (v := aI) rfl <| r_nil <| fin_gen [] rfl rfl rfl lr (st_c ⟨rfl, rfl, rfl, rfl, trivial⟩ st_nil)
 ·
  refine w_skip <| e_kw <| w_seqw <| w_planT [.q 0, .q 1, .q 2, .q 3, .q 4, .q 5, .q 6, .q 7, .q 8, .n 9 []] [(some 14, [0]), (some 15, [14]), (some 16, [15]), (some 17, [16]), (some 18, [0]), (some 19, [18]), (some 20, [19]), (some 21, [20]), (some 22, [17, 21]), (some 7, [22])] [0, 1, 3, 7, 0, 16, 48, 112, 255, 511] (by kernel_rfl) <| dq rfl rfl (p_move (v := .box 0 0) rfl) <| dq rfl rfl (p_nc rfl) <| dq rfl rfl (p_fa tf78x0 rfl) <| dq rfl rfl (p_load (v := aL) tv40 rfl rfl rfl) <| dq rfl rfl (p_move (v := .box 0 0) rfl) <| dq rfl rfl (p_nc rfl) <| dq rfl rfl (p_fa tf78x1 rfl) <| dq rfl rfl (p_load (v := aI) tv3 rfl rfl rfl) ?_
  obtain ⟨x5, hx5, h6⟩ := bind_s h3
  refine dq rfl rfl (p_sl_l tn40 ts40 (isl_c rfl) rfl (slcL_some hx5).1) <| d_n rfl ?_ rfl
  refine sL rfl <| o_rc <| ⟨rc_nil, ?_⟩
  refine d_ek (fr' := [(0, .box 0 0), (1, aI), (2, aI), (7, aL)]) rfl rfl <| w_sr <| sI rfl <| o_ek (fr' := [(0, .box 0 0), (1, aI), (2, aI), (7, aL), (8, aI)]) rfl rfl <| w_seqw <| w_sr <| mI rfl <| o_ek (fr' := [(0, .box 0 0), (1, aI), (2, aI), (7, aL), (8, aI), (23, aI)]) rfl rfl ?_
  obtain ⟨x7, hx7, h8⟩ := bind_s h6
  refine w_jtail cl_kw (fun j9 => x7 = Fl.go j9) (fun (j9 : Unit) => ([(0, .box 0 0)] : Fr)) (fun (j9 : Unit) => ([[.c (PV.ls 1 brow p100v.b_), .c (.int .i64 p100v.at_), .c (.int .i64 p100v.err_), .c (.bool p100v.made_)]] : St)) ?_ ?_
  ·
   refine w_block <| w_loopo _ (fun (s10 : (Int × Int)) => ([(0, .box 0 0), (1, .c (.int .i64 p1low)), (2, .c (.int .i64 p2high)), (7, .c (PV.ls 1 brow (List.drop (Int.toNat p100v.at_) p100v.b_))), (8, .c (.int .u64 s10.1)), (23, .c (.int .i64 s10.2))] : Fr)) (fun (s10 : (Int × Int)) => ([[.c (PV.ls 1 brow p100v.b_), .c (.int .i64 p100v.at_), .c (.int .i64 p100v.err_), .c (.bool p100v.made_)]] : St)) hx7 (w_weak [] 1 rfl rfl rfl rfl ⟨lr, lr, lr, lr, lr, lr, trivial⟩ (st_r rfl st_nil)) ?_
   intro s10 st10 hs10 ho10
   unfold wire_Reader_Int_l1 at hs10
   refine w_sr <| o_p rfl (p_lss rfl rfl) <| o_ek (fr' := [(0, .box 0 0), (1, aI), (2, aI), (7, aL), (8, aI), (23, aI), (24, aB)]) rfl rfl <| w_seqw <| w_ch hs10 rfl (fun hb11 h11 => ?_) (fun hb11 h11 => ?_)
   ·
    refine w_skip <| e_kw <| w_seqw <| w_block <| w_sr <| mI rfl <| sI rfl <| o_ek (fr' := [(0, .box 0 0), (1, aI), (2, aI), (7, aL), (8, aI), (9, aI), (23, aI)]) rfl rfl <| w_seqw <| w_sr <| mI rfl ?_
    refine mL rfl <| o_p rfl (p_len ti40 (isl_c rfl)) <| o_p rfl (p_geq rfl rfl) <| o_ek (fr' := [(0, .box 0 0), (1, aI), (2, aI), (7, aL), (8, aI), (9, aI), (23, aI), (29, aB)]) rfl rfl <| w_ch h11 rfl (fun hb12 h12 => ?_) (fun hb12 h12 => ?_)
    ·
     refine w_sr <| mV (v := .box 0 0) rfl <| o_p rfl (p_nc rfl) <| o_p rfl (p_fa tf78x2 rfl) <| o_store (v := aI) (us := [aI]) (cs := aLIIB) (σ' := [aLIIB]) rfl tv34 rfl rfl rfl rfl rfl rfl rfl rfl <| o_ek (fr' := []) rfl rfl <| w_sr <| sI rfl <| o_ek (fr' := [(6, aI)]) rfl rfl <| w_ret <| e_seq_r ?_
     refine e_blk_r <| e_seq_r <| e_seq_r <| e_blk_r <| e_seq_r <| e_seq_r ?_
     have h13 := un_out h12 ho10
     have h14 := un_done h13 h8
     obtain rfl := sy h14
     exact e_ret (rs' := [.tmp 6]) rfl <| r_tmp (v := aI) rfl <| r_nil <| fin_gen [] rfl rfl rfl lr (st_c ⟨rfl, rfl, rfl, rfl, trivial⟩ st_nil)
    ·
     refine w_skip <| e_kw <| w_sr <| mL rfl <| mI rfl ?_
     obtain ⟨x16, hx16, h17⟩ := bind_s h12
     refine o_p rfl (p_ia (cs := [.int _ _]) ts40 (isl_c rfl) rfl hx16 rfl) <| o_p rfl (p_loade (p := .int _ _) tv5 rfl rfl) <| sI rfl <| o_ek (fr' := [(0, .box 0 0), (1, aI), (2, aI), (7, aL), (8, aI), (9, aI), (10, aI), (23, aI)]) rfl rfl <| w_sr <| mI rfl <| mI rfl <| o_p rfl (p_and rfl rfl) <| o_p rfl (p_conv tk5 tk103 rfl) <| mI rfl <| o_p rfl (p_mul rfl rfl) ?_
     obtain ⟨x18, hx18, h19⟩ := bind_s h17
     refine o_p rfl (p_shl rfl rfl (nn_some hx18).1) <| o_p rfl (p_or rfl rfl) <| sI rfl <| o_ek (fr' := [(0, .box 0 0), (1, aI), (2, aI), (7, aL), (8, aI), (9, aI), (10, aI), (23, aI)]) rfl rfl <| w_seqw <| w_sr <| mI rfl <| o_p rfl (p_geq rfl rfl) <| o_ek (fr' := [(0, .box 0 0), (1, aI), (2, aI), (7, aL), (8, aI), (9, aI), (10, aI), (23, aI), (46, aB)]) rfl rfl <| w_ch h19 rfl (fun hb20 h20 => ?_) (fun hb20 h20 => ?_)
     ·
      exact w_exit <| e_seq_x <| e_blk_h <| e_kw <| w_region <| o_p rfl (p_add rfl rfl) <| mI rfl <| o_end (fr' := [(0, .box 0 0), (1, aI), (2, aI), (7, aL), (8, aI), (9, aI), (10, aI), (23, aI), (46, aB)]) rfl <| e_l _ (sy h20) (w_weak [] 1 rfl rfl rfl rfl ⟨lr, lr, lr, lr, lr, lr, trivial⟩ (st_r rfl st_nil))
     ·
      refine w_skip <| e_kw <| w_seqw <| w_sr <| mI rfl <| o_p rfl (p_gtr rfl rfl) <| mB rfl <| og rfl rfl rfl (fun hc => (p_move (v := aI) rfl)) <| og rfl rfl rfl (fun hc => (p_eql (gx rfl hc) rfl)) <| o_p rfl (p_picky rfl rfl rfl (fun e => keq e)) <| mB rfl <| og rfl rfl rfl (fun hc => (p_move (v := aI) rfl)) ?_
      refine og rfl rfl rfl (fun hc => (p_eql (gx rfl hc) rfl)) <| og rfl rfl rfl (fun hc => (p_move (v := aB) (gx rfl hc))) <| o_gg rfl rfl (fun hc => ov_p rfl (p_move (v := aI) rfl)) <| o_gg rfl rfl (fun hc => ov_p rfl (p_gtr (gx rfl hc) rfl)) <| og rfl rfl rfl (fun hc => (p_picky (gx rfl hc) rfl rfl (fun e => band hc (keq e)))) <| o_p rfl (p_pickz rfl rfl rfl (fun e => keq e)) <| o_ek (fr' := [(0, .box 0 0), (1, aI), (2, aI), (8, aI), (9, aI), (60, aB)]) rfl rfl <| w_ch h20 rfl (fun hb21 h21 => ?_) (fun hb21 h21 => ?_)
      ·
       refine w_sr <| mV (v := .box 0 0) rfl <| o_p rfl (p_nc rfl) <| o_p rfl (p_fa tf78x2 rfl) <| o_store (v := aI) (us := [aI]) (cs := aLIIB) (σ' := [aLIIB]) rfl tv34 rfl rfl rfl rfl rfl rfl rfl rfl <| o_ek (fr' := []) rfl rfl <| w_sr <| sI rfl <| o_ek (fr' := [(6, aI)]) rfl rfl <| w_ret <| e_seq_r ?_
       refine e_blk_r <| e_seq_r <| e_seq_r <| e_blk_r <| e_seq_r <| e_seq_r ?_
       have h22 := un_out h21 ho10
       have h23 := un_done h22 h8
       obtain rfl := sy h23
       exact e_ret (rs' := [.tmp 6]) rfl <| r_tmp (v := aI) rfl <| r_nil <| fin_gen [] rfl rfl rfl lr (st_c ⟨rfl, rfl, rfl, rfl, trivial⟩ st_nil)
      ·
       refine w_skip <| e_kw <| w_sr <| mV (v := .box 0 0) rfl <| o_p rfl (p_nc rfl) <| o_p rfl (p_fa tf78x1 rfl) <| o_p rfl (p_load (v := aI) tv3 rfl rfl rfl) <| mI rfl <| o_p rfl (p_add rfl rfl) <| o_p rfl (p_add rfl rfl) <| o_p rfl (p_nc rfl) <| o_p rfl (p_fa tf78x1 rfl) ?_
       refine o_store (v := aI) (us := [aI]) (cs := aLIIB) (σ' := [aLIIB]) rfl tv3 rfl rfl rfl rfl rfl rfl rfl rfl <| o_ek (fr' := [(0, .box 0 0), (1, aI), (2, aI), (8, aI)]) rfl rfl <| w_sr <| mI rfl <| o_p rfl (p_shr rfl rfl (by decide)) <| o_p rfl (p_conv tk103 tk3 rfl) <| mI rfl <| o_p rfl (p_and rfl rfl) <| o_p rfl (p_conv tk103 tk3 rfl) <| o_p rfl (p_neg rfl) <| o_p rfl (p_xor rfl rfl) <| sI rfl ?_
       refine o_ek (fr' := [(0, .box 0 0), (1, aI), (2, aI), (11, aI)]) rfl rfl <| w_seqw <| w_sr <| mI rfl <| mI rfl <| o_p rfl (p_lss rfl rfl) <| mB rfl <| og rfl rfl rfl (fun hc => (p_move (v := aI) rfl)) <| og rfl rfl rfl (fun hc => (p_move (v := aI) rfl)) <| og rfl rfl rfl (fun hc => (p_gtr (gx rfl hc) (gx rfl hc))) <| o_p rfl (p_pickz rfl rfl rfl (fun e => keq e)) <| o_ek (fr' := [(0, .box 0 0), (11, aI), (88, aB)]) rfl rfl ?_
       refine w_ch h21 rfl (fun hb25 h25 => ?_) (fun hb25 h25 => ?_)
       ·
        refine w_sr <| mV (v := .box 0 0) rfl <| o_p rfl (p_nc rfl) <| o_p rfl (p_fa tf78x2 rfl) <| o_store (v := aI) (us := [aI]) (cs := aLIIB) (σ' := [aLIIB]) rfl tv34 rfl rfl rfl rfl rfl rfl rfl rfl <| o_ek (fr' := []) rfl rfl <| w_sr <| sI rfl <| o_ek (fr' := [(6, aI)]) rfl rfl <| w_ret <| e_seq_r ?_
        refine e_blk_r <| e_seq_r <| e_seq_r <| e_blk_r <| e_seq_r <| e_seq_r ?_
        have h26 := un_out h25 ho10
        have h27 := un_done h26 h8
        obtain rfl := sy h27
        exact e_ret (rs' := [.tmp 6]) rfl <| r_tmp (v := aI) rfl <| r_nil <| fin_gen [] rfl rfl rfl lr (st_c ⟨rfl, rfl, rfl, rfl, trivial⟩ st_nil)
       ·
        refine w_skip <| e_kw <| w_sr <| mI rfl <| sI rfl <| o_ek (fr' := [(6, aI)]) rfl rfl <| w_ret <| e_blk_r <| e_seq_r <| e_seq_r <| e_blk_r <| e_seq_r ?_
        refine e_seq_r ?_
        have h29 := un_out h25 ho10
        have h30 := un_done h29 h8
        obtain rfl := sy h30
        exact e_ret (rs' := [.tmp 6]) rfl <| r_tmp (v := aI) rfl <| r_nil <| fin_gen [] rfl rfl rfl lr (st_c ⟨rfl, rfl, rfl, rfl, trivial⟩ st_nil)
   ·
    refine w_exit <| e_seq_x <| e_seq_x <| e_blk_h ?_
    have h32 := un_out h11 ho10
    exact e_j _ (sy h32) (w_weak [] 1 rfl rfl rfl rfl ⟨lr, trivial⟩ (st_r rfl st_nil))
  ·
   intro j9 hj33
   have h33 := un_go hj33 h8
   refine e_kw <| w_sr <| mV (v := .box 0 0) rfl <| o_p rfl (p_nc rfl) <| o_p rfl (p_fa tf78x2 rfl) <| o_store (v := aI) (us := [aI]) (cs := aLIIB) (σ' := [aLIIB]) rfl tv34 rfl rfl rfl rfl rfl rfl rfl rfl <| o_ek (fr' := []) rfl rfl <| w_sr <| sI rfl <| o_ek (fr' := [(6, aI)]) rfl rfl <| w_ret ?_
   obtain rfl := sy h33
   exact e_ret (rs' := [.tmp 6]) rfl <| r_tmp (v := aI) rfl <| r_nil <| fin_gen [] rfl rfl rfl lr (st_c ⟨rfl, rfl, rfl, rfl, trivial⟩ st_nil)
noncomputable def command_number64 (p100v : WireReader) : Option (Int × WireReader) :=
 (wire_Reader_Int (-9223372036854775808 : Int) (9223372036854775807 : Int) p100v).bind fun (x1 : (Int × WireReader)) => some (x1.1, x1.2)
theorem w_command_number64 {p100v : WireReader} {res : (Int × WireReader)} (h : command_number64 p100v = some res) : ACalls Try.prog 64 [.box 0 0] [AV.cs (rowWireReader p100v)] (.c (.int .i64 res.1)) [AV.cs (rowWireReader res.2)] := by
 unfold command_number64 at h
 refine acalls (fn := Try.f64) [0, 2] (by kernel_rfl) Try.func64 rfl (by kernel_rfl) (by kernel_rfl) <| w_sr <| sI rfl <| o_ek (fr' := [(0, .box 0 0)]) rfl rfl <| w_sr <| mV (v := .box 0 0) rfl ?_
 obtain ⟨x1, hx1, h2⟩ := bind_s h
 refine o_call (v := aI) (σ' := [aLIIB]) [0] rfl (w_wire_Reader_Int hx1) rfl rfl ⟨lr, lr, lr, trivial⟩ (st_c ⟨rfl, rfl, rfl, rfl, trivial⟩ st_nil) rfl rfl rfl <| sI rfl <| o_ek (fr' := [(2, aI)]) rfl rfl <| w_ret ?_
 obtain rfl := sy h2
 exact e_ret (rs' := [.tmp 2]) rfl <| r_tmp (v := aI) rfl <| r_nil <| fin_gen [] rfl rfl rfl lr (st_c ⟨rfl, rfl, rfl, rfl, trivial⟩ st_nil)
noncomputable def wire_Reader_Text (p1most : Int) (p100v : WireReader) : Option ((List UInt8) × WireReader) :=
 (wire_Reader_Int (0 : Int) p1most p100v).bind fun (x1 : (Int × WireReader)) => (wire_Reader_dead x1.2).bind fun (x3 : Bool) => cond x3 (some (([] : List UInt8), x1.2)) (cond (decide ((IntKind.wrap .i64 (((x1.2.b_).length : Int) - x1.2.at_)) < x1.1)) (some (([] : List UInt8), (WireReader.mk x1.2.b_ x1.2.at_ (4 : Int) x1.2.made_))) ((slcB x1.2.b_ x1.2.at_ (IntKind.wrap .i64 (x1.2.at_ + x1.1))).bind fun (x9 : (List UInt8)) => some ((List.drop (Int.toNat x1.2.at_) (List.take (Int.toNat (IntKind.wrap .i64 (x1.2.at_ + x1.1))) x1.2.b_)), (WireReader.mk x1.2.b_ (IntKind.wrap .i64 (x1.2.at_ + x1.1)) x1.2.err_ x1.2.made_))))
theorem w_wire_Reader_Text {p1most : Int} {p100v : WireReader} {res : ((List UInt8) × WireReader)} (h : wire_Reader_Text p1most p100v = some res) : ACalls Try.prog 65 [.box 0 0, .c (.int .i64 p1most)] [AV.cs (rowWireReader p100v)] (.c (.str res.1)) [AV.cs (rowWireReader res.2)] := by
 unfold wire_Reader_Text at h
 refine acalls (fn := Try.f65) [0, 1, 4, 5, 6, 11, 23] (by kernel_rfl) Try.func65 rfl (by kernel_rfl) (by kernel_rfl) <| w_sr <| sS rfl <| o_ek (fr' := [(0, .box 0 0), (1, aI)]) rfl rfl <| w_sr <| mV (v := .box 0 0) rfl <| mI rfl ?_
 obtain ⟨x1, hx1, h2⟩ := bind_s h
 refine o_call (v := aI) (σ' := [aLIIB]) [0] rfl (w_wire_Reader_Int hx1) rfl rfl ⟨lr, lr, lr, trivial⟩ (st_c ⟨rfl, rfl, rfl, rfl, trivial⟩ st_nil) rfl rfl rfl <| sI rfl <| o_ek (fr' := [(0, .box 0 0), (5, aI)]) rfl rfl <| w_seqw <| w_sr <| mV (v := .box 0 0) rfl ?_
 obtain ⟨x3, hx3, h4⟩ := bind_s h2
 refine o_call (v := aB) (σ' := [aLIIB]) [0] rfl (w_wire_Reader_dead hx3) rfl rfl ⟨lr, trivial⟩ (st_c ⟨rfl, rfl, rfl, rfl, trivial⟩ st_nil) rfl rfl rfl <| o_ek (fr' := [(0, .box 0 0), (5, aI), (11, aB)]) rfl rfl <| w_ch h4 rfl (fun hb5 h5 => ?_) (fun hb5 h5 => ?_)
 ·
  refine w_sr <| sS rfl <| o_ek (fr' := [(4, aS)]) rfl rfl <| w_ret <| e_seq_r ?_
  obtain rfl := sy h5
  exact e_ret (rs' := [.tmp 4]) rfl <| r_tmp (v := aS) rfl <| r_nil <| fin_gen [] rfl rfl rfl lr (st_c ⟨rfl, rfl, rfl, rfl, trivial⟩ st_nil)
 ·
  refine w_skip <| e_kw <| w_seqw <| w_seqw <| w_planT [.q 0, .q 1, .q 2, .q 3, .q 4, .q 5, .q 6, .q 7, .q 8, .q 9, .q 10, .q 11] [(some 12, [5]), (some 13, [0]), (some 14, [13]), (some 15, [14]), (some 16, [15]), (some 17, [16]), (some 18, [0]), (some 19, [18]), (some 20, [19]), (some 21, [20]), (some 22, [17, 21]), (some 23, [12, 22])] [0, 0, 2, 6, 14, 30, 0, 64, 192, 448, 1022, 2047] (by kernel_rfl) <| dq rfl rfl (p_move (v := aI) rfl) <| dq rfl rfl (p_move (v := .box 0 0) rfl) <| dq rfl rfl (p_nc rfl) <| dq rfl rfl (p_fa tf78x0 rfl) <| dq rfl rfl (p_load (v := aL) tv40 rfl rfl rfl) <| dq rfl rfl (p_len ti40 (isl_c rfl)) <| dq rfl rfl (p_move (v := .box 0 0) rfl) <| dq rfl rfl (p_nc rfl) ?_
  refine dq rfl rfl (p_fa tf78x1 rfl) <| dq rfl rfl (p_load (v := aI) tv3 rfl rfl rfl) <| dq rfl rfl (p_sub rfl rfl) <| dq rfl rfl (p_gtr rfl rfl) <| d_ek (fr' := [(0, .box 0 0), (5, aI), (23, aB)]) rfl rfl <| w_ch h5 rfl (fun hb7 h7 => ?_) (fun hb7 h7 => ?_)
  ·
   refine w_sr <| mV (v := .box 0 0) rfl <| o_p rfl (p_nc rfl) <| o_p rfl (p_fa tf78x2 rfl) <| o_store (v := aI) (us := [aI]) (cs := aLIIB) (σ' := [aLIIB]) rfl tv34 rfl rfl rfl rfl rfl rfl rfl rfl <| o_ek (fr' := []) rfl rfl <| w_sr <| sS rfl <| o_ek (fr' := [(4, aS)]) rfl rfl <| w_ret <| e_seq_r ?_
   obtain rfl := sy h7
   exact e_ret (rs' := [.tmp 4]) rfl <| r_tmp (v := aS) rfl <| r_nil <| fin_gen [] rfl rfl rfl lr (st_c ⟨rfl, rfl, rfl, rfl, trivial⟩ st_nil)
  ·
   refine w_skip <| e_kw <| w_seqw <| w_planT [.q 0, .q 1, .q 2, .q 3, .q 4, .q 5, .q 6, .q 7, .q 8, .q 9, .q 10, .q 11, .q 12, .q 13, .q 14, .q 15, .n 16 []] [(some 27, [0]), (some 28, [27]), (some 29, [28]), (some 30, [29]), (some 31, [0]), (some 32, [31]), (some 33, [32]), (some 34, [33]), (some 35, [0]), (some 36, [35]), (some 37, [36]), (some 38, [37]), (some 39, [5]), (some 40, [38, 39]), (some 41, [30, 34, 40]), (some 42, [41]), (some 6, [42])] [0, 1, 3, 7, 0, 16, 48, 112, 0, 256, 768, 1792, 0, 7936, 16383, 32767, 65535] (by kernel_rfl) <| dq rfl rfl (p_move (v := .box 0 0) rfl) <| dq rfl rfl (p_nc rfl) <| dq rfl rfl (p_fa tf78x0 rfl) <| dq rfl rfl (p_load (v := aL) tv40 rfl rfl rfl) <| dq rfl rfl (p_move (v := .box 0 0) rfl) <| dq rfl rfl (p_nc rfl) <| dq rfl rfl (p_fa tf78x1 rfl) <| dq rfl rfl (p_load (v := aI) tv3 rfl rfl rfl) <| dq rfl rfl (p_move (v := .box 0 0) rfl) ?_
   refine dq rfl rfl (p_nc rfl) <| dq rfl rfl (p_fa tf78x1 rfl) <| dq rfl rfl (p_load (v := aI) tv3 rfl rfl rfl) <| dq rfl rfl (p_move (v := aI) rfl) <| dq rfl rfl (p_add rfl rfl) ?_
   obtain ⟨x9, hx9, h10⟩ := bind_s h7
   refine dq rfl rfl (p_sl_b tn40 ts40 (isl_c rfl) rfl rfl (slcB_some hx9).1) <| dq rfl rfl (p_convbs tby40 ti9 (isl_c rfl)) <| d_n rfl ?_ rfl
   refine sS rfl <| o_rc <| ⟨rc_nil, ?_⟩
   refine d_ek (fr' := [(0, .box 0 0), (5, aI), (6, aS)]) rfl rfl <| w_sr <| mV (v := .box 0 0) rfl <| o_p rfl (p_nc rfl) <| o_p rfl (p_fa tf78x1 rfl) <| o_p rfl (p_load (v := aI) tv3 rfl rfl rfl) <| mI rfl <| o_p rfl (p_add rfl rfl) <| o_p rfl (p_nc rfl) <| o_p rfl (p_fa tf78x1 rfl) <| o_store (v := aI) (us := [aI]) (cs := aLIIB) (σ' := [aLIIB]) rfl tv3 rfl rfl rfl rfl rfl rfl rfl rfl <| o_ek (fr' := [(6, aS)]) rfl rfl ?_
   refine w_sr <| mS rfl <| sS rfl <| o_ek (fr' := [(4, aS)]) rfl rfl <| w_ret ?_
   obtain rfl := sy h10
   exact e_ret (rs' := [.tmp 4]) rfl <| r_tmp (v := aS) rfl <| r_nil <| fin_gen [] rfl rfl rfl lr (st_c ⟨rfl, rfl, rfl, rfl, trivial⟩ st_nil)
noncomputable def wire_Reader_Fail (p1e : Int) (p100v : WireReader) : Option WireReader :=
 (wire_Reader_dead p100v).bind fun (x1 : Bool) => cond (!x1) (some (WireReader.mk p100v.b_ p100v.at_ p1e p100v.made_)) (some p100v)
theorem w_wire_Reader_Fail {p1e : Int} {p100v : WireReader} {res : WireReader} (h : wire_Reader_Fail p1e p100v = some res) : ACalls Try.prog 67 [.box 0 0, .c (.int .i64 p1e)] [AV.cs (rowWireReader p100v)] (.any) [AV.cs (rowWireReader res)] := by
 unfold wire_Reader_Fail at h
 refine acalls (fn := Try.f67) [0, 1, 6] (by kernel_rfl) Try.func67 rfl (by kernel_rfl) (by kernel_rfl) <| w_sr <| mV (v := .box 0 0) rfl ?_
 obtain ⟨x1, hx1, h2⟩ := bind_s h
 refine o_call (v := aB) (σ' := [aLIIB]) [0] rfl (w_wire_Reader_dead hx1) rfl rfl ⟨lr, trivial⟩ (st_c ⟨rfl, rfl, rfl, rfl, trivial⟩ st_nil) rfl rfl rfl <| o_p rfl (p_not rfl) <| o_ek (fr' := [(0, .box 0 0), (1, aI), (6, aB)]) rfl rfl <| w_ch h2 rfl (fun hb3 h3 => ?_) (fun hb3 h3 => ?_)
 ·
  refine w_region <| mV (v := .box 0 0) rfl <| mI rfl <| o_p rfl (p_nc rfl) <| o_p rfl (p_fa tf78x2 rfl) <| o_store (v := aI) (us := [aI]) (cs := aLIIB) (σ' := [aLIIB]) rfl tv34 rfl rfl rfl rfl rfl rfl rfl rfl <| o_end (fr' := [(0, .box 0 0), (1, aI), (6, aB)]) rfl ?_
  obtain rfl := sy h3
  exact e_fin (rs' := []) rfl <| r_nil <| fin_gen [] rfl rfl rfl (AV.le_any _) (st_c ⟨rfl, rfl, rfl, rfl, trivial⟩ st_nil)
 ·
  refine w_skip ?_
  obtain rfl := sy h3
  exact e_fin (rs' := []) rfl <| r_nil <| fin_gen [] rfl rfl rfl (AV.le_any _) (st_c ⟨rfl, rfl, rfl, rfl, trivial⟩ st_nil)
end Go.Proofs.Ytmnobgopfnhbnaa

import Derived.Test.YtngcjjhbimanlaaDoorGATy
import Derived.Test.YtngcjjhbimanlaaDoorGAF0
import Derived.Test.YtngcjjhbimanlaaDoorGAF1
import Derived.Test.YtngcjjhbimanlaaDoorGAF3
import Derived.Test.YtngcjjhbimanlaaDoorGAF4
namespace Go.Proofs.YtngcjjhbimanlaaDoor
open Go Abs
set_option maxRecDepth 100000
set_option linter.unusedVariables false
set_option linter.unusedSimpArgs false
noncomputable def ref20xSamePolicy_l1 (p0a : ApiPolicy) (p1b : ApiPolicy) (s8 : Int) : Option (Step Int (Fl Bool Unit)) :=
 cond (decide (s8 < ((p0a.Fatal).length : Int))) ((idx p0a.Fatal s8).bind fun (x10 : (List UInt8)) => (idx p1b.Fatal s8).bind fun (x12 : (List UInt8)) => cond (!decide (x10 = x12)) (some (Step.out (Fl.done false))) (some (Step.next (IntKind.wrap .i64 (s8 + (1 : Int)))))) (some (Step.out (Fl.go ())))
noncomputable def ref20xSamePolicy (p0a : ApiPolicy) (p1b : ApiPolicy) : Option Bool :=
 cond (cond (cond (cond (cond (!decide (p0a.Queue = p1b.Queue)) true (!decide (p0a.ToStart = p1b.ToStart))) true (!decide (p0a.ToClose = p1b.ToClose))) true (!decide (p0a.Total = p1b.Total))) true (!decide (p0a.Beat = p1b.Beat))) (some false) (cond (cond (cond (cond (cond (!decide (p0a.First = p1b.First)) true (!decide (p0a.Coef = p1b.Coef))) true (!decide (p0a.Most = p1b.Most))) true (!decide (p0a.Attempts = p1b.Attempts))) true (!decide (((p0a.Fatal).length : Int) = ((p1b.Fatal).length : Int)))) (some false) (((loopO (ref20xSamePolicy_l1 p0a p1b) ((0 : Int))) : Option (Fl Bool Unit)).bind fun (x5 : (Fl Bool Unit)) => Fl.next x5 (fun (j7 : Unit) => (some true))))
theorem w_ref20xSamePolicy {p0a : ApiPolicy} {p1b : ApiPolicy} {res : Bool} (h : ref20xSamePolicy p0a p1b = some res) : ACalls Tryd.prog 51 [.agg (AV.cs (rowApiPolicy p0a)), .agg (AV.cs (rowApiPolicy p1b))] [] (.c (.bool res)) [] := by
 unfold ref20xSamePolicy at h
 refine acalls (fn := Tryd.f51) [0, 1, 2, 3, 4, 5, 38, 73, 78, 91] (by kernel_rfl) Tryd.func51 rfl (by kernel_rfl) (by kernel_rfl) <| w_sr <| o_box (v := .agg aSIIIIIIIIL) (n := 0) (cs := aSIIIIIIIIL) (σ' := [aSIIIIIIIIL]) rfl rfl rfl rfl rfl <| o_box (v := .agg aSIIIIIIIIL) (n := 1) (cs := aSIIIIIIIIL) (σ' := [aSIIIIIIIIL, aSIIIIIIIIL]) rfl rfl rfl rfl rfl <| sB rfl <| o_ek (fr' := [(2, .box 0 0), (3, .box 1 0)]) rfl rfl <| w_seqw <| w_sr <| o_p rfl (p_fa tf27x0 rfl) <| o_p rfl (p_load (v := aS) tv9 rfl rfl rfl) <| o_p rfl (p_fa tf27x0 rfl) ?_
 refine o_p rfl (p_load (v := aS) tv9 rfl rfl rfl) <| o_p rfl (p_sneq rfl rfl) <| mB rfl <| og rfl rfl rfl (fun hc => (p_fa tf27x1 rfl)) <| og rfl rfl rfl (fun hc => (p_load (v := aI) tv3 (gx rfl hc) rfl rfl)) <| og rfl rfl rfl (fun hc => (p_fa tf27x1 rfl)) <| og rfl rfl rfl (fun hc => (p_load (v := aI) tv3 (gx rfl hc) rfl rfl)) <| og rfl rfl rfl (fun hc => (p_neq (gx rfl hc) (gx rfl hc))) <| o_p rfl (p_pickz rfl rfl rfl (fun e => keq e)) <| mB rfl <| og rfl rfl rfl (fun hc => (p_fa tf27x2 rfl)) <| og rfl rfl rfl (fun hc => (p_load (v := aI) tv3 (gx rfl hc) rfl rfl)) <| og rfl rfl rfl (fun hc => (p_fa tf27x2 rfl)) ?_
 refine og rfl rfl rfl (fun hc => (p_load (v := aI) tv3 (gx rfl hc) rfl rfl)) <| og rfl rfl rfl (fun hc => (p_neq (gx rfl hc) (gx rfl hc))) <| o_p rfl (p_pickz rfl rfl rfl (fun e => keq e)) <| mB rfl <| og rfl rfl rfl (fun hc => (p_fa tf27x3 rfl)) <| og rfl rfl rfl (fun hc => (p_load (v := aI) tv3 (gx rfl hc) rfl rfl)) <| og rfl rfl rfl (fun hc => (p_fa tf27x3 rfl)) <| og rfl rfl rfl (fun hc => (p_load (v := aI) tv3 (gx rfl hc) rfl rfl)) <| og rfl rfl rfl (fun hc => (p_neq (gx rfl hc) (gx rfl hc))) <| o_p rfl (p_pickz rfl rfl rfl (fun e => keq e)) <| mB rfl <| og rfl rfl rfl (fun hc => (p_fa tf27x4 rfl)) <| og rfl rfl rfl (fun hc => (p_load (v := aI) tv3 (gx rfl hc) rfl rfl)) ?_
 refine og rfl rfl rfl (fun hc => (p_fa tf27x4 rfl)) <| og rfl rfl rfl (fun hc => (p_load (v := aI) tv3 (gx rfl hc) rfl rfl)) <| og rfl rfl rfl (fun hc => (p_neq (gx rfl hc) (gx rfl hc))) <| o_p rfl (p_pickz rfl rfl rfl (fun e => keq e)) <| o_ek (fr' := [(2, .box 0 0), (3, .box 1 0), (38, aB)]) rfl rfl <| w_ch h rfl (fun hb1 h1 => ?_) (fun hb1 h1 => ?_)
 ·
  refine w_sr <| sB rfl <| o_ek (fr' := [(4, aB)]) rfl rfl <| w_ret <| e_seq_r ?_
  obtain rfl := sy h1
  exact e_ret (rs' := [.tmp 4]) rfl <| r_tmp (v := aB) rfl <| r_nil <| fin_gen [] rfl rfl rfl lr st_nil
 ·
  refine w_skip <| e_kw <| w_seqw <| w_sr <| o_p rfl (p_fa tf27x5 rfl) <| o_p rfl (p_load (v := aI) tv3 rfl rfl rfl) <| o_p rfl (p_fa tf27x5 rfl) <| o_p rfl (p_load (v := aI) tv3 rfl rfl rfl) <| o_p rfl (p_neq rfl rfl) <| mB rfl <| og rfl rfl rfl (fun hc => (p_fa tf27x6 rfl)) <| og rfl rfl rfl (fun hc => (p_load (v := aI) tv3 (gx rfl hc) rfl rfl)) ?_
  refine og rfl rfl rfl (fun hc => (p_fa tf27x6 rfl)) <| og rfl rfl rfl (fun hc => (p_load (v := aI) tv3 (gx rfl hc) rfl rfl)) <| og rfl rfl rfl (fun hc => (p_neq (gx rfl hc) (gx rfl hc))) <| o_p rfl (p_pickz rfl rfl rfl (fun e => keq e)) <| mB rfl <| og rfl rfl rfl (fun hc => (p_fa tf27x7 rfl)) <| og rfl rfl rfl (fun hc => (p_load (v := aI) tv3 (gx rfl hc) rfl rfl)) <| og rfl rfl rfl (fun hc => (p_fa tf27x7 rfl)) <| og rfl rfl rfl (fun hc => (p_load (v := aI) tv3 (gx rfl hc) rfl rfl)) <| og rfl rfl rfl (fun hc => (p_neq (gx rfl hc) (gx rfl hc))) <| o_p rfl (p_pickz rfl rfl rfl (fun e => keq e)) <| mB rfl <| og rfl rfl rfl (fun hc => (p_fa tf27x8 rfl)) ?_
  refine og rfl rfl rfl (fun hc => (p_load (v := aI) tv3 (gx rfl hc) rfl rfl)) <| og rfl rfl rfl (fun hc => (p_fa tf27x8 rfl)) <| og rfl rfl rfl (fun hc => (p_load (v := aI) tv3 (gx rfl hc) rfl rfl)) <| og rfl rfl rfl (fun hc => (p_neq (gx rfl hc) (gx rfl hc))) <| o_p rfl (p_pickz rfl rfl rfl (fun e => keq e)) <| mB rfl <| og rfl rfl rfl (fun hc => (p_fa tf27x9 rfl)) <| og rfl rfl rfl (fun hc => (p_load (v := aL) tv23 (gx rfl hc) rfl rfl)) <| og rfl rfl rfl (fun hc => (p_len ti23 (isl_c (gx rfl hc)))) <| og rfl rfl rfl (fun hc => (p_fa tf27x9 rfl)) <| og rfl rfl rfl (fun hc => (p_load (v := aL) tv23 (gx rfl hc) rfl rfl)) <| og rfl rfl rfl (fun hc => (p_len ti23 (isl_c (gx rfl hc)))) <| og rfl rfl rfl (fun hc => (p_neq (gx rfl hc) (gx rfl hc))) ?_
  refine o_p rfl (p_pickz rfl rfl rfl (fun e => keq e)) <| o_ek (fr' := [(2, .box 0 0), (3, .box 1 0), (73, aB)]) rfl rfl <| w_ch h1 rfl (fun hb3 h3 => ?_) (fun hb3 h3 => ?_)
  ·
   refine w_sr <| sB rfl <| o_ek (fr' := [(4, aB)]) rfl rfl <| w_ret <| e_seq_r ?_
   obtain rfl := sy h3
   exact e_ret (rs' := [.tmp 4]) rfl <| r_tmp (v := aB) rfl <| r_nil <| fin_gen [] rfl rfl rfl lr st_nil
  ·
   refine w_skip <| e_kw <| w_seqw <| w_sr <| sI rfl <| o_ek (fr' := [(2, .box 0 0), (3, .box 1 0), (5, aI)]) rfl rfl ?_
   obtain ⟨x5, hx5, h6⟩ := bind_s h3
   refine w_jtail cl_kw (fun j7 => x5 = Fl.go j7) (fun (j7 : Unit) => ([] : Fr)) (fun (j7 : Unit) => ([[.c (.str p0a.Queue), .c (.int .i64 p0a.ToStart), .c (.int .i64 p0a.ToClose), .c (.int .i64 p0a.Total), .c (.int .i64 p0a.Beat), .c (.int .i64 p0a.First), .c (.int .i64 p0a.Coef), .c (.int .i64 p0a.Most), .c (.int .i64 p0a.Attempts), .c (PV.ls 1 rowS p0a.Fatal)], [.c (.str p1b.Queue), .c (.int .i64 p1b.ToStart), .c (.int .i64 p1b.ToClose), .c (.int .i64 p1b.Total), .c (.int .i64 p1b.Beat), .c (.int .i64 p1b.First), .c (.int .i64 p1b.Coef), .c (.int .i64 p1b.Most), .c (.int .i64 p1b.Attempts), .c (PV.ls 1 rowS p1b.Fatal)]] : St)) ?_ ?_
   ·
    refine w_block <| w_loopo _ (fun (s8 : Int) => ([(2, .box 0 0), (3, .box 1 0), (5, .c (.int .i64 s8))] : Fr)) (fun (s8 : Int) => ([[.c (.str p0a.Queue), .c (.int .i64 p0a.ToStart), .c (.int .i64 p0a.ToClose), .c (.int .i64 p0a.Total), .c (.int .i64 p0a.Beat), .c (.int .i64 p0a.First), .c (.int .i64 p0a.Coef), .c (.int .i64 p0a.Most), .c (.int .i64 p0a.Attempts), .c (PV.ls 1 rowS p0a.Fatal)], [.c (.str p1b.Queue), .c (.int .i64 p1b.ToStart), .c (.int .i64 p1b.ToClose), .c (.int .i64 p1b.Total), .c (.int .i64 p1b.Beat), .c (.int .i64 p1b.First), .c (.int .i64 p1b.Coef), .c (.int .i64 p1b.Most), .c (.int .i64 p1b.Attempts), .c (PV.ls 1 rowS p1b.Fatal)]] : St)) hx5 (w_weak [] 2 rfl rfl rfl rfl ⟨lr, lr, lr, trivial⟩ (st_r rfl (st_r rfl st_nil))) ?_
    intro s8 st8 hs8 ho8
    unfold ref20xSamePolicy_l1 at hs8
    refine w_seqw <| w_sr <| mI rfl <| o_p rfl (p_fa tf27x9 rfl) <| o_p rfl (p_load (v := aL) tv23 rfl rfl rfl) <| o_p rfl (p_len ti23 (isl_c rfl)) <| o_p rfl (p_lss rfl rfl) <| o_ek (fr' := [(2, .box 0 0), (3, .box 1 0), (5, aI), (78, aB)]) rfl rfl <| w_ch hs8 rfl (fun hb9 h9 => ?_) (fun hb9 h9 => ?_)
    ·
     refine w_skip <| e_kw <| w_seqw <| w_block <| w_seqw <| w_planT [.q 0, .q 1, .q 2, .q 3, .q 4, .q 5, .q 6, .q 7, .q 8, .q 9, .q 10] [(some 81, [2]), (some 82, [81]), (some 83, [5]), (some 84, [82, 83]), (some 85, [84]), (some 86, [3]), (some 87, [86]), (some 88, [5]), (some 89, [87, 88]), (some 90, [89]), (some 91, [85, 90])] [0, 1, 0, 7, 15, 0, 32, 0, 224, 480, 1023] (by kernel_rfl) <| dq rfl rfl (p_fa tf27x9 rfl) <| dq rfl rfl (p_load (v := aL) tv23 rfl rfl rfl) <| dq rfl rfl (p_move (v := aI) rfl) ?_
     obtain ⟨x10, hx10, h11⟩ := bind_s h9
     refine dq rfl rfl (p_ia (cs := [PV.str _]) ts23 (isl_c rfl) rfl hx10 rfl) <| dq rfl rfl (p_loade (p := PV.str _) tv9 rfl rfl) <| dq rfl rfl (p_fa tf27x9 rfl) <| dq rfl rfl (p_load (v := aL) tv23 rfl rfl rfl) <| dq rfl rfl (p_move (v := aI) rfl) ?_
     obtain ⟨x12, hx12, h13⟩ := bind_s h11
     refine dq rfl rfl (p_ia (cs := [PV.str _]) ts23 (isl_c rfl) rfl hx12 rfl) <| dq rfl rfl (p_loade (p := PV.str _) tv9 rfl rfl) <| dq rfl rfl (p_sneq rfl rfl) <| d_ek (fr' := [(2, .box 0 0), (3, .box 1 0), (5, aI), (91, aB)]) rfl rfl <| w_ch h13 rfl (fun hb14 h14 => ?_) (fun hb14 h14 => ?_)
     ·
      refine w_sr <| sB rfl <| o_ek (fr' := [(4, aB)]) rfl rfl <| w_ret <| e_blk_r <| e_seq_r <| e_seq_r <| e_blk_r <| e_seq_r <| e_seq_r ?_
      have h15 := un_out h14 ho8
      have h16 := un_done h15 h6
      obtain rfl := sy h16
      exact e_ret (rs' := [.tmp 4]) rfl <| r_tmp (v := aB) rfl <| r_nil <| fin_gen [] rfl rfl rfl lr st_nil
     ·
      exact w_skip <| e_blk_n <| e_kw <| w_region <| mI rfl <| o_p rfl (p_add rfl rfl) <| sI rfl <| o_end (fr' := [(2, .box 0 0), (3, .box 1 0), (5, aI), (91, aB)]) rfl <| e_l _ (sy h14) (w_weak [] 2 rfl rfl rfl rfl ⟨lr, lr, lr, trivial⟩ (st_r rfl (st_r rfl st_nil)))
    ·
     refine w_exit <| e_seq_x <| e_seq_x <| e_blk_h ?_
     have h18 := un_out h9 ho8
     exact e_j _ (sy h18) (w_weak [] 2 rfl rfl rfl rfl trivial (st_r rfl (st_r rfl st_nil)))
   ·
    intro j7 hj19
    have h19 := un_go hj19 h6
    refine e_kw <| w_sr <| sB rfl <| o_ek (fr' := [(4, aB)]) rfl rfl <| w_ret ?_
    obtain rfl := sy h19
    exact e_ret (rs' := [.tmp 4]) rfl <| r_tmp (v := aB) rfl <| r_nil <| fin_gen [] rfl rfl rfl lr st_nil
noncomputable def ref22xSame (p0a : ApiEvent) (p1b : ApiEvent) : Option Bool :=
 (gd ((cond (cond (cond (cond (cond (cond (cond (cond (decide (p0a.ID = p1b.ID)) (decide (p0a.Kind = p1b.Kind)) false) (decide (p0a.Time = p1b.Time)) false) (decide (p0a.Seq = p1b.Seq)) false) (decide (p0a.Ref = p1b.Ref)) false) (decide (p0a.N = p1b.N)) false) (decide (p0a.Code = p1b.Code)) false) (decide (p0a.Name = p1b.Name)) false) (decide (p0a.Key = p1b.Key)) false) == true) (ref02xSame p0a.Data p1b.Data)).bind fun (x1 : Bool) => (gd ((cond (cond (cond (cond (cond (cond (cond (cond (cond (decide (p0a.ID = p1b.ID)) (decide (p0a.Kind = p1b.Kind)) false) (decide (p0a.Time = p1b.Time)) false) (decide (p0a.Seq = p1b.Seq)) false) (decide (p0a.Ref = p1b.Ref)) false) (decide (p0a.N = p1b.N)) false) (decide (p0a.Code = p1b.Code)) false) (decide (p0a.Name = p1b.Name)) false) (decide (p0a.Key = p1b.Key)) false) x1 false) == true) (ref20xSamePolicy p0a.Opts p1b.Opts)).bind fun (x3 : Bool) => some (cond (cond (cond (cond (cond (cond (cond (cond (cond (cond (decide (p0a.ID = p1b.ID)) (decide (p0a.Kind = p1b.Kind)) false) (decide (p0a.Time = p1b.Time)) false) (decide (p0a.Seq = p1b.Seq)) false) (decide (p0a.Ref = p1b.Ref)) false) (decide (p0a.N = p1b.N)) false) (decide (p0a.Code = p1b.Code)) false) (decide (p0a.Name = p1b.Name)) false) (decide (p0a.Key = p1b.Key)) false) x1 false) x3 false)
theorem w_ref22xSame {p0a : ApiEvent} {p1b : ApiEvent} {res : Bool} (h : ref22xSame p0a p1b = some res) : ACalls Tryd.prog 14 [.agg (AV.cs (rowApiEvent p0a)), .agg (AV.cs (rowApiEvent p1b))] [] (.c (.bool res)) [] := by
 unfold ref22xSame at h
 refine acalls (fn := Tryd.f14) [0, 1, 2, 3, 4] (by kernel_rfl) Tryd.func14 rfl (by kernel_rfl) (by kernel_rfl) <| w_sr <| o_box (v := .agg aIIIIIIISSIISLLSIIIIIIIIL) (n := 0) (cs := aIIIIIIISSIISLLSIIIIIIIIL) (σ' := [aIIIIIIISSIISLLSIIIIIIIIL]) rfl rfl rfl rfl rfl <| o_box (v := .agg aIIIIIIISSIISLLSIIIIIIIIL) (n := 1) (cs := aIIIIIIISSIISLLSIIIIIIIIL) (σ' := [aIIIIIIISSIISLLSIIIIIIIIL, aIIIIIIISSIISLLSIIIIIIIIL]) rfl rfl rfl rfl rfl <| sB rfl <| o_ek (fr' := [(2, .box 0 0), (3, .box 1 0)]) rfl rfl <| w_sr <| o_p rfl (p_fa tf31x0 rfl) <| o_p rfl (p_load (v := aI) tv3 rfl rfl rfl) <| o_p rfl (p_fa tf31x0 rfl) <| o_p rfl (p_load (v := aI) tv3 rfl rfl rfl) ?_
 refine o_p rfl (p_eql rfl rfl) <| mB rfl <| og rfl rfl rfl (fun hc => (p_fa tf31x1 rfl)) <| og rfl rfl rfl (fun hc => (p_load (v := aI) tv3 (gx rfl hc) rfl rfl)) <| og rfl rfl rfl (fun hc => (p_fa tf31x1 rfl)) <| og rfl rfl rfl (fun hc => (p_load (v := aI) tv3 (gx rfl hc) rfl rfl)) <| og rfl rfl rfl (fun hc => (p_eql (gx rfl hc) (gx rfl hc))) <| o_p rfl (p_picky rfl rfl rfl (fun e => keq e)) <| mB rfl <| og rfl rfl rfl (fun hc => (p_fa tf31x2 rfl)) <| og rfl rfl rfl (fun hc => (p_load (v := aI) tv3 (gx rfl hc) rfl rfl)) <| og rfl rfl rfl (fun hc => (p_fa tf31x2 rfl)) <| og rfl rfl rfl (fun hc => (p_load (v := aI) tv3 (gx rfl hc) rfl rfl)) ?_
 refine og rfl rfl rfl (fun hc => (p_eql (gx rfl hc) (gx rfl hc))) <| o_p rfl (p_picky rfl rfl rfl (fun e => keq e)) <| mB rfl <| og rfl rfl rfl (fun hc => (p_fa tf31x3 rfl)) <| og rfl rfl rfl (fun hc => (p_load (v := aI) tv3 (gx rfl hc) rfl rfl)) <| og rfl rfl rfl (fun hc => (p_fa tf31x3 rfl)) <| og rfl rfl rfl (fun hc => (p_load (v := aI) tv3 (gx rfl hc) rfl rfl)) <| og rfl rfl rfl (fun hc => (p_eql (gx rfl hc) (gx rfl hc))) <| o_p rfl (p_picky rfl rfl rfl (fun e => keq e)) <| mB rfl <| og rfl rfl rfl (fun hc => (p_fa tf31x4 rfl)) <| og rfl rfl rfl (fun hc => (p_load (v := aI) tv3 (gx rfl hc) rfl rfl)) <| og rfl rfl rfl (fun hc => (p_fa tf31x4 rfl)) ?_
 refine og rfl rfl rfl (fun hc => (p_load (v := aI) tv3 (gx rfl hc) rfl rfl)) <| og rfl rfl rfl (fun hc => (p_eql (gx rfl hc) (gx rfl hc))) <| o_p rfl (p_picky rfl rfl rfl (fun e => keq e)) <| mB rfl <| og rfl rfl rfl (fun hc => (p_fa tf31x5 rfl)) <| og rfl rfl rfl (fun hc => (p_load (v := aI) tv3 (gx rfl hc) rfl rfl)) <| og rfl rfl rfl (fun hc => (p_fa tf31x5 rfl)) <| og rfl rfl rfl (fun hc => (p_load (v := aI) tv3 (gx rfl hc) rfl rfl)) <| og rfl rfl rfl (fun hc => (p_eql (gx rfl hc) (gx rfl hc))) <| o_p rfl (p_picky rfl rfl rfl (fun e => keq e)) <| mB rfl <| og rfl rfl rfl (fun hc => (p_fa tf31x6 rfl)) <| og rfl rfl rfl (fun hc => (p_load (v := aI) tv3 (gx rfl hc) rfl rfl)) ?_
 refine og rfl rfl rfl (fun hc => (p_fa tf31x6 rfl)) <| og rfl rfl rfl (fun hc => (p_load (v := aI) tv3 (gx rfl hc) rfl rfl)) <| og rfl rfl rfl (fun hc => (p_eql (gx rfl hc) (gx rfl hc))) <| o_p rfl (p_picky rfl rfl rfl (fun e => keq e)) <| mB rfl <| og rfl rfl rfl (fun hc => (p_fa tf31x7 rfl)) <| og rfl rfl rfl (fun hc => (p_load (v := aS) tv9 (gx rfl hc) rfl rfl)) <| og rfl rfl rfl (fun hc => (p_fa tf31x7 rfl)) <| og rfl rfl rfl (fun hc => (p_load (v := aS) tv9 (gx rfl hc) rfl rfl)) <| og rfl rfl rfl (fun hc => (p_seql (gx rfl hc) (gx rfl hc))) <| o_p rfl (p_picky rfl rfl rfl (fun e => keq e)) <| mB rfl <| og rfl rfl rfl (fun hc => (p_fa tf31x8 rfl)) ?_
 refine og rfl rfl rfl (fun hc => (p_load (v := aS) tv9 (gx rfl hc) rfl rfl)) <| og rfl rfl rfl (fun hc => (p_fa tf31x8 rfl)) <| og rfl rfl rfl (fun hc => (p_load (v := aS) tv9 (gx rfl hc) rfl rfl)) <| og rfl rfl rfl (fun hc => (p_seql (gx rfl hc) (gx rfl hc))) <| o_p rfl (p_picky rfl rfl rfl (fun e => keq e)) <| mB rfl <| og rfl rfl rfl (fun hc => (p_fa tf31x9 rfl)) <| og rfl rfl rfl (fun hc => (p_loads (us := aIISLL) tv25 (gx rfl hc) rfl rfl rfl)) <| og rfl rfl rfl (fun hc => (p_fa tf31x9 rfl)) <| og rfl rfl rfl (fun hc => (p_loads (us := aIISLL) tv25 (gx rfl hc) rfl rfl rfl)) ?_
 obtain ⟨x1, hx1, h2⟩ := bind_s h
 refine o_g rfl rfl (fun hc => ov_call (v := aB) rfl (w_ref02xSame (gd_some hx1 hc)) ⟨(le_gv (gx rfl hc) (le_aggc rfl ⟨rfl, rfl, rfl, rfl, rfl, trivial⟩)), (le_gv (gx rfl hc) (le_aggc rfl ⟨rfl, rfl, rfl, rfl, rfl, trivial⟩)), trivial⟩ (ok_eq (by repeat (first | exact ok_nil | refine ok_cons rfl ?_ | refine ok_cons (dgv rfl) ?_ | refine ok_cons dar ?_))) rfl rfl) ?_
 refine o_p rfl (p_picky rfl rfl rfl (fun e => keq e)) <| mB rfl <| og rfl rfl rfl (fun hc => (p_fa tf31x10 rfl)) <| og rfl rfl rfl (fun hc => (p_loads (us := aSIIIIIIIIL) tv27 (gx rfl hc) rfl rfl rfl)) <| og rfl rfl rfl (fun hc => (p_fa tf31x10 rfl)) <| og rfl rfl rfl (fun hc => (p_loads (us := aSIIIIIIIIL) tv27 (gx rfl hc) rfl rfl rfl)) ?_
 obtain ⟨x3, hx3, h4⟩ := bind_s h2
 refine o_g rfl rfl (fun hc => ov_call (v := aB) rfl (w_ref20xSamePolicy (gd_some hx3 hc)) ⟨(le_gv (gx rfl hc) (le_aggc rfl ⟨rfl, rfl, rfl, rfl, rfl, rfl, rfl, rfl, rfl, rfl, trivial⟩)), (le_gv (gx rfl hc) (le_aggc rfl ⟨rfl, rfl, rfl, rfl, rfl, rfl, rfl, rfl, rfl, rfl, trivial⟩)), trivial⟩ (ok_eq (by repeat (first | exact ok_nil | refine ok_cons rfl ?_ | refine ok_cons (dgv rfl) ?_ | refine ok_cons dar ?_))) rfl rfl) ?_
 refine o_p rfl (p_picky rfl rfl rfl (fun e => keq e)) <| sB rfl <| o_ek (fr' := [(4, aB)]) rfl rfl <| w_ret ?_
 obtain rfl := sy h4
 exact e_ret (rs' := [.tmp 4]) rfl <| r_tmp (v := aB) rfl <| r_nil <| fin_gen [] rfl rfl rfl lr st_nil
noncomputable def law22xEventSame (p0a : ApiEvent) (p1b : ApiEvent) : Option Bool :=
 (law22xSmall p0a).bind fun (x1 : Bool) => (gd ((!x1) == false) (law22xSmall p1b)).bind fun (x3 : Bool) => (gd ((cond (!x1) true (!x3)) == false) (event_Same p0a p1b)).bind fun (x5 : Bool) => (gd ((cond (!x1) true (!x3)) == false) (ref22xSame p0a p1b)).bind fun (x7 : Bool) => (gd (((cond (!x1) true (!x3)) == false) && ((x5 == x7) == true)) (event_Same p0a p0a)).bind fun (x9 : Bool) => (gd (((cond (!x1) true (!x3)) == false) && ((cond (x5 == x7) x9 false) == true)) (law22xlives)).bind fun (x11 : Bool) => some (cond (cond (!x1) true (!x3)) true (cond (cond (x5 == x7) x9 false) x11 false))
theorem w_law22xEventSame {p0a : ApiEvent} {p1b : ApiEvent} {res : Bool} (h : law22xEventSame p0a p1b = some res) : ACalls Tryd.prog 4 [.agg (AV.cs (rowApiEvent p0a)), .agg (AV.cs (rowApiEvent p1b))] [] (.c (.bool res)) [] := by
 unfold law22xEventSame at h
 refine acalls (fn := Tryd.f4) [0, 1, 2, 3, 4] (by kernel_rfl) Tryd.func4 rfl (by kernel_rfl) (by kernel_rfl) <| w_sr <| o_box (v := .agg aIIIIIIISSIISLLSIIIIIIIIL) (n := 0) (cs := aIIIIIIISSIISLLSIIIIIIIIL) (σ' := [aIIIIIIISSIISLLSIIIIIIIIL]) rfl rfl rfl rfl rfl <| o_box (v := .agg aIIIIIIISSIISLLSIIIIIIIIL) (n := 1) (cs := aIIIIIIISSIISLLSIIIIIIIIL) (σ' := [aIIIIIIISSIISLLSIIIIIIIIL, aIIIIIIISSIISLLSIIIIIIIIL]) rfl rfl rfl rfl rfl <| sB rfl <| o_ek (fr' := [(2, .box 0 0), (3, .box 1 0)]) rfl rfl <| w_seqw <| w_planT [.q 0, .q 1, .q 2, .q 3, .q 4, .q 5, .q 6, .q 7, .q 8, .q 9, .q 10, .q 11, .q 12, .q 13, .q 14, .q 15, .q 16, .q 17, .q 18, .q 19, .q 20, .q 21, .q 22, .q 23, .q 24, .n 25 []] [(some 5, [2]), (some 6, [5]), (some 7, [6]), (some 8, [7]), (some 9, [3, 8]), (some 10, [9, 8]), (some 11, [10, 8]), (some 12, [8, 11]), (some 13, [12]), (some 14, [2, 13]), (some 15, [3, 13]), (some 16, [14, 15, 13]), (some 17, [2, 13]), (some 18, [3, 13]), (some 19, [17, 18, 13]), (some 20, [16, 19, 13]), (some 21, [20, 13]), (some 22, [2, 21]), (some 23, [2, 21]), (some 24, [22, 23, 21]), (some 25, [21, 24, 13]), (some 26, [25, 13]), (some 27, [26]), (some 28, [26, 27, 13]), (some 29, [13, 28]), (some 4, [29])] [0, 1, 3, 7, 15, 31, 63, 127, 255, 511, 511, 2047, 511, 511, 16383, 32767, 65535, 131071, 131071, 524287, 1048575, 2097151, 4194303, 8388607, 16777215, 33554431] (by kernel_rfl) <| dq rfl rfl (p_loads (us := aIIIIIIISSIISLLSIIIIIIIIL) tv31 rfl rfl rfl rfl) ?_
 obtain ⟨x1, hx1, h2⟩ := bind_s h
 refine d_q rfl (qv_call (v := aB) rfl (w_law22xSmall hx1) ⟨(le_aggc rfl ⟨rfl, rfl, rfl, rfl, rfl, rfl, rfl, rfl, rfl, rfl, rfl, rfl, rfl, rfl, rfl, rfl, rfl, rfl, rfl, rfl, rfl, rfl, rfl, rfl, trivial⟩), trivial⟩ rfl) <| dq rfl rfl (p_not rfl) <| dq rfl rfl (p_move (v := aB) rfl) <| d_g rfl rfl rfl (fun hc => qv_p rfl (p_loads (us := aIIIIIIISSIISLLSIIIIIIIIL) tv31 rfl rfl rfl rfl)) ?_
 obtain ⟨x3, hx3, h4⟩ := bind_s h2
 refine d_g rfl rfl rfl (fun hc => qv_call (v := aB) rfl (w_law22xSmall (gd_some hx3 hc)) ⟨(le_gv (gx rfl hc) (le_aggc rfl ⟨rfl, rfl, rfl, rfl, rfl, rfl, rfl, rfl, rfl, rfl, rfl, rfl, rfl, rfl, rfl, rfl, rfl, rfl, rfl, rfl, rfl, rfl, rfl, rfl, trivial⟩)), trivial⟩ rfl) <| d_g rfl rfl rfl (fun hc => qv_p rfl (p_not (gx rfl hc))) <| dq rfl rfl (p_pickz rfl rfl rfl (fun e => keq e)) <| dq rfl rfl (p_move (v := aB) rfl) <| d_g rfl rfl rfl (fun hc => qv_p rfl (p_loads (us := aIIIIIIISSIISLLSIIIIIIIIL) tv31 rfl rfl rfl rfl)) <| d_g rfl rfl rfl (fun hc => qv_p rfl (p_loads (us := aIIIIIIISSIISLLSIIIIIIIIL) tv31 rfl rfl rfl rfl)) ?_
 obtain ⟨x5, hx5, h6⟩ := bind_s h4
 refine d_g rfl rfl rfl (fun hc => qv_call (v := aB) rfl (w_event_Same (gd_some hx5 hc)) ⟨(le_gv (gx rfl hc) (le_aggc rfl ⟨rfl, rfl, rfl, rfl, rfl, rfl, rfl, rfl, rfl, rfl, rfl, rfl, rfl, rfl, rfl, rfl, rfl, rfl, rfl, rfl, rfl, rfl, rfl, rfl, trivial⟩)), (le_gv (gx rfl hc) (le_aggc rfl ⟨rfl, rfl, rfl, rfl, rfl, rfl, rfl, rfl, rfl, rfl, rfl, rfl, rfl, rfl, rfl, rfl, rfl, rfl, rfl, rfl, rfl, rfl, rfl, rfl, trivial⟩)), trivial⟩ rfl) <| d_g rfl rfl rfl (fun hc => qv_p rfl (p_loads (us := aIIIIIIISSIISLLSIIIIIIIIL) tv31 rfl rfl rfl rfl)) <| d_g rfl rfl rfl (fun hc => qv_p rfl (p_loads (us := aIIIIIIISSIISLLSIIIIIIIIL) tv31 rfl rfl rfl rfl)) ?_
 obtain ⟨x7, hx7, h8⟩ := bind_s h6
 refine d_g rfl rfl rfl (fun hc => qv_call (v := aB) rfl (w_ref22xSame (gd_some hx7 hc)) ⟨(le_gv (gx rfl hc) (le_aggc rfl ⟨rfl, rfl, rfl, rfl, rfl, rfl, rfl, rfl, rfl, rfl, rfl, rfl, rfl, rfl, rfl, rfl, rfl, rfl, rfl, rfl, rfl, rfl, rfl, rfl, trivial⟩)), (le_gv (gx rfl hc) (le_aggc rfl ⟨rfl, rfl, rfl, rfl, rfl, rfl, rfl, rfl, rfl, rfl, rfl, rfl, rfl, rfl, rfl, rfl, rfl, rfl, rfl, rfl, rfl, rfl, rfl, rfl, trivial⟩)), trivial⟩ rfl) <| d_g rfl rfl rfl (fun hc => qv_p rfl (p_beql ti4 (gx rfl hc) (gx rfl hc))) <| d_g rfl rfl rfl (fun hc => qv_p rfl (p_move (v := aB) (gx rfl hc))) <| d_gg rfl rfl rfl (fun hc => qv_p rfl (p_loads (us := aIIIIIIISSIISLLSIIIIIIIIL) tv31 rfl rfl rfl rfl)) <| d_gg rfl rfl rfl (fun hc => qv_p rfl (p_loads (us := aIIIIIIISSIISLLSIIIIIIIIL) tv31 rfl rfl rfl rfl)) ?_
 obtain ⟨x9, hx9, h10⟩ := bind_s h8
 refine d_gg rfl rfl rfl (fun hc => qv_call (v := aB) rfl (w_event_Same (gd_some hx9 hc)) ⟨(le_gv (gx rfl hc) (le_aggc rfl ⟨rfl, rfl, rfl, rfl, rfl, rfl, rfl, rfl, rfl, rfl, rfl, rfl, rfl, rfl, rfl, rfl, rfl, rfl, rfl, rfl, rfl, rfl, rfl, rfl, trivial⟩)), (le_gv (gx rfl hc) (le_aggc rfl ⟨rfl, rfl, rfl, rfl, rfl, rfl, rfl, rfl, rfl, rfl, rfl, rfl, rfl, rfl, rfl, rfl, rfl, rfl, rfl, rfl, rfl, rfl, rfl, rfl, trivial⟩)), trivial⟩ rfl) <| d_g rfl rfl rfl (fun hc => qv_p rfl (p_picky (gx rfl hc) rfl rfl (fun e => band hc (keq e)))) <| d_g rfl rfl rfl (fun hc => qv_p rfl (p_move (v := aB) (gx rfl hc))) ?_
 obtain ⟨x11, hx11, h12⟩ := bind_s h10
 refine d_gg rfl rfl rfl (fun hc => qv_call (v := aB) rfl (w_law22xlives (gd_some hx11 hc)) trivial rfl) <| d_g rfl rfl rfl (fun hc => qv_p rfl (p_picky (gx rfl hc) rfl rfl (fun e => band hc (keq e)))) <| dq rfl rfl (p_pickz rfl rfl rfl (fun e => keq e)) <| d_n rfl ?_ rfl
 refine sB rfl <| o_rc <| ⟨rc_nil, ?_⟩
 refine d_ek (fr' := [(4, aB)]) rfl rfl <| w_ret ?_
 obtain rfl := sy h12
 exact e_ret (rs' := [.tmp 4]) rfl <| r_tmp (v := aB) rfl <| r_nil <| fin_gen [] rfl rfl rfl lr st_nil
noncomputable def ref22xnames  : Option (List (List UInt8)) :=
 some ([([83, 116, 97, 114, 116, 101, 100] : List UInt8), ([84, 97, 115, 107, 83, 99, 104, 101, 100, 117, 108, 101, 100] : List UInt8), ([84, 97, 115, 107, 83, 116, 97, 114, 116, 101, 100] : List UInt8), ([84, 97, 115, 107, 67, 111, 109, 112, 108, 101, 116, 101, 100] : List UInt8), ([84, 97, 115, 107, 70, 97, 105, 108, 101, 100] : List UInt8), ([84, 97, 115, 107, 84, 105, 109, 101, 100, 79, 117, 116] : List UInt8), ([65, 99, 116, 105, 118, 105, 116, 121, 83, 99, 104, 101, 100, 117, 108, 101, 100] : List UInt8), ([65, 99, 116, 105, 118, 105, 116, 121, 83, 116, 97, 114, 116, 101, 100] : List UInt8), ([65, 99, 116, 105, 118, 105, 116, 121, 67, 111, 109, 112, 108, 101, 116, 101, 100] : List UInt8), ([65, 99, 116, 105, 118, 105, 116, 121, 70, 97, 105, 108, 101, 100] : List UInt8), ([65, 99, 116, 105, 118, 105, 116, 121, 84, 105, 109, 101, 100, 79, 117, 116] : List UInt8), ([65, 99, 116, 105, 118, 105, 116, 121, 67, 97, 110, 99, 101, 108, 65, 115, 107, 101, 100] : List UInt8), ([65, 99, 116, 105, 118, 105, 116, 121, 67, 97, 110, 99, 101, 108, 101, 100] : List UInt8), ([84, 105, 109, 101, 114, 83, 116, 97, 114, 116, 101, 100] : List UInt8), ([84, 105, 109, 101, 114, 70, 105, 114, 101, 100] : List UInt8), ([84, 105, 109, 101, 114, 67, 97, 110, 99, 101, 108, 101, 100] : List UInt8), ([83, 105, 103, 110, 97, 108, 101, 100] : List UInt8), ([77, 97, 114, 107, 101, 114] : List UInt8), ([67, 104, 105, 108, 100, 73, 110, 105, 116, 105, 97, 116, 101, 100] : List UInt8), ([67, 104, 105, 108, 100, 83, 116, 97, 114, 116, 101, 100] : List UInt8), ([67, 104, 105, 108, 100, 67, 111, 109, 112, 108, 101, 116, 101, 100] : List UInt8), ([67, 104, 105, 108, 100, 70, 97, 105, 108, 101, 100] : List UInt8), ([83, 101, 110, 100, 73, 110, 105, 116, 105, 97, 116, 101, 100] : List UInt8), ([83, 101, 110, 100, 68, 111, 110, 101] : List UInt8), ([83, 101, 110, 100, 70, 97, 105, 108, 101, 100] : List UInt8), ([67, 97, 110, 99, 101, 108, 65, 115, 107, 101, 100] : List UInt8), ([85, 112, 100, 97, 116, 101, 65, 99, 99, 101, 112, 116, 101, 100] : List UInt8), ([85, 112, 100, 97, 116, 101, 70, 105, 110, 105, 115, 104, 101, 100] : List UInt8), ([65, 116, 116, 114, 115] : List UInt8), ([67, 111, 109, 112, 108, 101, 116, 101, 100] : List UInt8), ([70, 97, 105, 108, 101, 100] : List UInt8), ([67, 97, 110, 99, 101, 108, 101, 100] : List UInt8), ([84, 101, 114, 109, 105, 110, 97, 116, 101, 100] : List UInt8), ([84, 105, 109, 101, 100, 79, 117, 116] : List UInt8), ([67, 111, 110, 116, 105, 110, 117, 101, 100] : List UInt8)] : List (List UInt8))
theorem w_ref22xnames  {res : (List (List UInt8))} (h : ref22xnames = some res) : ACalls Tryd.prog 53 [] [] (AV.os 0 1 rowS res) [] := by
 unfold ref22xnames at h
 refine acalls (fn := Tryd.f53) [0] (by kernel_rfl) Tryd.func53 rfl (by kernel_rfl) (by kernel_rfl) <| w_sr <| sV (v := AV.nil) rfl <| o_ek (fr' := []) rfl rfl <| w_sr <| o_rows (row := rowS) (xs := ([([83, 116, 97, 114, 116, 101, 100] : List UInt8), ([84, 97, 115, 107, 83, 99, 104, 101, 100, 117, 108, 101, 100] : List UInt8), ([84, 97, 115, 107, 83, 116, 97, 114, 116, 101, 100] : List UInt8), ([84, 97, 115, 107, 67, 111, 109, 112, 108, 101, 116, 101, 100] : List UInt8), ([84, 97, 115, 107, 70, 97, 105, 108, 101, 100] : List UInt8), ([84, 97, 115, 107, 84, 105, 109, 101, 100, 79, 117, 116] : List UInt8), ([65, 99, 116, 105, 118, 105, 116, 121, 83, 99, 104, 101, 100, 117, 108, 101, 100] : List UInt8), ([65, 99, 116, 105, 118, 105, 116, 121, 83, 116, 97, 114, 116, 101, 100] : List UInt8), ([65, 99, 116, 105, 118, 105, 116, 121, 67, 111, 109, 112, 108, 101, 116, 101, 100] : List UInt8), ([65, 99, 116, 105, 118, 105, 116, 121, 70, 97, 105, 108, 101, 100] : List UInt8), ([65, 99, 116, 105, 118, 105, 116, 121, 84, 105, 109, 101, 100, 79, 117, 116] : List UInt8), ([65, 99, 116, 105, 118, 105, 116, 121, 67, 97, 110, 99, 101, 108, 65, 115, 107, 101, 100] : List UInt8), ([65, 99, 116, 105, 118, 105, 116, 121, 67, 97, 110, 99, 101, 108, 101, 100] : List UInt8), ([84, 105, 109, 101, 114, 83, 116, 97, 114, 116, 101, 100] : List UInt8), ([84, 105, 109, 101, 114, 70, 105, 114, 101, 100] : List UInt8), ([84, 105, 109, 101, 114, 67, 97, 110, 99, 101, 108, 101, 100] : List UInt8), ([83, 105, 103, 110, 97, 108, 101, 100] : List UInt8), ([77, 97, 114, 107, 101, 114] : List UInt8), ([67, 104, 105, 108, 100, 73, 110, 105, 116, 105, 97, 116, 101, 100] : List UInt8), ([67, 104, 105, 108, 100, 83, 116, 97, 114, 116, 101, 100] : List UInt8), ([67, 104, 105, 108, 100, 67, 111, 109, 112, 108, 101, 116, 101, 100] : List UInt8), ([67, 104, 105, 108, 100, 70, 97, 105, 108, 101, 100] : List UInt8), ([83, 101, 110, 100, 73, 110, 105, 116, 105, 97, 116, 101, 100] : List UInt8), ([83, 101, 110, 100, 68, 111, 110, 101] : List UInt8), ([83, 101, 110, 100, 70, 97, 105, 108, 101, 100] : List UInt8), ([67, 97, 110, 99, 101, 108, 65, 115, 107, 101, 100] : List UInt8), ([85, 112, 100, 97, 116, 101, 65, 99, 99, 101, 112, 116, 101, 100] : List UInt8), ([85, 112, 100, 97, 116, 101, 70, 105, 110, 105, 115, 104, 101, 100] : List UInt8), ([65, 116, 116, 114, 115] : List UInt8), ([67, 111, 109, 112, 108, 101, 116, 101, 100] : List UInt8), ([70, 97, 105, 108, 101, 100] : List UInt8), ([67, 97, 110, 99, 101, 108, 101, 100] : List UInt8), ([84, 101, 114, 109, 105, 110, 97, 116, 101, 100] : List UInt8), ([84, 105, 109, 101, 100, 79, 117, 116] : List UInt8), ([67, 111, 110, 116, 105, 110, 117, 101, 100] : List UInt8)] : List (List UInt8))) (rows := [[_], [_], [_], [_], [_], [_], [_], [_], [_], [_], [_], [_], [_], [_], [_], [_], [_], [_], [_], [_], [_], [_], [_], [_], [_], [_], [_], [_], [_], [_], [_], [_], [_], [_], [_]]) (σ' := []) [0] ts23 rfl rfl rfl (arow_cons rfl (arow_cons rfl (arow_cons rfl (arow_cons rfl (arow_cons rfl (arow_cons rfl (arow_cons rfl (arow_cons rfl (arow_cons rfl (arow_cons rfl (arow_cons rfl (arow_cons rfl (arow_cons rfl (arow_cons rfl (arow_cons rfl (arow_cons rfl (arow_cons rfl (arow_cons rfl (arow_cons rfl (arow_cons rfl (arow_cons rfl (arow_cons rfl (arow_cons rfl (arow_cons rfl (arow_cons rfl (arow_cons rfl (arow_cons rfl (arow_cons rfl (arow_cons rfl (arow_cons rfl (arow_cons rfl (arow_cons rfl (arow_cons rfl (arow_cons rfl (arow_cons rfl arow_nil))))))))))))))))))))))))))))))))))) rfl rfl <| sV (v := aO) rfl <| o_ek (fr' := [(0, aO)]) rfl rfl <| w_ret ?_
 obtain rfl := sy h
 exact e_ret (rs' := [.tmp 0]) rfl <| r_tmp (v := aO) rfl <| r_nil <| fin_gen [16] rfl rfl rfl lr st_nil
noncomputable def ref22xName (p0kind : Int) : Option (List UInt8) :=
 cond (cond (decide (p0kind < (1 : Int))) true (decide ((35 : Int) < p0kind))) (some ([] : List UInt8)) ((ref22xnames).bind fun (x3 : (List (List UInt8))) => (idx x3 (IntKind.wrap .i64 (p0kind - (1 : Int)))).bind fun (x5 : (List UInt8)) => some x5)
theorem w_ref22xName {p0kind : Int} {res : (List UInt8)} (h : ref22xName p0kind = some res) : ACalls Tryd.prog 20 [.c (.int .i64 p0kind)] [] (.c (.str res)) [] := by
 unfold ref22xName at h
 refine acalls (fn := Tryd.f20) [0, 2, 8] (by kernel_rfl) Tryd.func20 rfl (by kernel_rfl) (by kernel_rfl) <| w_sr <| sS rfl <| o_ek (fr' := [(0, aI)]) rfl rfl <| w_seqw <| w_sr <| mI rfl <| o_p rfl (p_lss rfl rfl) <| mB rfl <| og rfl rfl rfl (fun hc => (p_move (v := aI) rfl)) <| og rfl rfl rfl (fun hc => (p_gtr (gx rfl hc) rfl)) ?_
 refine o_p rfl (p_pickz rfl rfl rfl (fun e => keq e)) <| o_ek (fr' := [(0, aI), (8, aB)]) rfl rfl <| w_ch h rfl (fun hb1 h1 => ?_) (fun hb1 h1 => ?_)
 ·
  refine w_sr <| sS rfl <| o_ek (fr' := [(2, aS)]) rfl rfl <| w_ret <| e_seq_r ?_
  obtain rfl := sy h1
  exact e_ret (rs' := [.tmp 2]) rfl <| r_tmp (v := aS) rfl <| r_nil <| fin_gen [] rfl rfl rfl lr st_nil
 ·
  refine w_skip <| e_kw <| w_seqw <| w_region ?_
  obtain ⟨x3, hx3, h4⟩ := bind_s h1
  refine o_v (ov_call (v := aO) rfl (w_ref22xnames hx3) trivial rfl rfl rfl) <| mI rfl <| o_p rfl (p_sub rfl rfl) ?_
  obtain ⟨x5, hx5, h6⟩ := bind_s h4
  refine o_p rfl (p_ia (cs := [PV.str _]) ts23 (isl_o rfl) rfl hx5 rfl) <| o_p rfl (p_loade (p := PV.str _) tv9 rfl rfl) <| sS rfl <| o_ek (fr' := [(2, aS)]) rfl rfl <| w_ret ?_
  obtain rfl := sy h6
  exact e_ret (rs' := [.tmp 2]) rfl <| r_tmp (v := aS) rfl <| r_nil <| fin_gen [] rfl rfl rfl lr st_nil
noncomputable def ref22xByName_l1 (p0name : (List UInt8)) (s4 : Int) : Option (Step Int (Fl (Int × Bool) Unit)) :=
 cond (decide (s4 ≤ (35 : Int))) ((ref22xName s4).bind fun (x6 : (List UInt8)) => cond (decide (x6 = p0name)) (some (Step.out (Fl.done (s4, true)))) (some (Step.next (IntKind.wrap .i64 (s4 + (1 : Int)))))) (some (Step.out (Fl.go ())))
noncomputable def ref22xByName (p0name : (List UInt8)) : Option (Int × Bool) :=
 ((loopO (ref22xByName_l1 p0name) ((1 : Int))) : Option (Fl (Int × Bool) Unit)).bind fun (x1 : (Fl (Int × Bool) Unit)) => Fl.next x1 (fun (j3 : Unit) => (some ((0 : Int), false)))
theorem w_ref22xByName {p0name : (List UInt8)} {res : (Int × Bool)} (h : ref22xByName p0name = some res) : ACalls Tryd.prog 16 [.c (.str p0name)] [] (.tup [.c (.int .i64 res.1), .c (.bool res.2)]) [] := by
 unfold ref22xByName at h
 refine acalls (fn := Tryd.f16) [0, 2, 3, 4, 6, 12] (by kernel_rfl) Tryd.func16 rfl (by kernel_rfl) (by kernel_rfl) <| w_sr <| sI rfl <| sB rfl <| o_ek (fr' := [(0, aS)]) rfl rfl <| w_seqw <| w_sr <| sI rfl <| o_ek (fr' := [(0, aS), (4, aI)]) rfl rfl ?_
 obtain ⟨x1, hx1, h2⟩ := bind_s h
 refine w_jtail cl_kw (fun j3 => x1 = Fl.go j3) (fun (j3 : Unit) => ([] : Fr)) (fun (j3 : Unit) => ([] : St)) ?_ ?_
 ·
  refine w_block <| w_loopo _ (fun (s4 : Int) => ([(0, .c (.str p0name)), (4, .c (.int .i64 s4))] : Fr)) (fun (s4 : Int) => ([] : St)) hx1 (w_weak [] 0 rfl rfl rfl rfl ⟨lr, lr, trivial⟩ st_nil) ?_
  intro s4 st4 hs4 ho4
  unfold ref22xByName_l1 at hs4
  refine w_seqw <| w_sr <| mI rfl <| o_p rfl (p_leq rfl rfl) <| o_ek (fr' := [(0, aS), (4, aI), (6, aB)]) rfl rfl <| w_ch hs4 rfl (fun hb5 h5 => ?_) (fun hb5 h5 => ?_)
  ·
   refine w_skip <| e_kw <| w_seqw <| w_block <| w_sr <| mI rfl ?_
   obtain ⟨x6, hx6, h7⟩ := bind_s h5
   refine o_v (ov_call (v := aS) rfl (w_ref22xName hx6) ⟨lr, trivial⟩ rfl rfl rfl) <| mS rfl <| o_p rfl (p_seql rfl rfl) <| o_ek (fr' := [(0, aS), (4, aI), (12, aB)]) rfl rfl <| w_ch h7 rfl (fun hb8 h8 => ?_) (fun hb8 h8 => ?_)
   ·
    refine w_sr <| mI rfl <| sI rfl <| sB rfl <| o_ek (fr' := [(2, aI), (3, aB)]) rfl rfl <| w_ret <| e_blk_r <| e_seq_r <| e_seq_r <| e_blk_r <| e_seq_r <| e_seq_r ?_
    have h9 := un_out h8 ho4
    have h10 := un_done h9 h2
    obtain rfl := sy h10
    exact e_ret (rs' := [.tmp 2, .tmp 3]) rfl <| r_tmp (v := aI) rfl <| r_tmp (v := aB) rfl <| r_nil <| fin_gen [] rfl rfl rfl (le_tupp rfl ⟨lr, lr, trivial⟩) st_nil
   ·
    exact w_skip <| e_blk_n <| e_kw <| w_region <| mI rfl <| o_p rfl (p_add rfl rfl) <| sI rfl <| o_end (fr' := [(0, aS), (4, aI), (12, aB)]) rfl <| e_l _ (sy h8) (w_weak [] 0 rfl rfl rfl rfl ⟨lr, lr, trivial⟩ st_nil)
  ·
   refine w_exit <| e_seq_x <| e_seq_x <| e_blk_h ?_
   have h12 := un_out h5 ho4
   exact e_j _ (sy h12) (w_weak [] 0 rfl rfl rfl rfl trivial st_nil)
 ·
  intro j3 hj13
  have h13 := un_go hj13 h2
  refine e_kw <| w_sr <| sI rfl <| sB rfl <| o_ek (fr' := [(2, aI), (3, aB)]) rfl rfl <| w_ret ?_
  obtain rfl := sy h13
  exact e_ret (rs' := [.tmp 2, .tmp 3]) rfl <| r_tmp (v := aI) rfl <| r_tmp (v := aB) rfl <| r_nil <| fin_gen [] rfl rfl rfl (le_tupp rfl ⟨lr, lr, trivial⟩) st_nil
noncomputable def ref22xStatus (p0kind : Int) : Option (Int × Bool) :=
 cond (decide (p0kind = (30 : Int))) (some ((1 : Int), true)) (cond (decide (p0kind = (31 : Int))) (some ((2 : Int), true)) (cond (decide (p0kind = (32 : Int))) (some ((3 : Int), true)) (cond (decide (p0kind = (33 : Int))) (some ((4 : Int), true)) (cond (decide (p0kind = (34 : Int))) (some ((5 : Int), true)) (cond (decide (p0kind = (35 : Int))) (some ((6 : Int), true)) (some ((0 : Int), false)))))))
theorem w_ref22xStatus {p0kind : Int} {res : (Int × Bool)} (h : ref22xStatus p0kind = some res) : ACalls Tryd.prog 18 [.c (.int .i64 p0kind)] [] (.tup [.c (.int .i64 res.1), .c (.bool res.2)]) [] := by
 unfold ref22xStatus at h
 refine acalls (fn := Tryd.f18) [0, 2, 3, 4, 5, 7, 9, 11, 13, 15] (by kernel_rfl) Tryd.func18 rfl (by kernel_rfl) (by kernel_rfl) <| w_sr <| sI rfl <| sB rfl <| o_ek (fr' := [(0, aI)]) rfl rfl <| w_seqw <| w_sr <| mI rfl <| o_ek (fr' := [(4, aI)]) rfl rfl <| w_block <| w_seqw ?_
 refine w_region <| o_p rfl (p_eql rfl rfl) <| sB rfl <| o_ek (fr' := [(4, aI), (5, aB)]) rfl rfl <| w_ch h rfl (fun hb1 h1 => ?_) (fun hb1 h1 => ?_)
 ·
  refine w_sr <| sI rfl <| sB rfl <| o_ek (fr' := [(2, aI), (3, aB)]) rfl rfl <| w_ret <| e_blk_r <| e_seq_r ?_
  obtain rfl := sy h1
  exact e_ret (rs' := [.tmp 2, .tmp 3]) rfl <| r_tmp (v := aI) rfl <| r_tmp (v := aB) rfl <| r_nil <| fin_gen [] rfl rfl rfl (le_tupp rfl ⟨lr, lr, trivial⟩) st_nil
 ·
  refine w_sr <| o_p rfl (p_eql rfl rfl) <| sB rfl <| o_ek (fr' := [(4, aI), (7, aB)]) rfl rfl <| w_ch h1 rfl (fun hb3 h3 => ?_) (fun hb3 h3 => ?_)
  ·
   refine w_sr <| sI rfl <| sB rfl <| o_ek (fr' := [(2, aI), (3, aB)]) rfl rfl <| w_ret <| e_blk_r <| e_seq_r ?_
   obtain rfl := sy h3
   exact e_ret (rs' := [.tmp 2, .tmp 3]) rfl <| r_tmp (v := aI) rfl <| r_tmp (v := aB) rfl <| r_nil <| fin_gen [] rfl rfl rfl (le_tupp rfl ⟨lr, lr, trivial⟩) st_nil
  ·
   refine w_sr <| o_p rfl (p_eql rfl rfl) <| sB rfl <| o_ek (fr' := [(4, aI), (9, aB)]) rfl rfl <| w_ch h3 rfl (fun hb5 h5 => ?_) (fun hb5 h5 => ?_)
   ·
    refine w_sr <| sI rfl <| sB rfl <| o_ek (fr' := [(2, aI), (3, aB)]) rfl rfl <| w_ret <| e_blk_r <| e_seq_r ?_
    obtain rfl := sy h5
    exact e_ret (rs' := [.tmp 2, .tmp 3]) rfl <| r_tmp (v := aI) rfl <| r_tmp (v := aB) rfl <| r_nil <| fin_gen [] rfl rfl rfl (le_tupp rfl ⟨lr, lr, trivial⟩) st_nil
   ·
    refine w_sr <| o_p rfl (p_eql rfl rfl) <| sB rfl <| o_ek (fr' := [(4, aI), (11, aB)]) rfl rfl <| w_ch h5 rfl (fun hb7 h7 => ?_) (fun hb7 h7 => ?_)
    ·
     refine w_sr <| sI rfl <| sB rfl <| o_ek (fr' := [(2, aI), (3, aB)]) rfl rfl <| w_ret <| e_blk_r <| e_seq_r ?_
     obtain rfl := sy h7
     exact e_ret (rs' := [.tmp 2, .tmp 3]) rfl <| r_tmp (v := aI) rfl <| r_tmp (v := aB) rfl <| r_nil <| fin_gen [] rfl rfl rfl (le_tupp rfl ⟨lr, lr, trivial⟩) st_nil
    ·
     refine w_sr <| o_p rfl (p_eql rfl rfl) <| sB rfl <| o_ek (fr' := [(4, aI), (13, aB)]) rfl rfl <| w_ch h7 rfl (fun hb9 h9 => ?_) (fun hb9 h9 => ?_)
     ·
      refine w_sr <| sI rfl <| sB rfl <| o_ek (fr' := [(2, aI), (3, aB)]) rfl rfl <| w_ret <| e_blk_r <| e_seq_r ?_
      obtain rfl := sy h9
      exact e_ret (rs' := [.tmp 2, .tmp 3]) rfl <| r_tmp (v := aI) rfl <| r_tmp (v := aB) rfl <| r_nil <| fin_gen [] rfl rfl rfl (le_tupp rfl ⟨lr, lr, trivial⟩) st_nil
     ·
      refine w_sr <| o_p rfl (p_eql rfl rfl) <| sB rfl <| o_ek (fr' := [(15, aB)]) rfl rfl <| w_ch h9 rfl (fun hb11 h11 => ?_) (fun hb11 h11 => ?_)
      ·
       refine w_sr <| sI rfl <| sB rfl <| o_ek (fr' := [(2, aI), (3, aB)]) rfl rfl <| w_ret <| e_blk_r <| e_seq_r ?_
       obtain rfl := sy h11
       exact e_ret (rs' := [.tmp 2, .tmp 3]) rfl <| r_tmp (v := aI) rfl <| r_tmp (v := aB) rfl <| r_nil <| fin_gen [] rfl rfl rfl (le_tupp rfl ⟨lr, lr, trivial⟩) st_nil
      ·
       refine w_skip <| e_blk_n <| e_kw <| w_sr <| sI rfl <| sB rfl <| o_ek (fr' := [(2, aI), (3, aB)]) rfl rfl <| w_ret ?_
       obtain rfl := sy h11
       exact e_ret (rs' := [.tmp 2, .tmp 3]) rfl <| r_tmp (v := aI) rfl <| r_tmp (v := aB) rfl <| r_nil <| fin_gen [] rfl rfl rfl (le_tupp rfl ⟨lr, lr, trivial⟩) st_nil
noncomputable def event_Closes (p0kind : Int) : Option Bool :=
 (event_Status p0kind).bind fun (x1 : (Int × Bool)) => some x1.2
theorem w_event_Closes {p0kind : Int} {res : Bool} (h : event_Closes p0kind = some res) : ACalls Tryd.prog 21 [.c (.int .i64 p0kind)] [] (.c (.bool res)) [] := by
 unfold event_Closes at h
 refine acalls (fn := Tryd.f21) [0, 2, 4] (by kernel_rfl) Tryd.func21 rfl (by kernel_rfl) (by kernel_rfl) <| w_sr <| sB rfl <| o_ek (fr' := [(0, aI)]) rfl rfl <| w_sr <| mI rfl ?_
 obtain ⟨x1, hx1, h2⟩ := bind_s h
 refine o_v (ov_call (v := .tup [aI, aB]) rfl (w_event_Status hx1) ⟨lr, trivial⟩ rfl rfl rfl) <| mV (v := .tup [aI, aB]) rfl <| o_p rfl (p_ex (v := aI) rfl rfl) <| o_p rfl (p_ex (v := aB) rfl rfl) <| sI rfl <| sB rfl <| o_ek (fr' := [(4, aB)]) rfl rfl <| w_sr <| mB rfl <| sB rfl <| o_ek (fr' := [(2, aB)]) rfl rfl <| w_ret ?_
 obtain rfl := sy h2
 exact e_ret (rs' := [.tmp 2]) rfl <| r_tmp (v := aB) rfl <| r_nil <| fin_gen [] rfl rfl rfl lr st_nil
noncomputable def event_IsCommand (p0kind : Int) : Option Bool :=
 (event_commandOf p0kind).bind fun (x1 : Int) => some (!decide (x1 = (0 : Int)))
theorem w_event_IsCommand {p0kind : Int} {res : Bool} (h : event_IsCommand p0kind = some res) : ACalls Tryd.prog 22 [.c (.int .i64 p0kind)] [] (.c (.bool res)) [] := by
 unfold event_IsCommand at h
 refine acalls (fn := Tryd.f22) [0, 2] (by kernel_rfl) Tryd.func22 rfl (by kernel_rfl) (by kernel_rfl) <| w_sr <| sB rfl <| o_ek (fr' := [(0, aI)]) rfl rfl <| w_sr <| mI rfl ?_
 obtain ⟨x1, hx1, h2⟩ := bind_s h
 refine o_v (ov_call (v := aI) rfl (w_event_commandOf hx1) ⟨lr, trivial⟩ rfl rfl rfl) <| o_p rfl (p_neq rfl rfl) <| sB rfl <| o_ek (fr' := [(2, aB)]) rfl rfl <| w_ret ?_
 obtain rfl := sy h2
 exact e_ret (rs' := [.tmp 2]) rfl <| r_tmp (v := aB) rfl <| r_nil <| fin_gen [] rfl rfl rfl lr st_nil
noncomputable def ref22xcommands  : Option (List Int) :=
 some ([(7 : Int), (12 : Int), (14 : Int), (16 : Int), (19 : Int), (23 : Int), (18 : Int), (27 : Int), (28 : Int), (29 : Int), (30 : Int), (31 : Int), (32 : Int), (35 : Int)] : List Int)
theorem w_ref22xcommands  {res : (List Int)} (h : ref22xcommands = some res) : ACalls Tryd.prog 77 [] [] (AV.os 0 1 (rowI .i64) res) [] := by
 unfold ref22xcommands at h
 refine acalls (fn := Tryd.f77) [0] (by kernel_rfl) Tryd.func77 rfl (by kernel_rfl) (by kernel_rfl) <| w_sr <| sV (v := AV.nil) rfl <| o_ek (fr' := []) rfl rfl <| w_sr <| o_rows (row := (rowI .i64)) (xs := ([(7 : Int), (12 : Int), (14 : Int), (16 : Int), (19 : Int), (23 : Int), (18 : Int), (27 : Int), (28 : Int), (29 : Int), (30 : Int), (31 : Int), (32 : Int), (35 : Int)] : List Int)) (rows := [[_], [_], [_], [_], [_], [_], [_], [_], [_], [_], [_], [_], [_], [_]]) (σ' := []) [0] ts96 rfl rfl rfl (arow_cons rfl (arow_cons rfl (arow_cons rfl (arow_cons rfl (arow_cons rfl (arow_cons rfl (arow_cons rfl (arow_cons rfl (arow_cons rfl (arow_cons rfl (arow_cons rfl (arow_cons rfl (arow_cons rfl (arow_cons rfl arow_nil)))))))))))))) rfl rfl <| sV (v := aO) rfl <| o_ek (fr' := [(0, aO)]) rfl rfl <| w_ret ?_
 obtain rfl := sy h
 exact e_ret (rs' := [.tmp 0]) rfl <| r_tmp (v := aO) rfl <| r_nil <| fin_gen [16] rfl rfl rfl lr st_nil
noncomputable def ref22xcommand_l1 (x1 : (List Int)) (p0kind : Int) (s6 : Int) : Option (Step Int (Fl Int Unit)) :=
 cond (decide (s6 < ((x1).length : Int))) ((idx x1 s6).bind fun (x8 : Int) => cond (decide (x8 = p0kind)) (some (Step.out (Fl.done (IntKind.wrap .i64 (s6 + (1 : Int)))))) (some (Step.next (IntKind.wrap .i64 (s6 + (1 : Int)))))) (some (Step.out (Fl.go ())))
noncomputable def ref22xcommand (p0kind : Int) : Option Int :=
 (ref22xcommands).bind fun (x1 : (List Int)) => ((loopO (ref22xcommand_l1 x1 p0kind) ((0 : Int))) : Option (Fl Int Unit)).bind fun (x3 : (Fl Int Unit)) => Fl.next x3 (fun (j5 : Unit) => (some (0 : Int)))
theorem w_ref22xcommand {p0kind : Int} {res : Int} (h : ref22xcommand p0kind = some res) : ACalls Tryd.prog 54 [.c (.int .i64 p0kind)] [] (.c (.int .i64 res)) [] := by
 unfold ref22xcommand at h
 refine acalls (fn := Tryd.f54) [0, 2, 3, 4, 9, 17] (by kernel_rfl) Tryd.func54 rfl (by kernel_rfl) (by kernel_rfl) <| w_sr <| sI rfl <| o_ek (fr' := [(0, aI)]) rfl rfl <| w_seqw <| w_region ?_
 obtain ⟨x1, hx1, h2⟩ := bind_s h
 refine o_v (ov_call (v := aO) rfl (w_ref22xcommands hx1) trivial rfl rfl rfl) <| sV (v := aO) rfl <| o_ek (fr' := [(0, aI), (3, aO)]) rfl rfl <| w_seqw <| w_sr <| sI rfl <| o_ek (fr' := [(0, aI), (3, aO), (4, aI)]) rfl rfl ?_
 obtain ⟨x3, hx3, h4⟩ := bind_s h2
 refine w_jtail cl_kw (fun j5 => x3 = Fl.go j5) (fun (j5 : Unit) => ([] : Fr)) (fun (j5 : Unit) => ([] : St)) ?_ ?_
 ·
  refine w_block <| w_loopo _ (fun (s6 : Int) => ([(0, .c (.int .i64 p0kind)), (3, AV.os 0 1 (rowI .i64) x1), (4, .c (.int .i64 s6))] : Fr)) (fun (s6 : Int) => ([] : St)) hx3 (w_weak [80] 0 rfl rfl rfl rfl ⟨lr, lr, lr, trivial⟩ st_nil) ?_
  intro s6 st6 hs6 ho6
  unfold ref22xcommand_l1 at hs6
  refine w_seqw <| w_sr <| mI rfl <| mV (v := aO) rfl <| o_p rfl (p_len ti96 (isl_o rfl)) <| o_p rfl (p_lss rfl rfl) <| o_ek (fr' := [(0, aI), (3, aO), (4, aI), (9, aB)]) rfl rfl <| w_ch hs6 rfl (fun hb7 h7 => ?_) (fun hb7 h7 => ?_)
  ·
   refine w_skip <| e_kw <| w_seqw <| w_block <| w_sr <| mV (v := aO) rfl <| mI rfl ?_
   obtain ⟨x8, hx8, h9⟩ := bind_s h7
   refine o_p rfl (p_ia (cs := [PV.int _ _]) ts96 (isl_o rfl) rfl hx8 rfl) <| o_p rfl (p_loade (p := PV.int _ _) tv3 rfl rfl) <| mI rfl <| o_p rfl (p_eql rfl rfl) <| o_ek (fr' := [(0, aI), (3, aO), (4, aI), (17, aB)]) rfl rfl <| w_ch h9 rfl (fun hb10 h10 => ?_) (fun hb10 h10 => ?_)
   ·
    refine w_sr <| mI rfl <| o_p rfl (p_add rfl rfl) <| sI rfl <| o_ek (fr' := [(2, aI)]) rfl rfl <| w_ret <| e_blk_r <| e_seq_r <| e_seq_r <| e_blk_r <| e_seq_r <| e_seq_r ?_
    have h11 := un_out h10 ho6
    have h12 := un_done h11 h4
    obtain rfl := sy h12
    exact e_ret (rs' := [.tmp 2]) rfl <| r_tmp (v := aI) rfl <| r_nil <| fin_gen [] rfl rfl rfl lr st_nil
   ·
    exact w_skip <| e_blk_n <| e_kw <| w_region <| mI rfl <| o_p rfl (p_add rfl rfl) <| sI rfl <| o_end (fr' := [(0, aI), (3, aO), (4, aI), (17, aB)]) rfl <| e_l _ (sy h10) (w_weak [0] 0 rfl rfl rfl rfl ⟨lr, lr, lr, trivial⟩ st_nil)
  ·
   refine w_exit <| e_seq_x <| e_seq_x <| e_blk_h ?_
   have h14 := un_out h7 ho6
   exact e_j _ (sy h14) (w_weak [] 0 rfl rfl rfl rfl trivial st_nil)
 ·
  intro j5 hj15
  have h15 := un_go hj15 h4
  refine e_kw <| w_sr <| sI rfl <| o_ek (fr' := [(2, aI)]) rfl rfl <| w_ret ?_
  obtain rfl := sy h15
  exact e_ret (rs' := [.tmp 2]) rfl <| r_tmp (v := aI) rfl <| r_nil <| fin_gen [] rfl rfl rfl lr st_nil
noncomputable def ref22xIsCommand (p0kind : Int) : Option Bool :=
 (ref22xcommand p0kind).bind fun (x1 : Int) => some (decide ((0 : Int) < x1))
theorem w_ref22xIsCommand {p0kind : Int} {res : Bool} (h : ref22xIsCommand p0kind = some res) : ACalls Tryd.prog 23 [.c (.int .i64 p0kind)] [] (.c (.bool res)) [] := by
 unfold ref22xIsCommand at h
 refine acalls (fn := Tryd.f23) [0, 2] (by kernel_rfl) Tryd.func23 rfl (by kernel_rfl) (by kernel_rfl) <| w_sr <| sB rfl <| o_ek (fr' := [(0, aI)]) rfl rfl <| w_sr <| mI rfl ?_
 obtain ⟨x1, hx1, h2⟩ := bind_s h
 refine o_v (ov_call (v := aI) rfl (w_ref22xcommand hx1) ⟨lr, trivial⟩ rfl rfl rfl) <| o_p rfl (p_gtr rfl rfl) <| sB rfl <| o_ek (fr' := [(2, aB)]) rfl rfl <| w_ret ?_
 obtain rfl := sy h2
 exact e_ret (rs' := [.tmp 2]) rfl <| r_tmp (v := aB) rfl <| r_nil <| fin_gen [] rfl rfl rfl lr st_nil
noncomputable def event_IsInput (p0kind : Int) : Option Bool :=
 ((cond (decide (p0kind = (9 : Int))) (some (decide (p0kind = (9 : Int)))) (cond (decide (p0kind = (10 : Int))) (some (decide (p0kind = (10 : Int)))) (cond (decide (p0kind = (11 : Int))) (some (decide (p0kind = (11 : Int)))) (cond (decide (p0kind = (13 : Int))) (some (decide (p0kind = (13 : Int)))) (cond (decide (p0kind = (15 : Int))) (some (decide (p0kind = (15 : Int)))) (cond (decide (p0kind = (17 : Int))) (some (decide (p0kind = (17 : Int)))) (cond (decide (p0kind = (20 : Int))) (some (decide (p0kind = (20 : Int)))) (cond (decide (p0kind = (21 : Int))) (some (decide (p0kind = (21 : Int)))) (cond (decide (p0kind = (22 : Int))) (some (decide (p0kind = (22 : Int)))) (cond (decide (p0kind = (24 : Int))) (some (decide (p0kind = (24 : Int)))) (cond (decide (p0kind = (25 : Int))) (some (decide (p0kind = (25 : Int)))) (some (decide (p0kind = (26 : Int))))))))))))))) : Option Bool).bind fun (x1 : Bool) => (cond x1 (some true) (some false))
theorem w_event_IsInput {p0kind : Int} {res : Bool} (h : event_IsInput p0kind = some res) : ACalls Tryd.prog 24 [.c (.int .i64 p0kind)] [] (.c (.bool res)) [] := by
 unfold event_IsInput at h
 refine acalls (fn := Tryd.f24) [0, 2, 3, 4] (by kernel_rfl) Tryd.func24 rfl (by kernel_rfl) (by kernel_rfl) <| w_sr <| sB rfl <| o_ek (fr' := [(0, aI)]) rfl rfl <| w_seqw <| w_sr <| mI rfl <| o_ek (fr' := [(3, aI)]) rfl rfl <| w_block ?_
 obtain ⟨x1, hx1, h2⟩ := bind_s h
 refine w_join (fun j3 => x1 = j3) (fun (j3 : Bool) => ([(4, .c (.bool j3))] : Fr)) (fun (j3 : Bool) => ([] : St)) ?_ ?_
 ·
  refine w_sr <| o_p rfl (p_eql rfl rfl) <| sB rfl <| o_ek (fr' := [(3, aI), (4, aB)]) rfl rfl <| w_ch hx1 rfl (fun hb4 h4 => ?_) (fun hb4 h4 => ?_)
  ·
   exact w_skip <| e_j _ (sy h4) (w_weak [] 0 rfl rfl rfl rfl ⟨lr, trivial⟩ st_nil)
  ·
   refine w_sr <| o_p rfl (p_eql rfl rfl) <| sB rfl <| o_ek (fr' := [(3, aI), (4, aB)]) rfl rfl <| w_ch h4 rfl (fun hb5 h5 => ?_) (fun hb5 h5 => ?_)
   ·
    exact w_skip <| e_j _ (sy h5) (w_weak [] 0 rfl rfl rfl rfl ⟨lr, trivial⟩ st_nil)
   ·
    refine w_sr <| o_p rfl (p_eql rfl rfl) <| sB rfl <| o_ek (fr' := [(3, aI), (4, aB)]) rfl rfl <| w_ch h5 rfl (fun hb6 h6 => ?_) (fun hb6 h6 => ?_)
    ·
     exact w_skip <| e_j _ (sy h6) (w_weak [] 0 rfl rfl rfl rfl ⟨lr, trivial⟩ st_nil)
    ·
     refine w_sr <| o_p rfl (p_eql rfl rfl) <| sB rfl <| o_ek (fr' := [(3, aI), (4, aB)]) rfl rfl <| w_ch h6 rfl (fun hb7 h7 => ?_) (fun hb7 h7 => ?_)
     ·
      exact w_skip <| e_j _ (sy h7) (w_weak [] 0 rfl rfl rfl rfl ⟨lr, trivial⟩ st_nil)
     ·
      refine w_sr <| o_p rfl (p_eql rfl rfl) <| sB rfl <| o_ek (fr' := [(3, aI), (4, aB)]) rfl rfl <| w_ch h7 rfl (fun hb8 h8 => ?_) (fun hb8 h8 => ?_)
      ·
       exact w_skip <| e_j _ (sy h8) (w_weak [] 0 rfl rfl rfl rfl ⟨lr, trivial⟩ st_nil)
      ·
       refine w_sr <| o_p rfl (p_eql rfl rfl) <| sB rfl <| o_ek (fr' := [(3, aI), (4, aB)]) rfl rfl <| w_ch h8 rfl (fun hb9 h9 => ?_) (fun hb9 h9 => ?_)
       ·
        exact w_skip <| e_j _ (sy h9) (w_weak [] 0 rfl rfl rfl rfl ⟨lr, trivial⟩ st_nil)
       ·
        refine w_sr <| o_p rfl (p_eql rfl rfl) <| sB rfl <| o_ek (fr' := [(3, aI), (4, aB)]) rfl rfl <| w_ch h9 rfl (fun hb10 h10 => ?_) (fun hb10 h10 => ?_)
        ·
         exact w_skip <| e_j _ (sy h10) (w_weak [] 0 rfl rfl rfl rfl ⟨lr, trivial⟩ st_nil)
        ·
         refine w_sr <| o_p rfl (p_eql rfl rfl) <| sB rfl <| o_ek (fr' := [(3, aI), (4, aB)]) rfl rfl <| w_ch h10 rfl (fun hb11 h11 => ?_) (fun hb11 h11 => ?_)
         ·
          exact w_skip <| e_j _ (sy h11) (w_weak [] 0 rfl rfl rfl rfl ⟨lr, trivial⟩ st_nil)
         ·
          refine w_sr <| o_p rfl (p_eql rfl rfl) <| sB rfl <| o_ek (fr' := [(3, aI), (4, aB)]) rfl rfl <| w_ch h11 rfl (fun hb12 h12 => ?_) (fun hb12 h12 => ?_)
          ·
           exact w_skip <| e_j _ (sy h12) (w_weak [] 0 rfl rfl rfl rfl ⟨lr, trivial⟩ st_nil)
          ·
           refine w_sr <| o_p rfl (p_eql rfl rfl) <| sB rfl <| o_ek (fr' := [(3, aI), (4, aB)]) rfl rfl <| w_ch h12 rfl (fun hb13 h13 => ?_) (fun hb13 h13 => ?_)
           ·
            exact w_skip <| e_j _ (sy h13) (w_weak [] 0 rfl rfl rfl rfl ⟨lr, trivial⟩ st_nil)
           ·
            refine w_sr <| o_p rfl (p_eql rfl rfl) <| sB rfl <| o_ek (fr' := [(3, aI), (4, aB)]) rfl rfl <| w_ch h13 rfl (fun hb14 h14 => ?_) (fun hb14 h14 => ?_)
            ·
             exact w_skip <| e_j _ (sy h14) (w_weak [] 0 rfl rfl rfl rfl ⟨lr, trivial⟩ st_nil)
            ·
             exact w_region <| o_p rfl (p_eql rfl rfl) <| sB rfl <| o_end (fr' := [(3, aI), (4, aB)]) rfl <| e_j _ (sy h14) (w_weak [] 0 rfl rfl rfl rfl ⟨lr, trivial⟩ st_nil)
 ·
  intro j3 hj15
  subst hj15
  refine w_ch h2 rfl (fun hb16 h16 => ?_) (fun hb16 h16 => ?_)
  ·
   refine w_sr <| sB rfl <| o_ek (fr' := [(2, aB)]) rfl rfl <| w_ret <| e_blk_r <| e_seq_r ?_
   obtain rfl := sy h16
   exact e_ret (rs' := [.tmp 2]) rfl <| r_tmp (v := aB) rfl <| r_nil <| fin_gen [] rfl rfl rfl lr st_nil
  ·
   refine w_skip <| e_blk_n <| e_kw <| w_sr <| sB rfl <| o_ek (fr' := [(2, aB)]) rfl rfl <| w_ret ?_
   obtain rfl := sy h16
   exact e_ret (rs' := [.tmp 2]) rfl <| r_tmp (v := aB) rfl <| r_nil <| fin_gen [] rfl rfl rfl lr st_nil
noncomputable def ref22xIsInput (p0kind : Int) : Option Bool :=
 ((cond (decide (p0kind = (9 : Int))) (some (decide (p0kind = (9 : Int)))) (cond (decide (p0kind = (10 : Int))) (some (decide (p0kind = (10 : Int)))) (cond (decide (p0kind = (11 : Int))) (some (decide (p0kind = (11 : Int)))) (cond (decide (p0kind = (13 : Int))) (some (decide (p0kind = (13 : Int)))) (cond (decide (p0kind = (15 : Int))) (some (decide (p0kind = (15 : Int)))) (cond (decide (p0kind = (17 : Int))) (some (decide (p0kind = (17 : Int)))) (cond (decide (p0kind = (20 : Int))) (some (decide (p0kind = (20 : Int)))) (cond (decide (p0kind = (21 : Int))) (some (decide (p0kind = (21 : Int)))) (cond (decide (p0kind = (22 : Int))) (some (decide (p0kind = (22 : Int)))) (cond (decide (p0kind = (24 : Int))) (some (decide (p0kind = (24 : Int)))) (cond (decide (p0kind = (25 : Int))) (some (decide (p0kind = (25 : Int)))) (some (decide (p0kind = (26 : Int))))))))))))))) : Option Bool).bind fun (x1 : Bool) => (cond x1 (some true) (some false))
theorem w_ref22xIsInput {p0kind : Int} {res : Bool} (h : ref22xIsInput p0kind = some res) : ACalls Tryd.prog 25 [.c (.int .i64 p0kind)] [] (.c (.bool res)) [] := by
 unfold ref22xIsInput at h
 refine acalls (fn := Tryd.f25) [0, 2, 3, 4] (by kernel_rfl) Tryd.func25 rfl (by kernel_rfl) (by kernel_rfl) <| w_sr <| sB rfl <| o_ek (fr' := [(0, aI)]) rfl rfl <| w_seqw <| w_sr <| mI rfl <| o_ek (fr' := [(3, aI)]) rfl rfl <| w_block ?_
 obtain ⟨x1, hx1, h2⟩ := bind_s h
 refine w_join (fun j3 => x1 = j3) (fun (j3 : Bool) => ([(4, .c (.bool j3))] : Fr)) (fun (j3 : Bool) => ([] : St)) ?_ ?_
 ·
  refine w_sr <| o_p rfl (p_eql rfl rfl) <| sB rfl <| o_ek (fr' := [(3, aI), (4, aB)]) rfl rfl <| w_ch hx1 rfl (fun hb4 h4 => ?_) (fun hb4 h4 => ?_)
  ·
   exact w_skip <| e_j _ (sy h4) (w_weak [] 0 rfl rfl rfl rfl ⟨lr, trivial⟩ st_nil)
  ·
   refine w_sr <| o_p rfl (p_eql rfl rfl) <| sB rfl <| o_ek (fr' := [(3, aI), (4, aB)]) rfl rfl <| w_ch h4 rfl (fun hb5 h5 => ?_) (fun hb5 h5 => ?_)
   ·
    exact w_skip <| e_j _ (sy h5) (w_weak [] 0 rfl rfl rfl rfl ⟨lr, trivial⟩ st_nil)
   ·
    refine w_sr <| o_p rfl (p_eql rfl rfl) <| sB rfl <| o_ek (fr' := [(3, aI), (4, aB)]) rfl rfl <| w_ch h5 rfl (fun hb6 h6 => ?_) (fun hb6 h6 => ?_)
    ·
     exact w_skip <| e_j _ (sy h6) (w_weak [] 0 rfl rfl rfl rfl ⟨lr, trivial⟩ st_nil)
    ·
     refine w_sr <| o_p rfl (p_eql rfl rfl) <| sB rfl <| o_ek (fr' := [(3, aI), (4, aB)]) rfl rfl <| w_ch h6 rfl (fun hb7 h7 => ?_) (fun hb7 h7 => ?_)
     ·
      exact w_skip <| e_j _ (sy h7) (w_weak [] 0 rfl rfl rfl rfl ⟨lr, trivial⟩ st_nil)
     ·
      refine w_sr <| o_p rfl (p_eql rfl rfl) <| sB rfl <| o_ek (fr' := [(3, aI), (4, aB)]) rfl rfl <| w_ch h7 rfl (fun hb8 h8 => ?_) (fun hb8 h8 => ?_)
      ·
       exact w_skip <| e_j _ (sy h8) (w_weak [] 0 rfl rfl rfl rfl ⟨lr, trivial⟩ st_nil)
      ·
       refine w_sr <| o_p rfl (p_eql rfl rfl) <| sB rfl <| o_ek (fr' := [(3, aI), (4, aB)]) rfl rfl <| w_ch h8 rfl (fun hb9 h9 => ?_) (fun hb9 h9 => ?_)
       ·
        exact w_skip <| e_j _ (sy h9) (w_weak [] 0 rfl rfl rfl rfl ⟨lr, trivial⟩ st_nil)
       ·
        refine w_sr <| o_p rfl (p_eql rfl rfl) <| sB rfl <| o_ek (fr' := [(3, aI), (4, aB)]) rfl rfl <| w_ch h9 rfl (fun hb10 h10 => ?_) (fun hb10 h10 => ?_)
        ·
         exact w_skip <| e_j _ (sy h10) (w_weak [] 0 rfl rfl rfl rfl ⟨lr, trivial⟩ st_nil)
        ·
         refine w_sr <| o_p rfl (p_eql rfl rfl) <| sB rfl <| o_ek (fr' := [(3, aI), (4, aB)]) rfl rfl <| w_ch h10 rfl (fun hb11 h11 => ?_) (fun hb11 h11 => ?_)
         ·
          exact w_skip <| e_j _ (sy h11) (w_weak [] 0 rfl rfl rfl rfl ⟨lr, trivial⟩ st_nil)
         ·
          refine w_sr <| o_p rfl (p_eql rfl rfl) <| sB rfl <| o_ek (fr' := [(3, aI), (4, aB)]) rfl rfl <| w_ch h11 rfl (fun hb12 h12 => ?_) (fun hb12 h12 => ?_)
          ·
           exact w_skip <| e_j _ (sy h12) (w_weak [] 0 rfl rfl rfl rfl ⟨lr, trivial⟩ st_nil)
          ·
           refine w_sr <| o_p rfl (p_eql rfl rfl) <| sB rfl <| o_ek (fr' := [(3, aI), (4, aB)]) rfl rfl <| w_ch h12 rfl (fun hb13 h13 => ?_) (fun hb13 h13 => ?_)
           ·
            exact w_skip <| e_j _ (sy h13) (w_weak [] 0 rfl rfl rfl rfl ⟨lr, trivial⟩ st_nil)
           ·
            refine w_sr <| o_p rfl (p_eql rfl rfl) <| sB rfl <| o_ek (fr' := [(3, aI), (4, aB)]) rfl rfl <| w_ch h13 rfl (fun hb14 h14 => ?_) (fun hb14 h14 => ?_)
            ·
             exact w_skip <| e_j _ (sy h14) (w_weak [] 0 rfl rfl rfl rfl ⟨lr, trivial⟩ st_nil)
            ·
             exact w_region <| o_p rfl (p_eql rfl rfl) <| sB rfl <| o_end (fr' := [(3, aI), (4, aB)]) rfl <| e_j _ (sy h14) (w_weak [] 0 rfl rfl rfl rfl ⟨lr, trivial⟩ st_nil)
 ·
  intro j3 hj15
  subst hj15
  refine w_ch h2 rfl (fun hb16 h16 => ?_) (fun hb16 h16 => ?_)
  ·
   refine w_sr <| sB rfl <| o_ek (fr' := [(2, aB)]) rfl rfl <| w_ret <| e_blk_r <| e_seq_r ?_
   obtain rfl := sy h16
   exact e_ret (rs' := [.tmp 2]) rfl <| r_tmp (v := aB) rfl <| r_nil <| fin_gen [] rfl rfl rfl lr st_nil
  ·
   refine w_skip <| e_blk_n <| e_kw <| w_sr <| sB rfl <| o_ek (fr' := [(2, aB)]) rfl rfl <| w_ret ?_
   obtain rfl := sy h16
   exact e_ret (rs' := [.tmp 2]) rfl <| r_tmp (v := aB) rfl <| r_nil <| fin_gen [] rfl rfl rfl lr st_nil
noncomputable def law22xEventKinds (p0kind : Int) (p1name : (List UInt8)) : Option Bool :=
 cond (decide ((1000 : Int) < ((p1name).length : Int))) ((law22xlives).bind fun (x2 : Bool) => some x2) ((event_ByName p1name).bind fun (x5 : (Int × Bool)) => (ref22xByName p1name).bind fun (x7 : (Int × Bool)) => (event_Status p0kind).bind fun (x9 : (Int × Bool)) => (ref22xStatus p0kind).bind fun (x11 : (Int × Bool)) => (event_Name p0kind).bind fun (x13 : (List UInt8)) => (ref22xName p0kind).bind fun (x15 : (List UInt8)) => (gd ((cond (cond (cond (cond (!decide (x13 = x15)) true (!decide (x5.1 = x7.1))) true (!(x5.2 == x7.2))) true (!decide (x9.1 = x11.1))) true (!(x9.2 == x11.2))) == false) (event_Closes p0kind)).bind fun (x17 : Bool) => cond (cond (cond (cond (cond (cond (!decide (x13 = x15)) true (!decide (x5.1 = x7.1))) true (!(x5.2 == x7.2))) true (!decide (x9.1 = x11.1))) true (!(x9.2 == x11.2))) true (!(x17 == x11.2))) (some false) ((event_IsCommand p0kind).bind fun (x21 : Bool) => (ref22xIsCommand p0kind).bind fun (x23 : Bool) => (gd ((!(x21 == x23)) == false) (event_IsInput p0kind)).bind fun (x25 : Bool) => (gd ((!(x21 == x23)) == false) (ref22xIsInput p0kind)).bind fun (x27 : Bool) => (gd ((cond (!(x21 == x23)) true (!(x25 == x27))) == false) (event_IsCommand p0kind)).bind fun (x29 : Bool) => (gd (((cond (!(x21 == x23)) true (!(x25 == x27))) == false) && (x29 == true)) (event_IsInput p0kind)).bind fun (x31 : Bool) => (gd ((cond (cond (!(x21 == x23)) true (!(x25 == x27))) true (cond x29 x31 false)) == false) (event_IsInput p0kind)).bind fun (x33 : Bool) => (gd (((cond (cond (!(x21 == x23)) true (!(x25 == x27))) true (cond x29 x31 false)) == false) && (x33 == true)) (event_Closes p0kind)).bind fun (x35 : Bool) => cond (cond (cond (cond (!(x21 == x23)) true (!(x25 == x27))) true (cond x29 x31 false)) true (cond x33 x35 false)) (some false) ((event_Name p0kind).bind fun (x39 : (List UInt8)) => (event_ByName x39).bind fun (x41 : (Int × Bool)) => (gd ((cond (x41.2 == (cond (decide ((1 : Int) ≤ p0kind)) (decide (p0kind ≤ (35 : Int))) false)) (cond (!x41.2) true (decide (x41.1 = p0kind))) false) == true) (law22xlives)).bind fun (x43 : Bool) => some (cond (cond (x41.2 == (cond (decide ((1 : Int) ≤ p0kind)) (decide (p0kind ≤ (35 : Int))) false)) (cond (!x41.2) true (decide (x41.1 = p0kind))) false) x43 false))))
theorem w_law22xEventKinds {p0kind : Int} {p1name : (List UInt8)} {res : Bool} (h : law22xEventKinds p0kind p1name = some res) : ACalls Tryd.prog 5 [.c (.int .i64 p0kind), .c (.str p1name)] [] (.c (.bool res)) [] := by
 unfold law22xEventKinds at h
 refine acalls (fn := Tryd.f5) [0, 1, 4, 5, 6, 7, 8, 9, 10, 11, 12, 13, 14, 17, 69, 97] (by kernel_rfl) Tryd.func5 rfl (by kernel_rfl) (by kernel_rfl) <| w_sr <| sB rfl <| o_ek (fr' := [(0, aI), (1, aS)]) rfl rfl <| w_seqw <| w_sr <| mS rfl <| o_p rfl (p_lens ti9 rfl) <| o_p rfl (p_gtr rfl rfl) <| o_ek (fr' := [(0, aI), (1, aS), (17, aB)]) rfl rfl <| w_ch h rfl (fun hb1 h1 => ?_) (fun hb1 h1 => ?_)
 ·
  refine w_seqw <| w_region ?_
  obtain ⟨x2, hx2, h3⟩ := bind_s h1
  refine o_v (ov_call (v := aB) rfl (w_law22xlives hx2) trivial rfl rfl rfl) <| sB rfl <| o_ek (fr' := [(4, aB)]) rfl rfl <| w_ret <| e_seq_r ?_
  obtain rfl := sy h3
  exact e_ret (rs' := [.tmp 4]) rfl <| r_tmp (v := aB) rfl <| r_nil <| fin_gen [] rfl rfl rfl lr st_nil
 ·
  refine w_skip <| e_kw <| w_sr <| mS rfl ?_
  obtain ⟨x5, hx5, h6⟩ := bind_s h1
  refine o_v (ov_call (v := .tup [aI, aB]) rfl (w_event_ByName hx5) ⟨lr, trivial⟩ rfl rfl rfl) <| mV (v := .tup [aI, aB]) rfl <| o_p rfl (p_ex (v := aI) rfl rfl) <| o_p rfl (p_ex (v := aB) rfl rfl) <| sI rfl <| sB rfl <| o_ek (fr' := [(0, aI), (1, aS), (5, aI), (6, aB)]) rfl rfl <| w_sr <| mS rfl ?_
  obtain ⟨x7, hx7, h8⟩ := bind_s h6
  refine o_v (ov_call (v := .tup [aI, aB]) rfl (w_ref22xByName hx7) ⟨lr, trivial⟩ rfl rfl rfl) <| mV (v := .tup [aI, aB]) rfl <| o_p rfl (p_ex (v := aI) rfl rfl) <| o_p rfl (p_ex (v := aB) rfl rfl) <| sI rfl <| sB rfl <| o_ek (fr' := [(0, aI), (5, aI), (6, aB), (7, aI), (8, aB)]) rfl rfl <| w_sr <| mI rfl ?_
  obtain ⟨x9, hx9, h10⟩ := bind_s h8
  refine o_v (ov_call (v := .tup [aI, aB]) rfl (w_event_Status hx9) ⟨lr, trivial⟩ rfl rfl rfl) <| mV (v := .tup [aI, aB]) rfl <| o_p rfl (p_ex (v := aI) rfl rfl) <| o_p rfl (p_ex (v := aB) rfl rfl) <| sI rfl <| sB rfl <| o_ek (fr' := [(0, aI), (5, aI), (6, aB), (7, aI), (8, aB), (9, aI), (10, aB)]) rfl rfl <| w_sr <| mI rfl ?_
  obtain ⟨x11, hx11, h12⟩ := bind_s h10
  refine o_v (ov_call (v := .tup [aI, aB]) rfl (w_ref22xStatus hx11) ⟨lr, trivial⟩ rfl rfl rfl) <| mV (v := .tup [aI, aB]) rfl <| o_p rfl (p_ex (v := aI) rfl rfl) <| o_p rfl (p_ex (v := aB) rfl rfl) <| sI rfl <| sB rfl <| o_ek (fr' := [(0, aI), (5, aI), (6, aB), (7, aI), (8, aB), (9, aI), (10, aB), (11, aI), (12, aB)]) rfl rfl <| w_seqw <| w_sr <| mI rfl ?_
  obtain ⟨x13, hx13, h14⟩ := bind_s h12
  refine o_v (ov_call (v := aS) rfl (w_event_Name hx13) ⟨lr, trivial⟩ rfl rfl rfl) <| mI rfl ?_
  obtain ⟨x15, hx15, h16⟩ := bind_s h14
  refine o_v (ov_call (v := aS) rfl (w_ref22xName hx15) ⟨lr, trivial⟩ rfl rfl rfl) <| o_p rfl (p_sneq rfl rfl) <| mB rfl <| og rfl rfl rfl (fun hc => (p_move (v := aI) rfl)) <| og rfl rfl rfl (fun hc => (p_move (v := aI) rfl)) <| og rfl rfl rfl (fun hc => (p_neq (gx rfl hc) (gx rfl hc))) <| o_p rfl (p_pickz rfl rfl rfl (fun e => keq e)) <| mB rfl <| og rfl rfl rfl (fun hc => (p_move (v := aB) rfl)) <| og rfl rfl rfl (fun hc => (p_move (v := aB) rfl)) <| og rfl rfl rfl (fun hc => (p_bneq ti4 (gx rfl hc) (gx rfl hc))) <| o_p rfl (p_pickz rfl rfl rfl (fun e => keq e)) <| mB rfl ?_
  refine og rfl rfl rfl (fun hc => (p_move (v := aI) rfl)) <| og rfl rfl rfl (fun hc => (p_move (v := aI) rfl)) <| og rfl rfl rfl (fun hc => (p_neq (gx rfl hc) (gx rfl hc))) <| o_p rfl (p_pickz rfl rfl rfl (fun e => keq e)) <| mB rfl <| og rfl rfl rfl (fun hc => (p_move (v := aB) rfl)) <| og rfl rfl rfl (fun hc => (p_move (v := aB) rfl)) <| og rfl rfl rfl (fun hc => (p_bneq ti4 (gx rfl hc) (gx rfl hc))) <| o_p rfl (p_pickz rfl rfl rfl (fun e => keq e)) <| mB rfl <| og rfl rfl rfl (fun hc => (p_move (v := aI) rfl)) ?_
  obtain ⟨x17, hx17, h18⟩ := bind_s h16
  refine o_g rfl rfl (fun hc => ov_call (v := aB) rfl (w_event_Closes (gd_some hx17 hc)) ⟨(le_gv (gx rfl hc) lr), trivial⟩ (ok_eq (by repeat (first | exact ok_nil | refine ok_cons rfl ?_ | refine ok_cons (dgv rfl) ?_ | refine ok_cons dar ?_))) rfl rfl) ?_
  refine og rfl rfl rfl (fun hc => (p_move (v := aB) rfl)) <| og rfl rfl rfl (fun hc => (p_bneq ti4 (gx rfl hc) (gx rfl hc))) <| o_p rfl (p_pickz rfl rfl rfl (fun e => keq e)) <| o_ek (fr' := [(0, aI), (69, aB)]) rfl rfl <| w_ch h18 rfl (fun hb19 h19 => ?_) (fun hb19 h19 => ?_)
  ·
   refine w_sr <| sB rfl <| o_ek (fr' := [(4, aB)]) rfl rfl <| w_ret <| e_seq_r ?_
   obtain rfl := sy h19
   exact e_ret (rs' := [.tmp 4]) rfl <| r_tmp (v := aB) rfl <| r_nil <| fin_gen [] rfl rfl rfl lr st_nil
  ·
   refine w_skip <| e_kw <| w_seqw <| w_sr <| mI rfl ?_
   obtain ⟨x21, hx21, h22⟩ := bind_s h19
   refine o_v (ov_call (v := aB) rfl (w_event_IsCommand hx21) ⟨lr, trivial⟩ rfl rfl rfl) <| mI rfl ?_
   obtain ⟨x23, hx23, h24⟩ := bind_s h22
   refine o_v (ov_call (v := aB) rfl (w_ref22xIsCommand hx23) ⟨lr, trivial⟩ rfl rfl rfl) <| o_p rfl (p_bneq ti4 rfl rfl) <| mB rfl <| og rfl rfl rfl (fun hc => (p_move (v := aI) rfl)) ?_
   obtain ⟨x25, hx25, h26⟩ := bind_s h24
   refine o_g rfl rfl (fun hc => ov_call (v := aB) rfl (w_event_IsInput (gd_some hx25 hc)) ⟨(le_gv (gx rfl hc) lr), trivial⟩ (ok_eq (by repeat (first | exact ok_nil | refine ok_cons rfl ?_ | refine ok_cons (dgv rfl) ?_ | refine ok_cons dar ?_))) rfl rfl) ?_
   refine og rfl rfl rfl (fun hc => (p_move (v := aI) rfl)) ?_
   obtain ⟨x27, hx27, h28⟩ := bind_s h26
   refine o_g rfl rfl (fun hc => ov_call (v := aB) rfl (w_ref22xIsInput (gd_some hx27 hc)) ⟨(le_gv (gx rfl hc) lr), trivial⟩ (ok_eq (by repeat (first | exact ok_nil | refine ok_cons rfl ?_ | refine ok_cons (dgv rfl) ?_ | refine ok_cons dar ?_))) rfl rfl) ?_
   refine og rfl rfl rfl (fun hc => (p_bneq ti4 (gx rfl hc) (gx rfl hc))) <| o_p rfl (p_pickz rfl rfl rfl (fun e => keq e)) <| mB rfl <| og rfl rfl rfl (fun hc => (p_move (v := aI) rfl)) ?_
   obtain ⟨x29, hx29, h30⟩ := bind_s h28
   refine o_g rfl rfl (fun hc => ov_call (v := aB) rfl (w_event_IsCommand (gd_some hx29 hc)) ⟨(le_gv (gx rfl hc) lr), trivial⟩ (ok_eq (by repeat (first | exact ok_nil | refine ok_cons rfl ?_ | refine ok_cons (dgv rfl) ?_ | refine ok_cons dar ?_))) rfl rfl) ?_
   refine og rfl rfl rfl (fun hc => (p_move (v := aB) (gx rfl hc))) <| o_gg rfl rfl (fun hc => ov_p rfl (p_move (v := aI) rfl)) ?_
   obtain ⟨x31, hx31, h32⟩ := bind_s h30
   refine o_gg rfl rfl (fun hc => ov_call (v := aB) rfl (w_event_IsInput (gd_some hx31 hc)) ⟨(le_gv (gx rfl hc) lr), trivial⟩ (ok_eq (by repeat (first | exact ok_nil | refine ok_cons rfl ?_ | refine ok_cons (dgv rfl) ?_ | refine ok_cons dar ?_))) rfl rfl) ?_
   refine og rfl rfl rfl (fun hc => (p_picky (gx rfl hc) rfl rfl (fun e => band hc (keq e)))) <| o_p rfl (p_pickz rfl rfl rfl (fun e => keq e)) <| mB rfl <| og rfl rfl rfl (fun hc => (p_move (v := aI) rfl)) ?_
   obtain ⟨x33, hx33, h34⟩ := bind_s h32
   refine o_g rfl rfl (fun hc => ov_call (v := aB) rfl (w_event_IsInput (gd_some hx33 hc)) ⟨(le_gv (gx rfl hc) lr), trivial⟩ (ok_eq (by repeat (first | exact ok_nil | refine ok_cons rfl ?_ | refine ok_cons (dgv rfl) ?_ | refine ok_cons dar ?_))) rfl rfl) ?_
   refine og rfl rfl rfl (fun hc => (p_move (v := aB) (gx rfl hc))) <| o_gg rfl rfl (fun hc => ov_p rfl (p_move (v := aI) rfl)) ?_
   obtain ⟨x35, hx35, h36⟩ := bind_s h34
   refine o_gg rfl rfl (fun hc => ov_call (v := aB) rfl (w_event_Closes (gd_some hx35 hc)) ⟨(le_gv (gx rfl hc) lr), trivial⟩ (ok_eq (by repeat (first | exact ok_nil | refine ok_cons rfl ?_ | refine ok_cons (dgv rfl) ?_ | refine ok_cons dar ?_))) rfl rfl) ?_
   refine og rfl rfl rfl (fun hc => (p_picky (gx rfl hc) rfl rfl (fun e => band hc (keq e)))) <| o_p rfl (p_pickz rfl rfl rfl (fun e => keq e)) <| o_ek (fr' := [(0, aI), (97, aB)]) rfl rfl <| w_ch h36 rfl (fun hb37 h37 => ?_) (fun hb37 h37 => ?_)
   ·
    refine w_sr <| sB rfl <| o_ek (fr' := [(4, aB)]) rfl rfl <| w_ret <| e_seq_r ?_
    obtain rfl := sy h37
    exact e_ret (rs' := [.tmp 4]) rfl <| r_tmp (v := aB) rfl <| r_nil <| fin_gen [] rfl rfl rfl lr st_nil
   ·
    refine w_skip <| e_kw <| w_sr <| mI rfl ?_
    obtain ⟨x39, hx39, h40⟩ := bind_s h37
    refine o_v (ov_call (v := aS) rfl (w_event_Name hx39) ⟨lr, trivial⟩ rfl rfl rfl) ?_
    obtain ⟨x41, hx41, h42⟩ := bind_s h40
    refine o_v (ov_call (v := .tup [aI, aB]) rfl (w_event_ByName hx41) ⟨lr, trivial⟩ rfl rfl rfl) <| mV (v := .tup [aI, aB]) rfl <| o_p rfl (p_ex (v := aI) rfl rfl) <| o_p rfl (p_ex (v := aB) rfl rfl) <| sI rfl <| sB rfl <| o_ek (fr' := [(0, aI), (13, aI), (14, aB)]) rfl rfl <| w_sr <| mB rfl <| mI rfl <| o_p rfl (p_geq rfl rfl) <| mB rfl ?_
    refine og rfl rfl rfl (fun hc => (p_move (v := aI) rfl)) <| og rfl rfl rfl (fun hc => (p_leq (gx rfl hc) rfl)) <| o_p rfl (p_picky rfl rfl rfl (fun e => keq e)) <| o_p rfl (p_beql ti4 rfl rfl) <| mB rfl <| og rfl rfl rfl (fun hc => (p_move (v := aB) rfl)) <| og rfl rfl rfl (fun hc => (p_not (gx rfl hc))) <| og rfl rfl rfl (fun hc => (p_move (v := aB) (gx rfl hc))) <| o_gg rfl rfl (fun hc => ov_p rfl (p_move (v := aI) rfl)) <| o_gg rfl rfl (fun hc => ov_p rfl (p_move (v := aI) rfl)) <| o_gg rfl rfl (fun hc => ov_p rfl (p_eql (gx rfl hc) (gx rfl hc))) <| og rfl rfl rfl (fun hc => (p_pickz (gx rfl hc) rfl rfl (fun e => band hc (keq e)))) <| o_p rfl (p_picky rfl rfl rfl (fun e => keq e)) ?_
    refine mB rfl ?_
    obtain ⟨x43, hx43, h44⟩ := bind_s h42
    refine o_g rfl rfl (fun hc => ov_call (v := aB) rfl (w_law22xlives (gd_some hx43 hc)) trivial (ok_eq (by repeat (first | exact ok_nil | refine ok_cons rfl ?_ | refine ok_cons (dgv rfl) ?_ | refine ok_cons dar ?_))) rfl rfl) ?_
    refine o_p rfl (p_picky rfl rfl rfl (fun e => keq e)) <| sB rfl <| o_ek (fr' := [(4, aB)]) rfl rfl <| w_ret ?_
    obtain rfl := sy h44
    exact e_ret (rs' := [.tmp 4]) rfl <| r_tmp (v := aB) rfl <| r_nil <| fin_gen [] rfl rfl rfl lr st_nil
noncomputable def history_closesActivity (p0kind : Int) : Option Bool :=
 some (cond (cond (cond (decide (p0kind = (9 : Int))) true (decide (p0kind = (10 : Int)))) true (decide (p0kind = (11 : Int)))) true (decide (p0kind = (13 : Int))))
theorem w_history_closesActivity {p0kind : Int} {res : Bool} (h : history_closesActivity p0kind = some res) : ACalls Tryd.prog 78 [.c (.int .i64 p0kind)] [] (.c (.bool res)) [] := by
 unfold history_closesActivity at h
 refine acalls (fn := Tryd.f78) [0, 2] (by kernel_rfl) Tryd.func78 rfl (by kernel_rfl) (by kernel_rfl) <| w_sr <| sB rfl <| o_ek (fr' := [(0, aI)]) rfl rfl <| w_sr <| mI rfl <| o_p rfl (p_eql rfl rfl) <| mB rfl <| og rfl rfl rfl (fun hc => (p_move (v := aI) rfl)) <| og rfl rfl rfl (fun hc => (p_eql (gx rfl hc) rfl)) <| o_p rfl (p_pickz rfl rfl rfl (fun e => keq e)) ?_
 refine mB rfl <| og rfl rfl rfl (fun hc => (p_move (v := aI) rfl)) <| og rfl rfl rfl (fun hc => (p_eql (gx rfl hc) rfl)) <| o_p rfl (p_pickz rfl rfl rfl (fun e => keq e)) <| mB rfl <| og rfl rfl rfl (fun hc => (p_move (v := aI) rfl)) <| og rfl rfl rfl (fun hc => (p_eql (gx rfl hc) rfl)) <| o_p rfl (p_pickz rfl rfl rfl (fun e => keq e)) <| sB rfl <| o_ek (fr' := [(2, aB)]) rfl rfl <| w_ret ?_
 obtain rfl := sy h
 exact e_ret (rs' := [.tmp 2]) rfl <| r_tmp (v := aB) rfl <| r_nil <| fin_gen [] rfl rfl rfl lr st_nil
end Go.Proofs.YtngcjjhbimanlaaDoor

import Derived.Test.YtnhchphmmdgphaaGATy
import Derived.Test.YtnhchphmmdgphaaGAF1
import Derived.Test.YtnhchphmmdgphaaGAF2
import Derived.Test.YtnhchphmmdgphaaGAF3
namespace Go.Proofs.Ytnhchphmmdgphaa
open Go Abs
set_option maxRecDepth 100000
set_option linter.unusedVariables false
set_option linter.unusedSimpArgs false
noncomputable def ref20xRight (p0C : ApiCommand) : Option Bool :=
 (ref20xin p0C.Kind (1 : Int) (14 : Int)).bind fun (x1 : Bool) => (gd ((!x1) == false) (ref20xbare p0C)).bind fun (x3 : ApiCommand) => (gd ((!x1) == false) (ref20xSame x3 (ApiCommand.mk p0C.Kind (0 : Int) ([] : List UInt8) ([] : List UInt8) (0 : Int) (ApiValue.mk (0 : Int) (0 : Int) ([] : List UInt8) ([] : (List ApiValue)) ([] : (List (List UInt8)))) (ApiPolicy.mk ([] : List UInt8) (0 : Int) (0 : Int) (0 : Int) (0 : Int) (0 : Int) (0 : Int) (0 : Int) (0 : Int) ([] : (List (List UInt8))))))).bind fun (x5 : Bool) => (gd ((cond (!x1) true (!x5)) == false) (ref02xRight p0C.Data)).bind fun (x7 : Bool) => cond (cond (cond (!x1) true (!x5)) true (!x7)) (some false) ((ref20xin p0C.Seq (1 : Int) (2000 : Int)).bind fun (x11 : Bool) => (ref06xRight p0C.Name).bind fun (x13 : Bool) => (ref20xIdent p0C.Key).bind fun (x15 : Bool) => cond (decide (p0C.Kind = (1 : Int))) ((gd ((cond x11 x13 false) == true) (ref20xRightPolicy p0C.Opts)).bind fun (x18 : Bool) => some (cond (cond x11 x13 false) x18 false)) (((cond (decide (p0C.Kind = (2 : Int))) (some (decide (p0C.Kind = (2 : Int)))) (some (decide (p0C.Kind = (4 : Int))))) : Option Bool).bind fun (x21 : Bool) => (cond x21 (some x11) (cond (decide (p0C.Kind = (3 : Int))) ((gd (x11 == true) (ref20xin p0C.N (1 : Int) (1099511627776 : Int))).bind fun (x29 : Bool) => some (cond x11 x29 false)) (cond (decide (p0C.Kind = (5 : Int))) ((gd ((cond (cond x11 x13 false) x15 false) == true) (ref20xin p0C.N (0 : Int) (2 : Int))).bind fun (x33 : Bool) => some (cond (cond (cond x11 x13 false) x15 false) x33 false)) (cond (decide (p0C.Kind = (6 : Int))) (some (cond (cond x11 x13 false) x15 false)) (cond (decide (p0C.Kind = (7 : Int))) ((gd ((x13 == true) && ((decide (p0C.N = (-1 : Int))) == false)) (ref20xin p0C.N (0 : Int) (2147483647 : Int))).bind fun (x39 : Bool) => some (cond x13 (cond (decide (p0C.N = (-1 : Int))) true (cond x39 (decide (p0C.Data.Kind = (0 : Int))) false)) false)) (cond (decide (p0C.Kind = (8 : Int))) (some (cond x15 x13 false)) (cond (decide (p0C.Kind = (9 : Int))) ((gd (x15 == true) (ref20xin p0C.N (0 : Int) (1 : Int))).bind fun (x45 : Bool) => some (cond x15 x45 false)) (cond (decide (p0C.Kind = (10 : Int))) (some (decide (p0C.Data.Kind = (5 : Int)))) (cond (decide (p0C.Kind = (12 : Int))) (some (decide (((p0C.Name).length : Int) ≤ (4096 : Int)))) (cond (decide (p0C.Kind = (14 : Int))) ((ref20xInput p0C.Data).bind fun (x53 : Bool) => some x53) (some true)))))))))))))
theorem w_ref20xRight {p0C : ApiCommand} {res : Bool} (h : ref20xRight p0C = some res) : ACalls Try.prog 43 [.agg (AV.cs (rowApiCommand p0C))] [] (.c (.bool res)) [] := by
 unfold ref20xRight at h
 refine acalls (fn := Try.f43) [0, 1, 2, 3, 4, 5, 24, 35, 36, 47, 51, 59, 73, 82, 101, 107, 115, 121, 127] (by kernel_rfl) Try.func43 rfl (by kernel_rfl) (by kernel_rfl) ?_
 refine w_seqw ?_
 refine w_region ?_
 refine o_box (v := .agg [aI, aI, aS, aS, aI, aI, aI, aS, aL, aL, aS, aI, aI, aI, aI, aI, aI, aI, aI, aL]) (n := 0) (cs := [aI, aI, aS, aS, aI, aI, aI, aS, aL, aL, aS, aI, aI, aI, aI, aI, aI, aI, aI, aL]) (σ' := [[aI, aI, aS, aS, aI, aI, aI, aS, aL, aL, aS, aI, aI, aI, aI, aI, aI, aI, aI, aL]]) rfl rfl rfl rfl rfl ?_
 refine o_p rfl (p_assign (v := aB) rfl) ?_
 refine o_end (fr' := [(0, .agg [aI, aI, aS, aS, aI, aI, aI, aS, aL, aL, aS, aI, aI, aI, aI, aI, aI, aI, aI, aL]), (1, .box 0 0), (2, aB)]) rfl ?_
 refine e_kw ?_
 refine w_seqw ?_
 refine w_seqw ?_
 refine w_planT [.q 0, .q 1, .q 2, .q 3, .q 4, .q 5, .q 6, .q 7, .q 8, .q 9, .q 10, .q 11, .q 12, .q 13, .q 14, .q 15, .q 16, .q 17, .q 18] [(some 6, [1]), (some 7, [6]), (some 8, [7]), (some 9, [8]), (some 10, [9]), (some 11, [1, 10]), (some 12, [11, 10]), (some 13, [1, 10]), (some 14, [13, 10]), (some 15, [14, 10]), (some 16, [12, 15, 10]), (some 17, [16, 10]), (some 18, [10, 17]), (some 19, [18]), (some 20, [1, 19]), (some 21, [20, 19]), (some 22, [21, 19]), (some 23, [22, 19]), (some 24, [19, 23])] [0, 1, 3, 7, 15, 31, 63, 31, 159, 415, 1023, 2047, 4095, 8191, 16383, 32767, 65535, 131071, 262143] (by kernel_rfl) ?_
 refine d_q rfl (qv_p rfl (p_fa tf44x0 rfl)) ?_
 refine d_q rfl (qv_p rfl (p_load (v := aI) tv3 rfl rfl rfl)) ?_
 obtain ⟨x1, hx1, h2⟩ := bind_s h
 refine d_q rfl (qv_call (v := aB) rfl (w_ref20xin hx1) ⟨(AV.le_refl _), (AV.le_refl _), (AV.le_refl _), trivial⟩ rfl) ?_
 refine d_q rfl (qv_p rfl (p_not rfl)) ?_
 refine d_q rfl (qv_p rfl (p_move (v := aB) rfl)) ?_
 refine d_g rfl rfl rfl (fun hc => qv_p rfl (p_loads (us := [aI, aI, aS, aS, aI, aI, aI, aS, aL, aL, aS, aI, aI, aI, aI, aI, aI, aI, aI, aL]) tv44 rfl rfl rfl rfl)) ?_
 obtain ⟨x3, hx3, h4⟩ := bind_s h2
 refine d_g rfl rfl rfl (fun hc => qv_call (v := .agg [aI, aI, aS, aS, aI, aI, aI, aS, aL, aL, aS, aI, aI, aI, aI, aI, aI, aI, aI, aL]) rfl (w_ref20xbare (gd_some hx3 hc)) ⟨(le_gv (gx rfl hc) (le_aggc rfl ⟨rfl, rfl, rfl, rfl, rfl, rfl, rfl, rfl, rfl, rfl, rfl, rfl, rfl, rfl, rfl, rfl, rfl, rfl, rfl, rfl, trivial⟩)), trivial⟩ rfl) ?_
 refine d_g rfl rfl rfl (fun hc => qv_p rfl (p_fa tf44x0 rfl)) ?_
 refine d_g rfl rfl rfl (fun hc => qv_p rfl (p_load (v := aI) tv3 (gx rfl hc) rfl rfl)) ?_
 refine d_g rfl rfl rfl (fun hc => qv_p rfl (p_buildc (c0 := [aI, aI, aS, aS, aI, aI, aI, aS, .nil, .nil, aS, aI, aI, aI, aI, aI, aI, aI, aI, .nil]) (cs := [aI, aI, aS, aS, aI, aI, aI, aS, .nil, .nil, aS, aI, aI, aI, aI, aI, aI, aI, aI, .nil]) tb44 rfl (fill_cons (v := aI) (us := [_]) (cs' := [_, _, _, _, _, _, _, _, _, _, _, _, _, _, _, _, _, _, _, _]) rfl (gx rfl hc) rfl rfl rfl rfl fill_nil))) ?_
 obtain ⟨x5, hx5, h6⟩ := bind_s h4
 refine d_g rfl rfl rfl (fun hc => qv_call (v := aB) rfl (w_ref20xSame (gd_some hx5 hc)) ⟨(le_gv (gx rfl hc) (le_aggc rfl ⟨rfl, rfl, rfl, rfl, rfl, rfl, rfl, rfl, rfl, rfl, rfl, rfl, rfl, rfl, rfl, rfl, rfl, rfl, rfl, rfl, trivial⟩)), (le_gv (gx rfl hc) (le_aggc rfl ⟨rfl, rfl, rfl, rfl, rfl, rfl, rfl, rfl, ⟨_, rfl⟩, ⟨_, rfl⟩, rfl, rfl, rfl, rfl, rfl, rfl, rfl, rfl, rfl, ⟨_, rfl⟩, trivial⟩)), trivial⟩ rfl) ?_
 refine d_g rfl rfl rfl (fun hc => qv_p rfl (p_not (gx rfl hc))) ?_
 refine d_q rfl (qv_p rfl (p_pickz rfl rfl rfl (fun e => keq e))) ?_
 refine d_q rfl (qv_p rfl (p_move (v := aB) rfl)) ?_
 refine d_g rfl rfl rfl (fun hc => qv_p rfl (p_fa tf44x5 rfl)) ?_
 refine d_g rfl rfl rfl (fun hc => qv_p rfl (p_loads (us := [aI, aI, aS, aL, aL]) tv40 (gx rfl hc) rfl rfl rfl)) ?_
 obtain ⟨x7, hx7, h8⟩ := bind_s h6
 refine d_g rfl rfl rfl (fun hc => qv_call (v := aB) rfl (w_ref02xRight (gd_some hx7 hc)) ⟨(le_gv (gx rfl hc) (le_aggc rfl ⟨rfl, rfl, rfl, rfl, rfl, trivial⟩)), trivial⟩ rfl) ?_
 refine d_g rfl rfl rfl (fun hc => qv_p rfl (p_not (gx rfl hc))) ?_
 refine d_q rfl (qv_p rfl (p_pickz rfl rfl rfl (fun e => keq e))) ?_
 refine d_end (fr' := [(0, .agg [aI, aI, aS, aS, aI, aI, aI, aS, aL, aL, aS, aI, aI, aI, aI, aI, aI, aI, aI, aL]), (1, .box 0 0), (2, aB), (24, aB)]) rfl ?_
 refine e_kw ?_
 refine w_cond _ rfl (fun hb9 => ?_) (fun hb9 => ?_)
 ·
  have h9 := cond_t (b := (cond (cond (!x1) true (!x5)) true (!x7))) hb9 h8
  refine w_seqw ?_
  refine w_region ?_
  refine o_p rfl (p_assign (v := aB) rfl) ?_
  refine o_end (fr' := [(0, .agg [aI, aI, aS, aS, aI, aI, aI, aS, aL, aL, aS, aI, aI, aI, aI, aI, aI, aI, aI, aL]), (1, .box 0 0), (2, aB), (24, aB)]) rfl ?_
  refine e_kw ?_
  refine w_ret ?_
  refine e_seq_r ?_
  have he10 := Option.some.inj h9
  subst he10
  refine e_ret (rs' := [.tmp 2]) rfl ?_
  refine r_tmp (v := aB) rfl ?_
  refine r_nil ?_
  exact fin_gen [] rfl rfl rfl (AV.le_refl _) st_nil
 ·
  have h9 := cond_f (b := (cond (cond (!x1) true (!x5)) true (!x7))) hb9 h8
  refine w_skip ?_
  refine e_kw ?_
  refine w_seqw ?_
  refine w_region ?_
  refine o_p rfl (p_fa tf44x1 rfl) ?_
  refine o_p rfl (p_load (v := aI) tv3 rfl rfl rfl) ?_
  obtain ⟨x11, hx11, h12⟩ := bind_s h9
  refine o_v (ov_call (v := aB) rfl (w_ref20xin hx11) ⟨(AV.le_refl _), (AV.le_refl _), (AV.le_refl _), trivial⟩ (ok_eq (by repeat (first | exact ok_nil | refine ok_cons rfl ?_ | refine ok_cons (dgv rfl) ?_))) rfl rfl) ?_
  refine o_p rfl (p_assign (v := aB) rfl) ?_
  refine o_end (fr' := [(0, .agg [aI, aI, aS, aS, aI, aI, aI, aS, aL, aL, aS, aI, aI, aI, aI, aI, aI, aI, aI, aL]), (1, .box 0 0), (2, aB), (3, aB), (24, aB)]) rfl ?_
  refine e_kw ?_
  refine w_seqw ?_
  refine w_region ?_
  refine o_p rfl (p_fa tf44x2 rfl) ?_
  refine o_p rfl (p_load (v := aS) tv9 rfl rfl rfl) ?_
  obtain ⟨x13, hx13, h14⟩ := bind_s h12
  refine o_v (ov_call (v := aB) rfl (w_ref06xRight hx13) ⟨(AV.le_refl _), trivial⟩ (ok_eq (by repeat (first | exact ok_nil | refine ok_cons rfl ?_ | refine ok_cons (dgv rfl) ?_))) rfl rfl) ?_
  refine o_p rfl (p_assign (v := aB) rfl) ?_
  refine o_end (fr' := [(0, .agg [aI, aI, aS, aS, aI, aI, aI, aS, aL, aL, aS, aI, aI, aI, aI, aI, aI, aI, aI, aL]), (1, .box 0 0), (2, aB), (3, aB), (4, aB), (24, aB)]) rfl ?_
  refine e_kw ?_
  refine w_seqw ?_
  refine w_region ?_
  refine o_p rfl (p_fa tf44x3 rfl) ?_
  refine o_p rfl (p_load (v := aS) tv9 rfl rfl rfl) ?_
  obtain ⟨x15, hx15, h16⟩ := bind_s h14
  refine o_v (ov_call (v := aB) rfl (w_ref20xIdent hx15) ⟨(AV.le_refl _), trivial⟩ (ok_eq (by repeat (first | exact ok_nil | refine ok_cons rfl ?_ | refine ok_cons (dgv rfl) ?_))) rfl rfl) ?_
  refine o_p rfl (p_assign (v := aB) rfl) ?_
  refine o_end (fr' := [(0, .agg [aI, aI, aS, aS, aI, aI, aI, aS, aL, aL, aS, aI, aI, aI, aI, aI, aI, aI, aI, aL]), (1, .box 0 0), (2, aB), (3, aB), (4, aB), (5, aB), (24, aB)]) rfl ?_
  refine e_kw ?_
  refine w_seqw ?_
  refine w_seqw ?_
  refine w_region ?_
  refine o_p rfl (p_fa tf44x0 rfl) ?_
  refine o_p rfl (p_load (v := aI) tv3 rfl rfl rfl) ?_
  refine o_end (fr' := [(0, .agg [aI, aI, aS, aS, aI, aI, aI, aS, aL, aL, aS, aI, aI, aI, aI, aI, aI, aI, aI, aL]), (1, .box 0 0), (2, aB), (3, aB), (4, aB), (5, aB), (24, aB), (35, aI)]) rfl ?_
  refine e_kw ?_
  refine w_block ?_
  refine w_seqw ?_
  refine w_region ?_
  refine o_p rfl (p_eql rfl rfl) ?_
  refine o_p rfl (p_assign (v := aB) rfl) ?_
  refine o_end (fr' := [(0, .agg [aI, aI, aS, aS, aI, aI, aI, aS, aL, aL, aS, aI, aI, aI, aI, aI, aI, aI, aI, aL]), (1, .box 0 0), (2, aB), (3, aB), (4, aB), (5, aB), (24, aB), (35, aI), (36, aB)]) rfl ?_
  refine e_kw ?_
  refine w_cond _ rfl (fun hb17 => ?_) (fun hb17 => ?_)
  ·
   have h17 := cond_t (b := (decide (p0C.Kind = (1 : Int)))) hb17 h16
   refine w_seqw ?_
   refine w_region ?_
   refine o_p rfl (p_move (v := aB) rfl) ?_
   refine o_p rfl (p_move (v := aB) rfl) ?_
   refine o_g rfl rfl (fun hc => ov_p rfl (p_move (v := aB) rfl)) ?_
   refine o_p rfl (p_picky rfl rfl rfl (fun e => keq e)) ?_
   refine o_p rfl (p_move (v := aB) rfl) ?_
   refine o_g rfl rfl (fun hc => ov_p rfl (p_fa tf44x6 rfl)) ?_
   refine o_g rfl rfl (fun hc => ov_p rfl (p_loads (us := [aS, aI, aI, aI, aI, aI, aI, aI, aI, aL]) tv42 (gx rfl hc) rfl rfl rfl)) ?_
   obtain ⟨x18, hx18, h19⟩ := bind_s h17
   refine o_g rfl rfl (fun hc => ov_call (v := aB) rfl (w_ref20xRightPolicy (gd_some hx18 hc)) ⟨(le_gv (gx rfl hc) (le_aggc rfl ⟨rfl, rfl, rfl, rfl, rfl, rfl, rfl, rfl, rfl, rfl, trivial⟩)), trivial⟩ (ok_eq (by repeat (first | exact ok_nil | refine ok_cons rfl ?_ | refine ok_cons (dgv rfl) ?_))) rfl rfl) ?_
   refine o_p rfl (p_picky rfl rfl rfl (fun e => keq e)) ?_
   refine o_p rfl (p_assign (v := aB) rfl) ?_
   refine o_end (fr' := [(0, .agg [aI, aI, aS, aS, aI, aI, aI, aS, aL, aL, aS, aI, aI, aI, aI, aI, aI, aI, aI, aL]), (1, .box 0 0), (2, aB), (3, aB), (4, aB), (5, aB), (24, aB), (35, aI), (36, aB)]) rfl ?_
   refine e_kw ?_
   refine w_ret ?_
   refine e_blk_r ?_
   refine e_seq_r ?_
   have he20 := Option.some.inj h19
   subst he20
   refine e_ret (rs' := [.tmp 2]) rfl ?_
   refine r_tmp (v := aB) rfl ?_
   refine r_nil ?_
   exact fin_gen [] rfl rfl rfl (AV.le_refl _) st_nil
  ·
   have h17 := cond_f (b := (decide (p0C.Kind = (1 : Int)))) hb17 h16
   obtain ⟨x21, hx21, h22⟩ := bind_s h17
   refine w_join (fun j23 => x21 = j23) (fun (j23 : Bool) => ([(1, .box 0 0), (3, .c (.bool x11)), (4, .c (.bool x13)), (5, .c (.bool x15)), (35, .c (.int .i64 p0C.Kind)), (47, .c (.bool j23))] : Fr)) (fun (j23 : Bool) => ([[.c (.int .i64 p0C.Kind), .c (.int .i64 p0C.Seq), .c (.str p0C.Name), .c (.str p0C.Key), .c (.int .i64 p0C.N), .c (.int .i64 p0C.Data.Kind), .c (.int .i64 p0C.Data.Int), .c (.str p0C.Data.Text), .c (PV.ls 5 rowApiValue p0C.Data.Items), .c (PV.ls 1 rowS p0C.Data.Keys), .c (.str p0C.Opts.Queue), .c (.int .i64 p0C.Opts.ToStart), .c (.int .i64 p0C.Opts.ToClose), .c (.int .i64 p0C.Opts.Total), .c (.int .i64 p0C.Opts.Beat), .c (.int .i64 p0C.Opts.First), .c (.int .i64 p0C.Opts.Coef), .c (.int .i64 p0C.Opts.Most), .c (.int .i64 p0C.Opts.Attempts), .c (PV.ls 1 rowS p0C.Opts.Fatal)]] : St)) ?_ ?_
   ·
    refine w_seqw ?_
    refine w_region ?_
    refine o_p rfl (p_eql rfl rfl) ?_
    refine o_p rfl (p_assign (v := aB) rfl) ?_
    refine o_end (fr' := [(0, .agg [aI, aI, aS, aS, aI, aI, aI, aS, aL, aL, aS, aI, aI, aI, aI, aI, aI, aI, aI, aL]), (1, .box 0 0), (2, aB), (3, aB), (4, aB), (5, aB), (24, aB), (35, aI), (36, aB), (47, aB)]) rfl ?_
    refine e_kw ?_
    refine w_cond _ rfl (fun hb24 => ?_) (fun hb24 => ?_)
    ·
     have h24 := cond_t (b := (decide (p0C.Kind = (2 : Int)))) hb24 hx21
     refine w_skip ?_
     exact e_j _ (Option.some.inj h24).symm (w_weak [] 1 rfl rfl rfl rfl ⟨(AV.le_refl _), (AV.le_refl _), (AV.le_refl _), (AV.le_refl _), (AV.le_refl _), (AV.le_refl _), trivial⟩ (st_r rfl st_nil))
    ·
     have h24 := cond_f (b := (decide (p0C.Kind = (2 : Int)))) hb24 hx21
     refine w_region ?_
     refine o_p rfl (p_eql rfl rfl) ?_
     refine o_p rfl (p_assign (v := aB) rfl) ?_
     refine o_end (fr' := [(0, .agg [aI, aI, aS, aS, aI, aI, aI, aS, aL, aL, aS, aI, aI, aI, aI, aI, aI, aI, aI, aL]), (1, .box 0 0), (2, aB), (3, aB), (4, aB), (5, aB), (24, aB), (35, aI), (36, aB), (47, aB)]) rfl ?_
     exact e_j _ (Option.some.inj h24).symm (w_weak [] 1 rfl rfl rfl rfl ⟨(AV.le_refl _), (AV.le_refl _), (AV.le_refl _), (AV.le_refl _), (AV.le_refl _), (AV.le_refl _), trivial⟩ (st_r rfl st_nil))
   ·
    intro j23 hj25
    subst hj25
    refine w_cond _ rfl (fun hb26 => ?_) (fun hb26 => ?_)
    ·
     have h26 := cond_t (b := x21) hb26 h22
     refine w_seqw ?_
     refine w_region ?_
     refine o_p rfl (p_move (v := aB) rfl) ?_
     refine o_p rfl (p_assign (v := aB) rfl) ?_
     refine o_end (fr' := [(1, .box 0 0), (2, aB), (3, aB), (4, aB), (5, aB), (35, aI), (47, aB)]) rfl ?_
     refine e_kw ?_
     refine w_ret ?_
     refine e_blk_r ?_
     refine e_seq_r ?_
     have he27 := Option.some.inj h26
     subst he27
     refine e_ret (rs' := [.tmp 2]) rfl ?_
     refine r_tmp (v := aB) rfl ?_
     refine r_nil ?_
     exact fin_gen [] rfl rfl rfl (AV.le_refl _) st_nil
    ·
     have h26 := cond_f (b := x21) hb26 h22
     refine w_seqw ?_
     refine w_region ?_
     refine o_p rfl (p_eql rfl rfl) ?_
     refine o_p rfl (p_assign (v := aB) rfl) ?_
     refine o_end (fr' := [(1, .box 0 0), (3, aB), (4, aB), (5, aB), (35, aI), (47, aB), (51, aB)]) rfl ?_
     refine e_kw ?_
     refine w_cond _ rfl (fun hb28 => ?_) (fun hb28 => ?_)
     ·
      have h28 := cond_t (b := (decide (p0C.Kind = (3 : Int)))) hb28 h26
      refine w_seqw ?_
      refine w_region ?_
      refine o_p rfl (p_move (v := aB) rfl) ?_
      refine o_p rfl (p_move (v := aB) rfl) ?_
      refine o_g rfl rfl (fun hc => ov_p rfl (p_fa tf44x4 rfl)) ?_
      refine o_g rfl rfl (fun hc => ov_p rfl (p_load (v := aI) tv3 (gx rfl hc) rfl rfl)) ?_
      obtain ⟨x29, hx29, h30⟩ := bind_s h28
      refine o_g rfl rfl (fun hc => ov_call (v := aB) rfl (w_ref20xin (gd_some hx29 hc)) ⟨(le_gv (gx rfl hc) (AV.le_refl _)), (AV.le_refl _), (AV.le_refl _), trivial⟩ (ok_eq (by repeat (first | exact ok_nil | refine ok_cons rfl ?_ | refine ok_cons (dgv rfl) ?_))) rfl rfl) ?_
      refine o_p rfl (p_picky rfl rfl rfl (fun e => keq e)) ?_
      refine o_p rfl (p_assign (v := aB) rfl) ?_
      refine o_end (fr' := [(1, .box 0 0), (2, aB), (3, aB), (4, aB), (5, aB), (35, aI), (47, aB), (51, aB)]) rfl ?_
      refine e_kw ?_
      refine w_ret ?_
      refine e_blk_r ?_
      refine e_seq_r ?_
      have he31 := Option.some.inj h30
      subst he31
      refine e_ret (rs' := [.tmp 2]) rfl ?_
      refine r_tmp (v := aB) rfl ?_
      refine r_nil ?_
      exact fin_gen [] rfl rfl rfl (AV.le_refl _) st_nil
     ·
      have h28 := cond_f (b := (decide (p0C.Kind = (3 : Int)))) hb28 h26
      refine w_seqw ?_
      refine w_region ?_
      refine o_p rfl (p_eql rfl rfl) ?_
      refine o_p rfl (p_assign (v := aB) rfl) ?_
      refine o_end (fr' := [(1, .box 0 0), (3, aB), (4, aB), (5, aB), (35, aI), (47, aB), (51, aB), (59, aB)]) rfl ?_
      refine e_kw ?_
      refine w_cond _ rfl (fun hb32 => ?_) (fun hb32 => ?_)
      ·
       have h32 := cond_t (b := (decide (p0C.Kind = (5 : Int)))) hb32 h28
       refine w_seqw ?_
       refine w_region ?_
       refine o_p rfl (p_move (v := aB) rfl) ?_
       refine o_p rfl (p_move (v := aB) rfl) ?_
       refine o_g rfl rfl (fun hc => ov_p rfl (p_move (v := aB) rfl)) ?_
       refine o_p rfl (p_picky rfl rfl rfl (fun e => keq e)) ?_
       refine o_p rfl (p_move (v := aB) rfl) ?_
       refine o_g rfl rfl (fun hc => ov_p rfl (p_move (v := aB) rfl)) ?_
       refine o_p rfl (p_picky rfl rfl rfl (fun e => keq e)) ?_
       refine o_p rfl (p_move (v := aB) rfl) ?_
       refine o_g rfl rfl (fun hc => ov_p rfl (p_fa tf44x4 rfl)) ?_
       refine o_g rfl rfl (fun hc => ov_p rfl (p_load (v := aI) tv3 (gx rfl hc) rfl rfl)) ?_
       obtain ⟨x33, hx33, h34⟩ := bind_s h32
       refine o_g rfl rfl (fun hc => ov_call (v := aB) rfl (w_ref20xin (gd_some hx33 hc)) ⟨(le_gv (gx rfl hc) (AV.le_refl _)), (AV.le_refl _), (AV.le_refl _), trivial⟩ (ok_eq (by repeat (first | exact ok_nil | refine ok_cons rfl ?_ | refine ok_cons (dgv rfl) ?_))) rfl rfl) ?_
       refine o_p rfl (p_picky rfl rfl rfl (fun e => keq e)) ?_
       refine o_p rfl (p_assign (v := aB) rfl) ?_
       refine o_end (fr' := [(1, .box 0 0), (2, aB), (3, aB), (4, aB), (5, aB), (35, aI), (47, aB), (51, aB), (59, aB)]) rfl ?_
       refine e_kw ?_
       refine w_ret ?_
       refine e_blk_r ?_
       refine e_seq_r ?_
       have he35 := Option.some.inj h34
       subst he35
       refine e_ret (rs' := [.tmp 2]) rfl ?_
       refine r_tmp (v := aB) rfl ?_
       refine r_nil ?_
       exact fin_gen [] rfl rfl rfl (AV.le_refl _) st_nil
      ·
       have h32 := cond_f (b := (decide (p0C.Kind = (5 : Int)))) hb32 h28
       refine w_seqw ?_
       refine w_region ?_
       refine o_p rfl (p_eql rfl rfl) ?_
       refine o_p rfl (p_assign (v := aB) rfl) ?_
       refine o_end (fr' := [(1, .box 0 0), (3, aB), (4, aB), (5, aB), (35, aI), (47, aB), (51, aB), (59, aB), (73, aB)]) rfl ?_
       refine e_kw ?_
       refine w_cond _ rfl (fun hb36 => ?_) (fun hb36 => ?_)
       ·
        have h36 := cond_t (b := (decide (p0C.Kind = (6 : Int)))) hb36 h32
        refine w_seqw ?_
        refine w_region ?_
        refine o_p rfl (p_move (v := aB) rfl) ?_
        refine o_p rfl (p_move (v := aB) rfl) ?_
        refine o_g rfl rfl (fun hc => ov_p rfl (p_move (v := aB) rfl)) ?_
        refine o_p rfl (p_picky rfl rfl rfl (fun e => keq e)) ?_
        refine o_p rfl (p_move (v := aB) rfl) ?_
        refine o_g rfl rfl (fun hc => ov_p rfl (p_move (v := aB) rfl)) ?_
        refine o_p rfl (p_picky rfl rfl rfl (fun e => keq e)) ?_
        refine o_p rfl (p_assign (v := aB) rfl) ?_
        refine o_end (fr' := [(1, .box 0 0), (2, aB), (3, aB), (4, aB), (5, aB), (35, aI), (47, aB), (51, aB), (59, aB), (73, aB)]) rfl ?_
        refine e_kw ?_
        refine w_ret ?_
        refine e_blk_r ?_
        refine e_seq_r ?_
        have he37 := Option.some.inj h36
        subst he37
        refine e_ret (rs' := [.tmp 2]) rfl ?_
        refine r_tmp (v := aB) rfl ?_
        refine r_nil ?_
        exact fin_gen [] rfl rfl rfl (AV.le_refl _) st_nil
       ·
        have h36 := cond_f (b := (decide (p0C.Kind = (6 : Int)))) hb36 h32
        refine w_seqw ?_
        refine w_region ?_
        refine o_p rfl (p_eql rfl rfl) ?_
        refine o_p rfl (p_assign (v := aB) rfl) ?_
        refine o_end (fr' := [(1, .box 0 0), (3, aB), (4, aB), (5, aB), (35, aI), (47, aB), (51, aB), (59, aB), (73, aB), (82, aB)]) rfl ?_
        refine e_kw ?_
        refine w_cond _ rfl (fun hb38 => ?_) (fun hb38 => ?_)
        ·
         have h38 := cond_t (b := (decide (p0C.Kind = (7 : Int)))) hb38 h36
         refine w_seqw ?_
         refine w_region ?_
         refine o_p rfl (p_move (v := aB) rfl) ?_
         refine o_p rfl (p_move (v := aB) rfl) ?_
         refine o_g rfl rfl (fun hc => ov_p rfl (p_fa tf44x4 rfl)) ?_
         refine o_g rfl rfl (fun hc => ov_p rfl (p_load (v := aI) tv3 (gx rfl hc) rfl rfl)) ?_
         refine o_g rfl rfl (fun hc => ov_p rfl (p_eql (gx rfl hc) rfl)) ?_
         refine o_g rfl rfl (fun hc => ov_p rfl (p_move (v := aB) (gx rfl hc))) ?_
         refine o_gg rfl rfl (fun hc => ov_p rfl (p_fa tf44x4 rfl)) ?_
         refine o_gg rfl rfl (fun hc => ov_p rfl (p_load (v := aI) tv3 (gx rfl hc) rfl rfl)) ?_
         obtain ⟨x39, hx39, h40⟩ := bind_s h38
         refine o_gg rfl rfl (fun hc => ov_call (v := aB) rfl (w_ref20xin (gd_some hx39 hc)) ⟨(le_gv (gx rfl hc) (AV.le_refl _)), (AV.le_refl _), (AV.le_refl _), trivial⟩ (ok_eq (by repeat (first | exact ok_nil | refine ok_cons rfl ?_ | refine ok_cons (dgv rfl) ?_))) rfl rfl) ?_
         refine o_gg rfl rfl (fun hc => ov_p rfl (p_move (v := aB) (gx rfl hc))) ?_
         refine o_gg rfl rfl (fun hc => ov_p rfl (p_fa tf44x5 rfl)) ?_
         refine o_gg rfl rfl (fun hc => ov_p rfl (p_fa tf40x0 (gx rfl hc))) ?_
         refine o_gg rfl rfl (fun hc => ov_p rfl (p_load (v := aI) tv3 (gx rfl hc) rfl rfl)) ?_
         refine o_gg rfl rfl (fun hc => ov_p rfl (p_eql (gx rfl hc) rfl)) ?_
         refine o_gg rfl rfl (fun hc => ov_p rfl (p_picky (gx rfl hc) rfl rfl (fun e => band hc (keq e)))) ?_
         refine o_g rfl rfl (fun hc => ov_p rfl (p_pickz (gx rfl hc) rfl rfl (fun e => band hc (keq e)))) ?_
         refine o_p rfl (p_picky rfl rfl rfl (fun e => keq e)) ?_
         refine o_p rfl (p_assign (v := aB) rfl) ?_
         refine o_end (fr' := [(1, .box 0 0), (2, aB), (3, aB), (4, aB), (5, aB), (35, aI), (47, aB), (51, aB), (59, aB), (73, aB), (82, aB)]) rfl ?_
         refine e_kw ?_
         refine w_ret ?_
         refine e_blk_r ?_
         refine e_seq_r ?_
         have he41 := Option.some.inj h40
         subst he41
         refine e_ret (rs' := [.tmp 2]) rfl ?_
         refine r_tmp (v := aB) rfl ?_
         refine r_nil ?_
         exact fin_gen [] rfl rfl rfl (AV.le_refl _) st_nil
        ·
         have h38 := cond_f (b := (decide (p0C.Kind = (7 : Int)))) hb38 h36
         refine w_seqw ?_
         refine w_region ?_
         refine o_p rfl (p_eql rfl rfl) ?_
         refine o_p rfl (p_assign (v := aB) rfl) ?_
         refine o_end (fr' := [(1, .box 0 0), (3, aB), (4, aB), (5, aB), (35, aI), (47, aB), (51, aB), (59, aB), (73, aB), (82, aB), (101, aB)]) rfl ?_
         refine e_kw ?_
         refine w_cond _ rfl (fun hb42 => ?_) (fun hb42 => ?_)
         ·
          have h42 := cond_t (b := (decide (p0C.Kind = (8 : Int)))) hb42 h38
          refine w_seqw ?_
          refine w_region ?_
          refine o_p rfl (p_move (v := aB) rfl) ?_
          refine o_p rfl (p_move (v := aB) rfl) ?_
          refine o_g rfl rfl (fun hc => ov_p rfl (p_move (v := aB) rfl)) ?_
          refine o_p rfl (p_picky rfl rfl rfl (fun e => keq e)) ?_
          refine o_p rfl (p_assign (v := aB) rfl) ?_
          refine o_end (fr' := [(1, .box 0 0), (2, aB), (3, aB), (4, aB), (5, aB), (35, aI), (47, aB), (51, aB), (59, aB), (73, aB), (82, aB), (101, aB)]) rfl ?_
          refine e_kw ?_
          refine w_ret ?_
          refine e_blk_r ?_
          refine e_seq_r ?_
          have he43 := Option.some.inj h42
          subst he43
          refine e_ret (rs' := [.tmp 2]) rfl ?_
          refine r_tmp (v := aB) rfl ?_
          refine r_nil ?_
          exact fin_gen [] rfl rfl rfl (AV.le_refl _) st_nil
         ·
          have h42 := cond_f (b := (decide (p0C.Kind = (8 : Int)))) hb42 h38
          refine w_seqw ?_
          refine w_region ?_
          refine o_p rfl (p_eql rfl rfl) ?_
          refine o_p rfl (p_assign (v := aB) rfl) ?_
          refine o_end (fr' := [(1, .box 0 0), (3, aB), (4, aB), (5, aB), (35, aI), (47, aB), (51, aB), (59, aB), (73, aB), (82, aB), (101, aB), (107, aB)]) rfl ?_
          refine e_kw ?_
          refine w_cond _ rfl (fun hb44 => ?_) (fun hb44 => ?_)
          ·
           have h44 := cond_t (b := (decide (p0C.Kind = (9 : Int)))) hb44 h42
           refine w_seqw ?_
           refine w_region ?_
           refine o_p rfl (p_move (v := aB) rfl) ?_
           refine o_p rfl (p_move (v := aB) rfl) ?_
           refine o_g rfl rfl (fun hc => ov_p rfl (p_fa tf44x4 rfl)) ?_
           refine o_g rfl rfl (fun hc => ov_p rfl (p_load (v := aI) tv3 (gx rfl hc) rfl rfl)) ?_
           obtain ⟨x45, hx45, h46⟩ := bind_s h44
           refine o_g rfl rfl (fun hc => ov_call (v := aB) rfl (w_ref20xin (gd_some hx45 hc)) ⟨(le_gv (gx rfl hc) (AV.le_refl _)), (AV.le_refl _), (AV.le_refl _), trivial⟩ (ok_eq (by repeat (first | exact ok_nil | refine ok_cons rfl ?_ | refine ok_cons (dgv rfl) ?_))) rfl rfl) ?_
           refine o_p rfl (p_picky rfl rfl rfl (fun e => keq e)) ?_
           refine o_p rfl (p_assign (v := aB) rfl) ?_
           refine o_end (fr' := [(1, .box 0 0), (2, aB), (3, aB), (4, aB), (5, aB), (35, aI), (47, aB), (51, aB), (59, aB), (73, aB), (82, aB), (101, aB), (107, aB)]) rfl ?_
           refine e_kw ?_
           refine w_ret ?_
           refine e_blk_r ?_
           refine e_seq_r ?_
           have he47 := Option.some.inj h46
           subst he47
           refine e_ret (rs' := [.tmp 2]) rfl ?_
           refine r_tmp (v := aB) rfl ?_
           refine r_nil ?_
           exact fin_gen [] rfl rfl rfl (AV.le_refl _) st_nil
          ·
           have h44 := cond_f (b := (decide (p0C.Kind = (9 : Int)))) hb44 h42
           refine w_seqw ?_
           refine w_region ?_
           refine o_p rfl (p_eql rfl rfl) ?_
           refine o_p rfl (p_assign (v := aB) rfl) ?_
           refine o_end (fr' := [(1, .box 0 0), (3, aB), (4, aB), (5, aB), (35, aI), (47, aB), (51, aB), (59, aB), (73, aB), (82, aB), (101, aB), (107, aB), (115, aB)]) rfl ?_
           refine e_kw ?_
           refine w_cond _ rfl (fun hb48 => ?_) (fun hb48 => ?_)
           ·
            have h48 := cond_t (b := (decide (p0C.Kind = (10 : Int)))) hb48 h44
            refine w_seqw ?_
            refine w_region ?_
            refine o_p rfl (p_fa tf44x5 rfl) ?_
            refine o_p rfl (p_fa tf40x0 rfl) ?_
            refine o_p rfl (p_load (v := aI) tv3 rfl rfl rfl) ?_
            refine o_p rfl (p_eql rfl rfl) ?_
            refine o_p rfl (p_assign (v := aB) rfl) ?_
            refine o_end (fr' := [(1, .box 0 0), (2, aB), (3, aB), (4, aB), (5, aB), (35, aI), (47, aB), (51, aB), (59, aB), (73, aB), (82, aB), (101, aB), (107, aB), (115, aB)]) rfl ?_
            refine e_kw ?_
            refine w_ret ?_
            refine e_blk_r ?_
            refine e_seq_r ?_
            have he49 := Option.some.inj h48
            subst he49
            refine e_ret (rs' := [.tmp 2]) rfl ?_
            refine r_tmp (v := aB) rfl ?_
            refine r_nil ?_
            exact fin_gen [] rfl rfl rfl (AV.le_refl _) st_nil
           ·
            have h48 := cond_f (b := (decide (p0C.Kind = (10 : Int)))) hb48 h44
            refine w_seqw ?_
            refine w_region ?_
            refine o_p rfl (p_eql rfl rfl) ?_
            refine o_p rfl (p_assign (v := aB) rfl) ?_
            refine o_end (fr' := [(1, .box 0 0), (3, aB), (4, aB), (5, aB), (35, aI), (47, aB), (51, aB), (59, aB), (73, aB), (82, aB), (101, aB), (107, aB), (115, aB), (121, aB)]) rfl ?_
            refine e_kw ?_
            refine w_cond _ rfl (fun hb50 => ?_) (fun hb50 => ?_)
            ·
             have h50 := cond_t (b := (decide (p0C.Kind = (12 : Int)))) hb50 h48
             refine w_seqw ?_
             refine w_region ?_
             refine o_p rfl (p_fa tf44x2 rfl) ?_
             refine o_p rfl (p_load (v := aS) tv9 rfl rfl rfl) ?_
             refine o_p rfl (p_lens ti9 rfl) ?_
             refine o_p rfl (p_leq rfl rfl) ?_
             refine o_p rfl (p_assign (v := aB) rfl) ?_
             refine o_end (fr' := [(1, .box 0 0), (2, aB), (3, aB), (4, aB), (5, aB), (35, aI), (47, aB), (51, aB), (59, aB), (73, aB), (82, aB), (101, aB), (107, aB), (115, aB), (121, aB)]) rfl ?_
             refine e_kw ?_
             refine w_ret ?_
             refine e_blk_r ?_
             refine e_seq_r ?_
             have he51 := Option.some.inj h50
             subst he51
             refine e_ret (rs' := [.tmp 2]) rfl ?_
             refine r_tmp (v := aB) rfl ?_
             refine r_nil ?_
             exact fin_gen [] rfl rfl rfl (AV.le_refl _) st_nil
            ·
             have h50 := cond_f (b := (decide (p0C.Kind = (12 : Int)))) hb50 h48
             refine w_seqw ?_
             refine w_region ?_
             refine o_p rfl (p_eql rfl rfl) ?_
             refine o_p rfl (p_assign (v := aB) rfl) ?_
             refine o_end (fr' := [(1, .box 0 0), (3, aB), (4, aB), (5, aB), (35, aI), (47, aB), (51, aB), (59, aB), (73, aB), (82, aB), (101, aB), (107, aB), (115, aB), (121, aB), (127, aB)]) rfl ?_
             refine e_kw ?_
             refine w_cond _ rfl (fun hb52 => ?_) (fun hb52 => ?_)
             ·
              have h52 := cond_t (b := (decide (p0C.Kind = (14 : Int)))) hb52 h50
              refine w_seqw ?_
              refine w_region ?_
              refine o_p rfl (p_fa tf44x5 rfl) ?_
              refine o_p rfl (p_loads (us := [aI, aI, aS, aL, aL]) tv40 rfl rfl rfl rfl) ?_
              obtain ⟨x53, hx53, h54⟩ := bind_s h52
              refine o_v (ov_call (v := aB) rfl (w_ref20xInput hx53) ⟨(le_aggc rfl ⟨rfl, rfl, rfl, rfl, rfl, trivial⟩), trivial⟩ rfl rfl rfl) ?_
              refine o_p rfl (p_assign (v := aB) rfl) ?_
              refine o_end (fr' := [(1, .box 0 0), (2, aB), (3, aB), (4, aB), (5, aB), (35, aI), (47, aB), (51, aB), (59, aB), (73, aB), (82, aB), (101, aB), (107, aB), (115, aB), (121, aB), (127, aB)]) rfl ?_
              refine e_kw ?_
              refine w_ret ?_
              refine e_blk_r ?_
              refine e_seq_r ?_
              have he55 := Option.some.inj h54
              subst he55
              refine e_ret (rs' := [.tmp 2]) rfl ?_
              refine r_tmp (v := aB) rfl ?_
              refine r_nil ?_
              exact fin_gen [] rfl rfl rfl (AV.le_refl _) st_nil
             ·
              have h52 := cond_f (b := (decide (p0C.Kind = (14 : Int)))) hb52 h50
              refine w_skip ?_
              refine e_blk_n ?_
              refine e_kw ?_
              refine w_seqw ?_
              refine w_region ?_
              refine o_p rfl (p_assign (v := aB) rfl) ?_
              refine o_end (fr' := [(1, .box 0 0), (2, aB), (3, aB), (4, aB), (5, aB), (35, aI), (47, aB), (51, aB), (59, aB), (73, aB), (82, aB), (101, aB), (107, aB), (115, aB), (121, aB), (127, aB)]) rfl ?_
              refine e_kw ?_
              refine w_ret ?_
              have he56 := Option.some.inj h52
              subst he56
              refine e_ret (rs' := [.tmp 2]) rfl ?_
              refine r_tmp (v := aB) rfl ?_
              refine r_nil ?_
              exact fin_gen [] rfl rfl rfl (AV.le_refl _) st_nil
noncomputable def command_fields (p0kind : Int) : Option CommandUses :=
 cond (decide (p0kind = (1 : Int))) (some (CommandUses.mk true true false false true true)) (((cond (decide (p0kind = (2 : Int))) (some (decide (p0kind = (2 : Int)))) (some (decide (p0kind = (4 : Int))))) : Option Bool).bind fun (x3 : Bool) => (cond x3 (some (CommandUses.mk true false false false false false)) (cond (decide (p0kind = (3 : Int))) (some (CommandUses.mk true false false true false false)) (cond (decide (p0kind = (5 : Int))) (some (CommandUses.mk true true true true true false)) (cond (decide (p0kind = (6 : Int))) (some (CommandUses.mk true true true false true false)) (cond (decide (p0kind = (7 : Int))) (some (CommandUses.mk false true false true true false)) (cond (decide (p0kind = (8 : Int))) (some (CommandUses.mk false true true false true false)) (cond (decide (p0kind = (9 : Int))) (some (CommandUses.mk false false true true true false)) (cond (decide (p0kind = (12 : Int))) (some (CommandUses.mk false true false false true false)) (some (CommandUses.mk false false false false true false)))))))))))
theorem w_command_fields {p0kind : Int} {res : CommandUses} (h : command_fields p0kind = some res) : ACalls Try.prog 74 [.c (.int .i64 p0kind)] [] (.agg (AV.cs (rowCommandUses res))) [] := by
 unfold command_fields at h
 refine acalls (fn := Try.f74) [0, 2, 3, 4, 7, 11, 14, 17, 20, 23, 26, 29] (by kernel_rfl) Try.func74 rfl (by kernel_rfl) (by kernel_rfl) ?_
 refine w_seqw ?_
 refine w_region ?_
 refine o_alloc (n := 0) (cs := [aB, aB, aB, aB, aB, aB]) (σ' := [[aB, aB, aB, aB, aB, aB]]) tz102 rfl rfl rfl ?_
 refine o_end (fr' := [(0, aI), (2, .box 0 0)]) rfl ?_
 refine e_kw ?_
 refine w_seqw ?_
 refine w_seqw ?_
 refine w_region ?_
 refine o_p rfl (p_move (v := aI) rfl) ?_
 refine o_end (fr' := [(0, aI), (2, .box 0 0), (3, aI)]) rfl ?_
 refine e_kw ?_
 refine w_block ?_
 refine w_seqw ?_
 refine w_region ?_
 refine o_p rfl (p_eql rfl rfl) ?_
 refine o_p rfl (p_assign (v := aB) rfl) ?_
 refine o_end (fr' := [(0, aI), (2, .box 0 0), (3, aI), (4, aB)]) rfl ?_
 refine e_kw ?_
 refine w_cond _ rfl (fun hb1 => ?_) (fun hb1 => ?_)
 ·
  have h1 := cond_t (b := (decide (p0kind = (1 : Int)))) hb1 h
  refine w_seqw ?_
  refine w_region ?_
  refine o_p rfl (p_build (cs := [aB, aB, aB, aB, aB, aB]) tb102 rfl) ?_
  refine o_store (v := .agg [aB, aB, aB, aB, aB, aB]) (us := [aB, aB, aB, aB, aB, aB]) (cs := [aB, aB, aB, aB, aB, aB]) (σ' := [[aB, aB, aB, aB, aB, aB]]) rfl tv102 rfl rfl rfl rfl rfl rfl rfl rfl ?_
  refine o_end (fr' := [(0, aI), (2, .box 0 0), (3, aI), (4, aB)]) rfl ?_
  refine e_kw ?_
  refine w_ret ?_
  refine e_blk_r ?_
  refine e_seq_r ?_
  have he2 := Option.some.inj h1
  subst he2
  refine e_ret (rs' := [.cell 2 102]) rfl ?_
  refine r_cells (us := [aB, aB, aB, aB, aB, aB]) (cs := [aB, aB, aB, aB, aB, aB]) tv102 rfl rfl rfl rfl ?_
  refine r_nil ?_
  exact fin_gen [] rfl rfl rfl (le_aggc rfl ⟨rfl, rfl, rfl, rfl, rfl, rfl, trivial⟩) st_nil
 ·
  have h1 := cond_f (b := (decide (p0kind = (1 : Int)))) hb1 h
  obtain ⟨x3, hx3, h4⟩ := bind_s h1
  refine w_join (fun j5 => x3 = j5) (fun (j5 : Bool) => ([(2, .box 0 0), (3, .c (.int .i64 p0kind)), (7, .c (.bool j5))] : Fr)) (fun (j5 : Bool) => ([[.c (.bool false), .c (.bool false), .c (.bool false), .c (.bool false), .c (.bool false), .c (.bool false)]] : St)) ?_ ?_
  ·
   refine w_seqw ?_
   refine w_region ?_
   refine o_p rfl (p_eql rfl rfl) ?_
   refine o_p rfl (p_assign (v := aB) rfl) ?_
   refine o_end (fr' := [(0, aI), (2, .box 0 0), (3, aI), (4, aB), (7, aB)]) rfl ?_
   refine e_kw ?_
   refine w_cond _ rfl (fun hb6 => ?_) (fun hb6 => ?_)
   ·
    have h6 := cond_t (b := (decide (p0kind = (2 : Int)))) hb6 hx3
    refine w_skip ?_
    exact e_j _ (Option.some.inj h6).symm (w_weak [] 1 rfl rfl rfl rfl ⟨(AV.le_refl _), (AV.le_refl _), (AV.le_refl _), trivial⟩ (st_r rfl st_nil))
   ·
    have h6 := cond_f (b := (decide (p0kind = (2 : Int)))) hb6 hx3
    refine w_region ?_
    refine o_p rfl (p_eql rfl rfl) ?_
    refine o_p rfl (p_assign (v := aB) rfl) ?_
    refine o_end (fr' := [(0, aI), (2, .box 0 0), (3, aI), (4, aB), (7, aB)]) rfl ?_
    exact e_j _ (Option.some.inj h6).symm (w_weak [] 1 rfl rfl rfl rfl ⟨(AV.le_refl _), (AV.le_refl _), (AV.le_refl _), trivial⟩ (st_r rfl st_nil))
  ·
   intro j5 hj7
   subst hj7
   refine w_cond _ rfl (fun hb8 => ?_) (fun hb8 => ?_)
   ·
    have h8 := cond_t (b := x3) hb8 h4
    refine w_seqw ?_
    refine w_region ?_
    refine o_p rfl (p_build (cs := [aB, aB, aB, aB, aB, aB]) tb102 rfl) ?_
    refine o_store (v := .agg [aB, aB, aB, aB, aB, aB]) (us := [aB, aB, aB, aB, aB, aB]) (cs := [aB, aB, aB, aB, aB, aB]) (σ' := [[aB, aB, aB, aB, aB, aB]]) rfl tv102 rfl rfl rfl rfl rfl rfl rfl rfl ?_
    refine o_end (fr' := [(2, .box 0 0), (3, aI), (7, aB)]) rfl ?_
    refine e_kw ?_
    refine w_ret ?_
    refine e_blk_r ?_
    refine e_seq_r ?_
    have he9 := Option.some.inj h8
    subst he9
    refine e_ret (rs' := [.cell 2 102]) rfl ?_
    refine r_cells (us := [aB, aB, aB, aB, aB, aB]) (cs := [aB, aB, aB, aB, aB, aB]) tv102 rfl rfl rfl rfl ?_
    refine r_nil ?_
    exact fin_gen [] rfl rfl rfl (le_aggc rfl ⟨rfl, rfl, rfl, rfl, rfl, rfl, trivial⟩) st_nil
   ·
    have h8 := cond_f (b := x3) hb8 h4
    refine w_seqw ?_
    refine w_region ?_
    refine o_p rfl (p_eql rfl rfl) ?_
    refine o_p rfl (p_assign (v := aB) rfl) ?_
    refine o_end (fr' := [(2, .box 0 0), (3, aI), (7, aB), (11, aB)]) rfl ?_
    refine e_kw ?_
    refine w_cond _ rfl (fun hb10 => ?_) (fun hb10 => ?_)
    ·
     have h10 := cond_t (b := (decide (p0kind = (3 : Int)))) hb10 h8
     refine w_seqw ?_
     refine w_region ?_
     refine o_p rfl (p_build (cs := [aB, aB, aB, aB, aB, aB]) tb102 rfl) ?_
     refine o_store (v := .agg [aB, aB, aB, aB, aB, aB]) (us := [aB, aB, aB, aB, aB, aB]) (cs := [aB, aB, aB, aB, aB, aB]) (σ' := [[aB, aB, aB, aB, aB, aB]]) rfl tv102 rfl rfl rfl rfl rfl rfl rfl rfl ?_
     refine o_end (fr' := [(2, .box 0 0), (3, aI), (7, aB), (11, aB)]) rfl ?_
     refine e_kw ?_
     refine w_ret ?_
     refine e_blk_r ?_
     refine e_seq_r ?_
     have he11 := Option.some.inj h10
     subst he11
     refine e_ret (rs' := [.cell 2 102]) rfl ?_
     refine r_cells (us := [aB, aB, aB, aB, aB, aB]) (cs := [aB, aB, aB, aB, aB, aB]) tv102 rfl rfl rfl rfl ?_
     refine r_nil ?_
     exact fin_gen [] rfl rfl rfl (le_aggc rfl ⟨rfl, rfl, rfl, rfl, rfl, rfl, trivial⟩) st_nil
    ·
     have h10 := cond_f (b := (decide (p0kind = (3 : Int)))) hb10 h8
     refine w_seqw ?_
     refine w_region ?_
     refine o_p rfl (p_eql rfl rfl) ?_
     refine o_p rfl (p_assign (v := aB) rfl) ?_
     refine o_end (fr' := [(2, .box 0 0), (3, aI), (7, aB), (11, aB), (14, aB)]) rfl ?_
     refine e_kw ?_
     refine w_cond _ rfl (fun hb12 => ?_) (fun hb12 => ?_)
     ·
      have h12 := cond_t (b := (decide (p0kind = (5 : Int)))) hb12 h10
      refine w_seqw ?_
      refine w_region ?_
      refine o_p rfl (p_build (cs := [aB, aB, aB, aB, aB, aB]) tb102 rfl) ?_
      refine o_store (v := .agg [aB, aB, aB, aB, aB, aB]) (us := [aB, aB, aB, aB, aB, aB]) (cs := [aB, aB, aB, aB, aB, aB]) (σ' := [[aB, aB, aB, aB, aB, aB]]) rfl tv102 rfl rfl rfl rfl rfl rfl rfl rfl ?_
      refine o_end (fr' := [(2, .box 0 0), (3, aI), (7, aB), (11, aB), (14, aB)]) rfl ?_
      refine e_kw ?_
      refine w_ret ?_
      refine e_blk_r ?_
      refine e_seq_r ?_
      have he13 := Option.some.inj h12
      subst he13
      refine e_ret (rs' := [.cell 2 102]) rfl ?_
      refine r_cells (us := [aB, aB, aB, aB, aB, aB]) (cs := [aB, aB, aB, aB, aB, aB]) tv102 rfl rfl rfl rfl ?_
      refine r_nil ?_
      exact fin_gen [] rfl rfl rfl (le_aggc rfl ⟨rfl, rfl, rfl, rfl, rfl, rfl, trivial⟩) st_nil
     ·
      have h12 := cond_f (b := (decide (p0kind = (5 : Int)))) hb12 h10
      refine w_seqw ?_
      refine w_region ?_
      refine o_p rfl (p_eql rfl rfl) ?_
      refine o_p rfl (p_assign (v := aB) rfl) ?_
      refine o_end (fr' := [(2, .box 0 0), (3, aI), (7, aB), (11, aB), (14, aB), (17, aB)]) rfl ?_
      refine e_kw ?_
      refine w_cond _ rfl (fun hb14 => ?_) (fun hb14 => ?_)
      ·
       have h14 := cond_t (b := (decide (p0kind = (6 : Int)))) hb14 h12
       refine w_seqw ?_
       refine w_region ?_
       refine o_p rfl (p_build (cs := [aB, aB, aB, aB, aB, aB]) tb102 rfl) ?_
       refine o_store (v := .agg [aB, aB, aB, aB, aB, aB]) (us := [aB, aB, aB, aB, aB, aB]) (cs := [aB, aB, aB, aB, aB, aB]) (σ' := [[aB, aB, aB, aB, aB, aB]]) rfl tv102 rfl rfl rfl rfl rfl rfl rfl rfl ?_
       refine o_end (fr' := [(2, .box 0 0), (3, aI), (7, aB), (11, aB), (14, aB), (17, aB)]) rfl ?_
       refine e_kw ?_
       refine w_ret ?_
       refine e_blk_r ?_
       refine e_seq_r ?_
       have he15 := Option.some.inj h14
       subst he15
       refine e_ret (rs' := [.cell 2 102]) rfl ?_
       refine r_cells (us := [aB, aB, aB, aB, aB, aB]) (cs := [aB, aB, aB, aB, aB, aB]) tv102 rfl rfl rfl rfl ?_
       refine r_nil ?_
       exact fin_gen [] rfl rfl rfl (le_aggc rfl ⟨rfl, rfl, rfl, rfl, rfl, rfl, trivial⟩) st_nil
      ·
       have h14 := cond_f (b := (decide (p0kind = (6 : Int)))) hb14 h12
       refine w_seqw ?_
       refine w_region ?_
       refine o_p rfl (p_eql rfl rfl) ?_
       refine o_p rfl (p_assign (v := aB) rfl) ?_
       refine o_end (fr' := [(2, .box 0 0), (3, aI), (7, aB), (11, aB), (14, aB), (17, aB), (20, aB)]) rfl ?_
       refine e_kw ?_
       refine w_cond _ rfl (fun hb16 => ?_) (fun hb16 => ?_)
       ·
        have h16 := cond_t (b := (decide (p0kind = (7 : Int)))) hb16 h14
        refine w_seqw ?_
        refine w_region ?_
        refine o_p rfl (p_build (cs := [aB, aB, aB, aB, aB, aB]) tb102 rfl) ?_
        refine o_store (v := .agg [aB, aB, aB, aB, aB, aB]) (us := [aB, aB, aB, aB, aB, aB]) (cs := [aB, aB, aB, aB, aB, aB]) (σ' := [[aB, aB, aB, aB, aB, aB]]) rfl tv102 rfl rfl rfl rfl rfl rfl rfl rfl ?_
        refine o_end (fr' := [(2, .box 0 0), (3, aI), (7, aB), (11, aB), (14, aB), (17, aB), (20, aB)]) rfl ?_
        refine e_kw ?_
        refine w_ret ?_
        refine e_blk_r ?_
        refine e_seq_r ?_
        have he17 := Option.some.inj h16
        subst he17
        refine e_ret (rs' := [.cell 2 102]) rfl ?_
        refine r_cells (us := [aB, aB, aB, aB, aB, aB]) (cs := [aB, aB, aB, aB, aB, aB]) tv102 rfl rfl rfl rfl ?_
        refine r_nil ?_
        exact fin_gen [] rfl rfl rfl (le_aggc rfl ⟨rfl, rfl, rfl, rfl, rfl, rfl, trivial⟩) st_nil
       ·
        have h16 := cond_f (b := (decide (p0kind = (7 : Int)))) hb16 h14
        refine w_seqw ?_
        refine w_region ?_
        refine o_p rfl (p_eql rfl rfl) ?_
        refine o_p rfl (p_assign (v := aB) rfl) ?_
        refine o_end (fr' := [(2, .box 0 0), (3, aI), (7, aB), (11, aB), (14, aB), (17, aB), (20, aB), (23, aB)]) rfl ?_
        refine e_kw ?_
        refine w_cond _ rfl (fun hb18 => ?_) (fun hb18 => ?_)
        ·
         have h18 := cond_t (b := (decide (p0kind = (8 : Int)))) hb18 h16
         refine w_seqw ?_
         refine w_region ?_
         refine o_p rfl (p_build (cs := [aB, aB, aB, aB, aB, aB]) tb102 rfl) ?_
         refine o_store (v := .agg [aB, aB, aB, aB, aB, aB]) (us := [aB, aB, aB, aB, aB, aB]) (cs := [aB, aB, aB, aB, aB, aB]) (σ' := [[aB, aB, aB, aB, aB, aB]]) rfl tv102 rfl rfl rfl rfl rfl rfl rfl rfl ?_
         refine o_end (fr' := [(2, .box 0 0), (3, aI), (7, aB), (11, aB), (14, aB), (17, aB), (20, aB), (23, aB)]) rfl ?_
         refine e_kw ?_
         refine w_ret ?_
         refine e_blk_r ?_
         refine e_seq_r ?_
         have he19 := Option.some.inj h18
         subst he19
         refine e_ret (rs' := [.cell 2 102]) rfl ?_
         refine r_cells (us := [aB, aB, aB, aB, aB, aB]) (cs := [aB, aB, aB, aB, aB, aB]) tv102 rfl rfl rfl rfl ?_
         refine r_nil ?_
         exact fin_gen [] rfl rfl rfl (le_aggc rfl ⟨rfl, rfl, rfl, rfl, rfl, rfl, trivial⟩) st_nil
        ·
         have h18 := cond_f (b := (decide (p0kind = (8 : Int)))) hb18 h16
         refine w_seqw ?_
         refine w_region ?_
         refine o_p rfl (p_eql rfl rfl) ?_
         refine o_p rfl (p_assign (v := aB) rfl) ?_
         refine o_end (fr' := [(2, .box 0 0), (3, aI), (7, aB), (11, aB), (14, aB), (17, aB), (20, aB), (23, aB), (26, aB)]) rfl ?_
         refine e_kw ?_
         refine w_cond _ rfl (fun hb20 => ?_) (fun hb20 => ?_)
         ·
          have h20 := cond_t (b := (decide (p0kind = (9 : Int)))) hb20 h18
          refine w_seqw ?_
          refine w_region ?_
          refine o_p rfl (p_build (cs := [aB, aB, aB, aB, aB, aB]) tb102 rfl) ?_
          refine o_store (v := .agg [aB, aB, aB, aB, aB, aB]) (us := [aB, aB, aB, aB, aB, aB]) (cs := [aB, aB, aB, aB, aB, aB]) (σ' := [[aB, aB, aB, aB, aB, aB]]) rfl tv102 rfl rfl rfl rfl rfl rfl rfl rfl ?_
          refine o_end (fr' := [(2, .box 0 0), (3, aI), (7, aB), (11, aB), (14, aB), (17, aB), (20, aB), (23, aB), (26, aB)]) rfl ?_
          refine e_kw ?_
          refine w_ret ?_
          refine e_blk_r ?_
          refine e_seq_r ?_
          have he21 := Option.some.inj h20
          subst he21
          refine e_ret (rs' := [.cell 2 102]) rfl ?_
          refine r_cells (us := [aB, aB, aB, aB, aB, aB]) (cs := [aB, aB, aB, aB, aB, aB]) tv102 rfl rfl rfl rfl ?_
          refine r_nil ?_
          exact fin_gen [] rfl rfl rfl (le_aggc rfl ⟨rfl, rfl, rfl, rfl, rfl, rfl, trivial⟩) st_nil
         ·
          have h20 := cond_f (b := (decide (p0kind = (9 : Int)))) hb20 h18
          refine w_seqw ?_
          refine w_region ?_
          refine o_p rfl (p_eql rfl rfl) ?_
          refine o_p rfl (p_assign (v := aB) rfl) ?_
          refine o_end (fr' := [(2, .box 0 0), (3, aI), (7, aB), (11, aB), (14, aB), (17, aB), (20, aB), (23, aB), (26, aB), (29, aB)]) rfl ?_
          refine e_kw ?_
          refine w_cond _ rfl (fun hb22 => ?_) (fun hb22 => ?_)
          ·
           have h22 := cond_t (b := (decide (p0kind = (12 : Int)))) hb22 h20
           refine w_seqw ?_
           refine w_region ?_
           refine o_p rfl (p_build (cs := [aB, aB, aB, aB, aB, aB]) tb102 rfl) ?_
           refine o_store (v := .agg [aB, aB, aB, aB, aB, aB]) (us := [aB, aB, aB, aB, aB, aB]) (cs := [aB, aB, aB, aB, aB, aB]) (σ' := [[aB, aB, aB, aB, aB, aB]]) rfl tv102 rfl rfl rfl rfl rfl rfl rfl rfl ?_
           refine o_end (fr' := [(2, .box 0 0), (3, aI), (7, aB), (11, aB), (14, aB), (17, aB), (20, aB), (23, aB), (26, aB), (29, aB)]) rfl ?_
           refine e_kw ?_
           refine w_ret ?_
           refine e_blk_r ?_
           refine e_seq_r ?_
           have he23 := Option.some.inj h22
           subst he23
           refine e_ret (rs' := [.cell 2 102]) rfl ?_
           refine r_cells (us := [aB, aB, aB, aB, aB, aB]) (cs := [aB, aB, aB, aB, aB, aB]) tv102 rfl rfl rfl rfl ?_
           refine r_nil ?_
           exact fin_gen [] rfl rfl rfl (le_aggc rfl ⟨rfl, rfl, rfl, rfl, rfl, rfl, trivial⟩) st_nil
          ·
           have h22 := cond_f (b := (decide (p0kind = (12 : Int)))) hb22 h20
           refine w_skip ?_
           refine e_blk_n ?_
           refine e_kw ?_
           refine w_seqw ?_
           refine w_region ?_
           refine o_p rfl (p_build (cs := [aB, aB, aB, aB, aB, aB]) tb102 rfl) ?_
           refine o_store (v := .agg [aB, aB, aB, aB, aB, aB]) (us := [aB, aB, aB, aB, aB, aB]) (cs := [aB, aB, aB, aB, aB, aB]) (σ' := [[aB, aB, aB, aB, aB, aB]]) rfl tv102 rfl rfl rfl rfl rfl rfl rfl rfl ?_
           refine o_end (fr' := [(2, .box 0 0), (3, aI), (7, aB), (11, aB), (14, aB), (17, aB), (20, aB), (23, aB), (26, aB), (29, aB)]) rfl ?_
           refine e_kw ?_
           refine w_ret ?_
           have he24 := Option.some.inj h22
           subst he24
           refine e_ret (rs' := [.cell 2 102]) rfl ?_
           refine r_cells (us := [aB, aB, aB, aB, aB, aB]) (cs := [aB, aB, aB, aB, aB, aB]) tv102 rfl rfl rfl rfl ?_
           refine r_nil ?_
           exact fin_gen [] rfl rfl rfl (le_aggc rfl ⟨rfl, rfl, rfl, rfl, rfl, rfl, trivial⟩) st_nil
noncomputable def command_in (p0n : Int) (p1low : Int) (p2high : Int) : Option Bool :=
 some (cond (decide (p1low ≤ p0n)) (decide (p0n ≤ p2high)) false)
theorem w_command_in {p0n : Int} {p1low : Int} {p2high : Int} {res : Bool} (h : command_in p0n p1low p2high = some res) : ACalls Try.prog 75 [.c (.int .i64 p0n), .c (.int .i64 p1low), .c (.int .i64 p2high)] [] (.c (.bool res)) [] := by
 unfold command_in at h
 refine acalls (fn := Try.f75) [0, 1, 2, 6] (by kernel_rfl) Try.func75 rfl (by kernel_rfl) (by kernel_rfl) ?_
 refine w_seqw ?_
 refine w_region ?_
 refine o_p rfl (p_assign (v := aB) rfl) ?_
 refine o_end (fr' := [(0, aI), (1, aI), (2, aI), (6, aB)]) rfl ?_
 refine e_kw ?_
 refine w_seqw ?_
 refine w_region ?_
 refine o_p rfl (p_move (v := aI) rfl) ?_
 refine o_p rfl (p_move (v := aI) rfl) ?_
 refine o_p rfl (p_geq rfl rfl) ?_
 refine o_p rfl (p_move (v := aB) rfl) ?_
 refine o_g rfl rfl (fun hc => ov_p rfl (p_move (v := aI) rfl)) ?_
 refine o_g rfl rfl (fun hc => ov_p rfl (p_move (v := aI) rfl)) ?_
 refine o_g rfl rfl (fun hc => ov_p rfl (p_leq (gx rfl hc) (gx rfl hc))) ?_
 refine o_p rfl (p_picky rfl rfl rfl (fun e => keq e)) ?_
 refine o_p rfl (p_assign (v := aB) rfl) ?_
 refine o_end (fr' := [(0, aI), (1, aI), (2, aI), (6, aB)]) rfl ?_
 refine e_kw ?_
 refine w_ret ?_
 have he1 := Option.some.inj h
 subst he1
 refine e_ret (rs' := [.tmp 6]) rfl ?_
 refine r_tmp (v := aB) rfl ?_
 refine r_nil ?_
 exact fin_gen [] rfl rfl rfl (AV.le_refl _) st_nil
noncomputable def slices_Equal_string_string_l1 (p0s1 : (List (List UInt8))) (p1s2 : (List (List UInt8))) (s6 : Int) : Option (Step Int (Fl Bool Unit)) :=
 cond (decide (s6 < ((p0s1).length : Int))) ((idx p0s1 s6).bind fun (x8 : (List UInt8)) => (idx p1s2 s6).bind fun (x10 : (List UInt8)) => cond (!decide (x8 = x10)) (some (Step.out (Fl.done false))) (some (Step.next (IntKind.wrap .i64 (s6 + (1 : Int)))))) (some (Step.out (Fl.go ())))
noncomputable def slices_Equal_string_string (p0s1 : (List (List UInt8))) (p1s2 : (List (List UInt8))) : Option Bool :=
 cond (!decide (((p0s1).length : Int) = ((p1s2).length : Int))) (some false) (((loopO (slices_Equal_string_string_l1 p0s1 p1s2) ((0 : Int))) : Option (Fl Bool Unit)).bind fun (x3 : (Fl Bool Unit)) => Fl.next x3 (fun (j5 : Unit) => (some true)))
theorem w_slices_Equal_string_string {p0s1 : (List (List UInt8))} {p1s2 : (List (List UInt8))} {res : Bool} (h : slices_Equal_string_string p0s1 p1s2 = some res) : ACalls Try.prog 101 [.c (PV.ls 1 rowS p0s1), .c (PV.ls 1 rowS p1s2)] [] (.c (.bool res)) [] := by
 unfold slices_Equal_string_string at h
 refine acalls (fn := Try.f101) [0, 1, 4, 5, 10, 12, 13, 14, 24] (by kernel_rfl) Try.func101 rfl (by kernel_rfl) (by kernel_rfl) ?_
 refine w_seqw ?_
 refine w_region ?_
 refine o_p rfl (p_assign (v := aB) rfl) ?_
 refine o_end (fr' := [(0, aL), (1, aL), (4, aB)]) rfl ?_
 refine e_kw ?_
 refine w_seqw ?_
 refine w_seqw ?_
 refine w_region ?_
 refine o_p rfl (p_move (v := aL) rfl) ?_
 refine o_p rfl (p_len ti38 (isl_c rfl)) ?_
 refine o_p rfl (p_move (v := aL) rfl) ?_
 refine o_p rfl (p_len ti38 (isl_c rfl)) ?_
 refine o_p rfl (p_neq rfl rfl) ?_
 refine o_end (fr' := [(0, aL), (1, aL), (4, aB), (10, aB)]) rfl ?_
 refine e_kw ?_
 refine w_cond _ rfl (fun hb1 => ?_) (fun hb1 => ?_)
 ·
  have h1 := cond_t (b := (!decide (((p0s1).length : Int) = ((p1s2).length : Int)))) hb1 h
  refine w_seqw ?_
  refine w_region ?_
  refine o_p rfl (p_assign (v := aB) rfl) ?_
  refine o_end (fr' := [(0, aL), (1, aL), (4, aB), (10, aB)]) rfl ?_
  refine e_kw ?_
  refine w_ret ?_
  refine e_seq_r ?_
  have he2 := Option.some.inj h1
  subst he2
  refine e_ret (rs' := [.tmp 4]) rfl ?_
  refine r_tmp (v := aB) rfl ?_
  refine r_nil ?_
  exact fin_gen [] rfl rfl rfl (AV.le_refl _) st_nil
 ·
  have h1 := cond_f (b := (!decide (((p0s1).length : Int) = ((p1s2).length : Int)))) hb1 h
  refine w_skip ?_
  refine e_kw ?_
  refine w_seqw ?_
  refine w_seqw ?_
  refine w_region ?_
  refine o_p rfl (p_move (v := aL) rfl) ?_
  refine o_p rfl (p_len ti38 (isl_c rfl)) ?_
  refine o_p rfl (p_move (v := aI) rfl) ?_
  refine o_end (fr' := [(0, aL), (1, aL), (4, aB), (10, aB), (12, aI), (13, aI)]) rfl ?_
  refine e_kw ?_
  obtain ⟨x3, hx3, h4⟩ := bind_s h1
  refine w_jtail cl_kw (fun j5 => x3 = Fl.go j5) (fun (j5 : Unit) => ([] : Fr)) (fun (j5 : Unit) => ([] : St)) ?_ ?_
  ·
   refine w_block ?_
   refine w_loopo _ (fun (s6 : Int) => ([(0, .c (PV.ls 1 rowS p0s1)), (1, .c (PV.ls 1 rowS p1s2)), (12, .c (.int .i64 ((p0s1).length : Int))), (13, .c (.int .i64 s6))] : Fr)) (fun (s6 : Int) => ([] : St)) hx3 (w_weak [] 0 rfl rfl rfl rfl ⟨(AV.le_refl _), (AV.le_refl _), (AV.le_refl _), (AV.le_refl _), trivial⟩ st_nil) ?_
   intro s6 st6 hs6 ho6
   unfold slices_Equal_string_string_l1 at hs6
   refine w_seqw ?_
   refine w_region ?_
   refine o_p rfl (p_lss rfl rfl) ?_
   refine o_end (fr' := [(0, aL), (1, aL), (12, aI), (13, aI), (14, aB)]) rfl ?_
   refine e_kw ?_
   refine w_seqw ?_
   refine w_cond _ rfl (fun hb7 => ?_) (fun hb7 => ?_)
   ·
    have h7 := cond_t (b := (decide (s6 < ((p0s1).length : Int)))) hb7 hs6
    refine w_skip ?_
    refine e_kw ?_
    refine w_seqw ?_
    refine w_block ?_
    refine w_seqw ?_
    refine w_region ?_
    refine o_p rfl (p_move (v := aI) rfl) ?_
    refine o_p rfl (p_assign (v := aI) rfl) ?_
    refine o_end (fr' := [(0, aL), (1, aL), (5, aI), (12, aI), (13, aI), (14, aB)]) rfl ?_
    refine e_kw ?_
    refine w_seqw ?_
    refine w_planT [.q 0, .q 1, .q 2, .q 3, .q 4, .q 5, .q 6, .q 7, .q 8] [(some 16, [0]), (some 17, [5]), (some 18, [16, 17]), (some 19, [18]), (some 20, [1]), (some 21, [5]), (some 22, [20, 21]), (some 23, [22]), (some 24, [19, 23])] [0, 0, 3, 7, 0, 0, 48, 112, 255] (by kernel_rfl) ?_
    refine d_q rfl (qv_p rfl (p_move (v := aL) rfl)) ?_
    refine d_q rfl (qv_p rfl (p_move (v := aI) rfl)) ?_
    obtain ⟨x8, hx8, h9⟩ := bind_s h7
    refine d_q rfl (qv_p rfl (p_ia (cs := [.str _]) ts38 (isl_c rfl) rfl hx8 rfl)) ?_
    refine d_q rfl (qv_p rfl (p_loade (p := .str _) tv9 rfl rfl)) ?_
    refine d_q rfl (qv_p rfl (p_move (v := aL) rfl)) ?_
    refine d_q rfl (qv_p rfl (p_move (v := aI) rfl)) ?_
    obtain ⟨x10, hx10, h11⟩ := bind_s h9
    refine d_q rfl (qv_p rfl (p_ia (cs := [.str _]) ts38 (isl_c rfl) rfl hx10 rfl)) ?_
    refine d_q rfl (qv_p rfl (p_loade (p := .str _) tv9 rfl rfl)) ?_
    refine d_q rfl (qv_p rfl (p_sneq rfl rfl)) ?_
    refine d_end (fr' := [(0, aL), (1, aL), (5, aI), (12, aI), (13, aI), (14, aB), (24, aB)]) rfl ?_
    refine e_kw ?_
    refine w_cond _ rfl (fun hb12 => ?_) (fun hb12 => ?_)
    ·
     have h12 := cond_t (b := (!decide (x8 = x10))) hb12 h11
     refine w_seqw ?_
     refine w_region ?_
     refine o_p rfl (p_assign (v := aB) rfl) ?_
     refine o_end (fr' := [(0, aL), (1, aL), (4, aB), (5, aI), (12, aI), (13, aI), (14, aB), (24, aB)]) rfl ?_
     refine e_kw ?_
     refine w_ret ?_
     refine e_blk_r ?_
     refine e_seq_r ?_
     refine e_seq_r ?_
     refine e_blk_r ?_
     refine e_seq_r ?_
     refine e_seq_r ?_
     have h13 := un_out h12 ho6
     have h14 := un_done h13 h4
     have he15 := Option.some.inj h14
     subst he15
     refine e_ret (rs' := [.tmp 4]) rfl ?_
     refine r_tmp (v := aB) rfl ?_
     refine r_nil ?_
     exact fin_gen [] rfl rfl rfl (AV.le_refl _) st_nil
    ·
     have h12 := cond_f (b := (!decide (x8 = x10))) hb12 h11
     refine w_skip ?_
     refine e_blk_n ?_
     refine e_kw ?_
     refine w_region ?_
     refine o_p rfl (p_add rfl rfl) ?_
     refine o_p rfl (p_move (v := aI) rfl) ?_
     refine o_end (fr' := [(0, aL), (1, aL), (5, aI), (12, aI), (13, aI), (14, aB), (24, aB)]) rfl ?_
     exact e_l _ (Option.some.inj h12).symm (w_weak [] 0 rfl rfl rfl rfl ⟨(AV.le_refl _), (AV.le_refl _), (AV.le_refl _), (AV.le_refl _), trivial⟩ st_nil)
   ·
    have h7 := cond_f (b := (decide (s6 < ((p0s1).length : Int)))) hb7 hs6
    refine w_exit ?_
    refine e_seq_x ?_
    refine e_seq_x ?_
    refine e_blk_h ?_
    have h16 := un_out h7 ho6
    exact e_j _ (Option.some.inj h16).symm (w_weak [] 0 rfl rfl rfl rfl trivial st_nil)
  ·
   intro j5 hj17
   have h17 := un_go hj17 h4
   refine e_kw ?_
   refine w_seqw ?_
   refine w_region ?_
   refine o_p rfl (p_assign (v := aB) rfl) ?_
   refine o_end (fr' := [(4, aB)]) rfl ?_
   refine e_kw ?_
   refine w_ret ?_
   have he18 := Option.some.inj h17
   subst he18
   refine e_ret (rs' := [.tmp 4]) rfl ?_
   refine r_tmp (v := aB) rfl ?_
   refine r_nil ?_
   exact fin_gen [] rfl rfl rfl (AV.le_refl _) st_nil
noncomputable def slices_EqualFunc_api_Value_api_Value_api_Value_api_Value_l1 (rec_value_Same : ApiValue → ApiValue → Option Bool) (p0s1 : (List ApiValue)) (p1s2 : (List ApiValue)) (s6 : Int) : Option (Step Int (Fl Bool Unit)) :=
 cond (decide (s6 < ((p0s1).length : Int))) ((idx p0s1 s6).bind fun (x8 : ApiValue) => (idx p1s2 s6).bind fun (x10 : ApiValue) => (rec_value_Same x8 x10).bind fun (x12 : Bool) => cond (!x12) (some (Step.out (Fl.done false))) (some (Step.next (IntKind.wrap .i64 (s6 + (1 : Int)))))) (some (Step.out (Fl.go ())))
mutual
noncomputable def slices_EqualFunc_api_Value_api_Value_api_Value_api_ValueF : Nat → (List ApiValue) → (List ApiValue) → Option Bool
 | 0, _, _ => none
 | n + 1, p0s1, p1s2 =>
  cond (!decide (((p0s1).length : Int) = ((p1s2).length : Int))) (some false) (((loopO (slices_EqualFunc_api_Value_api_Value_api_Value_api_Value_l1 (value_SameF n) p0s1 p1s2) ((0 : Int))) : Option (Fl Bool Unit)).bind fun (x3 : (Fl Bool Unit)) => Fl.next x3 (fun (j5 : Unit) => (some true)))
noncomputable def value_SameF : Nat → ApiValue → ApiValue → Option Bool
 | 0, _, _ => none
 | n + 1, p0a, p1b =>
  (gd ((cond (cond (decide (p0a.Kind = p1b.Kind)) (decide (p0a.Int = p1b.Int)) false) (decide (p0a.Text = p1b.Text)) false) == true) (slices_Equal_string_string p0a.Keys p1b.Keys)).bind fun (x1 : Bool) => (gd ((cond (cond (cond (decide (p0a.Kind = p1b.Kind)) (decide (p0a.Int = p1b.Int)) false) (decide (p0a.Text = p1b.Text)) false) x1 false) == true) ((slices_EqualFunc_api_Value_api_Value_api_Value_api_ValueF n) p0a.Items p1b.Items)).bind fun (x3 : Bool) => some (cond (cond (cond (cond (decide (p0a.Kind = p1b.Kind)) (decide (p0a.Int = p1b.Int)) false) (decide (p0a.Text = p1b.Text)) false) x1 false) x3 false)
end
theorem wF_slices_EqualFunc_api_Value_api_Value_api_Value_api_Value : ∀ n : Nat, (∀ {p0s1 : (List ApiValue)} {p1s2 : (List ApiValue)} {res : Bool}, slices_EqualFunc_api_Value_api_Value_api_Value_api_ValueF n p0s1 p1s2 = some res → ACalls Try.prog 102 [.c (PV.ls 5 rowApiValue p0s1), .c (PV.ls 5 rowApiValue p1s2), .fn 89 []] [] (.c (.bool res)) []) ∧ (∀ {p0a : ApiValue} {p1b : ApiValue} {res : Bool}, value_SameF n p0a p1b = some res → ACalls Try.prog 89 [.agg (AV.cs (exApiValue p0a)), .agg (AV.cs (exApiValue p1b))] [] (.c (.bool res)) []) := by
 intro n
 induction n with
 | zero => exact ⟨fun {p0s1 p1s2 res} h => absurd h (by simp [slices_EqualFunc_api_Value_api_Value_api_Value_api_ValueF]), fun {p0a p1b res} h => absurd h (by simp [value_SameF])⟩
 | succ n ih =>
  obtain ⟨ih_slices_EqualFunc_api_Value_api_Value_api_Value_api_Value, ih_value_Same⟩ := ih
  refine ⟨?_, ?_⟩
  ·
   intro p0s1 p1s2 res h
   rw [slices_EqualFunc_api_Value_api_Value_api_Value_api_ValueF] at h
   refine acalls (fn := Try.f102) [0, 1, 2, 6, 7, 8, 9, 14, 15, 16, 17, 18, 30] (by kernel_rfl) Try.func102 rfl (by kernel_rfl) (by kernel_rfl) ?_
   refine w_seqw ?_
   refine w_region ?_
   refine o_p rfl (p_assign (v := aB) rfl) ?_
   refine o_end (fr' := [(0, aL), (1, aL), (2, .fn _ []), (6, aB)]) rfl ?_
   refine e_kw ?_
   refine w_seqw ?_
   refine w_seqw ?_
   refine w_region ?_
   refine o_p rfl (p_move (v := aL) rfl) ?_
   refine o_p rfl (p_len ti37 (isl_c rfl)) ?_
   refine o_p rfl (p_move (v := aL) rfl) ?_
   refine o_p rfl (p_len ti37 (isl_c rfl)) ?_
   refine o_p rfl (p_neq rfl rfl) ?_
   refine o_end (fr' := [(0, aL), (1, aL), (2, .fn _ []), (6, aB), (14, aB)]) rfl ?_
   refine e_kw ?_
   refine w_cond _ rfl (fun hb1 => ?_) (fun hb1 => ?_)
   ·
    have h1 := cond_t (b := (!decide (((p0s1).length : Int) = ((p1s2).length : Int)))) hb1 h
    refine w_seqw ?_
    refine w_region ?_
    refine o_p rfl (p_assign (v := aB) rfl) ?_
    refine o_end (fr' := [(0, aL), (1, aL), (2, .fn _ []), (6, aB), (14, aB)]) rfl ?_
    refine e_kw ?_
    refine w_ret ?_
    refine e_seq_r ?_
    have he2 := Option.some.inj h1
    subst he2
    refine e_ret (rs' := [.tmp 6]) rfl ?_
    refine r_tmp (v := aB) rfl ?_
    refine r_nil ?_
    exact fin_gen [] rfl rfl rfl (AV.le_refl _) st_nil
   ·
    have h1 := cond_f (b := (!decide (((p0s1).length : Int) = ((p1s2).length : Int)))) hb1 h
    refine w_skip ?_
    refine e_kw ?_
    refine w_seqw ?_
    refine w_seqw ?_
    refine w_region ?_
    refine o_p rfl (p_move (v := aL) rfl) ?_
    refine o_p rfl (p_len ti37 (isl_c rfl)) ?_
    refine o_p rfl (p_move (v := aI) rfl) ?_
    refine o_end (fr' := [(0, aL), (1, aL), (2, .fn _ []), (6, aB), (14, aB), (15, aL), (16, aI), (17, aI)]) rfl ?_
    refine e_kw ?_
    obtain ⟨x3, hx3, h4⟩ := bind_s h1
    refine w_jtail cl_kw (fun j5 => x3 = Fl.go j5) (fun (j5 : Unit) => ([] : Fr)) (fun (j5 : Unit) => ([] : St)) ?_ ?_
    ·
     refine w_block ?_
     refine w_loopo _ (fun (s6 : Int) => ([(1, .c (PV.ls 5 rowApiValue p1s2)), (2, .fn 89 []), (15, .c (PV.ls 5 rowApiValue p0s1)), (16, .c (.int .i64 ((p0s1).length : Int))), (17, .c (.int .i64 s6))] : Fr)) (fun (s6 : Int) => ([] : St)) hx3 (w_weak [] 0 rfl rfl rfl rfl ⟨(AV.le_refl _), (AV.le_refl _), (AV.le_refl _), (AV.le_refl _), (AV.le_refl _), trivial⟩ st_nil) ?_
     intro s6 st6 hs6 ho6
     unfold slices_EqualFunc_api_Value_api_Value_api_Value_api_Value_l1 at hs6
     refine w_seqw ?_
     refine w_region ?_
     refine o_p rfl (p_lss rfl rfl) ?_
     refine o_end (fr' := [(1, aL), (2, .fn _ []), (15, aL), (16, aI), (17, aI), (18, aB)]) rfl ?_
     refine e_kw ?_
     refine w_seqw ?_
     refine w_cond _ rfl (fun hb7 => ?_) (fun hb7 => ?_)
     ·
      have h7 := cond_t (b := (decide (s6 < ((p0s1).length : Int)))) hb7 hs6
      refine w_skip ?_
      refine e_kw ?_
      refine w_seqw ?_
      refine w_block ?_
      refine w_seqw ?_
      refine w_region ?_
      refine o_p rfl (p_move (v := aI) rfl) ?_
      obtain ⟨x8, hx8, h9⟩ := bind_s h7
      refine o_p rfl (p_ia (cs := [.int _ _, .int _ _, .str _, PV.ls _ _ _, PV.ls _ _ _]) ts37 (isl_c rfl) rfl hx8 (rowApiValue_eq _)) ?_
      refine o_p rfl (p_loades (us := [.int _ _, .int _ _, .str _, PV.ls _ _ _, PV.ls _ _ _]) tv40 rfl rfl rfl) ?_
      refine o_alloc (n := 0) (cs := [aI, aI, aS, .nil, .nil]) (σ' := [[aI, aI, aS, .nil, .nil]]) tz40 rfl rfl rfl ?_
      refine o_p rfl (p_assign (v := aI) rfl) ?_
      refine o_store (v := .agg [aI, aI, aS, aL, aL]) (us := [aI, aI, aS, aL, aL]) (cs := [aI, aI, aS, .nil, .nil]) (σ' := [[aI, aI, aS, aL, aL]]) rfl tv40 rfl rfl rfl rfl rfl rfl rfl rfl ?_
      refine o_end (fr' := [(1, aL), (2, .fn _ []), (7, aI), (8, .box 0 0), (15, aL), (16, aI), (17, aI), (18, aB)]) rfl ?_
      refine e_kw ?_
      refine w_seqw ?_
      refine w_region ?_
      refine o_p rfl (p_move (v := aL) rfl) ?_
      refine o_p rfl (p_move (v := aI) rfl) ?_
      obtain ⟨x10, hx10, h11⟩ := bind_s h9
      refine o_p rfl (p_ia (cs := [.int _ _, .int _ _, .str _, PV.ls _ _ _, PV.ls _ _ _]) ts37 (isl_c rfl) rfl hx10 (rowApiValue_eq _)) ?_
      refine o_p rfl (p_loades (us := [.int _ _, .int _ _, .str _, PV.ls _ _ _, PV.ls _ _ _]) tv40 rfl rfl rfl) ?_
      refine o_alloc (n := 1) (cs := [aI, aI, aS, .nil, .nil]) (σ' := [[aI, aI, aS, aL, aL], [aI, aI, aS, .nil, .nil]]) tz40 rfl rfl rfl ?_
      refine o_store (v := .agg [aI, aI, aS, aL, aL]) (us := [aI, aI, aS, aL, aL]) (cs := [aI, aI, aS, .nil, .nil]) (σ' := [[aI, aI, aS, aL, aL], [aI, aI, aS, aL, aL]]) rfl tv40 rfl rfl rfl rfl rfl rfl rfl rfl ?_
      refine o_end (fr' := [(1, aL), (2, .fn _ []), (7, aI), (8, .box 0 0), (9, .box 1 0), (15, aL), (16, aI), (17, aI), (18, aB)]) rfl ?_
      refine e_kw ?_
      refine w_seqw ?_
      refine w_region ?_
      refine o_p rfl (p_move (v := .fn _ []) rfl) ?_
      refine o_p rfl (p_loads (us := [aI, aI, aS, aL, aL]) tv40 rfl rfl rfl rfl) ?_
      refine o_p rfl (p_loads (us := [aI, aI, aS, aL, aL]) tv40 rfl rfl rfl rfl) ?_
      obtain ⟨x12, hx12, h13⟩ := bind_s h11
      refine o_v (ov_call (v := aB) rfl (ih_value_Same hx12) ⟨(le_aggc rfl ⟨rfl, rfl, rfl, rfl, rfl, trivial⟩), (le_aggc rfl ⟨rfl, rfl, rfl, rfl, rfl, trivial⟩), trivial⟩ rfl rfl rfl) ?_
      refine o_p rfl (p_not rfl) ?_
      refine o_end (fr' := [(1, aL), (2, .fn _ []), (7, aI), (8, .box 0 0), (9, .box 1 0), (15, aL), (16, aI), (17, aI), (18, aB), (30, aB)]) rfl ?_
      refine e_kw ?_
      refine w_cond _ rfl (fun hb14 => ?_) (fun hb14 => ?_)
      ·
       have h14 := cond_t (b := (!x12)) hb14 h13
       refine w_seqw ?_
       refine w_region ?_
       refine o_p rfl (p_assign (v := aB) rfl) ?_
       refine o_end (fr' := [(1, aL), (2, .fn _ []), (6, aB), (7, aI), (8, .box 0 0), (9, .box 1 0), (15, aL), (16, aI), (17, aI), (18, aB), (30, aB)]) rfl ?_
       refine e_kw ?_
       refine w_ret ?_
       refine e_blk_r ?_
       refine e_seq_r ?_
       refine e_seq_r ?_
       refine e_blk_r ?_
       refine e_seq_r ?_
       refine e_seq_r ?_
       have h15 := un_out h14 ho6
       have h16 := un_done h15 h4
       have he17 := Option.some.inj h16
       subst he17
       refine e_ret (rs' := [.tmp 6]) rfl ?_
       refine r_tmp (v := aB) rfl ?_
       refine r_nil ?_
       exact fin_gen [] rfl rfl rfl (AV.le_refl _) st_nil
      ·
       have h14 := cond_f (b := (!x12)) hb14 h13
       refine w_skip ?_
       refine e_blk_n ?_
       refine e_kw ?_
       refine w_region ?_
       refine o_p rfl (p_add rfl rfl) ?_
       refine o_p rfl (p_move (v := aI) rfl) ?_
       refine o_end (fr' := [(1, aL), (2, .fn _ []), (7, aI), (8, .box 0 0), (9, .box 1 0), (15, aL), (16, aI), (17, aI), (18, aB), (30, aB)]) rfl ?_
       exact e_l _ (Option.some.inj h14).symm (w_weak [] 0 rfl rfl rfl rfl ⟨(AV.le_refl _), (AV.le_refl _), (AV.le_refl _), (AV.le_refl _), (AV.le_refl _), trivial⟩ st_nil)
     ·
      have h7 := cond_f (b := (decide (s6 < ((p0s1).length : Int)))) hb7 hs6
      refine w_exit ?_
      refine e_seq_x ?_
      refine e_seq_x ?_
      refine e_blk_h ?_
      have h18 := un_out h7 ho6
      exact e_j _ (Option.some.inj h18).symm (w_weak [] 0 rfl rfl rfl rfl trivial st_nil)
    ·
     intro j5 hj19
     have h19 := un_go hj19 h4
     refine e_kw ?_
     refine w_seqw ?_
     refine w_region ?_
     refine o_p rfl (p_assign (v := aB) rfl) ?_
     refine o_end (fr' := [(6, aB)]) rfl ?_
     refine e_kw ?_
     refine w_ret ?_
     have he20 := Option.some.inj h19
     subst he20
     refine e_ret (rs' := [.tmp 6]) rfl ?_
     refine r_tmp (v := aB) rfl ?_
     refine r_nil ?_
     exact fin_gen [] rfl rfl rfl (AV.le_refl _) st_nil
  ·
   intro p0a p1b res h
   rw [value_SameF] at h
   refine acalls (fn := Try.f89) [0, 1, 2, 3, 4] (by kernel_rfl) Try.func89 rfl (by kernel_rfl) (by kernel_rfl) ?_
   refine w_seqw ?_
   refine w_region ?_
   refine o_box (v := .agg [aI, aI, aS, aL, aL]) (n := 0) (cs := [aI, aI, aS, aL, aL]) (σ' := [[aI, aI, aS, aL, aL]]) rfl rfl rfl rfl rfl ?_
   refine o_box (v := .agg [aI, aI, aS, aL, aL]) (n := 1) (cs := [aI, aI, aS, aL, aL]) (σ' := [[aI, aI, aS, aL, aL], [aI, aI, aS, aL, aL]]) rfl rfl rfl rfl rfl ?_
   refine o_p rfl (p_assign (v := aB) rfl) ?_
   refine o_end (fr' := [(0, .agg [aI, aI, aS, aL, aL]), (1, .agg [aI, aI, aS, aL, aL]), (2, .box 0 0), (3, .box 1 0), (4, aB)]) rfl ?_
   refine e_kw ?_
   refine w_seqw ?_
   refine w_region ?_
   refine o_p rfl (p_fa tf40x0 rfl) ?_
   refine o_p rfl (p_load (v := aI) tv3 rfl rfl rfl) ?_
   refine o_p rfl (p_fa tf40x0 rfl) ?_
   refine o_p rfl (p_load (v := aI) tv3 rfl rfl rfl) ?_
   refine o_p rfl (p_eql rfl rfl) ?_
   refine o_p rfl (p_move (v := aB) rfl) ?_
   refine o_g rfl rfl (fun hc => ov_p rfl (p_fa tf40x1 rfl)) ?_
   refine o_g rfl rfl (fun hc => ov_p rfl (p_load (v := aI) tv3 (gx rfl hc) rfl rfl)) ?_
   refine o_g rfl rfl (fun hc => ov_p rfl (p_fa tf40x1 rfl)) ?_
   refine o_g rfl rfl (fun hc => ov_p rfl (p_load (v := aI) tv3 (gx rfl hc) rfl rfl)) ?_
   refine o_g rfl rfl (fun hc => ov_p rfl (p_eql (gx rfl hc) (gx rfl hc))) ?_
   refine o_p rfl (p_picky rfl rfl rfl (fun e => keq e)) ?_
   refine o_p rfl (p_move (v := aB) rfl) ?_
   refine o_g rfl rfl (fun hc => ov_p rfl (p_fa tf40x2 rfl)) ?_
   refine o_g rfl rfl (fun hc => ov_p rfl (p_load (v := aS) tv9 (gx rfl hc) rfl rfl)) ?_
   refine o_g rfl rfl (fun hc => ov_p rfl (p_fa tf40x2 rfl)) ?_
   refine o_g rfl rfl (fun hc => ov_p rfl (p_load (v := aS) tv9 (gx rfl hc) rfl rfl)) ?_
   refine o_g rfl rfl (fun hc => ov_p rfl (p_seql (gx rfl hc) (gx rfl hc))) ?_
   refine o_p rfl (p_picky rfl rfl rfl (fun e => keq e)) ?_
   refine o_p rfl (p_move (v := aB) rfl) ?_
   refine o_g rfl rfl (fun hc => ov_p rfl (p_fa tf40x4 rfl)) ?_
   refine o_g rfl rfl (fun hc => ov_p rfl (p_load (v := aL) tv38 (gx rfl hc) rfl rfl)) ?_
   refine o_g rfl rfl (fun hc => ov_p rfl (p_fa tf40x4 rfl)) ?_
   refine o_g rfl rfl (fun hc => ov_p rfl (p_load (v := aL) tv38 (gx rfl hc) rfl rfl)) ?_
   obtain ⟨x1, hx1, h2⟩ := bind_s h
   refine o_g rfl rfl (fun hc => ov_call (v := aB) rfl (w_slices_Equal_string_string (gd_some hx1 hc)) ⟨(le_gv (gx rfl hc) (AV.le_refl _)), (le_gv (gx rfl hc) (AV.le_refl _)), trivial⟩ (ok_eq (by repeat (first | exact ok_nil | refine ok_cons rfl ?_ | refine ok_cons (dgv rfl) ?_))) rfl rfl) ?_
   refine o_p rfl (p_picky rfl rfl rfl (fun e => keq e)) ?_
   refine o_p rfl (p_move (v := aB) rfl) ?_
   refine o_g rfl rfl (fun hc => ov_p rfl (p_fa tf40x3 rfl)) ?_
   refine o_g rfl rfl (fun hc => ov_p rfl (p_load (v := aL) tv37 (gx rfl hc) rfl rfl)) ?_
   refine o_g rfl rfl (fun hc => ov_p rfl (p_fa tf40x3 rfl)) ?_
   refine o_g rfl rfl (fun hc => ov_p rfl (p_load (v := aL) tv37 (gx rfl hc) rfl rfl)) ?_
   obtain ⟨x3, hx3, h4⟩ := bind_s h2
   refine o_g rfl rfl (fun hc => ov_call (v := aB) rfl (ih_slices_EqualFunc_api_Value_api_Value_api_Value_api_Value (gd_some hx3 hc)) ⟨(le_gv (gx rfl hc) (AV.le_refl _)), (le_gv (gx rfl hc) (AV.le_refl _)), (AV.le_refl _), trivial⟩ (ok_eq (by repeat (first | exact ok_nil | refine ok_cons rfl ?_ | refine ok_cons (dgv rfl) ?_))) rfl rfl) ?_
   refine o_p rfl (p_picky rfl rfl rfl (fun e => keq e)) ?_
   refine o_p rfl (p_assign (v := aB) rfl) ?_
   refine o_end (fr' := [(0, .agg [aI, aI, aS, aL, aL]), (1, .agg [aI, aI, aS, aL, aL]), (2, .box 0 0), (3, .box 1 0), (4, aB)]) rfl ?_
   refine e_kw ?_
   refine w_ret ?_
   have he5 := Option.some.inj h4
   subst he5
   refine e_ret (rs' := [.tmp 4]) rfl ?_
   refine r_tmp (v := aB) rfl ?_
   refine r_nil ?_
   exact fin_gen [] rfl rfl rfl (AV.le_refl _) st_nil
noncomputable def slices_EqualFunc_api_Value_api_Value_api_Value_api_Value (p0s1 : (List ApiValue)) (p1s2 : (List ApiValue)) : Option Bool := lim fun n => slices_EqualFunc_api_Value_api_Value_api_Value_api_ValueF n p0s1 p1s2
theorem w_slices_EqualFunc_api_Value_api_Value_api_Value_api_Value {p0s1 : (List ApiValue)} {p1s2 : (List ApiValue)} {res : Bool} (h : slices_EqualFunc_api_Value_api_Value_api_Value_api_Value p0s1 p1s2 = some res) : ACalls Try.prog 102 [.c (PV.ls 5 rowApiValue p0s1), .c (PV.ls 5 rowApiValue p1s2), .fn 89 []] [] (.c (.bool res)) [] := by
 obtain ⟨n, hn⟩ := lim_some h
 exact (wF_slices_EqualFunc_api_Value_api_Value_api_Value_api_Value n).1 hn
noncomputable def value_Same (p0a : ApiValue) (p1b : ApiValue) : Option Bool := lim fun n => value_SameF n p0a p1b
theorem w_value_Same {p0a : ApiValue} {p1b : ApiValue} {res : Bool} (h : value_Same p0a p1b = some res) : ACalls Try.prog 89 [.agg (AV.cs (exApiValue p0a)), .agg (AV.cs (exApiValue p1b))] [] (.c (.bool res)) [] := by
 obtain ⟨n, hn⟩ := lim_some h
 exact (wF_slices_EqualFunc_api_Value_api_Value_api_Value_api_Value n).2 hn
noncomputable def command_numbers (p100v : ApiPolicy) : Option Unit :=
 some ()
theorem w_command_numbers {p100v : ApiPolicy} {res : Unit} (h : command_numbers p100v = some res) : ACalls Try.prog 103 [.box 0 0] [AV.cs (rowApiPolicy p100v)] (.ptrs [(0, 1), (0, 2), (0, 3), (0, 4), (0, 5), (0, 6), (0, 7), (0, 8)]) [AV.cs (rowApiPolicy p100v)] := by
 unfold command_numbers at h
 refine acalls (fn := Try.f103) [0, 2] (by kernel_rfl) Try.func103 rfl (by kernel_rfl) (by kernel_rfl) ?_
 refine w_seqw ?_
 refine w_region ?_
 refine o_p rfl (p_assign (v := .nil) rfl) ?_
 refine o_end (fr' := [(0, .box 0 0), (2, .nil)]) rfl ?_
 refine e_kw ?_
 refine w_seqw ?_
 refine w_planT [.q 0, .q 1, .q 2, .q 3, .q 4, .q 5, .q 6, .q 7, .q 8, .q 9, .q 10, .q 11, .q 12, .q 13, .q 14, .q 15, .q 16, .q 17, .q 18, .q 19, .q 20, .q 21, .q 22, .q 23, .n 24 [], .n 25 []] [(some 3, [0]), (some 4, [3]), (some 5, [4]), (some 6, [0]), (some 7, [6]), (some 8, [7]), (some 9, [0]), (some 10, [9]), (some 11, [10]), (some 12, [0]), (some 13, [12]), (some 14, [13]), (some 15, [0]), (some 16, [15]), (some 17, [16]), (some 18, [0]), (some 19, [18]), (some 20, [19]), (some 21, [0]), (some 22, [21]), (some 23, [22]), (some 24, [0]), (some 25, [24]), (some 26, [25]), (some 27, [5, 8, 11, 14, 17, 20, 23, 26]), (some 2, [27])] [0, 1, 3, 0, 8, 24, 0, 64, 192, 0, 512, 1536, 0, 4096, 12288, 0, 32768, 98304, 0, 262144, 786432, 0, 2097152, 6291456, 16777215, 33554431] (by kernel_rfl) ?_
 refine d_q rfl (qv_p rfl (p_move (v := .box 0 0) rfl)) ?_
 refine d_q rfl (qv_p rfl (p_nc rfl)) ?_
 refine d_q rfl (qv_p rfl (p_fa tf42x1 rfl)) ?_
 refine d_q rfl (qv_p rfl (p_move (v := .box 0 0) rfl)) ?_
 refine d_q rfl (qv_p rfl (p_nc rfl)) ?_
 refine d_q rfl (qv_p rfl (p_fa tf42x2 rfl)) ?_
 refine d_q rfl (qv_p rfl (p_move (v := .box 0 0) rfl)) ?_
 refine d_q rfl (qv_p rfl (p_nc rfl)) ?_
 refine d_q rfl (qv_p rfl (p_fa tf42x3 rfl)) ?_
 refine d_q rfl (qv_p rfl (p_move (v := .box 0 0) rfl)) ?_
 refine d_q rfl (qv_p rfl (p_nc rfl)) ?_
 refine d_q rfl (qv_p rfl (p_fa tf42x4 rfl)) ?_
 refine d_q rfl (qv_p rfl (p_move (v := .box 0 0) rfl)) ?_
 refine d_q rfl (qv_p rfl (p_nc rfl)) ?_
 refine d_q rfl (qv_p rfl (p_fa tf42x5 rfl)) ?_
 refine d_q rfl (qv_p rfl (p_move (v := .box 0 0) rfl)) ?_
 refine d_q rfl (qv_p rfl (p_nc rfl)) ?_
 refine d_q rfl (qv_p rfl (p_fa tf42x6 rfl)) ?_
 refine d_q rfl (qv_p rfl (p_move (v := .box 0 0) rfl)) ?_
 refine d_q rfl (qv_p rfl (p_nc rfl)) ?_
 refine d_q rfl (qv_p rfl (p_fa tf42x7 rfl)) ?_
 refine d_q rfl (qv_p rfl (p_move (v := .box 0 0) rfl)) ?_
 refine d_q rfl (qv_p rfl (p_nc rfl)) ?_
 refine d_q rfl (qv_p rfl (p_fa tf42x8 rfl)) ?_
 refine d_n rfl ?_ rfl
 refine o_ptrs (l := [(0, 1), (0, 2), (0, 3), (0, 4), (0, 5), (0, 6), (0, 7), (0, 8)]) ts115 rfl rfl rfl rfl ?_
 refine o_rc ?_
 refine ⟨rc_nil, ?_⟩
 refine d_n rfl ?_ rfl
 refine o_p rfl (p_assign (v := .ptrs [(0, 1), (0, 2), (0, 3), (0, 4), (0, 5), (0, 6), (0, 7), (0, 8)]) rfl) ?_
 refine o_rc ?_
 refine ⟨rc_nil, ?_⟩
 refine d_end (fr' := [(0, .box 0 0), (2, .ptrs [(0, 1), (0, 2), (0, 3), (0, 4), (0, 5), (0, 6), (0, 7), (0, 8)])]) rfl ?_
 refine e_kw ?_
 refine w_ret ?_
 have he1 := Option.some.inj h
 subst he1
 refine e_ret (rs' := [.tmp 2]) rfl ?_
 refine r_tmp (v := .ptrs [(0, 1), (0, 2), (0, 3), (0, 4), (0, 5), (0, 6), (0, 7), (0, 8)]) rfl ?_
 refine r_nil ?_
 exact fin_gen [] rfl rfl rfl (AV.le_refl _) (st_r rfl st_nil)
end Go.Proofs.Ytnhchphmmdgphaa

import Derived.Test.YtnhchphmmdgphaaGBTy
namespace Go.Proofs.Ytnhchphmmdgphaa
open Go Abs
set_option maxRecDepth 100000
set_option linter.unusedVariables false
set_option linter.unusedSimpArgs false
noncomputable def ref27xAdmits_l1 (p0es : (List ApiEvent)) (s4 : ((List ApiAdmit) × Int)) : Option (Step ((List ApiAdmit) × Int) (List ApiAdmit)) :=
  cond (decide (s4.2 < ((p0es).length : Int))) ((idx p0es s4.2).bind fun (x6 : ApiEvent) => cond (decide (x6.Kind = (27 : Int))) ((idx p0es s4.2).bind fun (x9 : ApiEvent) => (idx p0es s4.2).bind fun (x11 : ApiEvent) => (idx p0es s4.2).bind fun (x13 : ApiEvent) => (app 112 s4.1 ([(ApiAdmit.mk x9.Key x11.Name x13.Data)] : List ApiAdmit)).bind fun (x15 : (List ApiAdmit)) => some (Step.next (x15, (IntKind.wrap .i64 (s4.2 + (1 : Int)))))) (some (Step.next (s4.1, (IntKind.wrap .i64 (s4.2 + (1 : Int))))))) (some (Step.out s4.1))
noncomputable def ref27xAdmits (p0es : (List ApiEvent)) : Option (List ApiAdmit) :=
  ((loopO (ref27xAdmits_l1 p0es) ((([] : (List ApiAdmit)), (0 : Int)))) : Option (List ApiAdmit)).bind fun (x1 : (List ApiAdmit)) => (some x1)
theorem w_ref27xAdmits {p0es : (List ApiEvent)} {res : (List ApiAdmit)} (h : ref27xAdmits p0es = some res) : ACalls Try.prog 41 [.c (PV.ls 24 rowApiEvent p0es)] [] (AV.os 0 7 rowApiAdmit res) [] := by
  unfold ref27xAdmits at h
  refine acalls (fn := Try.f41) [0, 2, 3, 4, 8, 16] (by kernel_rfl) Try.func41 rfl (by kernel_rfl) (by kernel_rfl) ?_
  refine w_seqw ?_
  refine w_region ?_
  refine o_p rfl (p_assign (v := .nil) rfl) ?_
  refine o_end (fr' := [(0, .c (PV.ls _ _ _)), (2, .nil), (3, .any), (4, .any), (8, .any), (16, .any)]) rfl ?_
  refine e_kw ?_
  refine w_seqw ?_
  refine w_region ?_
  refine o_p rfl (p_assign (v := .nil) rfl) ?_
  refine o_end (fr' := [(0, .c (PV.ls _ _ _)), (2, .nil), (3, .nil), (4, .any), (8, .any), (16, .any)]) rfl ?_
  refine e_kw ?_
  refine w_seqw ?_
  refine w_seqw ?_
  refine w_region ?_
  refine o_p rfl (p_assign (v := .c (.int _ _)) rfl) ?_
  refine o_end (fr' := [(0, .c (PV.ls _ _ _)), (2, .nil), (3, .nil), (4, .c (.int _ _)), (8, .any), (16, .any)]) rfl ?_
  refine e_kw ?_
  obtain ⟨x1, hx1, h2⟩ := bind_s h
  refine w_jtail cl_kw (fun j3 => x1 = j3) (fun (j3 : (List ApiAdmit)) => ([(3, AV.os 0 7 rowApiAdmit j3)] : Fr)) (fun (j3 : (List ApiAdmit)) => ([] : St)) ?_ ?_
  · skip
    refine w_block ?_
    refine w_loopo _ (fun (s4 : ((List ApiAdmit) × Int)) => ([(0, .c (PV.ls 24 rowApiEvent p0es)), (3, AV.os 0 7 rowApiAdmit s4.1), (4, .c (.int .i64 s4.2))] : Fr)) (fun (s4 : ((List ApiAdmit) × Int)) => ([] : St)) hx1 (w_weak [1000000] 0 rfl rfl rfl rfl ⟨(AV.le_refl _), (le_nos rfl), (AV.le_refl _), trivial⟩ st_nil) ?_
    intro s4 st4 hs4 ho4
    unfold ref27xAdmits_l1 at hs4
    refine w_seqw ?_
    refine w_seqw ?_
    refine w_region ?_
    refine o_p rfl (p_move (v := .c (.int _ _)) rfl) ?_
    refine o_p rfl (p_move (v := .c (PV.ls _ _ _)) rfl) ?_
    refine o_p rfl (p_len ti49 (isl_c rfl)) ?_
    refine o_p rfl (p_lss rfl rfl) ?_
    refine o_end (fr' := [(0, .c (PV.ls _ _ _)), (2, .any), (3, AV.os _ _ _ _), (4, .c (.int _ _)), (8, .c (.bool _)), (16, .any)]) rfl ?_
    refine e_kw ?_
    refine w_cond _ rfl (fun hb5 => ?_) (fun hb5 => ?_)
    · skip
      have h5 := cond_t (b := (decide (s4.2 < ((p0es).length : Int)))) hb5 hs4
      refine w_skip ?_
      refine e_kw ?_
      refine w_seqw ?_
      refine w_block ?_
      refine w_seqw ?_
      refine w_region ?_
      refine o_p rfl (p_move (v := .c (PV.ls _ _ _)) rfl) ?_
      refine o_p rfl (p_move (v := .c (.int _ _)) rfl) ?_
      obtain ⟨x6, hx6, h7⟩ := bind_s h5
      refine o_p rfl (p_ia (cs := [.int _ _, .int _ _, .int _ _, .int _ _, .int _ _, .int _ _, .int _ _, .str _, .str _, .int _ _, .int _ _, .str _, PV.ls _ _ _, PV.ls _ _ _, .str _, .int _ _, .int _ _, .int _ _, .int _ _, .int _ _, .int _ _, .int _ _, .int _ _, PV.ls _ _ _]) ts49 (isl_c rfl) rfl hx6 rfl) ?_
      refine o_p rfl (p_fae tf46x1 rfl) ?_
      refine o_p rfl (p_loade (p := .int _ _) tv3 rfl rfl) ?_
      refine o_p rfl (p_eql rfl rfl) ?_
      refine o_end (fr' := [(0, .c (PV.ls _ _ _)), (2, .any), (3, AV.os _ _ _ _), (4, .c (.int _ _)), (8, .c (.bool _)), (16, .c (.bool _))]) rfl ?_
      refine e_kw ?_
      refine w_cond _ rfl (fun hb8 => ?_) (fun hb8 => ?_)
      · skip
        have h8 := cond_t (b := (decide (x6.Kind = (27 : Int)))) hb8 h7
        refine w_planT [.q 0, .q 1, .q 2, .q 3, .q 4, .q 5, .q 6, .q 7, .q 8, .q 9, .q 10, .q 11, .q 12, .q 13, .q 14, .q 15, .q 16, .n 17 [0], .n 18 [], .n 19 []] [(some 17, [3]), (some 18, [0]), (some 19, [4]), (some 20, [18, 19]), (some 21, [20]), (some 22, [21]), (some 23, [0]), (some 24, [4]), (some 25, [23, 24]), (some 26, [25]), (some 27, [26]), (some 28, [0]), (some 29, [4]), (some 30, [28, 29]), (some 31, [30]), (some 32, [31]), (some 33, [22, 27, 32]), (some 34, [33]), (some 35, [17, 34]), (some 3, [35])] [0, 0, 0, 6, 14, 30, 0, 0, 192, 448, 960, 0, 0, 6144, 14336, 30720, 65534, 131070, 262143, 524287] (by kernel_rfl) ?_
        refine d_q rfl (qv_p rfl (p_move (v := AV.os _ _ _ _) rfl)) ?_
        refine d_q rfl (qv_p rfl (p_move (v := .c (PV.ls _ _ _)) rfl)) ?_
        refine d_q rfl (qv_p rfl (p_move (v := .c (.int _ _)) rfl)) ?_
        obtain ⟨x9, hx9, h10⟩ := bind_s h8
        refine d_q rfl (qv_p rfl (p_ia (cs := [.int _ _, .int _ _, .int _ _, .int _ _, .int _ _, .int _ _, .int _ _, .str _, .str _, .int _ _, .int _ _, .str _, PV.ls _ _ _, PV.ls _ _ _, .str _, .int _ _, .int _ _, .int _ _, .int _ _, .int _ _, .int _ _, .int _ _, .int _ _, PV.ls _ _ _]) ts49 (isl_c rfl) rfl hx9 rfl)) ?_
        refine d_q rfl (qv_p rfl (p_fae tf46x8 rfl)) ?_
        refine d_q rfl (qv_p rfl (p_loade (p := .str _) tv9 rfl rfl)) ?_
        refine d_q rfl (qv_p rfl (p_move (v := .c (PV.ls _ _ _)) rfl)) ?_
        refine d_q rfl (qv_p rfl (p_move (v := .c (.int _ _)) rfl)) ?_
        obtain ⟨x11, hx11, h12⟩ := bind_s h10
        refine d_q rfl (qv_p rfl (p_ia (cs := [.int _ _, .int _ _, .int _ _, .int _ _, .int _ _, .int _ _, .int _ _, .str _, .str _, .int _ _, .int _ _, .str _, PV.ls _ _ _, PV.ls _ _ _, .str _, .int _ _, .int _ _, .int _ _, .int _ _, .int _ _, .int _ _, .int _ _, .int _ _, PV.ls _ _ _]) ts49 (isl_c rfl) rfl hx11 rfl)) ?_
        refine d_q rfl (qv_p rfl (p_fae tf46x7 rfl)) ?_
        refine d_q rfl (qv_p rfl (p_loade (p := .str _) tv9 rfl rfl)) ?_
        refine d_q rfl (qv_p rfl (p_move (v := .c (PV.ls _ _ _)) rfl)) ?_
        refine d_q rfl (qv_p rfl (p_move (v := .c (.int _ _)) rfl)) ?_
        obtain ⟨x13, hx13, h14⟩ := bind_s h12
        refine d_q rfl (qv_p rfl (p_ia (cs := [.int _ _, .int _ _, .int _ _, .int _ _, .int _ _, .int _ _, .int _ _, .str _, .str _, .int _ _, .int _ _, .str _, PV.ls _ _ _, PV.ls _ _ _, .str _, .int _ _, .int _ _, .int _ _, .int _ _, .int _ _, .int _ _, .int _ _, .int _ _, PV.ls _ _ _]) ts49 (isl_c rfl) rfl hx13 rfl)) ?_
        refine d_q rfl (qv_p rfl (p_fae tf46x9 rfl)) ?_
        refine d_q rfl (qv_p rfl (p_loades (us := [.int _ _, .int _ _, .str _, PV.ls _ _ _, PV.ls _ _ _]) tv40 rfl rfl rfl)) ?_
        refine d_q rfl (qv_p rfl (p_build (cs := [.c (.str _), .c (.str _), .c (.int _ _), .c (.int _ _), .c (.str _), .c (PV.ls _ _ _), .c (PV.ls _ _ _)]) tb74 rfl)) ?_
        refine d_n rfl ?_ rfl
        refine o_rows (row := rowApiAdmit) (xs := ([(ApiAdmit.mk x9.Key x11.Name x13.Data)] : List ApiAdmit)) (rows := [[_, _, _, _, _, _, _]]) (σ' := []) [0, 0, 0, 0, 0, 5, 1] ts68 rfl rfl rfl (arow_cons rfl arow_nil) rfl rfl ?_
        refine o_rc ?_
        refine ⟨(rc_q (v := AV.os _ _ _ _) rfl rfl (qv_p rfl (p_move (v := AV.os _ _ _ _) rfl)) rc_nil), ?_⟩
        refine d_n rfl ?_ rfl
        obtain ⟨x15, hx15, h16⟩ := bind_s h14
        refine o_app (row := rowApiAdmit) ts68 rfl ti68 rfl (isl_o rfl) (fun _ => rfl) hx15 ?_
        refine o_rc ?_
        refine ⟨rc_nil, ?_⟩
        refine d_n rfl ?_ rfl
        refine o_p rfl (p_assign (v := AV.os _ _ _ _) rfl) ?_
        refine o_rc ?_
        refine ⟨rc_nil, ?_⟩
        refine d_end (fr' := [(0, .c (PV.ls _ _ _)), (2, .any), (3, AV.os _ _ _ _), (4, .c (.int _ _)), (8, .c (.bool _)), (16, .c (.bool _))]) rfl ?_
        refine e_blk_n ?_
        refine e_kw ?_
        refine w_region ?_
        refine o_p rfl (p_move (v := .c (.int _ _)) rfl) ?_
        refine o_p rfl (p_add rfl rfl) ?_
        refine o_p rfl (p_assign (v := .c (.int _ _)) rfl) ?_
        refine o_end (fr' := [(0, .c (PV.ls _ _ _)), (2, .any), (3, AV.os _ _ _ _), (4, .c (.int _ _)), (8, .c (.bool _)), (16, .c (.bool _))]) rfl ?_
        exact e_l _ (Option.some.inj h16).symm (w_weak [560] 0 rfl rfl rfl rfl ⟨(AV.le_refl _), (AV.le_refl _), (AV.le_refl _), trivial⟩ st_nil)
      · skip
        have h8 := cond_f (b := (decide (x6.Kind = (27 : Int)))) hb8 h7
        refine w_skip ?_
        refine e_blk_n ?_
        refine e_kw ?_
        refine w_region ?_
        refine o_p rfl (p_move (v := .c (.int _ _)) rfl) ?_
        refine o_p rfl (p_add rfl rfl) ?_
        refine o_p rfl (p_assign (v := .c (.int _ _)) rfl) ?_
        refine o_end (fr' := [(0, .c (PV.ls _ _ _)), (2, .any), (3, AV.os _ _ _ _), (4, .c (.int _ _)), (8, .c (.bool _)), (16, .c (.bool _))]) rfl ?_
        exact e_l _ (Option.some.inj h8).symm (w_weak [0] 0 rfl rfl rfl rfl ⟨(AV.le_refl _), (AV.le_refl _), (AV.le_refl _), trivial⟩ st_nil)
    · skip
      have h5 := cond_f (b := (decide (s4.2 < ((p0es).length : Int)))) hb5 hs4
      refine w_exit ?_
      refine e_seq_x ?_
      refine e_seq_x ?_
      refine e_blk_h ?_
      have h17 := un_out h5 ho4
      exact e_j _ (Option.some.inj h17).symm (w_weak [0] 0 rfl rfl rfl rfl ⟨(AV.le_refl _), trivial⟩ st_nil)
  · skip
    intro j3 hj18
    subst hj18
    refine e_kw ?_
    refine w_seqw ?_
    refine w_region ?_
    refine o_p rfl (p_move (v := AV.os _ _ _ _) rfl) ?_
    refine o_p rfl (p_assign (v := AV.os _ _ _ _) rfl) ?_
    refine o_end (fr' := [(0, .any), (2, AV.os _ _ _ _), (3, AV.os _ _ _ _), (4, .any), (8, .any), (16, .any)]) rfl ?_
    refine e_kw ?_
    refine w_ret ?_
    have he19 := Option.some.inj h2
    subst he19
    refine e_ret (rs' := [.tmp 2]) rfl ?_
    refine r_tmp (v := AV.os _ _ _ _) rfl ?_
    refine r_nil ?_
    exact fin_gen [0] rfl rfl rfl (AV.le_refl _) st_nil
noncomputable def ref02xSame_l1 (p0a : ApiValue) (p1b : ApiValue) (s6 : Int) : Option (Step Int (Fl Bool Unit)) :=
  cond (decide (s6 < ((p0a.Keys).length : Int))) ((idx p0a.Keys s6).bind fun (x8 : (List UInt8)) => (idx p1b.Keys s6).bind fun (x10 : (List UInt8)) => cond (!decide (x8 = x10)) (some (Step.out (Fl.done false))) (some (Step.next (IntKind.wrap .i64 (s6 + (1 : Int)))))) (some (Step.out (Fl.go ())))
noncomputable def ref02xSame_l2 (rec_ref02xSame : ApiValue → ApiValue → Option Bool) (p0a : ApiValue) (p1b : ApiValue) (s21 : Int) : Option (Step Int (Fl Bool Unit)) :=
  cond (decide (s21 < ((p0a.Items).length : Int))) ((idx p0a.Items s21).bind fun (x23 : ApiValue) => (idx p1b.Items s21).bind fun (x25 : ApiValue) => (rec_ref02xSame x23 x25).bind fun (x27 : Bool) => cond (!x27) (some (Step.out (Fl.done false))) (some (Step.next (IntKind.wrap .i64 (s21 + (1 : Int)))))) (some (Step.out (Fl.go ())))
noncomputable def ref02xSameF : Nat → ApiValue → ApiValue → Option Bool
  | 0, _, _ => none
  | n + 1, p0a, p1b =>
    cond (cond (cond (cond (cond (!decide (p0a.Kind = p1b.Kind)) true (!decide (p0a.Int = p1b.Int))) true (!decide (p0a.Text = p1b.Text))) true (!decide (((p0a.Items).length : Int) = ((p1b.Items).length : Int)))) true (!decide (((p0a.Keys).length : Int) = ((p1b.Keys).length : Int)))) (some false) (((loopO (ref02xSame_l1 p0a p1b) ((0 : Int))) : Option (Fl Bool Unit)).bind fun (x3 : (Fl Bool Unit)) => Fl.next x3 (fun (j5 : Unit) => (((loopO (ref02xSame_l2 (ref02xSameF n) p0a p1b) ((0 : Int))) : Option (Fl Bool Unit)).bind fun (x18 : (Fl Bool Unit)) => Fl.next x18 (fun (j20 : Unit) => (some true)))))
theorem wF_ref02xSame : ∀ n : Nat, (∀ {p0a : ApiValue} {p1b : ApiValue} {res : Bool}, ref02xSameF n p0a p1b = some res → ACalls Try.prog 63 [.agg (AV.cs (exApiValue p0a)), .agg (AV.cs (exApiValue p1b))] [] (.c (.bool res)) []) := by
  intro n
  induction n with
  | zero => exact fun {p0a p1b res} h => absurd h (by simp [ref02xSameF])
  | succ n ih =>
    have ih_ref02xSame := @ih
    intro p0a p1b res h
    rw [ref02xSameF] at h
    refine acalls (fn := Try.f63) [0, 1, 2, 3, 4, 5, 6, 43, 48, 61, 66, 80] (by kernel_rfl) Try.func63 rfl (by kernel_rfl) (by kernel_rfl) ?_
    refine w_seqw ?_
    refine w_region ?_
    refine o_box (v := .agg [.c (.int _ _), .c (.int _ _), .c (.str _), .c (PV.ls _ _ _), .c (PV.ls _ _ _)]) (n := 0) (cs := [.c (.int _ _), .c (.int _ _), .c (.str _), .c (PV.ls _ _ _), .c (PV.ls _ _ _)]) (σ' := [[.c (.int _ _), .c (.int _ _), .c (.str _), .c (PV.ls _ _ _), .c (PV.ls _ _ _)]]) rfl rfl rfl rfl rfl ?_
    refine o_box (v := .agg [.c (.int _ _), .c (.int _ _), .c (.str _), .c (PV.ls _ _ _), .c (PV.ls _ _ _)]) (n := 1) (cs := [.c (.int _ _), .c (.int _ _), .c (.str _), .c (PV.ls _ _ _), .c (PV.ls _ _ _)]) (σ' := [[.c (.int _ _), .c (.int _ _), .c (.str _), .c (PV.ls _ _ _), .c (PV.ls _ _ _)], [.c (.int _ _), .c (.int _ _), .c (.str _), .c (PV.ls _ _ _), .c (PV.ls _ _ _)]]) rfl rfl rfl rfl rfl ?_
    refine o_p rfl (p_assign (v := .c (.bool _)) rfl) ?_
    refine o_end (fr' := [(0, .agg [.c (.int _ _), .c (.int _ _), .c (.str _), .c (PV.ls _ _ _), .c (PV.ls _ _ _)]), (1, .agg [.c (.int _ _), .c (.int _ _), .c (.str _), .c (PV.ls _ _ _), .c (PV.ls _ _ _)]), (2, .box 0 0), (3, .box 1 0), (4, .c (.bool _)), (5, .any), (6, .any), (43, .any), (48, .any), (61, .any), (66, .any), (80, .any)]) rfl ?_
    refine e_kw ?_
    refine w_seqw ?_
    refine w_seqw ?_
    refine w_region ?_
    refine o_p rfl (p_fa tf40x0 rfl) ?_
    refine o_p rfl (p_load (v := .c (.int _ _)) tv3 rfl rfl rfl) ?_
    refine o_p rfl (p_fa tf40x0 rfl) ?_
    refine o_p rfl (p_load (v := .c (.int _ _)) tv3 rfl rfl rfl) ?_
    refine o_p rfl (p_neq rfl rfl) ?_
    refine o_p rfl (p_move (v := .c (.bool _)) rfl) ?_
    refine o_g rfl rfl (fun hc => ov_p rfl (p_fa tf40x1 rfl)) ?_
    refine o_g rfl rfl (fun hc => ov_p rfl (p_load (v := .c (.int _ _)) tv3 (gx rfl hc) rfl rfl)) ?_
    refine o_g rfl rfl (fun hc => ov_p rfl (p_fa tf40x1 rfl)) ?_
    refine o_g rfl rfl (fun hc => ov_p rfl (p_load (v := .c (.int _ _)) tv3 (gx rfl hc) rfl rfl)) ?_
    refine o_g rfl rfl (fun hc => ov_p rfl (p_neq (gx rfl hc) (gx rfl hc))) ?_
    refine o_p rfl (p_pickz rfl rfl rfl (fun e => keq e)) ?_
    refine o_p rfl (p_move (v := .c (.bool _)) rfl) ?_
    refine o_g rfl rfl (fun hc => ov_p rfl (p_fa tf40x2 rfl)) ?_
    refine o_g rfl rfl (fun hc => ov_p rfl (p_load (v := .c (.str _)) tv9 (gx rfl hc) rfl rfl)) ?_
    refine o_g rfl rfl (fun hc => ov_p rfl (p_fa tf40x2 rfl)) ?_
    refine o_g rfl rfl (fun hc => ov_p rfl (p_load (v := .c (.str _)) tv9 (gx rfl hc) rfl rfl)) ?_
    refine o_g rfl rfl (fun hc => ov_p rfl (p_sneq (gx rfl hc) (gx rfl hc))) ?_
    refine o_p rfl (p_pickz rfl rfl rfl (fun e => keq e)) ?_
    refine o_p rfl (p_move (v := .c (.bool _)) rfl) ?_
    refine o_g rfl rfl (fun hc => ov_p rfl (p_fa tf40x3 rfl)) ?_
    refine o_g rfl rfl (fun hc => ov_p rfl (p_load (v := .c (PV.ls _ _ _)) tv37 (gx rfl hc) rfl rfl)) ?_
    refine o_g rfl rfl (fun hc => ov_p rfl (p_len ti37 (isl_c (gx rfl hc)))) ?_
    refine o_g rfl rfl (fun hc => ov_p rfl (p_fa tf40x3 rfl)) ?_
    refine o_g rfl rfl (fun hc => ov_p rfl (p_load (v := .c (PV.ls _ _ _)) tv37 (gx rfl hc) rfl rfl)) ?_
    refine o_g rfl rfl (fun hc => ov_p rfl (p_len ti37 (isl_c (gx rfl hc)))) ?_
    refine o_g rfl rfl (fun hc => ov_p rfl (p_neq (gx rfl hc) (gx rfl hc))) ?_
    refine o_p rfl (p_pickz rfl rfl rfl (fun e => keq e)) ?_
    refine o_p rfl (p_move (v := .c (.bool _)) rfl) ?_
    refine o_g rfl rfl (fun hc => ov_p rfl (p_fa tf40x4 rfl)) ?_
    refine o_g rfl rfl (fun hc => ov_p rfl (p_load (v := .c (PV.ls _ _ _)) tv38 (gx rfl hc) rfl rfl)) ?_
    refine o_g rfl rfl (fun hc => ov_p rfl (p_len ti38 (isl_c (gx rfl hc)))) ?_
    refine o_g rfl rfl (fun hc => ov_p rfl (p_fa tf40x4 rfl)) ?_
    refine o_g rfl rfl (fun hc => ov_p rfl (p_load (v := .c (PV.ls _ _ _)) tv38 (gx rfl hc) rfl rfl)) ?_
    refine o_g rfl rfl (fun hc => ov_p rfl (p_len ti38 (isl_c (gx rfl hc)))) ?_
    refine o_g rfl rfl (fun hc => ov_p rfl (p_neq (gx rfl hc) (gx rfl hc))) ?_
    refine o_p rfl (p_pickz rfl rfl rfl (fun e => keq e)) ?_
    refine o_end (fr' := [(0, .agg [.c (.int _ _), .c (.int _ _), .c (.str _), .c (PV.ls _ _ _), .c (PV.ls _ _ _)]), (1, .agg [.c (.int _ _), .c (.int _ _), .c (.str _), .c (PV.ls _ _ _), .c (PV.ls _ _ _)]), (2, .box 0 0), (3, .box 1 0), (4, .c (.bool _)), (5, .any), (6, .any), (43, .c (.bool _)), (48, .any), (61, .any), (66, .any), (80, .any)]) rfl ?_
    refine e_kw ?_
    refine w_cond _ rfl (fun hb1 => ?_) (fun hb1 => ?_)
    · skip
      have h1 := cond_t (b := (cond (cond (cond (cond (!decide (p0a.Kind = p1b.Kind)) true (!decide (p0a.Int = p1b.Int))) true (!decide (p0a.Text = p1b.Text))) true (!decide (((p0a.Items).length : Int) = ((p1b.Items).length : Int)))) true (!decide (((p0a.Keys).length : Int) = ((p1b.Keys).length : Int))))) hb1 h
      refine w_seqw ?_
      refine w_region ?_
      refine o_p rfl (p_assign (v := .c (.bool _)) rfl) ?_
      refine o_end (fr' := [(0, .agg [.c (.int _ _), .c (.int _ _), .c (.str _), .c (PV.ls _ _ _), .c (PV.ls _ _ _)]), (1, .agg [.c (.int _ _), .c (.int _ _), .c (.str _), .c (PV.ls _ _ _), .c (PV.ls _ _ _)]), (2, .box 0 0), (3, .box 1 0), (4, .c (.bool _)), (5, .any), (6, .any), (43, .c (.bool _)), (48, .any), (61, .any), (66, .any), (80, .any)]) rfl ?_
      refine e_kw ?_
      refine w_ret ?_
      refine e_seq_r ?_
      have he2 := Option.some.inj h1
      subst he2
      refine e_ret (rs' := [.tmp 4]) rfl ?_
      refine r_tmp (v := .c (.bool _)) rfl ?_
      refine r_nil ?_
      exact fin_gen [] rfl rfl rfl (AV.le_refl _) st_nil
    · skip
      have h1 := cond_f (b := (cond (cond (cond (cond (!decide (p0a.Kind = p1b.Kind)) true (!decide (p0a.Int = p1b.Int))) true (!decide (p0a.Text = p1b.Text))) true (!decide (((p0a.Items).length : Int) = ((p1b.Items).length : Int)))) true (!decide (((p0a.Keys).length : Int) = ((p1b.Keys).length : Int))))) hb1 h
      refine w_skip ?_
      refine e_kw ?_
      refine w_seqw ?_
      refine w_seqw ?_
      refine w_region ?_
      refine o_p rfl (p_assign (v := .c (.int _ _)) rfl) ?_
      refine o_end (fr' := [(0, .agg [.c (.int _ _), .c (.int _ _), .c (.str _), .c (PV.ls _ _ _), .c (PV.ls _ _ _)]), (1, .agg [.c (.int _ _), .c (.int _ _), .c (.str _), .c (PV.ls _ _ _), .c (PV.ls _ _ _)]), (2, .box 0 0), (3, .box 1 0), (4, .c (.bool _)), (5, .c (.int _ _)), (6, .any), (43, .c (.bool _)), (48, .any), (61, .any), (66, .any), (80, .any)]) rfl ?_
      refine e_kw ?_
      obtain ⟨x3, hx3, h4⟩ := bind_s h1
      refine w_jtail cl_kw (fun j5 => x3 = Fl.go j5) (fun (j5 : Unit) => ([(2, .box 0 0), (3, .box 1 0)] : Fr)) (fun (j5 : Unit) => ([[.c (.int .i64 p0a.Kind), .c (.int .i64 p0a.Int), .c (.str p0a.Text), .c (PV.ls 5 rowApiValue p0a.Items), .c (PV.ls 1 rowS p0a.Keys)], [.c (.int .i64 p1b.Kind), .c (.int .i64 p1b.Int), .c (.str p1b.Text), .c (PV.ls 5 rowApiValue p1b.Items), .c (PV.ls 1 rowS p1b.Keys)]] : St)) ?_ ?_
      · skip
        refine w_block ?_
        refine w_loopo _ (fun (s6 : Int) => ([(2, .box 0 0), (3, .box 1 0), (5, .c (.int .i64 s6))] : Fr)) (fun (s6 : Int) => ([[.c (.int .i64 p0a.Kind), .c (.int .i64 p0a.Int), .c (.str p0a.Text), .c (PV.ls 5 rowApiValue p0a.Items), .c (PV.ls 1 rowS p0a.Keys)], [.c (.int .i64 p1b.Kind), .c (.int .i64 p1b.Int), .c (.str p1b.Text), .c (PV.ls 5 rowApiValue p1b.Items), .c (PV.ls 1 rowS p1b.Keys)]] : St)) hx3 (w_weak [] 2 rfl rfl rfl rfl ⟨(AV.le_refl _), (AV.le_refl _), (AV.le_refl _), trivial⟩ (st_r rfl (st_r rfl st_nil))) ?_
        intro s6 st6 hs6 ho6
        unfold ref02xSame_l1 at hs6
        refine w_seqw ?_
        refine w_seqw ?_
        refine w_region ?_
        refine o_p rfl (p_move (v := .c (.int _ _)) rfl) ?_
        refine o_p rfl (p_fa tf40x4 rfl) ?_
        refine o_p rfl (p_load (v := .c (PV.ls _ _ _)) tv38 rfl rfl rfl) ?_
        refine o_p rfl (p_len ti38 (isl_c rfl)) ?_
        refine o_p rfl (p_lss rfl rfl) ?_
        refine o_end (fr' := [(0, .any), (1, .any), (2, .box 0 0), (3, .box 1 0), (4, .any), (5, .c (.int _ _)), (6, .any), (43, .any), (48, .c (.bool _)), (61, .any), (66, .any), (80, .any)]) rfl ?_
        refine e_kw ?_
        refine w_cond _ rfl (fun hb7 => ?_) (fun hb7 => ?_)
        · skip
          have h7 := cond_t (b := (decide (s6 < ((p0a.Keys).length : Int)))) hb7 hs6
          refine w_skip ?_
          refine e_kw ?_
          refine w_seqw ?_
          refine w_block ?_
          refine w_seqw ?_
          refine w_planT [.q 0, .q 1, .q 2, .q 3, .q 4, .q 5, .q 6, .q 7, .q 8, .q 9, .q 10] [(some 51, [2]), (some 52, [51]), (some 53, [5]), (some 54, [52, 53]), (some 55, [54]), (some 56, [3]), (some 57, [56]), (some 58, [5]), (some 59, [57, 58]), (some 60, [59]), (some 61, [55, 60])] [0, 1, 0, 7, 15, 0, 32, 0, 224, 480, 1023] (by kernel_rfl) ?_
          refine d_q rfl (qv_p rfl (p_fa tf40x4 rfl)) ?_
          refine d_q rfl (qv_p rfl (p_load (v := .c (PV.ls _ _ _)) tv38 rfl rfl rfl)) ?_
          refine d_q rfl (qv_p rfl (p_move (v := .c (.int _ _)) rfl)) ?_
          obtain ⟨x8, hx8, h9⟩ := bind_s h7
          refine d_q rfl (qv_p rfl (p_ia (cs := [.str _]) ts38 (isl_c rfl) rfl hx8 rfl)) ?_
          refine d_q rfl (qv_p rfl (p_loade (p := .str _) tv9 rfl rfl)) ?_
          refine d_q rfl (qv_p rfl (p_fa tf40x4 rfl)) ?_
          refine d_q rfl (qv_p rfl (p_load (v := .c (PV.ls _ _ _)) tv38 rfl rfl rfl)) ?_
          refine d_q rfl (qv_p rfl (p_move (v := .c (.int _ _)) rfl)) ?_
          obtain ⟨x10, hx10, h11⟩ := bind_s h9
          refine d_q rfl (qv_p rfl (p_ia (cs := [.str _]) ts38 (isl_c rfl) rfl hx10 rfl)) ?_
          refine d_q rfl (qv_p rfl (p_loade (p := .str _) tv9 rfl rfl)) ?_
          refine d_q rfl (qv_p rfl (p_sneq rfl rfl)) ?_
          refine d_end (fr' := [(0, .any), (1, .any), (2, .box 0 0), (3, .box 1 0), (4, .any), (5, .c (.int _ _)), (6, .any), (43, .any), (48, .c (.bool _)), (61, .c (.bool _)), (66, .any), (80, .any)]) rfl ?_
          refine e_kw ?_
          refine w_cond _ rfl (fun hb12 => ?_) (fun hb12 => ?_)
          · skip
            have h12 := cond_t (b := (!decide (x8 = x10))) hb12 h11
            refine w_seqw ?_
            refine w_region ?_
            refine o_p rfl (p_assign (v := .c (.bool _)) rfl) ?_
            refine o_end (fr' := [(0, .any), (1, .any), (2, .box 0 0), (3, .box 1 0), (4, .c (.bool _)), (5, .c (.int _ _)), (6, .any), (43, .any), (48, .c (.bool _)), (61, .c (.bool _)), (66, .any), (80, .any)]) rfl ?_
            refine e_kw ?_
            refine w_ret ?_
            refine e_blk_r ?_
            refine e_seq_r ?_
            refine e_seq_r ?_
            refine e_blk_r ?_
            refine e_seq_r ?_
            refine e_seq_r ?_
            have h13 := un_out h12 ho6
            have h14 := un_done h13 h4
            have he15 := Option.some.inj h14
            subst he15
            refine e_ret (rs' := [.tmp 4]) rfl ?_
            refine r_tmp (v := .c (.bool _)) rfl ?_
            refine r_nil ?_
            exact fin_gen [] rfl rfl rfl (AV.le_refl _) st_nil
          · skip
            have h12 := cond_f (b := (!decide (x8 = x10))) hb12 h11
            refine w_skip ?_
            refine e_blk_n ?_
            refine e_kw ?_
            refine w_region ?_
            refine o_p rfl (p_move (v := .c (.int _ _)) rfl) ?_
            refine o_p rfl (p_add rfl rfl) ?_
            refine o_p rfl (p_assign (v := .c (.int _ _)) rfl) ?_
            refine o_end (fr' := [(0, .any), (1, .any), (2, .box 0 0), (3, .box 1 0), (4, .any), (5, .c (.int _ _)), (6, .any), (43, .any), (48, .c (.bool _)), (61, .c (.bool _)), (66, .any), (80, .any)]) rfl ?_
            exact e_l _ (Option.some.inj h12).symm (w_weak [] 2 rfl rfl rfl rfl ⟨(AV.le_refl _), (AV.le_refl _), (AV.le_refl _), trivial⟩ (st_r rfl (st_r rfl st_nil)))
        · skip
          have h7 := cond_f (b := (decide (s6 < ((p0a.Keys).length : Int)))) hb7 hs6
          refine w_exit ?_
          refine e_seq_x ?_
          refine e_seq_x ?_
          refine e_blk_h ?_
          have h16 := un_out h7 ho6
          exact e_j _ (Option.some.inj h16).symm (w_weak [] 2 rfl rfl rfl rfl ⟨(AV.le_refl _), (AV.le_refl _), trivial⟩ (st_r rfl (st_r rfl st_nil)))
      · skip
        intro j5 hj17
        have h17 := un_go hj17 h4
        refine e_kw ?_
        refine w_seqw ?_
        refine w_seqw ?_
        refine w_region ?_
        refine o_p rfl (p_assign (v := .c (.int _ _)) rfl) ?_
        refine o_end (fr' := [(0, .any), (1, .any), (2, .box 0 0), (3, .box 1 0), (4, .any), (5, .any), (6, .c (.int _ _)), (43, .any), (48, .any), (61, .any), (66, .any), (80, .any)]) rfl ?_
        refine e_kw ?_
        obtain ⟨x18, hx18, h19⟩ := bind_s h17
        refine w_jtail cl_kw (fun j20 => x18 = Fl.go j20) (fun (j20 : Unit) => ([] : Fr)) (fun (j20 : Unit) => ([[.c (.int .i64 p0a.Kind), .c (.int .i64 p0a.Int), .c (.str p0a.Text), .c (PV.ls 5 rowApiValue p0a.Items), .c (PV.ls 1 rowS p0a.Keys)], [.c (.int .i64 p1b.Kind), .c (.int .i64 p1b.Int), .c (.str p1b.Text), .c (PV.ls 5 rowApiValue p1b.Items), .c (PV.ls 1 rowS p1b.Keys)]] : St)) ?_ ?_
        · skip
          refine w_block ?_
          refine w_loopo _ (fun (s21 : Int) => ([(2, .box 0 0), (3, .box 1 0), (6, .c (.int .i64 s21))] : Fr)) (fun (s21 : Int) => ([[.c (.int .i64 p0a.Kind), .c (.int .i64 p0a.Int), .c (.str p0a.Text), .c (PV.ls 5 rowApiValue p0a.Items), .c (PV.ls 1 rowS p0a.Keys)], [.c (.int .i64 p1b.Kind), .c (.int .i64 p1b.Int), .c (.str p1b.Text), .c (PV.ls 5 rowApiValue p1b.Items), .c (PV.ls 1 rowS p1b.Keys)]] : St)) hx18 (w_weak [] 2 rfl rfl rfl rfl ⟨(AV.le_refl _), (AV.le_refl _), (AV.le_refl _), trivial⟩ (st_r rfl (st_r rfl st_nil))) ?_
          intro s21 st21 hs21 ho21
          unfold ref02xSame_l2 at hs21
          refine w_seqw ?_
          refine w_seqw ?_
          refine w_region ?_
          refine o_p rfl (p_move (v := .c (.int _ _)) rfl) ?_
          refine o_p rfl (p_fa tf40x3 rfl) ?_
          refine o_p rfl (p_load (v := .c (PV.ls _ _ _)) tv37 rfl rfl rfl) ?_
          refine o_p rfl (p_len ti37 (isl_c rfl)) ?_
          refine o_p rfl (p_lss rfl rfl) ?_
          refine o_end (fr' := [(0, .any), (1, .any), (2, .box 0 0), (3, .box 1 0), (4, .any), (5, .any), (6, .c (.int _ _)), (43, .any), (48, .any), (61, .any), (66, .c (.bool _)), (80, .any)]) rfl ?_
          refine e_kw ?_
          refine w_cond _ rfl (fun hb22 => ?_) (fun hb22 => ?_)
          · skip
            have h22 := cond_t (b := (decide (s21 < ((p0a.Items).length : Int)))) hb22 hs21
            refine w_skip ?_
            refine e_kw ?_
            refine w_seqw ?_
            refine w_block ?_
            refine w_seqw ?_
            refine w_planT [.q 0, .q 1, .q 2, .q 3, .q 4, .q 5, .q 6, .q 7, .q 8, .q 9, .q 10, .q 11] [(some 69, [2]), (some 70, [69]), (some 71, [6]), (some 72, [70, 71]), (some 73, [72]), (some 74, [3]), (some 75, [74]), (some 76, [6]), (some 77, [75, 76]), (some 78, [77]), (some 79, [73, 78]), (some 80, [79])] [0, 1, 0, 7, 15, 0, 32, 0, 224, 480, 1023, 2047] (by kernel_rfl) ?_
            refine d_q rfl (qv_p rfl (p_fa tf40x3 rfl)) ?_
            refine d_q rfl (qv_p rfl (p_load (v := .c (PV.ls _ _ _)) tv37 rfl rfl rfl)) ?_
            refine d_q rfl (qv_p rfl (p_move (v := .c (.int _ _)) rfl)) ?_
            obtain ⟨x23, hx23, h24⟩ := bind_s h22
            refine d_q rfl (qv_p rfl (p_ia (cs := [.int _ _, .int _ _, .str _, PV.ls _ _ _, PV.ls _ _ _]) ts37 (isl_c rfl) rfl hx23 (rowApiValue_eq _))) ?_
            refine d_q rfl (qv_p rfl (p_loades (us := [.int _ _, .int _ _, .str _, PV.ls _ _ _, PV.ls _ _ _]) tv40 rfl rfl rfl)) ?_
            refine d_q rfl (qv_p rfl (p_fa tf40x3 rfl)) ?_
            refine d_q rfl (qv_p rfl (p_load (v := .c (PV.ls _ _ _)) tv37 rfl rfl rfl)) ?_
            refine d_q rfl (qv_p rfl (p_move (v := .c (.int _ _)) rfl)) ?_
            obtain ⟨x25, hx25, h26⟩ := bind_s h24
            refine d_q rfl (qv_p rfl (p_ia (cs := [.int _ _, .int _ _, .str _, PV.ls _ _ _, PV.ls _ _ _]) ts37 (isl_c rfl) rfl hx25 (rowApiValue_eq _))) ?_
            refine d_q rfl (qv_p rfl (p_loades (us := [.int _ _, .int _ _, .str _, PV.ls _ _ _, PV.ls _ _ _]) tv40 rfl rfl rfl)) ?_
            obtain ⟨x27, hx27, h28⟩ := bind_s h26
            refine d_q rfl (qv_call (v := .c (.bool _)) rfl (ih_ref02xSame hx27) ⟨(le_aggc rfl ⟨rfl, rfl, rfl, rfl, rfl, trivial⟩), (le_aggc rfl ⟨rfl, rfl, rfl, rfl, rfl, trivial⟩), trivial⟩ rfl) ?_
            refine d_q rfl (qv_p rfl (p_not rfl)) ?_
            refine d_end (fr' := [(0, .any), (1, .any), (2, .box 0 0), (3, .box 1 0), (4, .any), (5, .any), (6, .c (.int _ _)), (43, .any), (48, .any), (61, .any), (66, .c (.bool _)), (80, .c (.bool _))]) rfl ?_
            refine e_kw ?_
            refine w_cond _ rfl (fun hb29 => ?_) (fun hb29 => ?_)
            · skip
              have h29 := cond_t (b := (!x27)) hb29 h28
              refine w_seqw ?_
              refine w_region ?_
              refine o_p rfl (p_assign (v := .c (.bool _)) rfl) ?_
              refine o_end (fr' := [(0, .any), (1, .any), (2, .box 0 0), (3, .box 1 0), (4, .c (.bool _)), (5, .any), (6, .c (.int _ _)), (43, .any), (48, .any), (61, .any), (66, .c (.bool _)), (80, .c (.bool _))]) rfl ?_
              refine e_kw ?_
              refine w_ret ?_
              refine e_blk_r ?_
              refine e_seq_r ?_
              refine e_seq_r ?_
              refine e_blk_r ?_
              refine e_seq_r ?_
              refine e_seq_r ?_
              have h30 := un_out h29 ho21
              have h31 := un_done h30 h19
              have he32 := Option.some.inj h31
              subst he32
              refine e_ret (rs' := [.tmp 4]) rfl ?_
              refine r_tmp (v := .c (.bool _)) rfl ?_
              refine r_nil ?_
              exact fin_gen [] rfl rfl rfl (AV.le_refl _) st_nil
            · skip
              have h29 := cond_f (b := (!x27)) hb29 h28
              refine w_skip ?_
              refine e_blk_n ?_
              refine e_kw ?_
              refine w_region ?_
              refine o_p rfl (p_move (v := .c (.int _ _)) rfl) ?_
              refine o_p rfl (p_add rfl rfl) ?_
              refine o_p rfl (p_assign (v := .c (.int _ _)) rfl) ?_
              refine o_end (fr' := [(0, .any), (1, .any), (2, .box 0 0), (3, .box 1 0), (4, .any), (5, .any), (6, .c (.int _ _)), (43, .any), (48, .any), (61, .any), (66, .c (.bool _)), (80, .c (.bool _))]) rfl ?_
              exact e_l _ (Option.some.inj h29).symm (w_weak [] 2 rfl rfl rfl rfl ⟨(AV.le_refl _), (AV.le_refl _), (AV.le_refl _), trivial⟩ (st_r rfl (st_r rfl st_nil)))
          · skip
            have h22 := cond_f (b := (decide (s21 < ((p0a.Items).length : Int)))) hb22 hs21
            refine w_exit ?_
            refine e_seq_x ?_
            refine e_seq_x ?_
            refine e_blk_h ?_
            have h33 := un_out h22 ho21
            exact e_j _ (Option.some.inj h33).symm (w_weak [] 2 rfl rfl rfl rfl trivial (st_r rfl (st_r rfl st_nil)))
        · skip
          intro j20 hj34
          have h34 := un_go hj34 h19
          refine e_kw ?_
          refine w_seqw ?_
          refine w_region ?_
          refine o_p rfl (p_assign (v := .c (.bool _)) rfl) ?_
          refine o_end (fr' := [(0, .any), (1, .any), (2, .any), (3, .any), (4, .c (.bool _)), (5, .any), (6, .any), (43, .any), (48, .any), (61, .any), (66, .any), (80, .any)]) rfl ?_
          refine e_kw ?_
          refine w_ret ?_
          have he35 := Option.some.inj h34
          subst he35
          refine e_ret (rs' := [.tmp 4]) rfl ?_
          refine r_tmp (v := .c (.bool _)) rfl ?_
          refine r_nil ?_
          exact fin_gen [] rfl rfl rfl (AV.le_refl _) st_nil
noncomputable def ref02xSame (p0a : ApiValue) (p1b : ApiValue) : Option Bool := lim fun n => ref02xSameF n p0a p1b
theorem w_ref02xSame {p0a : ApiValue} {p1b : ApiValue} {res : Bool} (h : ref02xSame p0a p1b = some res) : ACalls Try.prog 63 [.agg (AV.cs (exApiValue p0a)), .agg (AV.cs (exApiValue p1b))] [] (.c (.bool res)) [] := by
  obtain ⟨n, hn⟩ := lim_some h
  exact (wF_ref02xSame n) hn
noncomputable def ref20xSamePolicy_l1 (p0a : ApiPolicy) (p1b : ApiPolicy) (s8 : Int) : Option (Step Int (Fl Bool Unit)) :=
  cond (decide (s8 < ((p0a.Fatal).length : Int))) ((idx p0a.Fatal s8).bind fun (x10 : (List UInt8)) => (idx p1b.Fatal s8).bind fun (x12 : (List UInt8)) => cond (!decide (x10 = x12)) (some (Step.out (Fl.done false))) (some (Step.next (IntKind.wrap .i64 (s8 + (1 : Int)))))) (some (Step.out (Fl.go ())))
noncomputable def ref20xSamePolicy (p0a : ApiPolicy) (p1b : ApiPolicy) : Option Bool :=
  cond (cond (cond (cond (cond (!decide (p0a.Queue = p1b.Queue)) true (!decide (p0a.ToStart = p1b.ToStart))) true (!decide (p0a.ToClose = p1b.ToClose))) true (!decide (p0a.Total = p1b.Total))) true (!decide (p0a.Beat = p1b.Beat))) (some false) (cond (cond (cond (cond (cond (!decide (p0a.First = p1b.First)) true (!decide (p0a.Coef = p1b.Coef))) true (!decide (p0a.Most = p1b.Most))) true (!decide (p0a.Attempts = p1b.Attempts))) true (!decide (((p0a.Fatal).length : Int) = ((p1b.Fatal).length : Int)))) (some false) (((loopO (ref20xSamePolicy_l1 p0a p1b) ((0 : Int))) : Option (Fl Bool Unit)).bind fun (x5 : (Fl Bool Unit)) => Fl.next x5 (fun (j7 : Unit) => (some true))))
theorem w_ref20xSamePolicy {p0a : ApiPolicy} {p1b : ApiPolicy} {res : Bool} (h : ref20xSamePolicy p0a p1b = some res) : ACalls Try.prog 64 [.agg (AV.cs (rowApiPolicy p0a)), .agg (AV.cs (rowApiPolicy p1b))] [] (.c (.bool res)) [] := by
  unfold ref20xSamePolicy at h
  refine acalls (fn := Try.f64) [0, 1, 2, 3, 4, 5, 38, 73, 78, 91] (by kernel_rfl) Try.func64 rfl (by kernel_rfl) (by kernel_rfl) ?_
  refine w_seqw ?_
  refine w_region ?_
  refine o_box (v := .agg [.c (.str _), .c (.int _ _), .c (.int _ _), .c (.int _ _), .c (.int _ _), .c (.int _ _), .c (.int _ _), .c (.int _ _), .c (.int _ _), .c (PV.ls _ _ _)]) (n := 0) (cs := [.c (.str _), .c (.int _ _), .c (.int _ _), .c (.int _ _), .c (.int _ _), .c (.int _ _), .c (.int _ _), .c (.int _ _), .c (.int _ _), .c (PV.ls _ _ _)]) (σ' := [[.c (.str _), .c (.int _ _), .c (.int _ _), .c (.int _ _), .c (.int _ _), .c (.int _ _), .c (.int _ _), .c (.int _ _), .c (.int _ _), .c (PV.ls _ _ _)]]) rfl rfl rfl rfl rfl ?_
  refine o_box (v := .agg [.c (.str _), .c (.int _ _), .c (.int _ _), .c (.int _ _), .c (.int _ _), .c (.int _ _), .c (.int _ _), .c (.int _ _), .c (.int _ _), .c (PV.ls _ _ _)]) (n := 1) (cs := [.c (.str _), .c (.int _ _), .c (.int _ _), .c (.int _ _), .c (.int _ _), .c (.int _ _), .c (.int _ _), .c (.int _ _), .c (.int _ _), .c (PV.ls _ _ _)]) (σ' := [[.c (.str _), .c (.int _ _), .c (.int _ _), .c (.int _ _), .c (.int _ _), .c (.int _ _), .c (.int _ _), .c (.int _ _), .c (.int _ _), .c (PV.ls _ _ _)], [.c (.str _), .c (.int _ _), .c (.int _ _), .c (.int _ _), .c (.int _ _), .c (.int _ _), .c (.int _ _), .c (.int _ _), .c (.int _ _), .c (PV.ls _ _ _)]]) rfl rfl rfl rfl rfl ?_
  refine o_p rfl (p_assign (v := .c (.bool _)) rfl) ?_
  refine o_end (fr' := [(0, .agg [.c (.str _), .c (.int _ _), .c (.int _ _), .c (.int _ _), .c (.int _ _), .c (.int _ _), .c (.int _ _), .c (.int _ _), .c (.int _ _), .c (PV.ls _ _ _)]), (1, .agg [.c (.str _), .c (.int _ _), .c (.int _ _), .c (.int _ _), .c (.int _ _), .c (.int _ _), .c (.int _ _), .c (.int _ _), .c (.int _ _), .c (PV.ls _ _ _)]), (2, .box 0 0), (3, .box 1 0), (4, .c (.bool _)), (5, .any), (38, .any), (73, .any), (78, .any), (91, .any)]) rfl ?_
  refine e_kw ?_
  refine w_seqw ?_
  refine w_seqw ?_
  refine w_region ?_
  refine o_p rfl (p_fa tf42x0 rfl) ?_
  refine o_p rfl (p_load (v := .c (.str _)) tv9 rfl rfl rfl) ?_
  refine o_p rfl (p_fa tf42x0 rfl) ?_
  refine o_p rfl (p_load (v := .c (.str _)) tv9 rfl rfl rfl) ?_
  refine o_p rfl (p_sneq rfl rfl) ?_
  refine o_p rfl (p_move (v := .c (.bool _)) rfl) ?_
  refine o_g rfl rfl (fun hc => ov_p rfl (p_fa tf42x1 rfl)) ?_
  refine o_g rfl rfl (fun hc => ov_p rfl (p_load (v := .c (.int _ _)) tv3 (gx rfl hc) rfl rfl)) ?_
  refine o_g rfl rfl (fun hc => ov_p rfl (p_fa tf42x1 rfl)) ?_
  refine o_g rfl rfl (fun hc => ov_p rfl (p_load (v := .c (.int _ _)) tv3 (gx rfl hc) rfl rfl)) ?_
  refine o_g rfl rfl (fun hc => ov_p rfl (p_neq (gx rfl hc) (gx rfl hc))) ?_
  refine o_p rfl (p_pickz rfl rfl rfl (fun e => keq e)) ?_
  refine o_p rfl (p_move (v := .c (.bool _)) rfl) ?_
  refine o_g rfl rfl (fun hc => ov_p rfl (p_fa tf42x2 rfl)) ?_
  refine o_g rfl rfl (fun hc => ov_p rfl (p_load (v := .c (.int _ _)) tv3 (gx rfl hc) rfl rfl)) ?_
  refine o_g rfl rfl (fun hc => ov_p rfl (p_fa tf42x2 rfl)) ?_
  refine o_g rfl rfl (fun hc => ov_p rfl (p_load (v := .c (.int _ _)) tv3 (gx rfl hc) rfl rfl)) ?_
  refine o_g rfl rfl (fun hc => ov_p rfl (p_neq (gx rfl hc) (gx rfl hc))) ?_
  refine o_p rfl (p_pickz rfl rfl rfl (fun e => keq e)) ?_
  refine o_p rfl (p_move (v := .c (.bool _)) rfl) ?_
  refine o_g rfl rfl (fun hc => ov_p rfl (p_fa tf42x3 rfl)) ?_
  refine o_g rfl rfl (fun hc => ov_p rfl (p_load (v := .c (.int _ _)) tv3 (gx rfl hc) rfl rfl)) ?_
  refine o_g rfl rfl (fun hc => ov_p rfl (p_fa tf42x3 rfl)) ?_
  refine o_g rfl rfl (fun hc => ov_p rfl (p_load (v := .c (.int _ _)) tv3 (gx rfl hc) rfl rfl)) ?_
  refine o_g rfl rfl (fun hc => ov_p rfl (p_neq (gx rfl hc) (gx rfl hc))) ?_
  refine o_p rfl (p_pickz rfl rfl rfl (fun e => keq e)) ?_
  refine o_p rfl (p_move (v := .c (.bool _)) rfl) ?_
  refine o_g rfl rfl (fun hc => ov_p rfl (p_fa tf42x4 rfl)) ?_
  refine o_g rfl rfl (fun hc => ov_p rfl (p_load (v := .c (.int _ _)) tv3 (gx rfl hc) rfl rfl)) ?_
  refine o_g rfl rfl (fun hc => ov_p rfl (p_fa tf42x4 rfl)) ?_
  refine o_g rfl rfl (fun hc => ov_p rfl (p_load (v := .c (.int _ _)) tv3 (gx rfl hc) rfl rfl)) ?_
  refine o_g rfl rfl (fun hc => ov_p rfl (p_neq (gx rfl hc) (gx rfl hc))) ?_
  refine o_p rfl (p_pickz rfl rfl rfl (fun e => keq e)) ?_
  refine o_end (fr' := [(0, .agg [.c (.str _), .c (.int _ _), .c (.int _ _), .c (.int _ _), .c (.int _ _), .c (.int _ _), .c (.int _ _), .c (.int _ _), .c (.int _ _), .c (PV.ls _ _ _)]), (1, .agg [.c (.str _), .c (.int _ _), .c (.int _ _), .c (.int _ _), .c (.int _ _), .c (.int _ _), .c (.int _ _), .c (.int _ _), .c (.int _ _), .c (PV.ls _ _ _)]), (2, .box 0 0), (3, .box 1 0), (4, .c (.bool _)), (5, .any), (38, .c (.bool _)), (73, .any), (78, .any), (91, .any)]) rfl ?_
  refine e_kw ?_
  refine w_cond _ rfl (fun hb1 => ?_) (fun hb1 => ?_)
  · skip
    have h1 := cond_t (b := (cond (cond (cond (cond (!decide (p0a.Queue = p1b.Queue)) true (!decide (p0a.ToStart = p1b.ToStart))) true (!decide (p0a.ToClose = p1b.ToClose))) true (!decide (p0a.Total = p1b.Total))) true (!decide (p0a.Beat = p1b.Beat)))) hb1 h
    refine w_seqw ?_
    refine w_region ?_
    refine o_p rfl (p_assign (v := .c (.bool _)) rfl) ?_
    refine o_end (fr' := [(0, .agg [.c (.str _), .c (.int _ _), .c (.int _ _), .c (.int _ _), .c (.int _ _), .c (.int _ _), .c (.int _ _), .c (.int _ _), .c (.int _ _), .c (PV.ls _ _ _)]), (1, .agg [.c (.str _), .c (.int _ _), .c (.int _ _), .c (.int _ _), .c (.int _ _), .c (.int _ _), .c (.int _ _), .c (.int _ _), .c (.int _ _), .c (PV.ls _ _ _)]), (2, .box 0 0), (3, .box 1 0), (4, .c (.bool _)), (5, .any), (38, .c (.bool _)), (73, .any), (78, .any), (91, .any)]) rfl ?_
    refine e_kw ?_
    refine w_ret ?_
    refine e_seq_r ?_
    have he2 := Option.some.inj h1
    subst he2
    refine e_ret (rs' := [.tmp 4]) rfl ?_
    refine r_tmp (v := .c (.bool _)) rfl ?_
    refine r_nil ?_
    exact fin_gen [] rfl rfl rfl (AV.le_refl _) st_nil
  · skip
    have h1 := cond_f (b := (cond (cond (cond (cond (!decide (p0a.Queue = p1b.Queue)) true (!decide (p0a.ToStart = p1b.ToStart))) true (!decide (p0a.ToClose = p1b.ToClose))) true (!decide (p0a.Total = p1b.Total))) true (!decide (p0a.Beat = p1b.Beat)))) hb1 h
    refine w_skip ?_
    refine e_kw ?_
    refine w_seqw ?_
    refine w_seqw ?_
    refine w_region ?_
    refine o_p rfl (p_fa tf42x5 rfl) ?_
    refine o_p rfl (p_load (v := .c (.int _ _)) tv3 rfl rfl rfl) ?_
    refine o_p rfl (p_fa tf42x5 rfl) ?_
    refine o_p rfl (p_load (v := .c (.int _ _)) tv3 rfl rfl rfl) ?_
    refine o_p rfl (p_neq rfl rfl) ?_
    refine o_p rfl (p_move (v := .c (.bool _)) rfl) ?_
    refine o_g rfl rfl (fun hc => ov_p rfl (p_fa tf42x6 rfl)) ?_
    refine o_g rfl rfl (fun hc => ov_p rfl (p_load (v := .c (.int _ _)) tv3 (gx rfl hc) rfl rfl)) ?_
    refine o_g rfl rfl (fun hc => ov_p rfl (p_fa tf42x6 rfl)) ?_
    refine o_g rfl rfl (fun hc => ov_p rfl (p_load (v := .c (.int _ _)) tv3 (gx rfl hc) rfl rfl)) ?_
    refine o_g rfl rfl (fun hc => ov_p rfl (p_neq (gx rfl hc) (gx rfl hc))) ?_
    refine o_p rfl (p_pickz rfl rfl rfl (fun e => keq e)) ?_
    refine o_p rfl (p_move (v := .c (.bool _)) rfl) ?_
    refine o_g rfl rfl (fun hc => ov_p rfl (p_fa tf42x7 rfl)) ?_
    refine o_g rfl rfl (fun hc => ov_p rfl (p_load (v := .c (.int _ _)) tv3 (gx rfl hc) rfl rfl)) ?_
    refine o_g rfl rfl (fun hc => ov_p rfl (p_fa tf42x7 rfl)) ?_
    refine o_g rfl rfl (fun hc => ov_p rfl (p_load (v := .c (.int _ _)) tv3 (gx rfl hc) rfl rfl)) ?_
    refine o_g rfl rfl (fun hc => ov_p rfl (p_neq (gx rfl hc) (gx rfl hc))) ?_
    refine o_p rfl (p_pickz rfl rfl rfl (fun e => keq e)) ?_
    refine o_p rfl (p_move (v := .c (.bool _)) rfl) ?_
    refine o_g rfl rfl (fun hc => ov_p rfl (p_fa tf42x8 rfl)) ?_
    refine o_g rfl rfl (fun hc => ov_p rfl (p_load (v := .c (.int _ _)) tv3 (gx rfl hc) rfl rfl)) ?_
    refine o_g rfl rfl (fun hc => ov_p rfl (p_fa tf42x8 rfl)) ?_
    refine o_g rfl rfl (fun hc => ov_p rfl (p_load (v := .c (.int _ _)) tv3 (gx rfl hc) rfl rfl)) ?_
    refine o_g rfl rfl (fun hc => ov_p rfl (p_neq (gx rfl hc) (gx rfl hc))) ?_
    refine o_p rfl (p_pickz rfl rfl rfl (fun e => keq e)) ?_
    refine o_p rfl (p_move (v := .c (.bool _)) rfl) ?_
    refine o_g rfl rfl (fun hc => ov_p rfl (p_fa tf42x9 rfl)) ?_
    refine o_g rfl rfl (fun hc => ov_p rfl (p_load (v := .c (PV.ls _ _ _)) tv38 (gx rfl hc) rfl rfl)) ?_
    refine o_g rfl rfl (fun hc => ov_p rfl (p_len ti38 (isl_c (gx rfl hc)))) ?_
    refine o_g rfl rfl (fun hc => ov_p rfl (p_fa tf42x9 rfl)) ?_
    refine o_g rfl rfl (fun hc => ov_p rfl (p_load (v := .c (PV.ls _ _ _)) tv38 (gx rfl hc) rfl rfl)) ?_
    refine o_g rfl rfl (fun hc => ov_p rfl (p_len ti38 (isl_c (gx rfl hc)))) ?_
    refine o_g rfl rfl (fun hc => ov_p rfl (p_neq (gx rfl hc) (gx rfl hc))) ?_
    refine o_p rfl (p_pickz rfl rfl rfl (fun e => keq e)) ?_
    refine o_end (fr' := [(0, .agg [.c (.str _), .c (.int _ _), .c (.int _ _), .c (.int _ _), .c (.int _ _), .c (.int _ _), .c (.int _ _), .c (.int _ _), .c (.int _ _), .c (PV.ls _ _ _)]), (1, .agg [.c (.str _), .c (.int _ _), .c (.int _ _), .c (.int _ _), .c (.int _ _), .c (.int _ _), .c (.int _ _), .c (.int _ _), .c (.int _ _), .c (PV.ls _ _ _)]), (2, .box 0 0), (3, .box 1 0), (4, .c (.bool _)), (5, .any), (38, .c (.bool _)), (73, .c (.bool _)), (78, .any), (91, .any)]) rfl ?_
    refine e_kw ?_
    refine w_cond _ rfl (fun hb3 => ?_) (fun hb3 => ?_)
    · skip
      have h3 := cond_t (b := (cond (cond (cond (cond (!decide (p0a.First = p1b.First)) true (!decide (p0a.Coef = p1b.Coef))) true (!decide (p0a.Most = p1b.Most))) true (!decide (p0a.Attempts = p1b.Attempts))) true (!decide (((p0a.Fatal).length : Int) = ((p1b.Fatal).length : Int))))) hb3 h1
      refine w_seqw ?_
      refine w_region ?_
      refine o_p rfl (p_assign (v := .c (.bool _)) rfl) ?_
      refine o_end (fr' := [(0, .agg [.c (.str _), .c (.int _ _), .c (.int _ _), .c (.int _ _), .c (.int _ _), .c (.int _ _), .c (.int _ _), .c (.int _ _), .c (.int _ _), .c (PV.ls _ _ _)]), (1, .agg [.c (.str _), .c (.int _ _), .c (.int _ _), .c (.int _ _), .c (.int _ _), .c (.int _ _), .c (.int _ _), .c (.int _ _), .c (.int _ _), .c (PV.ls _ _ _)]), (2, .box 0 0), (3, .box 1 0), (4, .c (.bool _)), (5, .any), (38, .c (.bool _)), (73, .c (.bool _)), (78, .any), (91, .any)]) rfl ?_
      refine e_kw ?_
      refine w_ret ?_
      refine e_seq_r ?_
      have he4 := Option.some.inj h3
      subst he4
      refine e_ret (rs' := [.tmp 4]) rfl ?_
      refine r_tmp (v := .c (.bool _)) rfl ?_
      refine r_nil ?_
      exact fin_gen [] rfl rfl rfl (AV.le_refl _) st_nil
    · skip
      have h3 := cond_f (b := (cond (cond (cond (cond (!decide (p0a.First = p1b.First)) true (!decide (p0a.Coef = p1b.Coef))) true (!decide (p0a.Most = p1b.Most))) true (!decide (p0a.Attempts = p1b.Attempts))) true (!decide (((p0a.Fatal).length : Int) = ((p1b.Fatal).length : Int))))) hb3 h1
      refine w_skip ?_
      refine e_kw ?_
      refine w_seqw ?_
      refine w_seqw ?_
      refine w_region ?_
      refine o_p rfl (p_assign (v := .c (.int _ _)) rfl) ?_
      refine o_end (fr' := [(0, .agg [.c (.str _), .c (.int _ _), .c (.int _ _), .c (.int _ _), .c (.int _ _), .c (.int _ _), .c (.int _ _), .c (.int _ _), .c (.int _ _), .c (PV.ls _ _ _)]), (1, .agg [.c (.str _), .c (.int _ _), .c (.int _ _), .c (.int _ _), .c (.int _ _), .c (.int _ _), .c (.int _ _), .c (.int _ _), .c (.int _ _), .c (PV.ls _ _ _)]), (2, .box 0 0), (3, .box 1 0), (4, .c (.bool _)), (5, .c (.int _ _)), (38, .c (.bool _)), (73, .c (.bool _)), (78, .any), (91, .any)]) rfl ?_
      refine e_kw ?_
      obtain ⟨x5, hx5, h6⟩ := bind_s h3
      refine w_jtail cl_kw (fun j7 => x5 = Fl.go j7) (fun (j7 : Unit) => ([] : Fr)) (fun (j7 : Unit) => ([[.c (.str p0a.Queue), .c (.int .i64 p0a.ToStart), .c (.int .i64 p0a.ToClose), .c (.int .i64 p0a.Total), .c (.int .i64 p0a.Beat), .c (.int .i64 p0a.First), .c (.int .i64 p0a.Coef), .c (.int .i64 p0a.Most), .c (.int .i64 p0a.Attempts), .c (PV.ls 1 rowS p0a.Fatal)], [.c (.str p1b.Queue), .c (.int .i64 p1b.ToStart), .c (.int .i64 p1b.ToClose), .c (.int .i64 p1b.Total), .c (.int .i64 p1b.Beat), .c (.int .i64 p1b.First), .c (.int .i64 p1b.Coef), .c (.int .i64 p1b.Most), .c (.int .i64 p1b.Attempts), .c (PV.ls 1 rowS p1b.Fatal)]] : St)) ?_ ?_
      · skip
        refine w_block ?_
        refine w_loopo _ (fun (s8 : Int) => ([(2, .box 0 0), (3, .box 1 0), (5, .c (.int .i64 s8))] : Fr)) (fun (s8 : Int) => ([[.c (.str p0a.Queue), .c (.int .i64 p0a.ToStart), .c (.int .i64 p0a.ToClose), .c (.int .i64 p0a.Total), .c (.int .i64 p0a.Beat), .c (.int .i64 p0a.First), .c (.int .i64 p0a.Coef), .c (.int .i64 p0a.Most), .c (.int .i64 p0a.Attempts), .c (PV.ls 1 rowS p0a.Fatal)], [.c (.str p1b.Queue), .c (.int .i64 p1b.ToStart), .c (.int .i64 p1b.ToClose), .c (.int .i64 p1b.Total), .c (.int .i64 p1b.Beat), .c (.int .i64 p1b.First), .c (.int .i64 p1b.Coef), .c (.int .i64 p1b.Most), .c (.int .i64 p1b.Attempts), .c (PV.ls 1 rowS p1b.Fatal)]] : St)) hx5 (w_weak [] 2 rfl rfl rfl rfl ⟨(AV.le_refl _), (AV.le_refl _), (AV.le_refl _), trivial⟩ (st_r rfl (st_r rfl st_nil))) ?_
        intro s8 st8 hs8 ho8
        unfold ref20xSamePolicy_l1 at hs8
        refine w_seqw ?_
        refine w_seqw ?_
        refine w_region ?_
        refine o_p rfl (p_move (v := .c (.int _ _)) rfl) ?_
        refine o_p rfl (p_fa tf42x9 rfl) ?_
        refine o_p rfl (p_load (v := .c (PV.ls _ _ _)) tv38 rfl rfl rfl) ?_
        refine o_p rfl (p_len ti38 (isl_c rfl)) ?_
        refine o_p rfl (p_lss rfl rfl) ?_
        refine o_end (fr' := [(0, .any), (1, .any), (2, .box 0 0), (3, .box 1 0), (4, .any), (5, .c (.int _ _)), (38, .any), (73, .any), (78, .c (.bool _)), (91, .any)]) rfl ?_
        refine e_kw ?_
        refine w_cond _ rfl (fun hb9 => ?_) (fun hb9 => ?_)
        · skip
          have h9 := cond_t (b := (decide (s8 < ((p0a.Fatal).length : Int)))) hb9 hs8
          refine w_skip ?_
          refine e_kw ?_
          refine w_seqw ?_
          refine w_block ?_
          refine w_seqw ?_
          refine w_planT [.q 0, .q 1, .q 2, .q 3, .q 4, .q 5, .q 6, .q 7, .q 8, .q 9, .q 10] [(some 81, [2]), (some 82, [81]), (some 83, [5]), (some 84, [82, 83]), (some 85, [84]), (some 86, [3]), (some 87, [86]), (some 88, [5]), (some 89, [87, 88]), (some 90, [89]), (some 91, [85, 90])] [0, 1, 0, 7, 15, 0, 32, 0, 224, 480, 1023] (by kernel_rfl) ?_
          refine d_q rfl (qv_p rfl (p_fa tf42x9 rfl)) ?_
          refine d_q rfl (qv_p rfl (p_load (v := .c (PV.ls _ _ _)) tv38 rfl rfl rfl)) ?_
          refine d_q rfl (qv_p rfl (p_move (v := .c (.int _ _)) rfl)) ?_
          obtain ⟨x10, hx10, h11⟩ := bind_s h9
          refine d_q rfl (qv_p rfl (p_ia (cs := [.str _]) ts38 (isl_c rfl) rfl hx10 rfl)) ?_
          refine d_q rfl (qv_p rfl (p_loade (p := .str _) tv9 rfl rfl)) ?_
          refine d_q rfl (qv_p rfl (p_fa tf42x9 rfl)) ?_
          refine d_q rfl (qv_p rfl (p_load (v := .c (PV.ls _ _ _)) tv38 rfl rfl rfl)) ?_
          refine d_q rfl (qv_p rfl (p_move (v := .c (.int _ _)) rfl)) ?_
          obtain ⟨x12, hx12, h13⟩ := bind_s h11
          refine d_q rfl (qv_p rfl (p_ia (cs := [.str _]) ts38 (isl_c rfl) rfl hx12 rfl)) ?_
          refine d_q rfl (qv_p rfl (p_loade (p := .str _) tv9 rfl rfl)) ?_
          refine d_q rfl (qv_p rfl (p_sneq rfl rfl)) ?_
          refine d_end (fr' := [(0, .any), (1, .any), (2, .box 0 0), (3, .box 1 0), (4, .any), (5, .c (.int _ _)), (38, .any), (73, .any), (78, .c (.bool _)), (91, .c (.bool _))]) rfl ?_
          refine e_kw ?_
          refine w_cond _ rfl (fun hb14 => ?_) (fun hb14 => ?_)
          · skip
            have h14 := cond_t (b := (!decide (x10 = x12))) hb14 h13
            refine w_seqw ?_
            refine w_region ?_
            refine o_p rfl (p_assign (v := .c (.bool _)) rfl) ?_
            refine o_end (fr' := [(0, .any), (1, .any), (2, .box 0 0), (3, .box 1 0), (4, .c (.bool _)), (5, .c (.int _ _)), (38, .any), (73, .any), (78, .c (.bool _)), (91, .c (.bool _))]) rfl ?_
            refine e_kw ?_
            refine w_ret ?_
            refine e_blk_r ?_
            refine e_seq_r ?_
            refine e_seq_r ?_
            refine e_blk_r ?_
            refine e_seq_r ?_
            refine e_seq_r ?_
            have h15 := un_out h14 ho8
            have h16 := un_done h15 h6
            have he17 := Option.some.inj h16
            subst he17
            refine e_ret (rs' := [.tmp 4]) rfl ?_
            refine r_tmp (v := .c (.bool _)) rfl ?_
            refine r_nil ?_
            exact fin_gen [] rfl rfl rfl (AV.le_refl _) st_nil
          · skip
            have h14 := cond_f (b := (!decide (x10 = x12))) hb14 h13
            refine w_skip ?_
            refine e_blk_n ?_
            refine e_kw ?_
            refine w_region ?_
            refine o_p rfl (p_move (v := .c (.int _ _)) rfl) ?_
            refine o_p rfl (p_add rfl rfl) ?_
            refine o_p rfl (p_assign (v := .c (.int _ _)) rfl) ?_
            refine o_end (fr' := [(0, .any), (1, .any), (2, .box 0 0), (3, .box 1 0), (4, .any), (5, .c (.int _ _)), (38, .any), (73, .any), (78, .c (.bool _)), (91, .c (.bool _))]) rfl ?_
            exact e_l _ (Option.some.inj h14).symm (w_weak [] 2 rfl rfl rfl rfl ⟨(AV.le_refl _), (AV.le_refl _), (AV.le_refl _), trivial⟩ (st_r rfl (st_r rfl st_nil)))
        · skip
          have h9 := cond_f (b := (decide (s8 < ((p0a.Fatal).length : Int)))) hb9 hs8
          refine w_exit ?_
          refine e_seq_x ?_
          refine e_seq_x ?_
          refine e_blk_h ?_
          have h18 := un_out h9 ho8
          exact e_j _ (Option.some.inj h18).symm (w_weak [] 2 rfl rfl rfl rfl trivial (st_r rfl (st_r rfl st_nil)))
      · skip
        intro j7 hj19
        have h19 := un_go hj19 h6
        refine e_kw ?_
        refine w_seqw ?_
        refine w_region ?_
        refine o_p rfl (p_assign (v := .c (.bool _)) rfl) ?_
        refine o_end (fr' := [(0, .any), (1, .any), (2, .any), (3, .any), (4, .c (.bool _)), (5, .any), (38, .any), (73, .any), (78, .any), (91, .any)]) rfl ?_
        refine e_kw ?_
        refine w_ret ?_
        have he20 := Option.some.inj h19
        subst he20
        refine e_ret (rs' := [.tmp 4]) rfl ?_
        refine r_tmp (v := .c (.bool _)) rfl ?_
        refine r_nil ?_
        exact fin_gen [] rfl rfl rfl (AV.le_refl _) st_nil
noncomputable def ref22xSame (p0a : ApiEvent) (p1b : ApiEvent) : Option Bool :=
  (gd ((cond (cond (cond (cond (cond (cond (cond (cond (decide (p0a.ID = p1b.ID)) (decide (p0a.Kind = p1b.Kind)) false) (decide (p0a.Time = p1b.Time)) false) (decide (p0a.Seq = p1b.Seq)) false) (decide (p0a.Ref = p1b.Ref)) false) (decide (p0a.N = p1b.N)) false) (decide (p0a.Code = p1b.Code)) false) (decide (p0a.Name = p1b.Name)) false) (decide (p0a.Key = p1b.Key)) false) == true) (ref02xSame p0a.Data p1b.Data)).bind fun (x1 : Bool) => (gd ((cond (cond (cond (cond (cond (cond (cond (cond (cond (decide (p0a.ID = p1b.ID)) (decide (p0a.Kind = p1b.Kind)) false) (decide (p0a.Time = p1b.Time)) false) (decide (p0a.Seq = p1b.Seq)) false) (decide (p0a.Ref = p1b.Ref)) false) (decide (p0a.N = p1b.N)) false) (decide (p0a.Code = p1b.Code)) false) (decide (p0a.Name = p1b.Name)) false) (decide (p0a.Key = p1b.Key)) false) x1 false) == true) (ref20xSamePolicy p0a.Opts p1b.Opts)).bind fun (x3 : Bool) => some (cond (cond (cond (cond (cond (cond (cond (cond (cond (cond (decide (p0a.ID = p1b.ID)) (decide (p0a.Kind = p1b.Kind)) false) (decide (p0a.Time = p1b.Time)) false) (decide (p0a.Seq = p1b.Seq)) false) (decide (p0a.Ref = p1b.Ref)) false) (decide (p0a.N = p1b.N)) false) (decide (p0a.Code = p1b.Code)) false) (decide (p0a.Name = p1b.Name)) false) (decide (p0a.Key = p1b.Key)) false) x1 false) x3 false)
theorem w_ref22xSame {p0a : ApiEvent} {p1b : ApiEvent} {res : Bool} (h : ref22xSame p0a p1b = some res) : ACalls Try.prog 42 [.agg (AV.cs (rowApiEvent p0a)), .agg (AV.cs (rowApiEvent p1b))] [] (.c (.bool res)) [] := by
  unfold ref22xSame at h
  refine acalls (fn := Try.f42) [0, 1, 2, 3, 4] (by kernel_rfl) Try.func42 rfl (by kernel_rfl) (by kernel_rfl) ?_
  refine w_seqw ?_
  refine w_region ?_
  refine o_box (v := .agg [.c (.int _ _), .c (.int _ _), .c (.int _ _), .c (.int _ _), .c (.int _ _), .c (.int _ _), .c (.int _ _), .c (.str _), .c (.str _), .c (.int _ _), .c (.int _ _), .c (.str _), .c (PV.ls _ _ _), .c (PV.ls _ _ _), .c (.str _), .c (.int _ _), .c (.int _ _), .c (.int _ _), .c (.int _ _), .c (.int _ _), .c (.int _ _), .c (.int _ _), .c (.int _ _), .c (PV.ls _ _ _)]) (n := 0) (cs := [.c (.int _ _), .c (.int _ _), .c (.int _ _), .c (.int _ _), .c (.int _ _), .c (.int _ _), .c (.int _ _), .c (.str _), .c (.str _), .c (.int _ _), .c (.int _ _), .c (.str _), .c (PV.ls _ _ _), .c (PV.ls _ _ _), .c (.str _), .c (.int _ _), .c (.int _ _), .c (.int _ _), .c (.int _ _), .c (.int _ _), .c (.int _ _), .c (.int _ _), .c (.int _ _), .c (PV.ls _ _ _)]) (σ' := [[.c (.int _ _), .c (.int _ _), .c (.int _ _), .c (.int _ _), .c (.int _ _), .c (.int _ _), .c (.int _ _), .c (.str _), .c (.str _), .c (.int _ _), .c (.int _ _), .c (.str _), .c (PV.ls _ _ _), .c (PV.ls _ _ _), .c (.str _), .c (.int _ _), .c (.int _ _), .c (.int _ _), .c (.int _ _), .c (.int _ _), .c (.int _ _), .c (.int _ _), .c (.int _ _), .c (PV.ls _ _ _)]]) rfl rfl rfl rfl rfl ?_
  refine o_box (v := .agg [.c (.int _ _), .c (.int _ _), .c (.int _ _), .c (.int _ _), .c (.int _ _), .c (.int _ _), .c (.int _ _), .c (.str _), .c (.str _), .c (.int _ _), .c (.int _ _), .c (.str _), .c (PV.ls _ _ _), .c (PV.ls _ _ _), .c (.str _), .c (.int _ _), .c (.int _ _), .c (.int _ _), .c (.int _ _), .c (.int _ _), .c (.int _ _), .c (.int _ _), .c (.int _ _), .c (PV.ls _ _ _)]) (n := 1) (cs := [.c (.int _ _), .c (.int _ _), .c (.int _ _), .c (.int _ _), .c (.int _ _), .c (.int _ _), .c (.int _ _), .c (.str _), .c (.str _), .c (.int _ _), .c (.int _ _), .c (.str _), .c (PV.ls _ _ _), .c (PV.ls _ _ _), .c (.str _), .c (.int _ _), .c (.int _ _), .c (.int _ _), .c (.int _ _), .c (.int _ _), .c (.int _ _), .c (.int _ _), .c (.int _ _), .c (PV.ls _ _ _)]) (σ' := [[.c (.int _ _), .c (.int _ _), .c (.int _ _), .c (.int _ _), .c (.int _ _), .c (.int _ _), .c (.int _ _), .c (.str _), .c (.str _), .c (.int _ _), .c (.int _ _), .c (.str _), .c (PV.ls _ _ _), .c (PV.ls _ _ _), .c (.str _), .c (.int _ _), .c (.int _ _), .c (.int _ _), .c (.int _ _), .c (.int _ _), .c (.int _ _), .c (.int _ _), .c (.int _ _), .c (PV.ls _ _ _)], [.c (.int _ _), .c (.int _ _), .c (.int _ _), .c (.int _ _), .c (.int _ _), .c (.int _ _), .c (.int _ _), .c (.str _), .c (.str _), .c (.int _ _), .c (.int _ _), .c (.str _), .c (PV.ls _ _ _), .c (PV.ls _ _ _), .c (.str _), .c (.int _ _), .c (.int _ _), .c (.int _ _), .c (.int _ _), .c (.int _ _), .c (.int _ _), .c (.int _ _), .c (.int _ _), .c (PV.ls _ _ _)]]) rfl rfl rfl rfl rfl ?_
  refine o_p rfl (p_assign (v := .c (.bool _)) rfl) ?_
  refine o_end (fr' := [(0, .agg [.c (.int _ _), .c (.int _ _), .c (.int _ _), .c (.int _ _), .c (.int _ _), .c (.int _ _), .c (.int _ _), .c (.str _), .c (.str _), .c (.int _ _), .c (.int _ _), .c (.str _), .c (PV.ls _ _ _), .c (PV.ls _ _ _), .c (.str _), .c (.int _ _), .c (.int _ _), .c (.int _ _), .c (.int _ _), .c (.int _ _), .c (.int _ _), .c (.int _ _), .c (.int _ _), .c (PV.ls _ _ _)]), (1, .agg [.c (.int _ _), .c (.int _ _), .c (.int _ _), .c (.int _ _), .c (.int _ _), .c (.int _ _), .c (.int _ _), .c (.str _), .c (.str _), .c (.int _ _), .c (.int _ _), .c (.str _), .c (PV.ls _ _ _), .c (PV.ls _ _ _), .c (.str _), .c (.int _ _), .c (.int _ _), .c (.int _ _), .c (.int _ _), .c (.int _ _), .c (.int _ _), .c (.int _ _), .c (.int _ _), .c (PV.ls _ _ _)]), (2, .box 0 0), (3, .box 1 0), (4, .c (.bool _))]) rfl ?_
  refine e_kw ?_
  refine w_seqw ?_
  refine w_region ?_
  refine o_p rfl (p_fa tf46x0 rfl) ?_
  refine o_p rfl (p_load (v := .c (.int _ _)) tv3 rfl rfl rfl) ?_
  refine o_p rfl (p_fa tf46x0 rfl) ?_
  refine o_p rfl (p_load (v := .c (.int _ _)) tv3 rfl rfl rfl) ?_
  refine o_p rfl (p_eql rfl rfl) ?_
  refine o_p rfl (p_move (v := .c (.bool _)) rfl) ?_
  refine o_g rfl rfl (fun hc => ov_p rfl (p_fa tf46x1 rfl)) ?_
  refine o_g rfl rfl (fun hc => ov_p rfl (p_load (v := .c (.int _ _)) tv3 (gx rfl hc) rfl rfl)) ?_
  refine o_g rfl rfl (fun hc => ov_p rfl (p_fa tf46x1 rfl)) ?_
  refine o_g rfl rfl (fun hc => ov_p rfl (p_load (v := .c (.int _ _)) tv3 (gx rfl hc) rfl rfl)) ?_
  refine o_g rfl rfl (fun hc => ov_p rfl (p_eql (gx rfl hc) (gx rfl hc))) ?_
  refine o_p rfl (p_picky rfl rfl rfl (fun e => keq e)) ?_
  refine o_p rfl (p_move (v := .c (.bool _)) rfl) ?_
  refine o_g rfl rfl (fun hc => ov_p rfl (p_fa tf46x2 rfl)) ?_
  refine o_g rfl rfl (fun hc => ov_p rfl (p_load (v := .c (.int _ _)) tv3 (gx rfl hc) rfl rfl)) ?_
  refine o_g rfl rfl (fun hc => ov_p rfl (p_fa tf46x2 rfl)) ?_
  refine o_g rfl rfl (fun hc => ov_p rfl (p_load (v := .c (.int _ _)) tv3 (gx rfl hc) rfl rfl)) ?_
  refine o_g rfl rfl (fun hc => ov_p rfl (p_eql (gx rfl hc) (gx rfl hc))) ?_
  refine o_p rfl (p_picky rfl rfl rfl (fun e => keq e)) ?_
  refine o_p rfl (p_move (v := .c (.bool _)) rfl) ?_
  refine o_g rfl rfl (fun hc => ov_p rfl (p_fa tf46x3 rfl)) ?_
  refine o_g rfl rfl (fun hc => ov_p rfl (p_load (v := .c (.int _ _)) tv3 (gx rfl hc) rfl rfl)) ?_
  refine o_g rfl rfl (fun hc => ov_p rfl (p_fa tf46x3 rfl)) ?_
  refine o_g rfl rfl (fun hc => ov_p rfl (p_load (v := .c (.int _ _)) tv3 (gx rfl hc) rfl rfl)) ?_
  refine o_g rfl rfl (fun hc => ov_p rfl (p_eql (gx rfl hc) (gx rfl hc))) ?_
  refine o_p rfl (p_picky rfl rfl rfl (fun e => keq e)) ?_
  refine o_p rfl (p_move (v := .c (.bool _)) rfl) ?_
  refine o_g rfl rfl (fun hc => ov_p rfl (p_fa tf46x4 rfl)) ?_
  refine o_g rfl rfl (fun hc => ov_p rfl (p_load (v := .c (.int _ _)) tv3 (gx rfl hc) rfl rfl)) ?_
  refine o_g rfl rfl (fun hc => ov_p rfl (p_fa tf46x4 rfl)) ?_
  refine o_g rfl rfl (fun hc => ov_p rfl (p_load (v := .c (.int _ _)) tv3 (gx rfl hc) rfl rfl)) ?_
  refine o_g rfl rfl (fun hc => ov_p rfl (p_eql (gx rfl hc) (gx rfl hc))) ?_
  refine o_p rfl (p_picky rfl rfl rfl (fun e => keq e)) ?_
  refine o_p rfl (p_move (v := .c (.bool _)) rfl) ?_
  refine o_g rfl rfl (fun hc => ov_p rfl (p_fa tf46x5 rfl)) ?_
  refine o_g rfl rfl (fun hc => ov_p rfl (p_load (v := .c (.int _ _)) tv3 (gx rfl hc) rfl rfl)) ?_
  refine o_g rfl rfl (fun hc => ov_p rfl (p_fa tf46x5 rfl)) ?_
  refine o_g rfl rfl (fun hc => ov_p rfl (p_load (v := .c (.int _ _)) tv3 (gx rfl hc) rfl rfl)) ?_
  refine o_g rfl rfl (fun hc => ov_p rfl (p_eql (gx rfl hc) (gx rfl hc))) ?_
  refine o_p rfl (p_picky rfl rfl rfl (fun e => keq e)) ?_
  refine o_p rfl (p_move (v := .c (.bool _)) rfl) ?_
  refine o_g rfl rfl (fun hc => ov_p rfl (p_fa tf46x6 rfl)) ?_
  refine o_g rfl rfl (fun hc => ov_p rfl (p_load (v := .c (.int _ _)) tv3 (gx rfl hc) rfl rfl)) ?_
  refine o_g rfl rfl (fun hc => ov_p rfl (p_fa tf46x6 rfl)) ?_
  refine o_g rfl rfl (fun hc => ov_p rfl (p_load (v := .c (.int _ _)) tv3 (gx rfl hc) rfl rfl)) ?_
  refine o_g rfl rfl (fun hc => ov_p rfl (p_eql (gx rfl hc) (gx rfl hc))) ?_
  refine o_p rfl (p_picky rfl rfl rfl (fun e => keq e)) ?_
  refine o_p rfl (p_move (v := .c (.bool _)) rfl) ?_
  refine o_g rfl rfl (fun hc => ov_p rfl (p_fa tf46x7 rfl)) ?_
  refine o_g rfl rfl (fun hc => ov_p rfl (p_load (v := .c (.str _)) tv9 (gx rfl hc) rfl rfl)) ?_
  refine o_g rfl rfl (fun hc => ov_p rfl (p_fa tf46x7 rfl)) ?_
  refine o_g rfl rfl (fun hc => ov_p rfl (p_load (v := .c (.str _)) tv9 (gx rfl hc) rfl rfl)) ?_
  refine o_g rfl rfl (fun hc => ov_p rfl (p_seql (gx rfl hc) (gx rfl hc))) ?_
  refine o_p rfl (p_picky rfl rfl rfl (fun e => keq e)) ?_
  refine o_p rfl (p_move (v := .c (.bool _)) rfl) ?_
  refine o_g rfl rfl (fun hc => ov_p rfl (p_fa tf46x8 rfl)) ?_
  refine o_g rfl rfl (fun hc => ov_p rfl (p_load (v := .c (.str _)) tv9 (gx rfl hc) rfl rfl)) ?_
  refine o_g rfl rfl (fun hc => ov_p rfl (p_fa tf46x8 rfl)) ?_
  refine o_g rfl rfl (fun hc => ov_p rfl (p_load (v := .c (.str _)) tv9 (gx rfl hc) rfl rfl)) ?_
  refine o_g rfl rfl (fun hc => ov_p rfl (p_seql (gx rfl hc) (gx rfl hc))) ?_
  refine o_p rfl (p_picky rfl rfl rfl (fun e => keq e)) ?_
  refine o_p rfl (p_move (v := .c (.bool _)) rfl) ?_
  refine o_g rfl rfl (fun hc => ov_p rfl (p_fa tf46x9 rfl)) ?_
  refine o_g rfl rfl (fun hc => ov_p rfl (p_loads (us := [.c (.int _ _), .c (.int _ _), .c (.str _), .c (PV.ls _ _ _), .c (PV.ls _ _ _)]) tv40 (gx rfl hc) rfl rfl rfl)) ?_
  refine o_g rfl rfl (fun hc => ov_p rfl (p_fa tf46x9 rfl)) ?_
  refine o_g rfl rfl (fun hc => ov_p rfl (p_loads (us := [.c (.int _ _), .c (.int _ _), .c (.str _), .c (PV.ls _ _ _), .c (PV.ls _ _ _)]) tv40 (gx rfl hc) rfl rfl rfl)) ?_
  obtain ⟨x1, hx1, h2⟩ := bind_s h
  refine o_g rfl rfl (fun hc => ov_call (v := .c (.bool _)) rfl (w_ref02xSame (gd_some hx1 hc)) ⟨(le_gv (gx rfl hc) (le_aggc rfl ⟨rfl, rfl, rfl, rfl, rfl, trivial⟩)), (le_gv (gx rfl hc) (le_aggc rfl ⟨rfl, rfl, rfl, rfl, rfl, trivial⟩)), trivial⟩ (ok_eq (by repeat (first | exact ok_nil | refine ok_cons rfl ?_ | refine ok_cons (dgv rfl) ?_))) rfl rfl) ?_
  refine o_p rfl (p_picky rfl rfl rfl (fun e => keq e)) ?_
  refine o_p rfl (p_move (v := .c (.bool _)) rfl) ?_
  refine o_g rfl rfl (fun hc => ov_p rfl (p_fa tf46x10 rfl)) ?_
  refine o_g rfl rfl (fun hc => ov_p rfl (p_loads (us := [.c (.str _), .c (.int _ _), .c (.int _ _), .c (.int _ _), .c (.int _ _), .c (.int _ _), .c (.int _ _), .c (.int _ _), .c (.int _ _), .c (PV.ls _ _ _)]) tv42 (gx rfl hc) rfl rfl rfl)) ?_
  refine o_g rfl rfl (fun hc => ov_p rfl (p_fa tf46x10 rfl)) ?_
  refine o_g rfl rfl (fun hc => ov_p rfl (p_loads (us := [.c (.str _), .c (.int _ _), .c (.int _ _), .c (.int _ _), .c (.int _ _), .c (.int _ _), .c (.int _ _), .c (.int _ _), .c (.int _ _), .c (PV.ls _ _ _)]) tv42 (gx rfl hc) rfl rfl rfl)) ?_
  obtain ⟨x3, hx3, h4⟩ := bind_s h2
  refine o_g rfl rfl (fun hc => ov_call (v := .c (.bool _)) rfl (w_ref20xSamePolicy (gd_some hx3 hc)) ⟨(le_gv (gx rfl hc) (le_aggc rfl ⟨rfl, rfl, rfl, rfl, rfl, rfl, rfl, rfl, rfl, rfl, trivial⟩)), (le_gv (gx rfl hc) (le_aggc rfl ⟨rfl, rfl, rfl, rfl, rfl, rfl, rfl, rfl, rfl, rfl, trivial⟩)), trivial⟩ (ok_eq (by repeat (first | exact ok_nil | refine ok_cons rfl ?_ | refine ok_cons (dgv rfl) ?_))) rfl rfl) ?_
  refine o_p rfl (p_picky rfl rfl rfl (fun e => keq e)) ?_
  refine o_p rfl (p_assign (v := .c (.bool _)) rfl) ?_
  refine o_end (fr' := [(0, .agg [.c (.int _ _), .c (.int _ _), .c (.int _ _), .c (.int _ _), .c (.int _ _), .c (.int _ _), .c (.int _ _), .c (.str _), .c (.str _), .c (.int _ _), .c (.int _ _), .c (.str _), .c (PV.ls _ _ _), .c (PV.ls _ _ _), .c (.str _), .c (.int _ _), .c (.int _ _), .c (.int _ _), .c (.int _ _), .c (.int _ _), .c (.int _ _), .c (.int _ _), .c (.int _ _), .c (PV.ls _ _ _)]), (1, .agg [.c (.int _ _), .c (.int _ _), .c (.int _ _), .c (.int _ _), .c (.int _ _), .c (.int _ _), .c (.int _ _), .c (.str _), .c (.str _), .c (.int _ _), .c (.int _ _), .c (.str _), .c (PV.ls _ _ _), .c (PV.ls _ _ _), .c (.str _), .c (.int _ _), .c (.int _ _), .c (.int _ _), .c (.int _ _), .c (.int _ _), .c (.int _ _), .c (.int _ _), .c (.int _ _), .c (PV.ls _ _ _)]), (2, .box 0 0), (3, .box 1 0), (4, .c (.bool _))]) rfl ?_
  refine e_kw ?_
  refine w_ret ?_
  have he5 := Option.some.inj h4
  subst he5
  refine e_ret (rs' := [.tmp 4]) rfl ?_
  refine r_tmp (v := .c (.bool _)) rfl ?_
  refine r_nil ?_
  exact fin_gen [] rfl rfl rfl (AV.le_refl _) st_nil
end Go.Proofs.Ytnhchphmmdgphaa

import Derived.Test.YtnhchphmmdgphaaGBTy
import Derived.Test.YtnhchphmmdgphaaGBF3
import Derived.Test.YtnhchphmmdgphaaGBF5
import Derived.Test.YtnhchphmmdgphaaGBF6
namespace Go.Proofs.Ytnhchphmmdgphaa
open Go Abs
set_option maxRecDepth 100000
set_option linter.unusedVariables false
set_option linter.unusedSimpArgs false
noncomputable def law27xDivergeReads_l1 (x5 : (List ApiPatch)) (x7 : (List ApiPatch)) (s18 : Int) : Option (Step Int (Fl Bool Unit)) :=
  cond (decide (s18 < ((x5).length : Int))) ((idx x5 s18).bind fun (x20 : ApiPatch) => (idx x7 s18).bind fun (x22 : ApiPatch) => (gd ((!decide (x20.Kind = x22.Kind)) == false) (idx x5 s18)).bind fun (x24 : ApiPatch) => (gd ((!decide (x20.Kind = x22.Kind)) == false) (idx x7 s18)).bind fun (x26 : ApiPatch) => (gd ((cond (!decide (x20.Kind = x22.Kind)) true (!decide (x24.Name = x26.Name))) == false) (idx x5 s18)).bind fun (x28 : ApiPatch) => (gd ((cond (!decide (x20.Kind = x22.Kind)) true (!decide (x24.Name = x26.Name))) == false) (idx x7 s18)).bind fun (x30 : ApiPatch) => (gd ((cond (cond (!decide (x20.Kind = x22.Kind)) true (!decide (x24.Name = x26.Name))) true (!decide (x28.N = x30.N))) == false) (idx x5 s18)).bind fun (x32 : ApiPatch) => (gd ((cond (cond (!decide (x20.Kind = x22.Kind)) true (!decide (x24.Name = x26.Name))) true (!decide (x28.N = x30.N))) == false) (idx x7 s18)).bind fun (x34 : ApiPatch) => (gd ((cond (cond (!decide (x20.Kind = x22.Kind)) true (!decide (x24.Name = x26.Name))) true (!decide (x28.N = x30.N))) == false) (ref22xSame (ApiEvent.mk (0 : Int) (0 : Int) (0 : Int) (0 : Int) (0 : Int) (0 : Int) (0 : Int) ([] : List UInt8) ([] : List UInt8) x32.Data (ApiPolicy.mk ([] : List UInt8) (0 : Int) (0 : Int) (0 : Int) (0 : Int) (0 : Int) (0 : Int) (0 : Int) (0 : Int) ([] : (List (List UInt8))))) (ApiEvent.mk (0 : Int) (0 : Int) (0 : Int) (0 : Int) (0 : Int) (0 : Int) (0 : Int) ([] : List UInt8) ([] : List UInt8) x34.Data (ApiPolicy.mk ([] : List UInt8) (0 : Int) (0 : Int) (0 : Int) (0 : Int) (0 : Int) (0 : Int) (0 : Int) (0 : Int) ([] : (List (List UInt8))))))).bind fun (x36 : Bool) => cond (cond (cond (cond (!decide (x20.Kind = x22.Kind)) true (!decide (x24.Name = x26.Name))) true (!decide (x28.N = x30.N))) true (!x36)) (some (Step.out (Fl.done false))) (some (Step.next (IntKind.wrap .i64 (s18 + (1 : Int)))))) (some (Step.out (Fl.go ())))
noncomputable def law27xDivergeReads_l2 (x9 : (List ApiAdmit)) (x11 : (List ApiAdmit)) (s47 : Int) : Option (Step Int (Fl Bool Unit)) :=
  cond (decide (s47 < ((x9).length : Int))) ((idx x9 s47).bind fun (x49 : ApiAdmit) => (idx x11 s47).bind fun (x51 : ApiAdmit) => (gd ((!decide (x49.Key = x51.Key)) == false) (idx x9 s47)).bind fun (x53 : ApiAdmit) => (gd ((!decide (x49.Key = x51.Key)) == false) (idx x11 s47)).bind fun (x55 : ApiAdmit) => (gd ((cond (!decide (x49.Key = x51.Key)) true (!decide (x53.Name = x55.Name))) == false) (idx x9 s47)).bind fun (x57 : ApiAdmit) => (gd ((cond (!decide (x49.Key = x51.Key)) true (!decide (x53.Name = x55.Name))) == false) (idx x11 s47)).bind fun (x59 : ApiAdmit) => (gd ((cond (!decide (x49.Key = x51.Key)) true (!decide (x53.Name = x55.Name))) == false) (ref22xSame (ApiEvent.mk (0 : Int) (0 : Int) (0 : Int) (0 : Int) (0 : Int) (0 : Int) (0 : Int) ([] : List UInt8) ([] : List UInt8) x57.Data (ApiPolicy.mk ([] : List UInt8) (0 : Int) (0 : Int) (0 : Int) (0 : Int) (0 : Int) (0 : Int) (0 : Int) (0 : Int) ([] : (List (List UInt8))))) (ApiEvent.mk (0 : Int) (0 : Int) (0 : Int) (0 : Int) (0 : Int) (0 : Int) (0 : Int) ([] : List UInt8) ([] : List UInt8) x59.Data (ApiPolicy.mk ([] : List UInt8) (0 : Int) (0 : Int) (0 : Int) (0 : Int) (0 : Int) (0 : Int) (0 : Int) (0 : Int) ([] : (List (List UInt8))))))).bind fun (x61 : Bool) => cond (cond (cond (!decide (x49.Key = x51.Key)) true (!decide (x53.Name = x55.Name))) true (!x61)) (some (Step.out (Fl.done false))) (some (Step.next (IntKind.wrap .i64 (s47 + (1 : Int)))))) (some (Step.out (Fl.go ())))
noncomputable def law27xDivergeReads (p0C : (List ApiEvent)) : Option Bool :=
  cond (decide ((300 : Int) < ((p0C).length : Int))) ((law27xworks).bind fun (x2 : Bool) => some x2) ((diverge_Markers p0C).bind fun (x5 : (List ApiPatch)) => (ref27xMarkers p0C).bind fun (x7 : (List ApiPatch)) => (diverge_Admits p0C).bind fun (x9 : (List ApiAdmit)) => (ref27xAdmits p0C).bind fun (x11 : (List ApiAdmit)) => cond (cond (!decide (((x5).length : Int) = ((x7).length : Int))) true (!decide (((x9).length : Int) = ((x11).length : Int)))) (some false) (((loopO (law27xDivergeReads_l1 x5 x7) ((0 : Int))) : Option (Fl Bool Unit)).bind fun (x15 : (Fl Bool Unit)) => Fl.next x15 (fun (j17 : Unit) => (((loopO (law27xDivergeReads_l2 x9 x11) ((0 : Int))) : Option (Fl Bool Unit)).bind fun (x44 : (Fl Bool Unit)) => Fl.next x44 (fun (j46 : Unit) => ((law27xworks).bind fun (x69 : Bool) => some x69))))))
theorem w_law27xDivergeReads {p0C : (List ApiEvent)} {res : Bool} (h : law27xDivergeReads p0C = some res) : ACalls Try.prog 12 [.c (PV.ls 24 rowApiEvent p0C)] [] (.c (.bool res)) [] := by
  unfold law27xDivergeReads at h
  refine acalls (fn := Try.f12) [0, 2, 3, 4, 5, 6, 7, 8, 11, 32, 34, 35, 36, 90, 93, 94, 95, 136] (by kernel_rfl) Try.func12 rfl (by kernel_rfl) (by kernel_rfl) ?_
  refine w_seqw ?_
  refine w_region ?_
  refine o_p rfl (p_assign (v := .c (.bool _)) rfl) ?_
  refine o_end (fr' := [(0, .c (PV.ls _ _ _)), (2, .c (.bool _)), (3, .any), (4, .any), (5, .any), (6, .any), (7, .any), (8, .any), (11, .any), (32, .any), (34, .any), (35, .any), (36, .any), (90, .any), (93, .any), (94, .any), (95, .any), (136, .any)]) rfl ?_
  refine e_kw ?_
  refine w_seqw ?_
  refine w_seqw ?_
  refine w_region ?_
  refine o_p rfl (p_move (v := .c (PV.ls _ _ _)) rfl) ?_
  refine o_p rfl (p_len ti49 (isl_c rfl)) ?_
  refine o_p rfl (p_gtr rfl rfl) ?_
  refine o_end (fr' := [(0, .c (PV.ls _ _ _)), (2, .c (.bool _)), (3, .any), (4, .any), (5, .any), (6, .any), (7, .any), (8, .any), (11, .c (.bool _)), (32, .any), (34, .any), (35, .any), (36, .any), (90, .any), (93, .any), (94, .any), (95, .any), (136, .any)]) rfl ?_
  refine e_kw ?_
  refine w_cond _ rfl (fun hb1 => ?_) (fun hb1 => ?_)
  · skip
    have h1 := cond_t (b := (decide ((300 : Int) < ((p0C).length : Int)))) hb1 h
    refine w_seqw ?_
    refine w_region ?_
    obtain ⟨x2, hx2, h3⟩ := bind_s h1
    refine o_v (ov_call (v := .c (.bool _)) rfl (w_law27xworks hx2) trivial rfl rfl rfl) ?_
    refine o_p rfl (p_assign (v := .c (.bool _)) rfl) ?_
    refine o_end (fr' := [(0, .c (PV.ls _ _ _)), (2, .c (.bool _)), (3, .any), (4, .any), (5, .any), (6, .any), (7, .any), (8, .any), (11, .c (.bool _)), (32, .any), (34, .any), (35, .any), (36, .any), (90, .any), (93, .any), (94, .any), (95, .any), (136, .any)]) rfl ?_
    refine e_kw ?_
    refine w_ret ?_
    refine e_seq_r ?_
    have he4 := Option.some.inj h3
    subst he4
    refine e_ret (rs' := [.tmp 2]) rfl ?_
    refine r_tmp (v := .c (.bool _)) rfl ?_
    refine r_nil ?_
    exact fin_gen [] rfl rfl rfl (AV.le_refl _) st_nil
  · skip
    have h1 := cond_f (b := (decide ((300 : Int) < ((p0C).length : Int)))) hb1 h
    refine w_skip ?_
    refine e_kw ?_
    refine w_seqw ?_
    refine w_region ?_
    refine o_p rfl (p_move (v := .c (PV.ls _ _ _)) rfl) ?_
    obtain ⟨x5, hx5, h6⟩ := bind_s h1
    refine o_v (ov_call (v := AV.os _ _ _ _) rfl (w_diverge_Markers hx5) ⟨(AV.le_refl _), trivial⟩ rfl rfl rfl) ?_
    refine o_p rfl (p_move (v := .c (PV.ls _ _ _)) rfl) ?_
    obtain ⟨x7, hx7, h8⟩ := bind_s h6
    refine o_v (ov_call (v := AV.os _ _ _ _) rfl (w_ref27xMarkers hx7) ⟨(AV.le_refl _), trivial⟩ rfl rfl rfl) ?_
    refine o_p rfl (p_assign (v := AV.os _ _ _ _) rfl) ?_
    refine o_p rfl (p_assign (v := AV.os _ _ _ _) rfl) ?_
    refine o_end (fr' := [(0, .c (PV.ls _ _ _)), (2, .c (.bool _)), (3, AV.os _ _ _ _), (4, AV.os _ _ _ _), (5, .any), (6, .any), (7, .any), (8, .any), (11, .c (.bool _)), (32, .any), (34, .any), (35, .any), (36, .any), (90, .any), (93, .any), (94, .any), (95, .any), (136, .any)]) rfl ?_
    refine e_kw ?_
    refine w_seqw ?_
    refine w_region ?_
    refine o_p rfl (p_move (v := .c (PV.ls _ _ _)) rfl) ?_
    obtain ⟨x9, hx9, h10⟩ := bind_s h8
    refine o_v (ov_call (v := AV.os _ _ _ _) rfl (w_diverge_Admits hx9) ⟨(AV.le_refl _), trivial⟩ rfl rfl rfl) ?_
    refine o_p rfl (p_move (v := .c (PV.ls _ _ _)) rfl) ?_
    obtain ⟨x11, hx11, h12⟩ := bind_s h10
    refine o_v (ov_call (v := AV.os _ _ _ _) rfl (w_ref27xAdmits hx11) ⟨(AV.le_refl _), trivial⟩ rfl rfl rfl) ?_
    refine o_p rfl (p_assign (v := AV.os _ _ _ _) rfl) ?_
    refine o_p rfl (p_assign (v := AV.os _ _ _ _) rfl) ?_
    refine o_end (fr' := [(0, .c (PV.ls _ _ _)), (2, .c (.bool _)), (3, AV.os _ _ _ _), (4, AV.os _ _ _ _), (5, AV.os _ _ _ _), (6, AV.os _ _ _ _), (7, .any), (8, .any), (11, .c (.bool _)), (32, .any), (34, .any), (35, .any), (36, .any), (90, .any), (93, .any), (94, .any), (95, .any), (136, .any)]) rfl ?_
    refine e_kw ?_
    refine w_seqw ?_
    refine w_seqw ?_
    refine w_region ?_
    refine o_p rfl (p_move (v := AV.os _ _ _ _) rfl) ?_
    refine o_p rfl (p_len ti66 (isl_o rfl)) ?_
    refine o_p rfl (p_move (v := AV.os _ _ _ _) rfl) ?_
    refine o_p rfl (p_len ti66 (isl_o rfl)) ?_
    refine o_p rfl (p_neq rfl rfl) ?_
    refine o_p rfl (p_move (v := .c (.bool _)) rfl) ?_
    refine o_g rfl rfl (fun hc => ov_p rfl (p_move (v := AV.os _ _ _ _) rfl)) ?_
    refine o_g rfl rfl (fun hc => ov_p rfl (p_len ti68 (isl_o (gx rfl hc)))) ?_
    refine o_g rfl rfl (fun hc => ov_p rfl (p_move (v := AV.os _ _ _ _) rfl)) ?_
    refine o_g rfl rfl (fun hc => ov_p rfl (p_len ti68 (isl_o (gx rfl hc)))) ?_
    refine o_g rfl rfl (fun hc => ov_p rfl (p_neq (gx rfl hc) (gx rfl hc))) ?_
    refine o_p rfl (p_pickz rfl rfl rfl (fun e => keq e)) ?_
    refine o_end (fr' := [(0, .c (PV.ls _ _ _)), (2, .c (.bool _)), (3, AV.os _ _ _ _), (4, AV.os _ _ _ _), (5, AV.os _ _ _ _), (6, AV.os _ _ _ _), (7, .any), (8, .any), (11, .c (.bool _)), (32, .c (.bool _)), (34, .any), (35, .any), (36, .any), (90, .any), (93, .any), (94, .any), (95, .any), (136, .any)]) rfl ?_
    refine e_kw ?_
    refine w_cond _ rfl (fun hb13 => ?_) (fun hb13 => ?_)
    · skip
      have h13 := cond_t (b := (cond (!decide (((x5).length : Int) = ((x7).length : Int))) true (!decide (((x9).length : Int) = ((x11).length : Int))))) hb13 h12
      refine w_seqw ?_
      refine w_region ?_
      refine o_p rfl (p_assign (v := .c (.bool _)) rfl) ?_
      refine o_end (fr' := [(0, .c (PV.ls _ _ _)), (2, .c (.bool _)), (3, AV.os _ _ _ _), (4, AV.os _ _ _ _), (5, AV.os _ _ _ _), (6, AV.os _ _ _ _), (7, .any), (8, .any), (11, .c (.bool _)), (32, .c (.bool _)), (34, .any), (35, .any), (36, .any), (90, .any), (93, .any), (94, .any), (95, .any), (136, .any)]) rfl ?_
      refine e_kw ?_
      refine w_ret ?_
      refine e_seq_r ?_
      have he14 := Option.some.inj h13
      subst he14
      refine e_ret (rs' := [.tmp 2]) rfl ?_
      refine r_tmp (v := .c (.bool _)) rfl ?_
      refine r_nil ?_
      exact fin_gen [] rfl rfl rfl (AV.le_refl _) st_nil
    · skip
      have h13 := cond_f (b := (cond (!decide (((x5).length : Int) = ((x7).length : Int))) true (!decide (((x9).length : Int) = ((x11).length : Int))))) hb13 h12
      refine w_skip ?_
      refine e_kw ?_
      refine w_seqw ?_
      refine w_seqw ?_
      refine w_region ?_
      refine o_p rfl (p_move (v := AV.os _ _ _ _) rfl) ?_
      refine o_p rfl (p_len ti66 (isl_o rfl)) ?_
      refine o_p rfl (p_move (v := .c (.int _ _)) rfl) ?_
      refine o_end (fr' := [(0, .c (PV.ls _ _ _)), (2, .c (.bool _)), (3, AV.os _ _ _ _), (4, AV.os _ _ _ _), (5, AV.os _ _ _ _), (6, AV.os _ _ _ _), (7, .any), (8, .any), (11, .c (.bool _)), (32, .c (.bool _)), (34, .c (.int _ _)), (35, .c (.int _ _)), (36, .any), (90, .any), (93, .any), (94, .any), (95, .any), (136, .any)]) rfl ?_
      refine e_kw ?_
      obtain ⟨x15, hx15, h16⟩ := bind_s h13
      refine w_jtail cl_kw (fun j17 => x15 = Fl.go j17) (fun (j17 : Unit) => ([(5, AV.os 0 7 rowApiAdmit x9), (6, AV.os 1 7 rowApiAdmit x11)] : Fr)) (fun (j17 : Unit) => ([] : St)) ?_ ?_
      · skip
        refine w_block ?_
        refine w_loopo _ (fun (s18 : Int) => ([(3, AV.os 0 8 rowApiPatch x5), (4, AV.os 1 8 rowApiPatch x7), (5, AV.os 2 7 rowApiAdmit x9), (6, AV.os 3 7 rowApiAdmit x11), (34, .c (.int .i64 ((x5).length : Int))), (35, .c (.int .i64 s18))] : Fr)) (fun (s18 : Int) => ([] : St)) hx15 (w_weak [224, 256, 288, 320] 0 rfl rfl rfl rfl ⟨(AV.le_refl _), (AV.le_refl _), (AV.le_refl _), (AV.le_refl _), (AV.le_refl _), (AV.le_refl _), trivial⟩ st_nil) ?_
        intro s18 st18 hs18 ho18
        unfold law27xDivergeReads_l1 at hs18
        refine w_seqw ?_
        refine w_region ?_
        refine o_p rfl (p_lss rfl rfl) ?_
        refine o_end (fr' := [(0, .any), (2, .any), (3, AV.os _ _ _ _), (4, AV.os _ _ _ _), (5, AV.os _ _ _ _), (6, AV.os _ _ _ _), (7, .any), (8, .any), (11, .any), (32, .any), (34, .c (.int _ _)), (35, .c (.int _ _)), (36, .c (.bool _)), (90, .any), (93, .any), (94, .any), (95, .any), (136, .any)]) rfl ?_
        refine e_kw ?_
        refine w_seqw ?_
        refine w_cond _ rfl (fun hb19 => ?_) (fun hb19 => ?_)
        · skip
          have h19 := cond_t (b := (decide (s18 < ((x5).length : Int)))) hb19 hs18
          refine w_skip ?_
          refine e_kw ?_
          refine w_seqw ?_
          refine w_block ?_
          refine w_seqw ?_
          refine w_region ?_
          refine o_p rfl (p_move (v := .c (.int _ _)) rfl) ?_
          refine o_p rfl (p_assign (v := .c (.int _ _)) rfl) ?_
          refine o_end (fr' := [(0, .any), (2, .any), (3, AV.os _ _ _ _), (4, AV.os _ _ _ _), (5, AV.os _ _ _ _), (6, AV.os _ _ _ _), (7, .c (.int _ _)), (8, .any), (11, .any), (32, .any), (34, .c (.int _ _)), (35, .c (.int _ _)), (36, .c (.bool _)), (90, .any), (93, .any), (94, .any), (95, .any), (136, .any)]) rfl ?_
          refine e_kw ?_
          refine w_seqw ?_
          refine w_planT [.q 0, .q 1, .q 2, .q 3, .q 4, .q 5, .q 6, .q 7, .q 8, .q 9, .q 10, .q 11, .q 12, .q 13, .q 14, .q 15, .q 16, .q 17, .q 18, .q 19, .q 20, .q 21, .q 22, .q 23, .q 24, .q 25, .q 26, .q 27, .q 28, .q 29, .q 30, .q 31, .q 32, .q 33, .q 34, .q 35, .q 36, .q 37, .q 38, .q 39, .q 40, .q 41, .q 42, .q 43, .q 44, .q 45, .q 46, .q 47, .q 48, .q 49, .q 50, .q 51, .q 52] [(some 38, [3]), (some 39, [7]), (some 40, [38, 39]), (some 41, [40]), (some 42, [41]), (some 43, [4]), (some 44, [7]), (some 45, [43, 44]), (some 46, [45]), (some 47, [46]), (some 48, [42, 47]), (some 49, [48]), (some 50, [3, 49]), (some 51, [7, 49]), (some 52, [50, 51, 49]), (some 53, [52, 49]), (some 54, [53, 49]), (some 55, [4, 49]), (some 56, [7, 49]), (some 57, [55, 56, 49]), (some 58, [57, 49]), (some 59, [58, 49]), (some 60, [54, 59, 49]), (some 61, [49, 60]), (some 62, [61]), (some 63, [3, 62]), (some 64, [7, 62]), (some 65, [63, 64, 62]), (some 66, [65, 62]), (some 67, [66, 62]), (some 68, [4, 62]), (some 69, [7, 62]), (some 70, [68, 69, 62]), (some 71, [70, 62]), (some 72, [71, 62]), (some 73, [67, 72, 62]), (some 74, [62, 73]), (some 75, [74]), (some 76, [3, 75]), (some 77, [7, 75]), (some 78, [76, 77, 75]), (some 79, [78, 75]), (some 80, [79, 75]), (some 81, [80, 75]), (some 82, [4, 75]), (some 83, [7, 75]), (some 84, [82, 83, 75]), (some 85, [84, 75]), (some 86, [85, 75]), (some 87, [86, 75]), (some 88, [81, 87, 75]), (some 89, [88, 75]), (some 90, [75, 89])] [0, 0, 3, 7, 15, 0, 0, 96, 224, 480, 1023, 2047, 4095, 4095, 16383, 32767, 65535, 4095, 4095, 397311, 921599, 1970175, 4194303, 8388607, 16777215, 33554431, 33554431, 134217727, 268435455, 536870911, 33554431, 33554431, 3254779903, 7549747199, 16139681791, 34359738367, 68719476735, 137438953471, 274877906943, 274877906943, 1099511627775, 2199023255551, 4398046511103, 8796093022207, 274877906943, 274877906943, 53051436040191, 123420180217855, 264157668573183, 545632645283839, 1125899906842623, 2251799813685247, 4503599627370495] (by kernel_rfl) ?_
          refine d_q rfl (qv_p rfl (p_move (v := AV.os _ _ _ _) rfl)) ?_
          refine d_q rfl (qv_p rfl (p_move (v := .c (.int _ _)) rfl)) ?_
          obtain ⟨x20, hx20, h21⟩ := bind_s h19
          refine d_q rfl (qv_p rfl (p_ia (cs := [.int _ _, .str _, .int _ _, .int _ _, .int _ _, .str _, PV.ls _ _ _, PV.ls _ _ _]) ts66 (isl_o rfl) rfl hx20 rfl)) ?_
          refine d_q rfl (qv_p rfl (p_fae tf71x0 rfl)) ?_
          refine d_q rfl (qv_p rfl (p_loade (p := .int _ _) tv3 rfl rfl)) ?_
          refine d_q rfl (qv_p rfl (p_move (v := AV.os _ _ _ _) rfl)) ?_
          refine d_q rfl (qv_p rfl (p_move (v := .c (.int _ _)) rfl)) ?_
          obtain ⟨x22, hx22, h23⟩ := bind_s h21
          refine d_q rfl (qv_p rfl (p_ia (cs := [.int _ _, .str _, .int _ _, .int _ _, .int _ _, .str _, PV.ls _ _ _, PV.ls _ _ _]) ts66 (isl_o rfl) rfl hx22 rfl)) ?_
          refine d_q rfl (qv_p rfl (p_fae tf71x0 rfl)) ?_
          refine d_q rfl (qv_p rfl (p_loade (p := .int _ _) tv3 rfl rfl)) ?_
          refine d_q rfl (qv_p rfl (p_neq rfl rfl)) ?_
          refine d_q rfl (qv_p rfl (p_move (v := .c (.bool _)) rfl)) ?_
          refine d_g rfl rfl rfl (fun hc => qv_p rfl (p_move (v := AV.os _ _ _ _) rfl)) ?_
          refine d_g rfl rfl rfl (fun hc => qv_p rfl (p_move (v := .c (.int _ _)) rfl)) ?_
          obtain ⟨x24, hx24, h25⟩ := bind_s h23
          refine d_g rfl rfl rfl (fun hc => qv_p rfl (p_ia (cs := [.int _ _, .str _, .int _ _, .int _ _, .int _ _, .str _, PV.ls _ _ _, PV.ls _ _ _]) ts66 (isl_o (gx rfl hc)) (gx rfl hc) (gd_some hx24 hc) rfl)) ?_
          refine d_g rfl rfl rfl (fun hc => qv_p rfl (p_fae tf71x1 (gx rfl hc))) ?_
          refine d_g rfl rfl rfl (fun hc => qv_p rfl (p_loade (p := .str _) tv9 (gx rfl hc) rfl)) ?_
          refine d_g rfl rfl rfl (fun hc => qv_p rfl (p_move (v := AV.os _ _ _ _) rfl)) ?_
          refine d_g rfl rfl rfl (fun hc => qv_p rfl (p_move (v := .c (.int _ _)) rfl)) ?_
          obtain ⟨x26, hx26, h27⟩ := bind_s h25
          refine d_g rfl rfl rfl (fun hc => qv_p rfl (p_ia (cs := [.int _ _, .str _, .int _ _, .int _ _, .int _ _, .str _, PV.ls _ _ _, PV.ls _ _ _]) ts66 (isl_o (gx rfl hc)) (gx rfl hc) (gd_some hx26 hc) rfl)) ?_
          refine d_g rfl rfl rfl (fun hc => qv_p rfl (p_fae tf71x1 (gx rfl hc))) ?_
          refine d_g rfl rfl rfl (fun hc => qv_p rfl (p_loade (p := .str _) tv9 (gx rfl hc) rfl)) ?_
          refine d_g rfl rfl rfl (fun hc => qv_p rfl (p_sneq (gx rfl hc) (gx rfl hc))) ?_
          refine d_q rfl (qv_p rfl (p_pickz rfl rfl rfl (fun e => keq e))) ?_
          refine d_q rfl (qv_p rfl (p_move (v := .c (.bool _)) rfl)) ?_
          refine d_g rfl rfl rfl (fun hc => qv_p rfl (p_move (v := AV.os _ _ _ _) rfl)) ?_
          refine d_g rfl rfl rfl (fun hc => qv_p rfl (p_move (v := .c (.int _ _)) rfl)) ?_
          obtain ⟨x28, hx28, h29⟩ := bind_s h27
          refine d_g rfl rfl rfl (fun hc => qv_p rfl (p_ia (cs := [.int _ _, .str _, .int _ _, .int _ _, .int _ _, .str _, PV.ls _ _ _, PV.ls _ _ _]) ts66 (isl_o (gx rfl hc)) (gx rfl hc) (gd_some hx28 hc) rfl)) ?_
          refine d_g rfl rfl rfl (fun hc => qv_p rfl (p_fae tf71x2 (gx rfl hc))) ?_
          refine d_g rfl rfl rfl (fun hc => qv_p rfl (p_loade (p := .int _ _) tv3 (gx rfl hc) rfl)) ?_
          refine d_g rfl rfl rfl (fun hc => qv_p rfl (p_move (v := AV.os _ _ _ _) rfl)) ?_
          refine d_g rfl rfl rfl (fun hc => qv_p rfl (p_move (v := .c (.int _ _)) rfl)) ?_
          obtain ⟨x30, hx30, h31⟩ := bind_s h29
          refine d_g rfl rfl rfl (fun hc => qv_p rfl (p_ia (cs := [.int _ _, .str _, .int _ _, .int _ _, .int _ _, .str _, PV.ls _ _ _, PV.ls _ _ _]) ts66 (isl_o (gx rfl hc)) (gx rfl hc) (gd_some hx30 hc) rfl)) ?_
          refine d_g rfl rfl rfl (fun hc => qv_p rfl (p_fae tf71x2 (gx rfl hc))) ?_
          refine d_g rfl rfl rfl (fun hc => qv_p rfl (p_loade (p := .int _ _) tv3 (gx rfl hc) rfl)) ?_
          refine d_g rfl rfl rfl (fun hc => qv_p rfl (p_neq (gx rfl hc) (gx rfl hc))) ?_
          refine d_q rfl (qv_p rfl (p_pickz rfl rfl rfl (fun e => keq e))) ?_
          refine d_q rfl (qv_p rfl (p_move (v := .c (.bool _)) rfl)) ?_
          refine d_g rfl rfl rfl (fun hc => qv_p rfl (p_move (v := AV.os _ _ _ _) rfl)) ?_
          refine d_g rfl rfl rfl (fun hc => qv_p rfl (p_move (v := .c (.int _ _)) rfl)) ?_
          obtain ⟨x32, hx32, h33⟩ := bind_s h31
          refine d_g rfl rfl rfl (fun hc => qv_p rfl (p_ia (cs := [.int _ _, .str _, .int _ _, .int _ _, .int _ _, .str _, PV.ls _ _ _, PV.ls _ _ _]) ts66 (isl_o (gx rfl hc)) (gx rfl hc) (gd_some hx32 hc) rfl)) ?_
          refine d_g rfl rfl rfl (fun hc => qv_p rfl (p_fae tf71x3 (gx rfl hc))) ?_
          refine d_g rfl rfl rfl (fun hc => qv_p rfl (p_loades (us := [.int _ _, .int _ _, .str _, PV.ls _ _ _, PV.ls _ _ _]) tv40 (gx rfl hc) rfl rfl)) ?_
          refine d_g rfl rfl rfl (fun hc => qv_p rfl (p_buildc (c0 := [.c (.int _ _), .c (.int _ _), .c (.int _ _), .c (.int _ _), .c (.int _ _), .c (.int _ _), .c (.int _ _), .c (.str _), .c (.str _), .c (.int _ _), .c (.int _ _), .c (.str _), .nil, .nil, .c (.str _), .c (.int _ _), .c (.int _ _), .c (.int _ _), .c (.int _ _), .c (.int _ _), .c (.int _ _), .c (.int _ _), .c (.int _ _), .nil]) (cs := [.c (.int _ _), .c (.int _ _), .c (.int _ _), .c (.int _ _), .c (.int _ _), .c (.int _ _), .c (.int _ _), .c (.str _), .c (.str _), .c (.int _ _), .c (.int _ _), .c (.str _), .c (PV.ls _ _ _), .c (PV.ls _ _ _), .c (.str _), .c (.int _ _), .c (.int _ _), .c (.int _ _), .c (.int _ _), .c (.int _ _), .c (.int _ _), .c (.int _ _), .c (.int _ _), .nil]) tb46 rfl (fill_cons (v := .agg [.c (.int _ _), .c (.int _ _), .c (.str _), .c (PV.ls _ _ _), .c (PV.ls _ _ _)]) (us := [_, _, _, _, _]) (cs' := [_, _, _, _, _, _, _, _, _, _, _, _, _, _, _, _, _, _, _, _, _, _, _, _]) rfl (gx rfl hc) rfl rfl rfl rfl fill_nil))) ?_
          refine d_g rfl rfl rfl (fun hc => qv_p rfl (p_move (v := AV.os _ _ _ _) rfl)) ?_
          refine d_g rfl rfl rfl (fun hc => qv_p rfl (p_move (v := .c (.int _ _)) rfl)) ?_
          obtain ⟨x34, hx34, h35⟩ := bind_s h33
          refine d_g rfl rfl rfl (fun hc => qv_p rfl (p_ia (cs := [.int _ _, .str _, .int _ _, .int _ _, .int _ _, .str _, PV.ls _ _ _, PV.ls _ _ _]) ts66 (isl_o (gx rfl hc)) (gx rfl hc) (gd_some hx34 hc) rfl)) ?_
          refine d_g rfl rfl rfl (fun hc => qv_p rfl (p_fae tf71x3 (gx rfl hc))) ?_
          refine d_g rfl rfl rfl (fun hc => qv_p rfl (p_loades (us := [.int _ _, .int _ _, .str _, PV.ls _ _ _, PV.ls _ _ _]) tv40 (gx rfl hc) rfl rfl)) ?_
          refine d_g rfl rfl rfl (fun hc => qv_p rfl (p_buildc (c0 := [.c (.int _ _), .c (.int _ _), .c (.int _ _), .c (.int _ _), .c (.int _ _), .c (.int _ _), .c (.int _ _), .c (.str _), .c (.str _), .c (.int _ _), .c (.int _ _), .c (.str _), .nil, .nil, .c (.str _), .c (.int _ _), .c (.int _ _), .c (.int _ _), .c (.int _ _), .c (.int _ _), .c (.int _ _), .c (.int _ _), .c (.int _ _), .nil]) (cs := [.c (.int _ _), .c (.int _ _), .c (.int _ _), .c (.int _ _), .c (.int _ _), .c (.int _ _), .c (.int _ _), .c (.str _), .c (.str _), .c (.int _ _), .c (.int _ _), .c (.str _), .c (PV.ls _ _ _), .c (PV.ls _ _ _), .c (.str _), .c (.int _ _), .c (.int _ _), .c (.int _ _), .c (.int _ _), .c (.int _ _), .c (.int _ _), .c (.int _ _), .c (.int _ _), .nil]) tb46 rfl (fill_cons (v := .agg [.c (.int _ _), .c (.int _ _), .c (.str _), .c (PV.ls _ _ _), .c (PV.ls _ _ _)]) (us := [_, _, _, _, _]) (cs' := [_, _, _, _, _, _, _, _, _, _, _, _, _, _, _, _, _, _, _, _, _, _, _, _]) rfl (gx rfl hc) rfl rfl rfl rfl fill_nil))) ?_
          obtain ⟨x36, hx36, h37⟩ := bind_s h35
          refine d_g rfl rfl rfl (fun hc => qv_call (v := .c (.bool _)) rfl (w_ref22xSame (gd_some hx36 hc)) ⟨(le_gv (gx rfl hc) (le_aggc rfl ⟨rfl, rfl, rfl, rfl, rfl, rfl, rfl, rfl, rfl, rfl, rfl, rfl, rfl, rfl, rfl, rfl, rfl, rfl, rfl, rfl, rfl, rfl, rfl, ⟨_, rfl⟩, trivial⟩)), (le_gv (gx rfl hc) (le_aggc rfl ⟨rfl, rfl, rfl, rfl, rfl, rfl, rfl, rfl, rfl, rfl, rfl, rfl, rfl, rfl, rfl, rfl, rfl, rfl, rfl, rfl, rfl, rfl, rfl, ⟨_, rfl⟩, trivial⟩)), trivial⟩ rfl) ?_
          refine d_g rfl rfl rfl (fun hc => qv_p rfl (p_not (gx rfl hc))) ?_
          refine d_q rfl (qv_p rfl (p_pickz rfl rfl rfl (fun e => keq e))) ?_
          refine d_end (fr' := [(0, .any), (2, .any), (3, AV.os _ _ _ _), (4, AV.os _ _ _ _), (5, AV.os _ _ _ _), (6, AV.os _ _ _ _), (7, .c (.int _ _)), (8, .any), (11, .any), (32, .any), (34, .c (.int _ _)), (35, .c (.int _ _)), (36, .c (.bool _)), (90, .c (.bool _)), (93, .any), (94, .any), (95, .any), (136, .any)]) rfl ?_
          refine e_kw ?_
          refine w_cond _ rfl (fun hb38 => ?_) (fun hb38 => ?_)
          · skip
            have h38 := cond_t (b := (cond (cond (cond (!decide (x20.Kind = x22.Kind)) true (!decide (x24.Name = x26.Name))) true (!decide (x28.N = x30.N))) true (!x36))) hb38 h37
            refine w_seqw ?_
            refine w_region ?_
            refine o_p rfl (p_assign (v := .c (.bool _)) rfl) ?_
            refine o_end (fr' := [(0, .any), (2, .c (.bool _)), (3, AV.os _ _ _ _), (4, AV.os _ _ _ _), (5, AV.os _ _ _ _), (6, AV.os _ _ _ _), (7, .c (.int _ _)), (8, .any), (11, .any), (32, .any), (34, .c (.int _ _)), (35, .c (.int _ _)), (36, .c (.bool _)), (90, .c (.bool _)), (93, .any), (94, .any), (95, .any), (136, .any)]) rfl ?_
            refine e_kw ?_
            refine w_ret ?_
            refine e_blk_r ?_
            refine e_seq_r ?_
            refine e_seq_r ?_
            refine e_blk_r ?_
            refine e_seq_r ?_
            refine e_seq_r ?_
            have h39 := un_out h38 ho18
            have h40 := un_done h39 h16
            have he41 := Option.some.inj h40
            subst he41
            refine e_ret (rs' := [.tmp 2]) rfl ?_
            refine r_tmp (v := .c (.bool _)) rfl ?_
            refine r_nil ?_
            exact fin_gen [] rfl rfl rfl (AV.le_refl _) st_nil
          · skip
            have h38 := cond_f (b := (cond (cond (cond (!decide (x20.Kind = x22.Kind)) true (!decide (x24.Name = x26.Name))) true (!decide (x28.N = x30.N))) true (!x36))) hb38 h37
            refine w_skip ?_
            refine e_blk_n ?_
            refine e_kw ?_
            refine w_region ?_
            refine o_p rfl (p_add rfl rfl) ?_
            refine o_p rfl (p_move (v := .c (.int _ _)) rfl) ?_
            refine o_end (fr' := [(0, .any), (2, .any), (3, AV.os _ _ _ _), (4, AV.os _ _ _ _), (5, AV.os _ _ _ _), (6, AV.os _ _ _ _), (7, .c (.int _ _)), (8, .any), (11, .any), (32, .any), (34, .c (.int _ _)), (35, .c (.int _ _)), (36, .c (.bool _)), (90, .c (.bool _)), (93, .any), (94, .any), (95, .any), (136, .any)]) rfl ?_
            exact e_l _ (Option.some.inj h38).symm (w_weak [0, 1, 2, 3] 0 rfl rfl rfl rfl ⟨(AV.le_refl _), (AV.le_refl _), (AV.le_refl _), (AV.le_refl _), (AV.le_refl _), (AV.le_refl _), trivial⟩ st_nil)
        · skip
          have h19 := cond_f (b := (decide (s18 < ((x5).length : Int)))) hb19 hs18
          refine w_exit ?_
          refine e_seq_x ?_
          refine e_seq_x ?_
          refine e_blk_h ?_
          have h42 := un_out h19 ho18
          exact e_j _ (Option.some.inj h42).symm (w_weak [2, 3] 0 rfl rfl rfl rfl ⟨(AV.le_refl _), (AV.le_refl _), trivial⟩ st_nil)
      · skip
        intro j17 hj43
        have h43 := un_go hj43 h16
        refine e_kw ?_
        refine w_seqw ?_
        refine w_seqw ?_
        refine w_region ?_
        refine o_p rfl (p_move (v := AV.os _ _ _ _) rfl) ?_
        refine o_p rfl (p_len ti68 (isl_o rfl)) ?_
        refine o_p rfl (p_move (v := .c (.int _ _)) rfl) ?_
        refine o_end (fr' := [(0, .any), (2, .any), (3, .any), (4, .any), (5, AV.os _ _ _ _), (6, AV.os _ _ _ _), (7, .any), (8, .any), (11, .any), (32, .any), (34, .any), (35, .any), (36, .any), (90, .any), (93, .c (.int _ _)), (94, .c (.int _ _)), (95, .any), (136, .any)]) rfl ?_
        refine e_kw ?_
        obtain ⟨x44, hx44, h45⟩ := bind_s h43
        refine w_jtail cl_kw (fun j46 => x44 = Fl.go j46) (fun (j46 : Unit) => ([] : Fr)) (fun (j46 : Unit) => ([] : St)) ?_ ?_
        · skip
          refine w_block ?_
          refine w_loopo _ (fun (s47 : Int) => ([(5, AV.os 0 7 rowApiAdmit x9), (6, AV.os 1 7 rowApiAdmit x11), (93, .c (.int .i64 ((x9).length : Int))), (94, .c (.int .i64 s47))] : Fr)) (fun (s47 : Int) => ([] : St)) hx44 (w_weak [0, 1] 0 rfl rfl rfl rfl ⟨(AV.le_refl _), (AV.le_refl _), (AV.le_refl _), (AV.le_refl _), trivial⟩ st_nil) ?_
          intro s47 st47 hs47 ho47
          unfold law27xDivergeReads_l2 at hs47
          refine w_seqw ?_
          refine w_region ?_
          refine o_p rfl (p_lss rfl rfl) ?_
          refine o_end (fr' := [(0, .any), (2, .any), (3, .any), (4, .any), (5, AV.os _ _ _ _), (6, AV.os _ _ _ _), (7, .any), (8, .any), (11, .any), (32, .any), (34, .any), (35, .any), (36, .any), (90, .any), (93, .c (.int _ _)), (94, .c (.int _ _)), (95, .c (.bool _)), (136, .any)]) rfl ?_
          refine e_kw ?_
          refine w_seqw ?_
          refine w_cond _ rfl (fun hb48 => ?_) (fun hb48 => ?_)
          · skip
            have h48 := cond_t (b := (decide (s47 < ((x9).length : Int)))) hb48 hs47
            refine w_skip ?_
            refine e_kw ?_
            refine w_seqw ?_
            refine w_block ?_
            refine w_seqw ?_
            refine w_region ?_
            refine o_p rfl (p_move (v := .c (.int _ _)) rfl) ?_
            refine o_p rfl (p_assign (v := .c (.int _ _)) rfl) ?_
            refine o_end (fr' := [(0, .any), (2, .any), (3, .any), (4, .any), (5, AV.os _ _ _ _), (6, AV.os _ _ _ _), (7, .any), (8, .c (.int _ _)), (11, .any), (32, .any), (34, .any), (35, .any), (36, .any), (90, .any), (93, .c (.int _ _)), (94, .c (.int _ _)), (95, .c (.bool _)), (136, .any)]) rfl ?_
            refine e_kw ?_
            refine w_seqw ?_
            refine w_planT [.q 0, .q 1, .q 2, .q 3, .q 4, .q 5, .q 6, .q 7, .q 8, .q 9, .q 10, .q 11, .q 12, .q 13, .q 14, .q 15, .q 16, .q 17, .q 18, .q 19, .q 20, .q 21, .q 22, .q 23, .q 24, .q 25, .q 26, .q 27, .q 28, .q 29, .q 30, .q 31, .q 32, .q 33, .q 34, .q 35, .q 36, .q 37, .q 38, .q 39] [(some 97, [5]), (some 98, [8]), (some 99, [97, 98]), (some 100, [99]), (some 101, [100]), (some 102, [6]), (some 103, [8]), (some 104, [102, 103]), (some 105, [104]), (some 106, [105]), (some 107, [101, 106]), (some 108, [107]), (some 109, [5, 108]), (some 110, [8, 108]), (some 111, [109, 110, 108]), (some 112, [111, 108]), (some 113, [112, 108]), (some 114, [6, 108]), (some 115, [8, 108]), (some 116, [114, 115, 108]), (some 117, [116, 108]), (some 118, [117, 108]), (some 119, [113, 118, 108]), (some 120, [108, 119]), (some 121, [120]), (some 122, [5, 121]), (some 123, [8, 121]), (some 124, [122, 123, 121]), (some 125, [124, 121]), (some 126, [125, 121]), (some 127, [126, 121]), (some 128, [6, 121]), (some 129, [8, 121]), (some 130, [128, 129, 121]), (some 131, [130, 121]), (some 132, [131, 121]), (some 133, [132, 121]), (some 134, [127, 133, 121]), (some 135, [134, 121]), (some 136, [121, 135])] [0, 0, 3, 7, 15, 0, 0, 96, 224, 480, 1023, 2047, 4095, 4095, 16383, 32767, 65535, 4095, 4095, 397311, 921599, 1970175, 4194303, 8388607, 16777215, 33554431, 33554431, 134217727, 268435455, 536870911, 1073741823, 33554431, 33554431, 6476005375, 15065939967, 32245809151, 66605547519, 137438953471, 274877906943, 549755813887] (by kernel_rfl) ?_
            refine d_q rfl (qv_p rfl (p_move (v := AV.os _ _ _ _) rfl)) ?_
            refine d_q rfl (qv_p rfl (p_move (v := .c (.int _ _)) rfl)) ?_
            obtain ⟨x49, hx49, h50⟩ := bind_s h48
            refine d_q rfl (qv_p rfl (p_ia (cs := [.str _, .str _, .int _ _, .int _ _, .str _, PV.ls _ _ _, PV.ls _ _ _]) ts68 (isl_o rfl) rfl hx49 rfl)) ?_
            refine d_q rfl (qv_p rfl (p_fae tf74x0 rfl)) ?_
            refine d_q rfl (qv_p rfl (p_loade (p := .str _) tv9 rfl rfl)) ?_
            refine d_q rfl (qv_p rfl (p_move (v := AV.os _ _ _ _) rfl)) ?_
            refine d_q rfl (qv_p rfl (p_move (v := .c (.int _ _)) rfl)) ?_
            obtain ⟨x51, hx51, h52⟩ := bind_s h50
            refine d_q rfl (qv_p rfl (p_ia (cs := [.str _, .str _, .int _ _, .int _ _, .str _, PV.ls _ _ _, PV.ls _ _ _]) ts68 (isl_o rfl) rfl hx51 rfl)) ?_
            refine d_q rfl (qv_p rfl (p_fae tf74x0 rfl)) ?_
            refine d_q rfl (qv_p rfl (p_loade (p := .str _) tv9 rfl rfl)) ?_
            refine d_q rfl (qv_p rfl (p_sneq rfl rfl)) ?_
            refine d_q rfl (qv_p rfl (p_move (v := .c (.bool _)) rfl)) ?_
            refine d_g rfl rfl rfl (fun hc => qv_p rfl (p_move (v := AV.os _ _ _ _) rfl)) ?_
            refine d_g rfl rfl rfl (fun hc => qv_p rfl (p_move (v := .c (.int _ _)) rfl)) ?_
            obtain ⟨x53, hx53, h54⟩ := bind_s h52
            refine d_g rfl rfl rfl (fun hc => qv_p rfl (p_ia (cs := [.str _, .str _, .int _ _, .int _ _, .str _, PV.ls _ _ _, PV.ls _ _ _]) ts68 (isl_o (gx rfl hc)) (gx rfl hc) (gd_some hx53 hc) rfl)) ?_
            refine d_g rfl rfl rfl (fun hc => qv_p rfl (p_fae tf74x1 (gx rfl hc))) ?_
            refine d_g rfl rfl rfl (fun hc => qv_p rfl (p_loade (p := .str _) tv9 (gx rfl hc) rfl)) ?_
            refine d_g rfl rfl rfl (fun hc => qv_p rfl (p_move (v := AV.os _ _ _ _) rfl)) ?_
            refine d_g rfl rfl rfl (fun hc => qv_p rfl (p_move (v := .c (.int _ _)) rfl)) ?_
            obtain ⟨x55, hx55, h56⟩ := bind_s h54
            refine d_g rfl rfl rfl (fun hc => qv_p rfl (p_ia (cs := [.str _, .str _, .int _ _, .int _ _, .str _, PV.ls _ _ _, PV.ls _ _ _]) ts68 (isl_o (gx rfl hc)) (gx rfl hc) (gd_some hx55 hc) rfl)) ?_
            refine d_g rfl rfl rfl (fun hc => qv_p rfl (p_fae tf74x1 (gx rfl hc))) ?_
            refine d_g rfl rfl rfl (fun hc => qv_p rfl (p_loade (p := .str _) tv9 (gx rfl hc) rfl)) ?_
            refine d_g rfl rfl rfl (fun hc => qv_p rfl (p_sneq (gx rfl hc) (gx rfl hc))) ?_
            refine d_q rfl (qv_p rfl (p_pickz rfl rfl rfl (fun e => keq e))) ?_
            refine d_q rfl (qv_p rfl (p_move (v := .c (.bool _)) rfl)) ?_
            refine d_g rfl rfl rfl (fun hc => qv_p rfl (p_move (v := AV.os _ _ _ _) rfl)) ?_
            refine d_g rfl rfl rfl (fun hc => qv_p rfl (p_move (v := .c (.int _ _)) rfl)) ?_
            obtain ⟨x57, hx57, h58⟩ := bind_s h56
            refine d_g rfl rfl rfl (fun hc => qv_p rfl (p_ia (cs := [.str _, .str _, .int _ _, .int _ _, .str _, PV.ls _ _ _, PV.ls _ _ _]) ts68 (isl_o (gx rfl hc)) (gx rfl hc) (gd_some hx57 hc) rfl)) ?_
            refine d_g rfl rfl rfl (fun hc => qv_p rfl (p_fae tf74x2 (gx rfl hc))) ?_
            refine d_g rfl rfl rfl (fun hc => qv_p rfl (p_loades (us := [.int _ _, .int _ _, .str _, PV.ls _ _ _, PV.ls _ _ _]) tv40 (gx rfl hc) rfl rfl)) ?_
            refine d_g rfl rfl rfl (fun hc => qv_p rfl (p_buildc (c0 := [.c (.int _ _), .c (.int _ _), .c (.int _ _), .c (.int _ _), .c (.int _ _), .c (.int _ _), .c (.int _ _), .c (.str _), .c (.str _), .c (.int _ _), .c (.int _ _), .c (.str _), .nil, .nil, .c (.str _), .c (.int _ _), .c (.int _ _), .c (.int _ _), .c (.int _ _), .c (.int _ _), .c (.int _ _), .c (.int _ _), .c (.int _ _), .nil]) (cs := [.c (.int _ _), .c (.int _ _), .c (.int _ _), .c (.int _ _), .c (.int _ _), .c (.int _ _), .c (.int _ _), .c (.str _), .c (.str _), .c (.int _ _), .c (.int _ _), .c (.str _), .c (PV.ls _ _ _), .c (PV.ls _ _ _), .c (.str _), .c (.int _ _), .c (.int _ _), .c (.int _ _), .c (.int _ _), .c (.int _ _), .c (.int _ _), .c (.int _ _), .c (.int _ _), .nil]) tb46 rfl (fill_cons (v := .agg [.c (.int _ _), .c (.int _ _), .c (.str _), .c (PV.ls _ _ _), .c (PV.ls _ _ _)]) (us := [_, _, _, _, _]) (cs' := [_, _, _, _, _, _, _, _, _, _, _, _, _, _, _, _, _, _, _, _, _, _, _, _]) rfl (gx rfl hc) rfl rfl rfl rfl fill_nil))) ?_
            refine d_g rfl rfl rfl (fun hc => qv_p rfl (p_move (v := AV.os _ _ _ _) rfl)) ?_
            refine d_g rfl rfl rfl (fun hc => qv_p rfl (p_move (v := .c (.int _ _)) rfl)) ?_
            obtain ⟨x59, hx59, h60⟩ := bind_s h58
            refine d_g rfl rfl rfl (fun hc => qv_p rfl (p_ia (cs := [.str _, .str _, .int _ _, .int _ _, .str _, PV.ls _ _ _, PV.ls _ _ _]) ts68 (isl_o (gx rfl hc)) (gx rfl hc) (gd_some hx59 hc) rfl)) ?_
            refine d_g rfl rfl rfl (fun hc => qv_p rfl (p_fae tf74x2 (gx rfl hc))) ?_
            refine d_g rfl rfl rfl (fun hc => qv_p rfl (p_loades (us := [.int _ _, .int _ _, .str _, PV.ls _ _ _, PV.ls _ _ _]) tv40 (gx rfl hc) rfl rfl)) ?_
            refine d_g rfl rfl rfl (fun hc => qv_p rfl (p_buildc (c0 := [.c (.int _ _), .c (.int _ _), .c (.int _ _), .c (.int _ _), .c (.int _ _), .c (.int _ _), .c (.int _ _), .c (.str _), .c (.str _), .c (.int _ _), .c (.int _ _), .c (.str _), .nil, .nil, .c (.str _), .c (.int _ _), .c (.int _ _), .c (.int _ _), .c (.int _ _), .c (.int _ _), .c (.int _ _), .c (.int _ _), .c (.int _ _), .nil]) (cs := [.c (.int _ _), .c (.int _ _), .c (.int _ _), .c (.int _ _), .c (.int _ _), .c (.int _ _), .c (.int _ _), .c (.str _), .c (.str _), .c (.int _ _), .c (.int _ _), .c (.str _), .c (PV.ls _ _ _), .c (PV.ls _ _ _), .c (.str _), .c (.int _ _), .c (.int _ _), .c (.int _ _), .c (.int _ _), .c (.int _ _), .c (.int _ _), .c (.int _ _), .c (.int _ _), .nil]) tb46 rfl (fill_cons (v := .agg [.c (.int _ _), .c (.int _ _), .c (.str _), .c (PV.ls _ _ _), .c (PV.ls _ _ _)]) (us := [_, _, _, _, _]) (cs' := [_, _, _, _, _, _, _, _, _, _, _, _, _, _, _, _, _, _, _, _, _, _, _, _]) rfl (gx rfl hc) rfl rfl rfl rfl fill_nil))) ?_
            obtain ⟨x61, hx61, h62⟩ := bind_s h60
            refine d_g rfl rfl rfl (fun hc => qv_call (v := .c (.bool _)) rfl (w_ref22xSame (gd_some hx61 hc)) ⟨(le_gv (gx rfl hc) (le_aggc rfl ⟨rfl, rfl, rfl, rfl, rfl, rfl, rfl, rfl, rfl, rfl, rfl, rfl, rfl, rfl, rfl, rfl, rfl, rfl, rfl, rfl, rfl, rfl, rfl, ⟨_, rfl⟩, trivial⟩)), (le_gv (gx rfl hc) (le_aggc rfl ⟨rfl, rfl, rfl, rfl, rfl, rfl, rfl, rfl, rfl, rfl, rfl, rfl, rfl, rfl, rfl, rfl, rfl, rfl, rfl, rfl, rfl, rfl, rfl, ⟨_, rfl⟩, trivial⟩)), trivial⟩ rfl) ?_
            refine d_g rfl rfl rfl (fun hc => qv_p rfl (p_not (gx rfl hc))) ?_
            refine d_q rfl (qv_p rfl (p_pickz rfl rfl rfl (fun e => keq e))) ?_
            refine d_end (fr' := [(0, .any), (2, .any), (3, .any), (4, .any), (5, AV.os _ _ _ _), (6, AV.os _ _ _ _), (7, .any), (8, .c (.int _ _)), (11, .any), (32, .any), (34, .any), (35, .any), (36, .any), (90, .any), (93, .c (.int _ _)), (94, .c (.int _ _)), (95, .c (.bool _)), (136, .c (.bool _))]) rfl ?_
            refine e_kw ?_
            refine w_cond _ rfl (fun hb63 => ?_) (fun hb63 => ?_)
            · skip
              have h63 := cond_t (b := (cond (cond (!decide (x49.Key = x51.Key)) true (!decide (x53.Name = x55.Name))) true (!x61))) hb63 h62
              refine w_seqw ?_
              refine w_region ?_
              refine o_p rfl (p_assign (v := .c (.bool _)) rfl) ?_
              refine o_end (fr' := [(0, .any), (2, .c (.bool _)), (3, .any), (4, .any), (5, AV.os _ _ _ _), (6, AV.os _ _ _ _), (7, .any), (8, .c (.int _ _)), (11, .any), (32, .any), (34, .any), (35, .any), (36, .any), (90, .any), (93, .c (.int _ _)), (94, .c (.int _ _)), (95, .c (.bool _)), (136, .c (.bool _))]) rfl ?_
              refine e_kw ?_
              refine w_ret ?_
              refine e_blk_r ?_
              refine e_seq_r ?_
              refine e_seq_r ?_
              refine e_blk_r ?_
              refine e_seq_r ?_
              refine e_seq_r ?_
              have h64 := un_out h63 ho47
              have h65 := un_done h64 h45
              have he66 := Option.some.inj h65
              subst he66
              refine e_ret (rs' := [.tmp 2]) rfl ?_
              refine r_tmp (v := .c (.bool _)) rfl ?_
              refine r_nil ?_
              exact fin_gen [] rfl rfl rfl (AV.le_refl _) st_nil
            · skip
              have h63 := cond_f (b := (cond (cond (!decide (x49.Key = x51.Key)) true (!decide (x53.Name = x55.Name))) true (!x61))) hb63 h62
              refine w_skip ?_
              refine e_blk_n ?_
              refine e_kw ?_
              refine w_region ?_
              refine o_p rfl (p_add rfl rfl) ?_
              refine o_p rfl (p_move (v := .c (.int _ _)) rfl) ?_
              refine o_end (fr' := [(0, .any), (2, .any), (3, .any), (4, .any), (5, AV.os _ _ _ _), (6, AV.os _ _ _ _), (7, .any), (8, .c (.int _ _)), (11, .any), (32, .any), (34, .any), (35, .any), (36, .any), (90, .any), (93, .c (.int _ _)), (94, .c (.int _ _)), (95, .c (.bool _)), (136, .c (.bool _))]) rfl ?_
              exact e_l _ (Option.some.inj h63).symm (w_weak [0, 1] 0 rfl rfl rfl rfl ⟨(AV.le_refl _), (AV.le_refl _), (AV.le_refl _), (AV.le_refl _), trivial⟩ st_nil)
          · skip
            have h48 := cond_f (b := (decide (s47 < ((x9).length : Int)))) hb48 hs47
            refine w_exit ?_
            refine e_seq_x ?_
            refine e_seq_x ?_
            refine e_blk_h ?_
            have h67 := un_out h48 ho47
            exact e_j _ (Option.some.inj h67).symm (w_weak [] 0 rfl rfl rfl rfl trivial st_nil)
        · skip
          intro j46 hj68
          have h68 := un_go hj68 h45
          refine e_kw ?_
          refine w_seqw ?_
          refine w_region ?_
          obtain ⟨x69, hx69, h70⟩ := bind_s h68
          refine o_v (ov_call (v := .c (.bool _)) rfl (w_law27xworks hx69) trivial rfl rfl rfl) ?_
          refine o_p rfl (p_assign (v := .c (.bool _)) rfl) ?_
          refine o_end (fr' := [(0, .any), (2, .c (.bool _)), (3, .any), (4, .any), (5, .any), (6, .any), (7, .any), (8, .any), (11, .any), (32, .any), (34, .any), (35, .any), (36, .any), (90, .any), (93, .any), (94, .any), (95, .any), (136, .any)]) rfl ?_
          refine e_kw ?_
          refine w_ret ?_
          have he71 := Option.some.inj h70
          subst he71
          refine e_ret (rs' := [.tmp 2]) rfl ?_
          refine r_tmp (v := .c (.bool _)) rfl ?_
          refine r_nil ?_
          exact fin_gen [] rfl rfl rfl (AV.le_refl _) st_nil
noncomputable def ref20xin (p0n : Int) (p1low : Int) (p2high : Int) : Option Bool :=
  some (cond (decide (p1low ≤ p0n)) (decide (p0n ≤ p2high)) false)
theorem w_ref20xin {p0n : Int} {p1low : Int} {p2high : Int} {res : Bool} (h : ref20xin p0n p1low p2high = some res) : ACalls Try.prog 65 [.c (.int .i64 p0n), .c (.int .i64 p1low), .c (.int .i64 p2high)] [] (.c (.bool res)) [] := by
  unfold ref20xin at h
  refine acalls (fn := Try.f65) [0, 1, 2, 6] (by kernel_rfl) Try.func65 rfl (by kernel_rfl) (by kernel_rfl) ?_
  refine w_seqw ?_
  refine w_region ?_
  refine o_p rfl (p_assign (v := .c (.bool _)) rfl) ?_
  refine o_end (fr' := [(0, .c (.int _ _)), (1, .c (.int _ _)), (2, .c (.int _ _)), (6, .c (.bool _))]) rfl ?_
  refine e_kw ?_
  refine w_seqw ?_
  refine w_region ?_
  refine o_p rfl (p_move (v := .c (.int _ _)) rfl) ?_
  refine o_p rfl (p_move (v := .c (.int _ _)) rfl) ?_
  refine o_p rfl (p_geq rfl rfl) ?_
  refine o_p rfl (p_move (v := .c (.bool _)) rfl) ?_
  refine o_g rfl rfl (fun hc => ov_p rfl (p_move (v := .c (.int _ _)) rfl)) ?_
  refine o_g rfl rfl (fun hc => ov_p rfl (p_move (v := .c (.int _ _)) rfl)) ?_
  refine o_g rfl rfl (fun hc => ov_p rfl (p_leq (gx rfl hc) (gx rfl hc))) ?_
  refine o_p rfl (p_picky rfl rfl rfl (fun e => keq e)) ?_
  refine o_p rfl (p_assign (v := .c (.bool _)) rfl) ?_
  refine o_end (fr' := [(0, .c (.int _ _)), (1, .c (.int _ _)), (2, .c (.int _ _)), (6, .c (.bool _))]) rfl ?_
  refine e_kw ?_
  refine w_ret ?_
  have he1 := Option.some.inj h
  subst he1
  refine e_ret (rs' := [.tmp 6]) rfl ?_
  refine r_tmp (v := .c (.bool _)) rfl ?_
  refine r_nil ?_
  exact fin_gen [] rfl rfl rfl (AV.le_refl _) st_nil
noncomputable def ref20xSame (p0a : ApiCommand) (p1b : ApiCommand) : Option Bool :=
  (gd ((cond (cond (cond (cond (decide (p0a.Kind = p1b.Kind)) (decide (p0a.Seq = p1b.Seq)) false) (decide (p0a.Name = p1b.Name)) false) (decide (p0a.Key = p1b.Key)) false) (decide (p0a.N = p1b.N)) false) == true) (ref02xSame p0a.Data p1b.Data)).bind fun (x1 : Bool) => (gd ((cond (cond (cond (cond (cond (decide (p0a.Kind = p1b.Kind)) (decide (p0a.Seq = p1b.Seq)) false) (decide (p0a.Name = p1b.Name)) false) (decide (p0a.Key = p1b.Key)) false) (decide (p0a.N = p1b.N)) false) x1 false) == true) (ref20xSamePolicy p0a.Opts p1b.Opts)).bind fun (x3 : Bool) => some (cond (cond (cond (cond (cond (cond (decide (p0a.Kind = p1b.Kind)) (decide (p0a.Seq = p1b.Seq)) false) (decide (p0a.Name = p1b.Name)) false) (decide (p0a.Key = p1b.Key)) false) (decide (p0a.N = p1b.N)) false) x1 false) x3 false)
theorem w_ref20xSame {p0a : ApiCommand} {p1b : ApiCommand} {res : Bool} (h : ref20xSame p0a p1b = some res) : ACalls Try.prog 66 [.agg (AV.cs (rowApiCommand p0a)), .agg (AV.cs (rowApiCommand p1b))] [] (.c (.bool res)) [] := by
  unfold ref20xSame at h
  refine acalls (fn := Try.f66) [0, 1, 2, 3, 4] (by kernel_rfl) Try.func66 rfl (by kernel_rfl) (by kernel_rfl) ?_
  refine w_seqw ?_
  refine w_region ?_
  refine o_box (v := .agg [.c (.int _ _), .c (.int _ _), .c (.str _), .c (.str _), .c (.int _ _), .c (.int _ _), .c (.int _ _), .c (.str _), .c (PV.ls _ _ _), .c (PV.ls _ _ _), .c (.str _), .c (.int _ _), .c (.int _ _), .c (.int _ _), .c (.int _ _), .c (.int _ _), .c (.int _ _), .c (.int _ _), .c (.int _ _), .c (PV.ls _ _ _)]) (n := 0) (cs := [.c (.int _ _), .c (.int _ _), .c (.str _), .c (.str _), .c (.int _ _), .c (.int _ _), .c (.int _ _), .c (.str _), .c (PV.ls _ _ _), .c (PV.ls _ _ _), .c (.str _), .c (.int _ _), .c (.int _ _), .c (.int _ _), .c (.int _ _), .c (.int _ _), .c (.int _ _), .c (.int _ _), .c (.int _ _), .c (PV.ls _ _ _)]) (σ' := [[.c (.int _ _), .c (.int _ _), .c (.str _), .c (.str _), .c (.int _ _), .c (.int _ _), .c (.int _ _), .c (.str _), .c (PV.ls _ _ _), .c (PV.ls _ _ _), .c (.str _), .c (.int _ _), .c (.int _ _), .c (.int _ _), .c (.int _ _), .c (.int _ _), .c (.int _ _), .c (.int _ _), .c (.int _ _), .c (PV.ls _ _ _)]]) rfl rfl rfl rfl rfl ?_
  refine o_box (v := .agg [.c (.int _ _), .c (.int _ _), .c (.str _), .c (.str _), .c (.int _ _), .c (.int _ _), .c (.int _ _), .c (.str _), .c (PV.ls _ _ _), .c (PV.ls _ _ _), .c (.str _), .c (.int _ _), .c (.int _ _), .c (.int _ _), .c (.int _ _), .c (.int _ _), .c (.int _ _), .c (.int _ _), .c (.int _ _), .c (PV.ls _ _ _)]) (n := 1) (cs := [.c (.int _ _), .c (.int _ _), .c (.str _), .c (.str _), .c (.int _ _), .c (.int _ _), .c (.int _ _), .c (.str _), .c (PV.ls _ _ _), .c (PV.ls _ _ _), .c (.str _), .c (.int _ _), .c (.int _ _), .c (.int _ _), .c (.int _ _), .c (.int _ _), .c (.int _ _), .c (.int _ _), .c (.int _ _), .c (PV.ls _ _ _)]) (σ' := [[.c (.int _ _), .c (.int _ _), .c (.str _), .c (.str _), .c (.int _ _), .c (.int _ _), .c (.int _ _), .c (.str _), .c (PV.ls _ _ _), .c (PV.ls _ _ _), .c (.str _), .c (.int _ _), .c (.int _ _), .c (.int _ _), .c (.int _ _), .c (.int _ _), .c (.int _ _), .c (.int _ _), .c (.int _ _), .c (PV.ls _ _ _)], [.c (.int _ _), .c (.int _ _), .c (.str _), .c (.str _), .c (.int _ _), .c (.int _ _), .c (.int _ _), .c (.str _), .c (PV.ls _ _ _), .c (PV.ls _ _ _), .c (.str _), .c (.int _ _), .c (.int _ _), .c (.int _ _), .c (.int _ _), .c (.int _ _), .c (.int _ _), .c (.int _ _), .c (.int _ _), .c (PV.ls _ _ _)]]) rfl rfl rfl rfl rfl ?_
  refine o_p rfl (p_assign (v := .c (.bool _)) rfl) ?_
  refine o_end (fr' := [(0, .agg [.c (.int _ _), .c (.int _ _), .c (.str _), .c (.str _), .c (.int _ _), .c (.int _ _), .c (.int _ _), .c (.str _), .c (PV.ls _ _ _), .c (PV.ls _ _ _), .c (.str _), .c (.int _ _), .c (.int _ _), .c (.int _ _), .c (.int _ _), .c (.int _ _), .c (.int _ _), .c (.int _ _), .c (.int _ _), .c (PV.ls _ _ _)]), (1, .agg [.c (.int _ _), .c (.int _ _), .c (.str _), .c (.str _), .c (.int _ _), .c (.int _ _), .c (.int _ _), .c (.str _), .c (PV.ls _ _ _), .c (PV.ls _ _ _), .c (.str _), .c (.int _ _), .c (.int _ _), .c (.int _ _), .c (.int _ _), .c (.int _ _), .c (.int _ _), .c (.int _ _), .c (.int _ _), .c (PV.ls _ _ _)]), (2, .box 0 0), (3, .box 1 0), (4, .c (.bool _))]) rfl ?_
  refine e_kw ?_
  refine w_seqw ?_
  refine w_region ?_
  refine o_p rfl (p_fa tf44x0 rfl) ?_
  refine o_p rfl (p_load (v := .c (.int _ _)) tv3 rfl rfl rfl) ?_
  refine o_p rfl (p_fa tf44x0 rfl) ?_
  refine o_p rfl (p_load (v := .c (.int _ _)) tv3 rfl rfl rfl) ?_
  refine o_p rfl (p_eql rfl rfl) ?_
  refine o_p rfl (p_move (v := .c (.bool _)) rfl) ?_
  refine o_g rfl rfl (fun hc => ov_p rfl (p_fa tf44x1 rfl)) ?_
  refine o_g rfl rfl (fun hc => ov_p rfl (p_load (v := .c (.int _ _)) tv3 (gx rfl hc) rfl rfl)) ?_
  refine o_g rfl rfl (fun hc => ov_p rfl (p_fa tf44x1 rfl)) ?_
  refine o_g rfl rfl (fun hc => ov_p rfl (p_load (v := .c (.int _ _)) tv3 (gx rfl hc) rfl rfl)) ?_
  refine o_g rfl rfl (fun hc => ov_p rfl (p_eql (gx rfl hc) (gx rfl hc))) ?_
  refine o_p rfl (p_picky rfl rfl rfl (fun e => keq e)) ?_
  refine o_p rfl (p_move (v := .c (.bool _)) rfl) ?_
  refine o_g rfl rfl (fun hc => ov_p rfl (p_fa tf44x2 rfl)) ?_
  refine o_g rfl rfl (fun hc => ov_p rfl (p_load (v := .c (.str _)) tv9 (gx rfl hc) rfl rfl)) ?_
  refine o_g rfl rfl (fun hc => ov_p rfl (p_fa tf44x2 rfl)) ?_
  refine o_g rfl rfl (fun hc => ov_p rfl (p_load (v := .c (.str _)) tv9 (gx rfl hc) rfl rfl)) ?_
  refine o_g rfl rfl (fun hc => ov_p rfl (p_seql (gx rfl hc) (gx rfl hc))) ?_
  refine o_p rfl (p_picky rfl rfl rfl (fun e => keq e)) ?_
  refine o_p rfl (p_move (v := .c (.bool _)) rfl) ?_
  refine o_g rfl rfl (fun hc => ov_p rfl (p_fa tf44x3 rfl)) ?_
  refine o_g rfl rfl (fun hc => ov_p rfl (p_load (v := .c (.str _)) tv9 (gx rfl hc) rfl rfl)) ?_
  refine o_g rfl rfl (fun hc => ov_p rfl (p_fa tf44x3 rfl)) ?_
  refine o_g rfl rfl (fun hc => ov_p rfl (p_load (v := .c (.str _)) tv9 (gx rfl hc) rfl rfl)) ?_
  refine o_g rfl rfl (fun hc => ov_p rfl (p_seql (gx rfl hc) (gx rfl hc))) ?_
  refine o_p rfl (p_picky rfl rfl rfl (fun e => keq e)) ?_
  refine o_p rfl (p_move (v := .c (.bool _)) rfl) ?_
  refine o_g rfl rfl (fun hc => ov_p rfl (p_fa tf44x4 rfl)) ?_
  refine o_g rfl rfl (fun hc => ov_p rfl (p_load (v := .c (.int _ _)) tv3 (gx rfl hc) rfl rfl)) ?_
  refine o_g rfl rfl (fun hc => ov_p rfl (p_fa tf44x4 rfl)) ?_
  refine o_g rfl rfl (fun hc => ov_p rfl (p_load (v := .c (.int _ _)) tv3 (gx rfl hc) rfl rfl)) ?_
  refine o_g rfl rfl (fun hc => ov_p rfl (p_eql (gx rfl hc) (gx rfl hc))) ?_
  refine o_p rfl (p_picky rfl rfl rfl (fun e => keq e)) ?_
  refine o_p rfl (p_move (v := .c (.bool _)) rfl) ?_
  refine o_g rfl rfl (fun hc => ov_p rfl (p_fa tf44x5 rfl)) ?_
  refine o_g rfl rfl (fun hc => ov_p rfl (p_loads (us := [.c (.int _ _), .c (.int _ _), .c (.str _), .c (PV.ls _ _ _), .c (PV.ls _ _ _)]) tv40 (gx rfl hc) rfl rfl rfl)) ?_
  refine o_g rfl rfl (fun hc => ov_p rfl (p_fa tf44x5 rfl)) ?_
  refine o_g rfl rfl (fun hc => ov_p rfl (p_loads (us := [.c (.int _ _), .c (.int _ _), .c (.str _), .c (PV.ls _ _ _), .c (PV.ls _ _ _)]) tv40 (gx rfl hc) rfl rfl rfl)) ?_
  obtain ⟨x1, hx1, h2⟩ := bind_s h
  refine o_g rfl rfl (fun hc => ov_call (v := .c (.bool _)) rfl (w_ref02xSame (gd_some hx1 hc)) ⟨(le_gv (gx rfl hc) (le_aggc rfl ⟨rfl, rfl, rfl, rfl, rfl, trivial⟩)), (le_gv (gx rfl hc) (le_aggc rfl ⟨rfl, rfl, rfl, rfl, rfl, trivial⟩)), trivial⟩ (ok_eq (by repeat (first | exact ok_nil | refine ok_cons rfl ?_ | refine ok_cons (dgv rfl) ?_))) rfl rfl) ?_
  refine o_p rfl (p_picky rfl rfl rfl (fun e => keq e)) ?_
  refine o_p rfl (p_move (v := .c (.bool _)) rfl) ?_
  refine o_g rfl rfl (fun hc => ov_p rfl (p_fa tf44x6 rfl)) ?_
  refine o_g rfl rfl (fun hc => ov_p rfl (p_loads (us := [.c (.str _), .c (.int _ _), .c (.int _ _), .c (.int _ _), .c (.int _ _), .c (.int _ _), .c (.int _ _), .c (.int _ _), .c (.int _ _), .c (PV.ls _ _ _)]) tv42 (gx rfl hc) rfl rfl rfl)) ?_
  refine o_g rfl rfl (fun hc => ov_p rfl (p_fa tf44x6 rfl)) ?_
  refine o_g rfl rfl (fun hc => ov_p rfl (p_loads (us := [.c (.str _), .c (.int _ _), .c (.int _ _), .c (.int _ _), .c (.int _ _), .c (.int _ _), .c (.int _ _), .c (.int _ _), .c (.int _ _), .c (PV.ls _ _ _)]) tv42 (gx rfl hc) rfl rfl rfl)) ?_
  obtain ⟨x3, hx3, h4⟩ := bind_s h2
  refine o_g rfl rfl (fun hc => ov_call (v := .c (.bool _)) rfl (w_ref20xSamePolicy (gd_some hx3 hc)) ⟨(le_gv (gx rfl hc) (le_aggc rfl ⟨rfl, rfl, rfl, rfl, rfl, rfl, rfl, rfl, rfl, rfl, trivial⟩)), (le_gv (gx rfl hc) (le_aggc rfl ⟨rfl, rfl, rfl, rfl, rfl, rfl, rfl, rfl, rfl, rfl, trivial⟩)), trivial⟩ (ok_eq (by repeat (first | exact ok_nil | refine ok_cons rfl ?_ | refine ok_cons (dgv rfl) ?_))) rfl rfl) ?_
  refine o_p rfl (p_picky rfl rfl rfl (fun e => keq e)) ?_
  refine o_p rfl (p_assign (v := .c (.bool _)) rfl) ?_
  refine o_end (fr' := [(0, .agg [.c (.int _ _), .c (.int _ _), .c (.str _), .c (.str _), .c (.int _ _), .c (.int _ _), .c (.int _ _), .c (.str _), .c (PV.ls _ _ _), .c (PV.ls _ _ _), .c (.str _), .c (.int _ _), .c (.int _ _), .c (.int _ _), .c (.int _ _), .c (.int _ _), .c (.int _ _), .c (.int _ _), .c (.int _ _), .c (PV.ls _ _ _)]), (1, .agg [.c (.int _ _), .c (.int _ _), .c (.str _), .c (.str _), .c (.int _ _), .c (.int _ _), .c (.int _ _), .c (.str _), .c (PV.ls _ _ _), .c (PV.ls _ _ _), .c (.str _), .c (.int _ _), .c (.int _ _), .c (.int _ _), .c (.int _ _), .c (.int _ _), .c (.int _ _), .c (.int _ _), .c (.int _ _), .c (PV.ls _ _ _)]), (2, .box 0 0), (3, .box 1 0), (4, .c (.bool _))]) rfl ?_
  refine e_kw ?_
  refine w_ret ?_
  have he5 := Option.some.inj h4
  subst he5
  refine e_ret (rs' := [.tmp 4]) rfl ?_
  refine r_tmp (v := .c (.bool _)) rfl ?_
  refine r_nil ?_
  exact fin_gen [] rfl rfl rfl (AV.le_refl _) st_nil
end Go.Proofs.Ytnhchphmmdgphaa

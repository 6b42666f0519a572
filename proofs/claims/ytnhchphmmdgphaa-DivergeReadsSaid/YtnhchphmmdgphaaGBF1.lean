import Derived.Test.YtnhchphmmdgphaaGBTy
import Derived.Test.YtnhchphmmdgphaaGBF0
namespace Go.Proofs.Ytnhchphmmdgphaa
open Go Abs
set_option maxRecDepth 100000
set_option linter.unusedVariables false
set_option linter.unusedSimpArgs false
noncomputable def ref01xPutInt_l1  (s8 : ((List UInt8) × Int)) : Option (Step ((List UInt8) × Int) ((List UInt8) × Int)) :=
  cond (decide ((127 : Int) < s8.2)) ((byteOf (IntKind.wrap .u8 (IntKind.wrap .u64 ((Int.tmod s8.2 (128 : Int)) + (128 : Int))))).bind fun (x10 : UInt8) => (app 1 s8.1 ([x10] : List UInt8)).bind fun (x12 : (List UInt8)) => some (Step.next (x12, (IntKind.wrap .u64 (Int.tdiv s8.2 (128 : Int)))))) (some (Step.out (s8.1, s8.2)))
noncomputable def ref01xPutInt (p0b : (List UInt8)) (p1n : Int) : Option (List UInt8) :=
  (app 1 ([] : List UInt8) p0b).bind fun (x1 : (List UInt8)) => (ref01xzigzag p1n).bind fun (x3 : Int) => ((loopO (ref01xPutInt_l1) ((x1, x3))) : Option ((List UInt8) × Int)).bind fun (x5 : ((List UInt8) × Int)) => ((byteOf (IntKind.wrap .u8 x5.2)).bind fun (x16 : UInt8) => (app 1 x5.1 ([x16] : List UInt8)).bind fun (x18 : (List UInt8)) => some x18)
theorem w_ref01xPutInt {p0b : (List UInt8)} {p1n : Int} {res : (List UInt8)} (h : ref01xPutInt p0b p1n = some res) : ACalls Try.prog 18 [.c (PV.ls 1 brow p0b), .c (.int .i64 p1n)] [] (AV.os 0 1 brow res) [] := by
  unfold ref01xPutInt at h
  refine acalls (fn := Try.f18) [0, 1, 4, 5, 6, 13] (by kernel_rfl) Try.func18 rfl (by kernel_rfl) (by kernel_rfl) ?_
  refine w_seqw ?_
  refine w_region ?_
  refine o_p rfl (p_assign (v := .nil) rfl) ?_
  refine o_end (fr' := [(0, .c (PV.ls _ _ _)), (1, .c (.int _ _)), (4, .nil), (5, .any), (6, .any), (13, .any)]) rfl ?_
  refine e_kw ?_
  refine w_seqw ?_
  refine w_region ?_
  refine o_rows (row := brow) (xs := ([] : List UInt8)) (rows := []) (σ' := []) [0] ts22 rfl rfl rfl arow_nil rfl rfl ?_
  refine o_p rfl (p_move (v := .c (PV.ls _ _ _)) rfl) ?_
  obtain ⟨x1, hx1, h2⟩ := bind_s h
  refine o_app (row := brow) ts22 rfl ti22 rfl (isl_c rfl) (fun _ => rfl) hx1 ?_
  refine o_p rfl (p_assign (v := AV.os _ _ _ _) rfl) ?_
  refine o_end (fr' := [(0, .c (PV.ls _ _ _)), (1, .c (.int _ _)), (4, .nil), (5, AV.os _ _ _ _), (6, .any), (13, .any)]) rfl ?_
  refine e_kw ?_
  refine w_seqw ?_
  refine w_region ?_
  refine o_p rfl (p_move (v := .c (.int _ _)) rfl) ?_
  obtain ⟨x3, hx3, h4⟩ := bind_s h2
  refine o_v (ov_call (v := .c (.int _ _)) rfl (w_ref01xzigzag hx3) ⟨(AV.le_refl _), trivial⟩ rfl rfl rfl) ?_
  refine o_p rfl (p_assign (v := .c (.int _ _)) rfl) ?_
  refine o_end (fr' := [(0, .c (PV.ls _ _ _)), (1, .c (.int _ _)), (4, .nil), (5, AV.os _ _ _ _), (6, .c (.int _ _)), (13, .any)]) rfl ?_
  refine e_kw ?_
  obtain ⟨x5, hx5, h6⟩ := bind_s h4
  refine w_join (fun j7 => x5 = j7) (fun (j7 : ((List UInt8) × Int)) => ([(5, AV.os 0 1 brow j7.1), (6, .c (.int .u64 j7.2))] : Fr)) (fun (j7 : ((List UInt8) × Int)) => ([] : St)) ?_ ?_
  · skip
    refine w_block ?_
    refine w_loopo _ (fun (s8 : ((List UInt8) × Int)) => ([(5, AV.os 0 1 brow s8.1), (6, .c (.int .u64 s8.2))] : Fr)) (fun (s8 : ((List UInt8) × Int)) => ([] : St)) hx5 (w_weak [144] 0 rfl rfl rfl rfl ⟨(AV.le_refl _), (AV.le_refl _), trivial⟩ st_nil) ?_
    intro s8 st8 hs8 ho8
    unfold ref01xPutInt_l1 at hs8
    refine w_seqw ?_
    refine w_seqw ?_
    refine w_region ?_
    refine o_p rfl (p_move (v := .c (.int _ _)) rfl) ?_
    refine o_p rfl (p_gtr rfl rfl) ?_
    refine o_end (fr' := [(0, .any), (1, .any), (4, .any), (5, AV.os _ _ _ _), (6, .c (.int _ _)), (13, .c (.bool _))]) rfl ?_
    refine e_kw ?_
    refine w_cond _ rfl (fun hb9 => ?_) (fun hb9 => ?_)
    · skip
      have h9 := cond_t (b := (decide ((127 : Int) < s8.2))) hb9 hs8
      refine w_skip ?_
      refine e_kw ?_
      refine w_block ?_
      refine w_seqw ?_
      refine w_region ?_
      refine o_p rfl (p_move (v := AV.os _ _ _ _) rfl) ?_
      refine o_p rfl (p_move (v := .c (.int _ _)) rfl) ?_
      refine o_p rfl (p_rem rfl rfl (by decide)) ?_
      refine o_p rfl (p_add rfl rfl) ?_
      refine o_p rfl (p_conv tk81 tk5 rfl) ?_
      obtain ⟨x10, hx10, h11⟩ := bind_s h9
      refine o_rows (row := brow) (xs := ([x10] : List UInt8)) (rows := [[_]]) (σ' := []) [0] ts22 rfl rfl rfl (arow_cons (brow_of hx10) arow_nil) rfl rfl ?_
      obtain ⟨x12, hx12, h13⟩ := bind_s h11
      refine o_app (row := brow) ts22 rfl ti22 rfl (isl_o rfl) (fun _ => rfl) hx12 ?_
      refine o_p rfl (p_assign (v := AV.os _ _ _ _) rfl) ?_
      refine o_end (fr' := [(0, .any), (1, .any), (4, .any), (5, AV.os _ _ _ _), (6, .c (.int _ _)), (13, .c (.bool _))]) rfl ?_
      refine e_kw ?_
      refine w_region ?_
      refine o_p rfl (p_move (v := .c (.int _ _)) rfl) ?_
      refine o_p rfl (p_quo rfl rfl (by decide)) ?_
      refine o_p rfl (p_assign (v := .c (.int _ _)) rfl) ?_
      refine o_end (fr' := [(0, .any), (1, .any), (4, .any), (5, AV.os _ _ _ _), (6, .c (.int _ _)), (13, .c (.bool _))]) rfl ?_
      refine e_blk_n ?_
      exact e_l _ (Option.some.inj h13).symm (w_weak [320] 0 rfl rfl rfl rfl ⟨(AV.le_refl _), (AV.le_refl _), trivial⟩ st_nil)
    · skip
      have h9 := cond_f (b := (decide ((127 : Int) < s8.2))) hb9 hs8
      refine w_exit ?_
      refine e_seq_x ?_
      refine e_seq_x ?_
      refine e_blk_h ?_
      have h14 := un_out h9 ho8
      exact e_j _ (Option.some.inj h14).symm (w_weak [0] 0 rfl rfl rfl rfl ⟨(AV.le_refl _), (AV.le_refl _), trivial⟩ st_nil)
  · skip
    intro j7 hj15
    subst hj15
    refine w_seqw ?_
    refine w_region ?_
    refine o_p rfl (p_move (v := AV.os _ _ _ _) rfl) ?_
    refine o_p rfl (p_move (v := .c (.int _ _)) rfl) ?_
    refine o_p rfl (p_conv tk81 tk5 rfl) ?_
    obtain ⟨x16, hx16, h17⟩ := bind_s h6
    refine o_rows (row := brow) (xs := ([x16] : List UInt8)) (rows := [[_]]) (σ' := []) [0] ts22 rfl rfl rfl (arow_cons (brow_of hx16) arow_nil) rfl rfl ?_
    obtain ⟨x18, hx18, h19⟩ := bind_s h17
    refine o_app (row := brow) ts22 rfl ti22 rfl (isl_o rfl) (fun _ => rfl) hx18 ?_
    refine o_p rfl (p_assign (v := AV.os _ _ _ _) rfl) ?_
    refine o_end (fr' := [(0, .any), (1, .any), (4, .any), (5, AV.os _ _ _ _), (6, .c (.int _ _)), (13, .any)]) rfl ?_
    refine e_kw ?_
    refine w_seqw ?_
    refine w_region ?_
    refine o_p rfl (p_move (v := AV.os _ _ _ _) rfl) ?_
    refine o_p rfl (p_assign (v := AV.os _ _ _ _) rfl) ?_
    refine o_end (fr' := [(0, .any), (1, .any), (4, AV.os _ _ _ _), (5, AV.os _ _ _ _), (6, .c (.int _ _)), (13, .any)]) rfl ?_
    refine e_kw ?_
    refine w_ret ?_
    have he20 := Option.some.inj h19
    subst he20
    refine e_ret (rs' := [.tmp 4]) rfl ?_
    refine r_tmp (v := AV.os _ _ _ _) rfl ?_
    refine r_nil ?_
    exact fin_gen [432] rfl rfl rfl (AV.le_refl _) st_nil
noncomputable def wire_Reader_Left (p100v : WireReader) : Option Int :=
  (wire_Reader_dead p100v).bind fun (x1 : Bool) => cond x1 (some (0 : Int)) (some (IntKind.wrap .i64 (((p100v.b_).length : Int) - p100v.at_)))
theorem w_wire_Reader_Left {p100v : WireReader} {res : Int} (h : wire_Reader_Left p100v = some res) : ACalls Try.prog 21 [.box 0 0] [AV.cs (rowWireReader p100v)] (.c (.int .i64 res)) [AV.cs (rowWireReader p100v)] := by
  unfold wire_Reader_Left at h
  refine acalls (fn := Try.f21) [0, 2, 4] (by kernel_rfl) Try.func21 rfl (by kernel_rfl) (by kernel_rfl) ?_
  refine w_seqw ?_
  refine w_region ?_
  refine o_p rfl (p_assign (v := .c (.int _ _)) rfl) ?_
  refine o_end (fr' := [(0, .box 0 0), (2, .c (.int _ _)), (4, .any)]) rfl ?_
  refine e_kw ?_
  refine w_seqw ?_
  refine w_seqw ?_
  refine w_region ?_
  refine o_p rfl (p_move (v := .box 0 0) rfl) ?_
  obtain ⟨x1, hx1, h2⟩ := bind_s h
  refine o_call (v := .c (.bool _)) (σ' := [[.c (PV.ls _ _ _), .c (.int _ _), .c (.int _ _), .c (.bool _)]]) [0] rfl (w_wire_Reader_dead hx1) rfl rfl ⟨(AV.le_refl _), trivial⟩ (st_c ⟨rfl, rfl, rfl, rfl, trivial⟩ st_nil) rfl rfl rfl ?_
  refine o_end (fr' := [(0, .box 0 0), (2, .c (.int _ _)), (4, .c (.bool _))]) rfl ?_
  refine e_kw ?_
  refine w_cond _ rfl (fun hb3 => ?_) (fun hb3 => ?_)
  · skip
    have h3 := cond_t (b := x1) hb3 h2
    refine w_seqw ?_
    refine w_region ?_
    refine o_p rfl (p_assign (v := .c (.int _ _)) rfl) ?_
    refine o_end (fr' := [(0, .box 0 0), (2, .c (.int _ _)), (4, .c (.bool _))]) rfl ?_
    refine e_kw ?_
    refine w_ret ?_
    refine e_seq_r ?_
    have he4 := Option.some.inj h3
    subst he4
    refine e_ret (rs' := [.tmp 2]) rfl ?_
    refine r_tmp (v := .c (.int _ _)) rfl ?_
    refine r_nil ?_
    exact fin_gen [] rfl rfl rfl (AV.le_refl _) (st_r rfl st_nil)
  · skip
    have h3 := cond_f (b := x1) hb3 h2
    refine w_skip ?_
    refine e_kw ?_
    refine w_seqw ?_
    refine w_planT [.q 0, .q 1, .q 2, .q 3, .q 4, .q 5, .q 6, .q 7, .q 8, .q 9, .n 10 []] [(some 5, [0]), (some 6, [5]), (some 7, [6]), (some 8, [7]), (some 9, [8]), (some 10, [0]), (some 11, [10]), (some 12, [11]), (some 13, [12]), (some 14, [9, 13]), (some 2, [14])] [0, 1, 3, 7, 15, 0, 32, 96, 224, 511, 1023] (by kernel_rfl) ?_
    refine d_q rfl (qv_p rfl (p_move (v := .box 0 0) rfl)) ?_
    refine d_q rfl (qv_p rfl (p_nc rfl)) ?_
    refine d_q rfl (qv_p rfl (p_fa tf60x0 rfl)) ?_
    refine d_q rfl (qv_p rfl (p_load (v := .c (PV.ls _ _ _)) tv22 rfl rfl rfl)) ?_
    refine d_q rfl (qv_p rfl (p_len ti22 (isl_c rfl))) ?_
    refine d_q rfl (qv_p rfl (p_move (v := .box 0 0) rfl)) ?_
    refine d_q rfl (qv_p rfl (p_nc rfl)) ?_
    refine d_q rfl (qv_p rfl (p_fa tf60x1 rfl)) ?_
    refine d_q rfl (qv_p rfl (p_load (v := .c (.int _ _)) tv3 rfl rfl rfl)) ?_
    refine d_q rfl (qv_p rfl (p_sub rfl rfl)) ?_
    refine d_n rfl ?_ rfl
    refine o_p rfl (p_assign (v := .c (.int _ _)) rfl) ?_
    refine o_rc ?_
    refine ⟨rc_nil, ?_⟩
    refine d_end (fr' := [(0, .box 0 0), (2, .c (.int _ _)), (4, .c (.bool _))]) rfl ?_
    refine e_kw ?_
    refine w_ret ?_
    have he5 := Option.some.inj h3
    subst he5
    refine e_ret (rs' := [.tmp 2]) rfl ?_
    refine r_tmp (v := .c (.int _ _)) rfl ?_
    refine r_nil ?_
    exact fin_gen [] rfl rfl rfl (AV.le_refl _) (st_r rfl st_nil)
noncomputable def law01xWireRange (p0n : Int) (p1low : Int) (p2high : Int) : Option Bool :=
  (ref01xPutInt ([] : List UInt8) p0n).bind fun (x1 : (List UInt8)) => (wire_Open x1).bind fun (x3 : WireReader) => (wire_Reader_Int p1low p2high x3).bind fun (x5 : (Int × WireReader)) => cond (cond (decide (p1low ≤ p0n)) (decide (p0n ≤ p2high)) false) (cond (decide (x5.1 = p0n)) ((wire_Reader_Err x5.2).bind fun (x9 : Int) => cond (decide (x9 = (0 : Int))) ((law01xworks).bind fun (x12 : Bool) => some x12) (some false)) (some false)) (cond (decide (x5.1 = (0 : Int))) ((wire_Reader_Err x5.2).bind fun (x18 : Int) => cond (decide (x18 = (14 : Int))) ((wire_Reader_Left x5.2).bind fun (x21 : Int) => cond (decide (x21 = (0 : Int))) ((law01xworks).bind fun (x24 : Bool) => some x24) (some false)) (some false)) (some false))
theorem w_law01xWireRange {p0n : Int} {p1low : Int} {p2high : Int} {res : Bool} (h : law01xWireRange p0n p1low p2high = some res) : ACalls Try.prog 4 [.c (.int .i64 p0n), .c (.int .i64 p1low), .c (.int .i64 p2high)] [] (.c (.bool res)) [] := by
  unfold law01xWireRange at h
  refine acalls (fn := Try.f4) [0, 1, 2, 6, 7, 8, 13, 25] (by kernel_rfl) Try.func4 rfl (by kernel_rfl) (by kernel_rfl) ?_
  refine w_seqw ?_
  refine w_region ?_
  refine o_p rfl (p_assign (v := .c (.bool _)) rfl) ?_
  refine o_end (fr' := [(0, .c (.int _ _)), (1, .c (.int _ _)), (2, .c (.int _ _)), (6, .c (.bool _)), (7, .any), (8, .any), (13, .any), (25, .any)]) rfl ?_
  refine e_kw ?_
  refine w_seqw ?_
  refine w_region ?_
  refine o_p rfl (p_move (v := .c (.int _ _)) rfl) ?_
  obtain ⟨x1, hx1, h2⟩ := bind_s h
  refine o_v (ov_call (v := AV.os _ _ _ _) rfl (w_ref01xPutInt hx1) ⟨le_nls, (AV.le_refl _), trivial⟩ rfl rfl rfl) ?_
  obtain ⟨x3, hx3, h4⟩ := bind_s h2
  refine o_call (v := .box 0 0) (σ' := [[.c (PV.ls _ _ _), .c (.int _ _), .c (.int _ _), .c (.bool _)]]) [] rfl (w_wire_Open hx3) rfl rfl ⟨(AV.le_refl _), trivial⟩ st_nil rfl rfl rfl ?_
  refine o_p rfl (p_assign (v := .box 0 0) rfl) ?_
  refine o_end (fr' := [(0, .c (.int _ _)), (1, .c (.int _ _)), (2, .c (.int _ _)), (6, .c (.bool _)), (7, .box 0 0), (8, .any), (13, .any), (25, .any)]) rfl ?_
  refine e_kw ?_
  refine w_seqw ?_
  refine w_seqw ?_
  refine w_region ?_
  refine o_p rfl (p_move (v := .box 0 0) rfl) ?_
  refine o_p rfl (p_peql ti27 rfl rfl) ?_
  refine o_end (fr' := [(0, .c (.int _ _)), (1, .c (.int _ _)), (2, .c (.int _ _)), (6, .c (.bool _)), (7, .box 0 0), (8, .any), (13, .c (.bool _)), (25, .any)]) rfl ?_
  refine e_kw ?_
  refine w_cond_f rfl ?_
  refine w_skip ?_
  refine e_kw ?_
  refine w_seqw ?_
  refine w_region ?_
  refine o_p rfl (p_move (v := .box 0 0) rfl) ?_
  refine o_p rfl (p_move (v := .c (.int _ _)) rfl) ?_
  refine o_p rfl (p_move (v := .c (.int _ _)) rfl) ?_
  obtain ⟨x5, hx5, h6⟩ := bind_s h4
  refine o_call (v := .c (.int _ _)) (σ' := [[.c (PV.ls _ _ _), .c (.int _ _), .c (.int _ _), .c (.bool _)]]) [0] rfl (w_wire_Reader_Int hx5) rfl rfl ⟨(AV.le_refl _), (AV.le_refl _), (AV.le_refl _), trivial⟩ (st_c ⟨rfl, rfl, rfl, rfl, trivial⟩ st_nil) rfl rfl rfl ?_
  refine o_p rfl (p_assign (v := .c (.int _ _)) rfl) ?_
  refine o_end (fr' := [(0, .c (.int _ _)), (1, .c (.int _ _)), (2, .c (.int _ _)), (6, .c (.bool _)), (7, .box 0 0), (8, .c (.int _ _)), (13, .c (.bool _)), (25, .any)]) rfl ?_
  refine e_kw ?_
  refine w_seqw ?_
  refine w_seqw ?_
  refine w_region ?_
  refine o_p rfl (p_move (v := .c (.int _ _)) rfl) ?_
  refine o_p rfl (p_move (v := .c (.int _ _)) rfl) ?_
  refine o_p rfl (p_leq rfl rfl) ?_
  refine o_p rfl (p_move (v := .c (.bool _)) rfl) ?_
  refine o_g rfl rfl (fun hc => ov_p rfl (p_move (v := .c (.int _ _)) rfl)) ?_
  refine o_g rfl rfl (fun hc => ov_p rfl (p_move (v := .c (.int _ _)) rfl)) ?_
  refine o_g rfl rfl (fun hc => ov_p rfl (p_leq (gx rfl hc) (gx rfl hc))) ?_
  refine o_p rfl (p_picky rfl rfl rfl (fun e => keq e)) ?_
  refine o_end (fr' := [(0, .c (.int _ _)), (1, .c (.int _ _)), (2, .c (.int _ _)), (6, .c (.bool _)), (7, .box 0 0), (8, .c (.int _ _)), (13, .c (.bool _)), (25, .c (.bool _))]) rfl ?_
  refine e_kw ?_
  refine w_cond _ rfl (fun hb7 => ?_) (fun hb7 => ?_)
  · skip
    have h7 := cond_t (b := (cond (decide (p1low ≤ p0n)) (decide (p0n ≤ p2high)) false)) hb7 h6
    refine w_seqw ?_
    refine w_region ?_
    refine o_p rfl (p_move (v := .c (.int _ _)) rfl) ?_
    refine o_p rfl (p_move (v := .c (.int _ _)) rfl) ?_
    refine o_p rfl (p_eql rfl rfl) ?_
    refine o_p rfl (p_move (v := .c (.bool _)) rfl) ?_
    rcases Bool.eq_false_or_eq_true (decide (x5.1 = p0n)) with hb8 | hb8
    · skip
      have h8 := cond_t hb8 h7
      refine o_yes rfl rfl hb8 ?_
      refine o_p rfl (p_move (v := .box 0 0) rfl) ?_
      refine o_yes rfl rfl hb8 ?_
      obtain ⟨x9, hx9, h10⟩ := bind_s h8
      refine o_call (v := .c (.int _ _)) (σ' := [[.c (PV.ls _ _ _), .c (.int _ _), .c (.int _ _), .c (.bool _)]]) [0] rfl (w_wire_Reader_Err hx9) rfl rfl ⟨(AV.le_refl _), trivial⟩ (st_c ⟨rfl, rfl, rfl, rfl, trivial⟩ st_nil) (ok_eq (by repeat (first | exact ok_nil | refine ok_cons rfl ?_ | refine ok_cons (dgv rfl) ?_))) rfl rfl ?_
      refine o_yes rfl rfl hb8 ?_
      refine o_p rfl (p_eql rfl rfl) ?_
      refine o_p rfl (p_pick_t rfl hb8 rfl) ?_
      refine o_p rfl (p_move (v := .c (.bool _)) rfl) ?_
      rcases Bool.eq_false_or_eq_true (decide (x9 = (0 : Int))) with hb11 | hb11
      · skip
        have h11 := cond_t hb11 h10
        refine o_yes rfl rfl hb11 ?_
        obtain ⟨x12, hx12, h13⟩ := bind_s h11
        refine o_v (ov_call (v := .c (.bool _)) rfl (w_law01xworks hx12) trivial (ok_eq (by repeat (first | exact ok_nil | refine ok_cons rfl ?_ | refine ok_cons (dgv rfl) ?_))) rfl rfl) ?_
        refine o_p rfl (p_pick_t rfl hb11 rfl) ?_
        refine o_p rfl (p_assign (v := .c (.bool _)) rfl) ?_
        refine o_end (fr' := [(0, .c (.int _ _)), (1, .c (.int _ _)), (2, .c (.int _ _)), (6, .c (.bool _)), (7, .box 0 0), (8, .c (.int _ _)), (13, .c (.bool _)), (25, .c (.bool _))]) rfl ?_
        refine e_kw ?_
        refine w_ret ?_
        refine e_seq_r ?_
        have he14 := Option.some.inj h13
        subst he14
        refine e_ret (rs' := [.tmp 6]) rfl ?_
        refine r_tmp (v := .c (.bool _)) rfl ?_
        refine r_nil ?_
        exact fin_gen [] rfl rfl rfl (AV.le_refl _) st_nil
      · skip
        have h11 := cond_f hb11 h10
        refine o_no rfl rfl hb11 ?_
        refine o_p rfl (p_pick_f rfl hb11 rfl) ?_
        refine o_p rfl (p_assign (v := .c (.bool _)) rfl) ?_
        refine o_end (fr' := [(0, .c (.int _ _)), (1, .c (.int _ _)), (2, .c (.int _ _)), (6, .c (.bool _)), (7, .box 0 0), (8, .c (.int _ _)), (13, .c (.bool _)), (25, .c (.bool _))]) rfl ?_
        refine e_kw ?_
        refine w_ret ?_
        refine e_seq_r ?_
        have he15 := Option.some.inj h11
        subst he15
        refine e_ret (rs' := [.tmp 6]) rfl ?_
        refine r_tmp (v := .c (.bool _)) rfl ?_
        refine r_nil ?_
        exact fin_gen [] rfl rfl rfl (AV.le_refl _) st_nil
    · skip
      have h8 := cond_f hb8 h7
      refine o_no rfl rfl hb8 ?_
      refine o_no rfl rfl hb8 ?_
      refine o_no rfl rfl hb8 ?_
      refine o_p rfl (p_pick_f rfl hb8 rfl) ?_
      refine o_p rfl (p_move (v := .c (.bool _)) rfl) ?_
      refine o_no rfl rfl rfl ?_
      refine o_p rfl (p_pick_f rfl rfl rfl) ?_
      refine o_p rfl (p_assign (v := .c (.bool _)) rfl) ?_
      refine o_end (fr' := [(0, .c (.int _ _)), (1, .c (.int _ _)), (2, .c (.int _ _)), (6, .c (.bool _)), (7, .box 0 0), (8, .c (.int _ _)), (13, .c (.bool _)), (25, .c (.bool _))]) rfl ?_
      refine e_kw ?_
      refine w_ret ?_
      refine e_seq_r ?_
      have he16 := Option.some.inj h8
      subst he16
      refine e_ret (rs' := [.tmp 6]) rfl ?_
      refine r_tmp (v := .c (.bool _)) rfl ?_
      refine r_nil ?_
      exact fin_gen [] rfl rfl rfl (AV.le_refl _) st_nil
  · skip
    have h7 := cond_f (b := (cond (decide (p1low ≤ p0n)) (decide (p0n ≤ p2high)) false)) hb7 h6
    refine w_skip ?_
    refine e_kw ?_
    refine w_seqw ?_
    refine w_region ?_
    refine o_p rfl (p_move (v := .c (.int _ _)) rfl) ?_
    refine o_p rfl (p_eql rfl rfl) ?_
    refine o_p rfl (p_move (v := .c (.bool _)) rfl) ?_
    rcases Bool.eq_false_or_eq_true (decide (x5.1 = (0 : Int))) with hb17 | hb17
    · skip
      have h17 := cond_t hb17 h7
      refine o_yes rfl rfl hb17 ?_
      refine o_p rfl (p_move (v := .box 0 0) rfl) ?_
      refine o_yes rfl rfl hb17 ?_
      obtain ⟨x18, hx18, h19⟩ := bind_s h17
      refine o_call (v := .c (.int _ _)) (σ' := [[.c (PV.ls _ _ _), .c (.int _ _), .c (.int _ _), .c (.bool _)]]) [0] rfl (w_wire_Reader_Err hx18) rfl rfl ⟨(AV.le_refl _), trivial⟩ (st_c ⟨rfl, rfl, rfl, rfl, trivial⟩ st_nil) (ok_eq (by repeat (first | exact ok_nil | refine ok_cons rfl ?_ | refine ok_cons (dgv rfl) ?_))) rfl rfl ?_
      refine o_yes rfl rfl hb17 ?_
      refine o_p rfl (p_eql rfl rfl) ?_
      refine o_p rfl (p_pick_t rfl hb17 rfl) ?_
      refine o_p rfl (p_move (v := .c (.bool _)) rfl) ?_
      rcases Bool.eq_false_or_eq_true (decide (x18 = (14 : Int))) with hb20 | hb20
      · skip
        have h20 := cond_t hb20 h19
        refine o_yes rfl rfl hb20 ?_
        refine o_p rfl (p_move (v := .box 0 0) rfl) ?_
        refine o_yes rfl rfl hb20 ?_
        obtain ⟨x21, hx21, h22⟩ := bind_s h20
        refine o_call (v := .c (.int _ _)) (σ' := [[.c (PV.ls _ _ _), .c (.int _ _), .c (.int _ _), .c (.bool _)]]) [0] rfl (w_wire_Reader_Left hx21) rfl rfl ⟨(AV.le_refl _), trivial⟩ (st_c ⟨rfl, rfl, rfl, rfl, trivial⟩ st_nil) (ok_eq (by repeat (first | exact ok_nil | refine ok_cons rfl ?_ | refine ok_cons (dgv rfl) ?_))) rfl rfl ?_
        refine o_yes rfl rfl hb20 ?_
        refine o_p rfl (p_eql rfl rfl) ?_
        refine o_p rfl (p_pick_t rfl hb20 rfl) ?_
        refine o_p rfl (p_move (v := .c (.bool _)) rfl) ?_
        rcases Bool.eq_false_or_eq_true (decide (x21 = (0 : Int))) with hb23 | hb23
        · skip
          have h23 := cond_t hb23 h22
          refine o_yes rfl rfl hb23 ?_
          obtain ⟨x24, hx24, h25⟩ := bind_s h23
          refine o_v (ov_call (v := .c (.bool _)) rfl (w_law01xworks hx24) trivial (ok_eq (by repeat (first | exact ok_nil | refine ok_cons rfl ?_ | refine ok_cons (dgv rfl) ?_))) rfl rfl) ?_
          refine o_p rfl (p_pick_t rfl hb23 rfl) ?_
          refine o_p rfl (p_assign (v := .c (.bool _)) rfl) ?_
          refine o_end (fr' := [(0, .c (.int _ _)), (1, .c (.int _ _)), (2, .c (.int _ _)), (6, .c (.bool _)), (7, .box 0 0), (8, .c (.int _ _)), (13, .c (.bool _)), (25, .c (.bool _))]) rfl ?_
          refine e_kw ?_
          refine w_ret ?_
          have he26 := Option.some.inj h25
          subst he26
          refine e_ret (rs' := [.tmp 6]) rfl ?_
          refine r_tmp (v := .c (.bool _)) rfl ?_
          refine r_nil ?_
          exact fin_gen [] rfl rfl rfl (AV.le_refl _) st_nil
        · skip
          have h23 := cond_f hb23 h22
          refine o_no rfl rfl hb23 ?_
          refine o_p rfl (p_pick_f rfl hb23 rfl) ?_
          refine o_p rfl (p_assign (v := .c (.bool _)) rfl) ?_
          refine o_end (fr' := [(0, .c (.int _ _)), (1, .c (.int _ _)), (2, .c (.int _ _)), (6, .c (.bool _)), (7, .box 0 0), (8, .c (.int _ _)), (13, .c (.bool _)), (25, .c (.bool _))]) rfl ?_
          refine e_kw ?_
          refine w_ret ?_
          have he27 := Option.some.inj h23
          subst he27
          refine e_ret (rs' := [.tmp 6]) rfl ?_
          refine r_tmp (v := .c (.bool _)) rfl ?_
          refine r_nil ?_
          exact fin_gen [] rfl rfl rfl (AV.le_refl _) st_nil
      · skip
        have h20 := cond_f hb20 h19
        refine o_no rfl rfl hb20 ?_
        refine o_no rfl rfl hb20 ?_
        refine o_no rfl rfl hb20 ?_
        refine o_p rfl (p_pick_f rfl hb20 rfl) ?_
        refine o_p rfl (p_move (v := .c (.bool _)) rfl) ?_
        refine o_no rfl rfl rfl ?_
        refine o_p rfl (p_pick_f rfl rfl rfl) ?_
        refine o_p rfl (p_assign (v := .c (.bool _)) rfl) ?_
        refine o_end (fr' := [(0, .c (.int _ _)), (1, .c (.int _ _)), (2, .c (.int _ _)), (6, .c (.bool _)), (7, .box 0 0), (8, .c (.int _ _)), (13, .c (.bool _)), (25, .c (.bool _))]) rfl ?_
        refine e_kw ?_
        refine w_ret ?_
        have he28 := Option.some.inj h20
        subst he28
        refine e_ret (rs' := [.tmp 6]) rfl ?_
        refine r_tmp (v := .c (.bool _)) rfl ?_
        refine r_nil ?_
        exact fin_gen [] rfl rfl rfl (AV.le_refl _) st_nil
    · skip
      have h17 := cond_f hb17 h7
      refine o_no rfl rfl hb17 ?_
      refine o_no rfl rfl hb17 ?_
      refine o_no rfl rfl hb17 ?_
      refine o_p rfl (p_pick_f rfl hb17 rfl) ?_
      refine o_p rfl (p_move (v := .c (.bool _)) rfl) ?_
      refine o_no rfl rfl rfl ?_
      refine o_no rfl rfl rfl ?_
      refine o_no rfl rfl rfl ?_
      refine o_p rfl (p_pick_f rfl rfl rfl) ?_
      refine o_p rfl (p_move (v := .c (.bool _)) rfl) ?_
      refine o_no rfl rfl rfl ?_
      refine o_p rfl (p_pick_f rfl rfl rfl) ?_
      refine o_p rfl (p_assign (v := .c (.bool _)) rfl) ?_
      refine o_end (fr' := [(0, .c (.int _ _)), (1, .c (.int _ _)), (2, .c (.int _ _)), (6, .c (.bool _)), (7, .box 0 0), (8, .c (.int _ _)), (13, .c (.bool _)), (25, .c (.bool _))]) rfl ?_
      refine e_kw ?_
      refine w_ret ?_
      have he29 := Option.some.inj h17
      subst he29
      refine e_ret (rs' := [.tmp 6]) rfl ?_
      refine r_tmp (v := .c (.bool _)) rfl ?_
      refine r_nil ?_
      exact fin_gen [] rfl rfl rfl (AV.le_refl _) st_nil
noncomputable def ref01xPutText_l1 (p1s : (List UInt8)) (s6 : ((List UInt8) × Int)) : Option (Step ((List UInt8) × Int) (List UInt8)) :=
  cond (decide (s6.2 < ((p1s).length : Int))) ((idx p1s s6.2).bind fun (x8 : UInt8) => (byteOf ((x8).toNat : Int)).bind fun (x10 : UInt8) => (app 1 s6.1 ([x10] : List UInt8)).bind fun (x12 : (List UInt8)) => some (Step.next (x12, (IntKind.wrap .i64 (s6.2 + (1 : Int)))))) (some (Step.out s6.1))
noncomputable def ref01xPutText (p0b : (List UInt8)) (p1s : (List UInt8)) : Option (List UInt8) :=
  (ref01xPutInt p0b ((p1s).length : Int)).bind fun (x1 : (List UInt8)) => ((loopO (ref01xPutText_l1 p1s) ((x1, (0 : Int)))) : Option (List UInt8)).bind fun (x3 : (List UInt8)) => (some x3)
theorem w_ref01xPutText {p0b : (List UInt8)} {p1s : (List UInt8)} {res : (List UInt8)} (h : ref01xPutText p0b p1s = some res) : ACalls Try.prog 23 [.c (PV.ls 1 brow p0b), .c (.str p1s)] [] (AV.os 0 1 brow res) [] := by
  unfold ref01xPutText at h
  refine acalls (fn := Try.f23) [0, 1, 4, 5, 6, 14] (by kernel_rfl) Try.func23 rfl (by kernel_rfl) (by kernel_rfl) ?_
  refine w_seqw ?_
  refine w_region ?_
  refine o_p rfl (p_assign (v := .nil) rfl) ?_
  refine o_end (fr' := [(0, .c (PV.ls _ _ _)), (1, .c (.str _)), (4, .nil), (5, .any), (6, .any), (14, .any)]) rfl ?_
  refine e_kw ?_
  refine w_seqw ?_
  refine w_region ?_
  refine o_p rfl (p_move (v := .c (PV.ls _ _ _)) rfl) ?_
  refine o_p rfl (p_move (v := .c (.str _)) rfl) ?_
  refine o_p rfl (p_lens ti9 rfl) ?_
  obtain ⟨x1, hx1, h2⟩ := bind_s h
  refine o_v (ov_call (v := AV.os _ _ _ _) rfl (w_ref01xPutInt hx1) ⟨(AV.le_refl _), (AV.le_refl _), trivial⟩ rfl rfl rfl) ?_
  refine o_p rfl (p_assign (v := AV.os _ _ _ _) rfl) ?_
  refine o_end (fr' := [(0, .c (PV.ls _ _ _)), (1, .c (.str _)), (4, .nil), (5, AV.os _ _ _ _), (6, .any), (14, .any)]) rfl ?_
  refine e_kw ?_
  refine w_seqw ?_
  refine w_seqw ?_
  refine w_region ?_
  refine o_p rfl (p_assign (v := .c (.int _ _)) rfl) ?_
  refine o_end (fr' := [(0, .c (PV.ls _ _ _)), (1, .c (.str _)), (4, .nil), (5, AV.os _ _ _ _), (6, .c (.int _ _)), (14, .any)]) rfl ?_
  refine e_kw ?_
  obtain ⟨x3, hx3, h4⟩ := bind_s h2
  refine w_jtail cl_kw (fun j5 => x3 = j5) (fun (j5 : (List UInt8)) => ([(5, AV.os 0 1 brow j5)] : Fr)) (fun (j5 : (List UInt8)) => ([] : St)) ?_ ?_
  · skip
    refine w_block ?_
    refine w_loopo _ (fun (s6 : ((List UInt8) × Int)) => ([(1, .c (.str p1s)), (5, AV.os 0 1 brow s6.1), (6, .c (.int .i64 s6.2))] : Fr)) (fun (s6 : ((List UInt8) × Int)) => ([] : St)) hx3 (w_weak [160] 0 rfl rfl rfl rfl ⟨(AV.le_refl _), (AV.le_refl _), (AV.le_refl _), trivial⟩ st_nil) ?_
    intro s6 st6 hs6 ho6
    unfold ref01xPutText_l1 at hs6
    refine w_seqw ?_
    refine w_seqw ?_
    refine w_region ?_
    refine o_p rfl (p_move (v := .c (.int _ _)) rfl) ?_
    refine o_p rfl (p_move (v := .c (.str _)) rfl) ?_
    refine o_p rfl (p_lens ti9 rfl) ?_
    refine o_p rfl (p_lss rfl rfl) ?_
    refine o_end (fr' := [(0, .any), (1, .c (.str _)), (4, .any), (5, AV.os _ _ _ _), (6, .c (.int _ _)), (14, .c (.bool _))]) rfl ?_
    refine e_kw ?_
    refine w_cond _ rfl (fun hb7 => ?_) (fun hb7 => ?_)
    · skip
      have h7 := cond_t (b := (decide (s6.2 < ((p1s).length : Int)))) hb7 hs6
      refine w_skip ?_
      refine e_kw ?_
      refine w_seqw ?_
      refine w_block ?_
      refine w_region ?_
      refine o_p rfl (p_move (v := AV.os _ _ _ _) rfl) ?_
      refine o_p rfl (p_move (v := .c (.str _)) rfl) ?_
      refine o_p rfl (p_move (v := .c (.int _ _)) rfl) ?_
      obtain ⟨x8, hx8, h9⟩ := bind_s h7
      refine o_p rfl (p_is ti9 rfl rfl hx8) ?_
      obtain ⟨x10, hx10, h11⟩ := bind_s h9
      refine o_rows (row := brow) (xs := ([x10] : List UInt8)) (rows := [[_]]) (σ' := []) [0] ts22 rfl rfl rfl (arow_cons (brow_of hx10) arow_nil) rfl rfl ?_
      obtain ⟨x12, hx12, h13⟩ := bind_s h11
      refine o_app (row := brow) ts22 rfl ti22 rfl (isl_o rfl) (fun _ => rfl) hx12 ?_
      refine o_p rfl (p_assign (v := AV.os _ _ _ _) rfl) ?_
      refine o_end (fr' := [(0, .any), (1, .c (.str _)), (4, .any), (5, AV.os _ _ _ _), (6, .c (.int _ _)), (14, .c (.bool _))]) rfl ?_
      refine e_blk_n ?_
      refine e_kw ?_
      refine w_region ?_
      refine o_p rfl (p_move (v := .c (.int _ _)) rfl) ?_
      refine o_p rfl (p_add rfl rfl) ?_
      refine o_p rfl (p_assign (v := .c (.int _ _)) rfl) ?_
      refine o_end (fr' := [(0, .any), (1, .c (.str _)), (4, .any), (5, AV.os _ _ _ _), (6, .c (.int _ _)), (14, .c (.bool _))]) rfl ?_
      exact e_l _ (Option.some.inj h13).symm (w_weak [352] 0 rfl rfl rfl rfl ⟨(AV.le_refl _), (AV.le_refl _), (AV.le_refl _), trivial⟩ st_nil)
    · skip
      have h7 := cond_f (b := (decide (s6.2 < ((p1s).length : Int)))) hb7 hs6
      refine w_exit ?_
      refine e_seq_x ?_
      refine e_seq_x ?_
      refine e_blk_h ?_
      have h14 := un_out h7 ho6
      exact e_j _ (Option.some.inj h14).symm (w_weak [0] 0 rfl rfl rfl rfl ⟨(AV.le_refl _), trivial⟩ st_nil)
  · skip
    intro j5 hj15
    subst hj15
    refine e_kw ?_
    refine w_seqw ?_
    refine w_region ?_
    refine o_p rfl (p_move (v := AV.os _ _ _ _) rfl) ?_
    refine o_p rfl (p_assign (v := AV.os _ _ _ _) rfl) ?_
    refine o_end (fr' := [(0, .any), (1, .any), (4, AV.os _ _ _ _), (5, AV.os _ _ _ _), (6, .any), (14, .any)]) rfl ?_
    refine e_kw ?_
    refine w_ret ?_
    have he16 := Option.some.inj h4
    subst he16
    refine e_ret (rs' := [.tmp 4]) rfl ?_
    refine r_tmp (v := AV.os _ _ _ _) rfl ?_
    refine r_nil ?_
    exact fin_gen [0] rfl rfl rfl (AV.le_refl _) st_nil
noncomputable def wire_PutBool (p0b : (List UInt8)) (p1yes : Bool) : Option (List UInt8) :=
  (slices_Clone_byte_byte p0b).bind fun (x1 : (List UInt8)) => cond p1yes ((byteOf (1 : Int)).bind fun (x4 : UInt8) => (app 1 x1 ([x4] : List UInt8)).bind fun (x6 : (List UInt8)) => some x6) ((byteOf (0 : Int)).bind fun (x9 : UInt8) => (app 1 x1 ([x9] : List UInt8)).bind fun (x11 : (List UInt8)) => some x11)
theorem w_wire_PutBool {p0b : (List UInt8)} {p1yes : Bool} {res : (List UInt8)} (h : wire_PutBool p0b p1yes = some res) : ACalls Try.prog 24 [.c (PV.ls 1 brow p0b), .c (.bool p1yes)] [] (AV.os 0 1 brow res) [] := by
  unfold wire_PutBool at h
  refine acalls (fn := Try.f24) [0, 1, 4, 5, 8] (by kernel_rfl) Try.func24 rfl (by kernel_rfl) (by kernel_rfl) ?_
  refine w_seqw ?_
  refine w_region ?_
  refine o_p rfl (p_assign (v := .nil) rfl) ?_
  refine o_end (fr' := [(0, .c (PV.ls _ _ _)), (1, .c (.bool _)), (4, .nil), (5, .any), (8, .any)]) rfl ?_
  refine e_kw ?_
  refine w_seqw ?_
  refine w_region ?_
  refine o_p rfl (p_move (v := .c (PV.ls _ _ _)) rfl) ?_
  obtain ⟨x1, hx1, h2⟩ := bind_s h
  refine o_v (ov_call (v := AV.os _ _ _ _) rfl (w_slices_Clone_byte_byte hx1) ⟨(AV.le_refl _), trivial⟩ rfl rfl rfl) ?_
  refine o_p rfl (p_assign (v := AV.os _ _ _ _) rfl) ?_
  refine o_end (fr' := [(0, .c (PV.ls _ _ _)), (1, .c (.bool _)), (4, .nil), (5, AV.os _ _ _ _), (8, .any)]) rfl ?_
  refine e_kw ?_
  refine w_seqw ?_
  refine w_seqw ?_
  refine w_region ?_
  refine o_p rfl (p_move (v := .c (.bool _)) rfl) ?_
  refine o_end (fr' := [(0, .c (PV.ls _ _ _)), (1, .c (.bool _)), (4, .nil), (5, AV.os _ _ _ _), (8, .c (.bool _))]) rfl ?_
  refine e_kw ?_
  refine w_cond _ rfl (fun hb3 => ?_) (fun hb3 => ?_)
  · skip
    have h3 := cond_t (b := p1yes) hb3 h2
    refine w_seqw ?_
    refine w_region ?_
    refine o_p rfl (p_move (v := AV.os _ _ _ _) rfl) ?_
    obtain ⟨x4, hx4, h5⟩ := bind_s h3
    refine o_rows (row := brow) (xs := ([x4] : List UInt8)) (rows := [[_]]) (σ' := []) [0] ts22 rfl rfl rfl (arow_cons (brow_of hx4) arow_nil) rfl rfl ?_
    obtain ⟨x6, hx6, h7⟩ := bind_s h5
    refine o_app (row := brow) ts22 rfl ti22 rfl (isl_o rfl) (fun _ => rfl) hx6 ?_
    refine o_p rfl (p_assign (v := AV.os _ _ _ _) rfl) ?_
    refine o_end (fr' := [(0, .c (PV.ls _ _ _)), (1, .c (.bool _)), (4, AV.os _ _ _ _), (5, .c (PV.ls _ _ _)), (8, .c (.bool _))]) rfl ?_
    refine e_kw ?_
    refine w_ret ?_
    refine e_seq_r ?_
    have he8 := Option.some.inj h7
    subst he8
    refine e_ret (rs' := [.tmp 4]) rfl ?_
    refine r_tmp (v := AV.os _ _ _ _) rfl ?_
    refine r_nil ?_
    exact fin_gen [176] rfl rfl rfl (AV.le_refl _) st_nil
  · skip
    have h3 := cond_f (b := p1yes) hb3 h2
    refine w_skip ?_
    refine e_kw ?_
    refine w_seqw ?_
    refine w_region ?_
    refine o_p rfl (p_move (v := AV.os _ _ _ _) rfl) ?_
    obtain ⟨x9, hx9, h10⟩ := bind_s h3
    refine o_rows (row := brow) (xs := ([x9] : List UInt8)) (rows := [[_]]) (σ' := []) [0] ts22 rfl rfl rfl (arow_cons (brow_of hx9) arow_nil) rfl rfl ?_
    obtain ⟨x11, hx11, h12⟩ := bind_s h10
    refine o_app (row := brow) ts22 rfl ti22 rfl (isl_o rfl) (fun _ => rfl) hx11 ?_
    refine o_p rfl (p_assign (v := AV.os _ _ _ _) rfl) ?_
    refine o_end (fr' := [(0, .c (PV.ls _ _ _)), (1, .c (.bool _)), (4, AV.os _ _ _ _), (5, .c (PV.ls _ _ _)), (8, .c (.bool _))]) rfl ?_
    refine e_kw ?_
    refine w_ret ?_
    have he13 := Option.some.inj h12
    subst he13
    refine e_ret (rs' := [.tmp 4]) rfl ?_
    refine r_tmp (v := AV.os _ _ _ _) rfl ?_
    refine r_nil ?_
    exact fin_gen [224] rfl rfl rfl (AV.le_refl _) st_nil
noncomputable def ref01xPutBool (p0b : (List UInt8)) (p1yes : Bool) : Option (List UInt8) :=
  (app 1 ([] : List UInt8) p0b).bind fun (x1 : (List UInt8)) => ((cond p1yes (some (1 : Int)) (some (0 : Int))) : Option Int).bind fun (x3 : Int) => ((byteOf x3).bind fun (x8 : UInt8) => (app 1 x1 ([x8] : List UInt8)).bind fun (x10 : (List UInt8)) => some x10)
theorem w_ref01xPutBool {p0b : (List UInt8)} {p1yes : Bool} {res : (List UInt8)} (h : ref01xPutBool p0b p1yes = some res) : ACalls Try.prog 25 [.c (PV.ls 1 brow p0b), .c (.bool p1yes)] [] (AV.os 0 1 brow res) [] := by
  unfold ref01xPutBool at h
  refine acalls (fn := Try.f25) [0, 1, 4, 5, 6, 10] (by kernel_rfl) Try.func25 rfl (by kernel_rfl) (by kernel_rfl) ?_
  refine w_seqw ?_
  refine w_region ?_
  refine o_p rfl (p_assign (v := .nil) rfl) ?_
  refine o_end (fr' := [(0, .c (PV.ls _ _ _)), (1, .c (.bool _)), (4, .nil), (5, .any), (6, .any), (10, .any)]) rfl ?_
  refine e_kw ?_
  refine w_seqw ?_
  refine w_region ?_
  refine o_rows (row := brow) (xs := ([] : List UInt8)) (rows := []) (σ' := []) [0] ts22 rfl rfl rfl arow_nil rfl rfl ?_
  refine o_p rfl (p_move (v := .c (PV.ls _ _ _)) rfl) ?_
  obtain ⟨x1, hx1, h2⟩ := bind_s h
  refine o_app (row := brow) ts22 rfl ti22 rfl (isl_c rfl) (fun _ => rfl) hx1 ?_
  refine o_p rfl (p_assign (v := AV.os _ _ _ _) rfl) ?_
  refine o_end (fr' := [(0, .c (PV.ls _ _ _)), (1, .c (.bool _)), (4, .nil), (5, AV.os _ _ _ _), (6, .any), (10, .any)]) rfl ?_
  refine e_kw ?_
  refine w_seqw ?_
  refine w_region ?_
  refine o_p rfl (p_assign (v := .c (.int _ _)) rfl) ?_
  refine o_end (fr' := [(0, .c (PV.ls _ _ _)), (1, .c (.bool _)), (4, .nil), (5, AV.os _ _ _ _), (6, .c (.int _ _)), (10, .any)]) rfl ?_
  refine e_kw ?_
  obtain ⟨x3, hx3, h4⟩ := bind_s h2
  refine w_join (fun j5 => x3 = j5) (fun (j5 : Int) => ([(5, AV.os 0 1 brow x1), (6, .c (.int .u8 j5))] : Fr)) (fun (j5 : Int) => ([] : St)) ?_ ?_
  · skip
    refine w_seqw ?_
    refine w_region ?_
    refine o_p rfl (p_move (v := .c (.bool _)) rfl) ?_
    refine o_end (fr' := [(0, .c (PV.ls _ _ _)), (1, .c (.bool _)), (4, .nil), (5, AV.os _ _ _ _), (6, .c (.int _ _)), (10, .c (.bool _))]) rfl ?_
    refine e_kw ?_
    refine w_cond _ rfl (fun hb6 => ?_) (fun hb6 => ?_)
    · skip
      have h6 := cond_t (b := p1yes) hb6 hx3
      refine w_region ?_
      refine o_p rfl (p_assign (v := .c (.int _ _)) rfl) ?_
      refine o_end (fr' := [(0, .c (PV.ls _ _ _)), (1, .c (.bool _)), (4, .nil), (5, AV.os _ _ _ _), (6, .c (.int _ _)), (10, .c (.bool _))]) rfl ?_
      exact e_j _ (Option.some.inj h6).symm (w_weak [144] 0 rfl rfl rfl rfl ⟨(AV.le_refl _), (AV.le_refl _), trivial⟩ st_nil)
    · skip
      have h6 := cond_f (b := p1yes) hb6 hx3
      refine w_skip ?_
      exact e_j _ (Option.some.inj h6).symm (w_weak [144] 0 rfl rfl rfl rfl ⟨(AV.le_refl _), (AV.le_refl _), trivial⟩ st_nil)
  · skip
    intro j5 hj7
    subst hj7
    refine w_seqw ?_
    refine w_region ?_
    refine o_p rfl (p_move (v := AV.os _ _ _ _) rfl) ?_
    refine o_p rfl (p_move (v := .c (.int _ _)) rfl) ?_
    obtain ⟨x8, hx8, h9⟩ := bind_s h4
    refine o_rows (row := brow) (xs := ([x8] : List UInt8)) (rows := [[_]]) (σ' := []) [0] ts22 rfl rfl rfl (arow_cons (brow_of hx8) arow_nil) rfl rfl ?_
    obtain ⟨x10, hx10, h11⟩ := bind_s h9
    refine o_app (row := brow) ts22 rfl ti22 rfl (isl_o rfl) (fun _ => rfl) hx10 ?_
    refine o_p rfl (p_assign (v := AV.os _ _ _ _) rfl) ?_
    refine o_end (fr' := [(0, .any), (1, .any), (4, .any), (5, AV.os _ _ _ _), (6, .c (.int _ _)), (10, .any)]) rfl ?_
    refine e_kw ?_
    refine w_seqw ?_
    refine w_region ?_
    refine o_p rfl (p_move (v := AV.os _ _ _ _) rfl) ?_
    refine o_p rfl (p_assign (v := AV.os _ _ _ _) rfl) ?_
    refine o_end (fr' := [(0, .any), (1, .any), (4, AV.os _ _ _ _), (5, AV.os _ _ _ _), (6, .c (.int _ _)), (10, .any)]) rfl ?_
    refine e_kw ?_
    refine w_ret ?_
    have he12 := Option.some.inj h11
    subst he12
    refine e_ret (rs' := [.tmp 4]) rfl ?_
    refine r_tmp (v := AV.os _ _ _ _) rfl ?_
    refine r_nil ?_
    exact fin_gen [224] rfl rfl rfl (AV.le_refl _) st_nil
noncomputable def law01xWirePuts (p0b : (List UInt8)) (p1n : Int) (p2s : (List UInt8)) (p3yes : Bool) : Option Bool :=
  cond (cond (decide ((100 : Int) < ((p0b).length : Int))) true (decide ((300 : Int) < ((p2s).length : Int)))) ((law01xworks).bind fun (x2 : Bool) => some x2) ((wire_PutInt p0b p1n).bind fun (x5 : (List UInt8)) => (ref01xPutInt p0b p1n).bind fun (x7 : (List UInt8)) => (law01xequal x5 x7).bind fun (x9 : Bool) => (gd (x9 == true) (wire_PutText p0b p2s)).bind fun (x11 : (List UInt8)) => (gd (x9 == true) (ref01xPutText p0b p2s)).bind fun (x13 : (List UInt8)) => (gd (x9 == true) (law01xequal x11 x13)).bind fun (x15 : Bool) => (gd ((cond x9 x15 false) == true) (wire_PutBool p0b p3yes)).bind fun (x17 : (List UInt8)) => (gd ((cond x9 x15 false) == true) (ref01xPutBool p0b p3yes)).bind fun (x19 : (List UInt8)) => (gd ((cond x9 x15 false) == true) (law01xequal x17 x19)).bind fun (x21 : Bool) => (gd ((cond (cond x9 x15 false) x21 false) == true) (law01xworks)).bind fun (x23 : Bool) => some (cond (cond (cond x9 x15 false) x21 false) x23 false))
theorem w_law01xWirePuts {p0b : (List UInt8)} {p1n : Int} {p2s : (List UInt8)} {p3yes : Bool} {res : Bool} (h : law01xWirePuts p0b p1n p2s p3yes = some res) : ACalls Try.prog 5 [.c (PV.ls 1 brow p0b), .c (.int .i64 p1n), .c (.str p2s), .c (.bool p3yes)] [] (.c (.bool res)) [] := by
  unfold law01xWirePuts at h
  refine acalls (fn := Try.f5) [0, 1, 2, 3, 8, 16] (by kernel_rfl) Try.func5 rfl (by kernel_rfl) (by kernel_rfl) ?_
  refine w_seqw ?_
  refine w_region ?_
  refine o_p rfl (p_assign (v := .c (.bool _)) rfl) ?_
  refine o_end (fr' := [(0, .c (PV.ls _ _ _)), (1, .c (.int _ _)), (2, .c (.str _)), (3, .c (.bool _)), (8, .c (.bool _)), (16, .any)]) rfl ?_
  refine e_kw ?_
  refine w_seqw ?_
  refine w_seqw ?_
  refine w_region ?_
  refine o_p rfl (p_move (v := .c (PV.ls _ _ _)) rfl) ?_
  refine o_p rfl (p_len ti22 (isl_c rfl)) ?_
  refine o_p rfl (p_gtr rfl rfl) ?_
  refine o_p rfl (p_move (v := .c (.bool _)) rfl) ?_
  refine o_g rfl rfl (fun hc => ov_p rfl (p_move (v := .c (.str _)) rfl)) ?_
  refine o_g rfl rfl (fun hc => ov_p rfl (p_lens ti9 (gx rfl hc))) ?_
  refine o_g rfl rfl (fun hc => ov_p rfl (p_gtr (gx rfl hc) rfl)) ?_
  refine o_p rfl (p_pickz rfl rfl rfl (fun e => keq e)) ?_
  refine o_end (fr' := [(0, .c (PV.ls _ _ _)), (1, .c (.int _ _)), (2, .c (.str _)), (3, .c (.bool _)), (8, .c (.bool _)), (16, .c (.bool _))]) rfl ?_
  refine e_kw ?_
  refine w_cond _ rfl (fun hb1 => ?_) (fun hb1 => ?_)
  · skip
    have h1 := cond_t (b := (cond (decide ((100 : Int) < ((p0b).length : Int))) true (decide ((300 : Int) < ((p2s).length : Int))))) hb1 h
    refine w_seqw ?_
    refine w_region ?_
    obtain ⟨x2, hx2, h3⟩ := bind_s h1
    refine o_v (ov_call (v := .c (.bool _)) rfl (w_law01xworks hx2) trivial (ok_eq (by repeat (first | exact ok_nil | refine ok_cons rfl ?_ | refine ok_cons (dgv rfl) ?_))) rfl rfl) ?_
    refine o_p rfl (p_assign (v := .c (.bool _)) rfl) ?_
    refine o_end (fr' := [(0, .c (PV.ls _ _ _)), (1, .c (.int _ _)), (2, .c (.str _)), (3, .c (.bool _)), (8, .c (.bool _)), (16, .c (.bool _))]) rfl ?_
    refine e_kw ?_
    refine w_ret ?_
    refine e_seq_r ?_
    have he4 := Option.some.inj h3
    subst he4
    refine e_ret (rs' := [.tmp 8]) rfl ?_
    refine r_tmp (v := .c (.bool _)) rfl ?_
    refine r_nil ?_
    exact fin_gen [] rfl rfl rfl (AV.le_refl _) st_nil
  · skip
    have h1 := cond_f (b := (cond (decide ((100 : Int) < ((p0b).length : Int))) true (decide ((300 : Int) < ((p2s).length : Int))))) hb1 h
    refine w_skip ?_
    refine e_kw ?_
    refine w_seqw ?_
    refine w_region ?_
    refine o_p rfl (p_move (v := .c (PV.ls _ _ _)) rfl) ?_
    refine o_p rfl (p_move (v := .c (.int _ _)) rfl) ?_
    obtain ⟨x5, hx5, h6⟩ := bind_s h1
    refine o_v (ov_call (v := AV.os _ _ _ _) rfl (w_wire_PutInt hx5) ⟨(AV.le_refl _), (AV.le_refl _), trivial⟩ (ok_eq (by repeat (first | exact ok_nil | refine ok_cons rfl ?_ | refine ok_cons (dgv rfl) ?_))) rfl rfl) ?_
    refine o_p rfl (p_move (v := .c (PV.ls _ _ _)) rfl) ?_
    refine o_p rfl (p_move (v := .c (.int _ _)) rfl) ?_
    obtain ⟨x7, hx7, h8⟩ := bind_s h6
    refine o_v (ov_call (v := AV.os _ _ _ _) rfl (w_ref01xPutInt hx7) ⟨(AV.le_refl _), (AV.le_refl _), trivial⟩ (ok_eq (by repeat (first | exact ok_nil | refine ok_cons rfl ?_ | refine ok_cons (dgv rfl) ?_))) rfl rfl) ?_
    obtain ⟨x9, hx9, h10⟩ := bind_s h8
    refine o_v (ov_call (v := .c (.bool _)) rfl (w_law01xequal hx9) ⟨(AV.le_refl _), (AV.le_refl _), trivial⟩ (ok_eq (by repeat (first | exact ok_nil | refine ok_cons rfl ?_ | refine ok_cons (dgv rfl) ?_))) rfl rfl) ?_
    refine o_p rfl (p_move (v := .c (.bool _)) rfl) ?_
    refine o_g rfl rfl (fun hc => ov_p rfl (p_move (v := .c (PV.ls _ _ _)) rfl)) ?_
    refine o_g rfl rfl (fun hc => ov_p rfl (p_move (v := .c (.str _)) rfl)) ?_
    obtain ⟨x11, hx11, h12⟩ := bind_s h10
    refine o_g rfl rfl (fun hc => ov_call (v := AV.os _ _ _ _) rfl (w_wire_PutText (gd_some hx11 hc)) ⟨(le_gv (gx rfl hc) (AV.le_refl _)), (le_gv (gx rfl hc) (AV.le_refl _)), trivial⟩ (ok_eq (by repeat (first | exact ok_nil | refine ok_cons rfl ?_ | refine ok_cons (dgv rfl) ?_))) rfl rfl) ?_
    refine o_g rfl rfl (fun hc => ov_p rfl (p_move (v := .c (PV.ls _ _ _)) rfl)) ?_
    refine o_g rfl rfl (fun hc => ov_p rfl (p_move (v := .c (.str _)) rfl)) ?_
    obtain ⟨x13, hx13, h14⟩ := bind_s h12
    refine o_g rfl rfl (fun hc => ov_call (v := AV.os _ _ _ _) rfl (w_ref01xPutText (gd_some hx13 hc)) ⟨(le_gv (gx rfl hc) (AV.le_refl _)), (le_gv (gx rfl hc) (AV.le_refl _)), trivial⟩ (ok_eq (by repeat (first | exact ok_nil | refine ok_cons rfl ?_ | refine ok_cons (dgv rfl) ?_))) rfl rfl) ?_
    obtain ⟨x15, hx15, h16⟩ := bind_s h14
    refine o_g rfl rfl (fun hc => ov_call (v := .c (.bool _)) rfl (w_law01xequal (gd_some hx15 hc)) ⟨(le_gv (gx rfl hc) (AV.le_refl _)), (le_gv (gx rfl hc) (AV.le_refl _)), trivial⟩ (ok_eq (by repeat (first | exact ok_nil | refine ok_cons rfl ?_ | refine ok_cons (dgv rfl) ?_))) rfl rfl) ?_
    refine o_p rfl (p_picky rfl rfl rfl (fun e => keq e)) ?_
    refine o_p rfl (p_move (v := .c (.bool _)) rfl) ?_
    refine o_g rfl rfl (fun hc => ov_p rfl (p_move (v := .c (PV.ls _ _ _)) rfl)) ?_
    refine o_g rfl rfl (fun hc => ov_p rfl (p_move (v := .c (.bool _)) rfl)) ?_
    obtain ⟨x17, hx17, h18⟩ := bind_s h16
    refine o_g rfl rfl (fun hc => ov_call (v := AV.os _ _ _ _) rfl (w_wire_PutBool (gd_some hx17 hc)) ⟨(le_gv (gx rfl hc) (AV.le_refl _)), (le_gv (gx rfl hc) (AV.le_refl _)), trivial⟩ (ok_eq (by repeat (first | exact ok_nil | refine ok_cons rfl ?_ | refine ok_cons (dgv rfl) ?_))) rfl rfl) ?_
    refine o_g rfl rfl (fun hc => ov_p rfl (p_move (v := .c (PV.ls _ _ _)) rfl)) ?_
    refine o_g rfl rfl (fun hc => ov_p rfl (p_move (v := .c (.bool _)) rfl)) ?_
    obtain ⟨x19, hx19, h20⟩ := bind_s h18
    refine o_g rfl rfl (fun hc => ov_call (v := AV.os _ _ _ _) rfl (w_ref01xPutBool (gd_some hx19 hc)) ⟨(le_gv (gx rfl hc) (AV.le_refl _)), (le_gv (gx rfl hc) (AV.le_refl _)), trivial⟩ (ok_eq (by repeat (first | exact ok_nil | refine ok_cons rfl ?_ | refine ok_cons (dgv rfl) ?_))) rfl rfl) ?_
    obtain ⟨x21, hx21, h22⟩ := bind_s h20
    refine o_g rfl rfl (fun hc => ov_call (v := .c (.bool _)) rfl (w_law01xequal (gd_some hx21 hc)) ⟨(le_gv (gx rfl hc) (AV.le_refl _)), (le_gv (gx rfl hc) (AV.le_refl _)), trivial⟩ (ok_eq (by repeat (first | exact ok_nil | refine ok_cons rfl ?_ | refine ok_cons (dgv rfl) ?_))) rfl rfl) ?_
    refine o_p rfl (p_picky rfl rfl rfl (fun e => keq e)) ?_
    refine o_p rfl (p_move (v := .c (.bool _)) rfl) ?_
    obtain ⟨x23, hx23, h24⟩ := bind_s h22
    refine o_g rfl rfl (fun hc => ov_call (v := .c (.bool _)) rfl (w_law01xworks (gd_some hx23 hc)) trivial (ok_eq (by repeat (first | exact ok_nil | refine ok_cons rfl ?_ | refine ok_cons (dgv rfl) ?_))) rfl rfl) ?_
    refine o_p rfl (p_picky rfl rfl rfl (fun e => keq e)) ?_
    refine o_p rfl (p_assign (v := .c (.bool _)) rfl) ?_
    refine o_end (fr' := [(0, .c (PV.ls _ _ _)), (1, .c (.int _ _)), (2, .c (.str _)), (3, .c (.bool _)), (8, .c (.bool _)), (16, .c (.bool _))]) rfl ?_
    refine e_kw ?_
    refine w_ret ?_
    have he25 := Option.some.inj h24
    subst he25
    refine e_ret (rs' := [.tmp 8]) rfl ?_
    refine r_tmp (v := .c (.bool _)) rfl ?_
    refine r_nil ?_
    exact fin_gen [] rfl rfl rfl (AV.le_refl _) st_nil
noncomputable def diverge_compared (p0kind : Int) : Option DivergeFields :=
  cond (decide (p0kind = (1 : Int))) (some (DivergeFields.mk true true false false)) (((cond (decide (p0kind = (2 : Int))) (some (decide (p0kind = (2 : Int)))) (some (decide (p0kind = (4 : Int))))) : Option Bool).bind fun (x3 : Bool) => (cond x3 (some (DivergeFields.mk true false false false)) (cond (decide (p0kind = (3 : Int))) (some (DivergeFields.mk true false false true)) (cond (decide (p0kind = (5 : Int))) (some (DivergeFields.mk true true true true)) (cond (decide (p0kind = (6 : Int))) (some (DivergeFields.mk true true true false)) (cond (decide (p0kind = (7 : Int))) (some (DivergeFields.mk false true false true)) (cond (decide (p0kind = (8 : Int))) (some (DivergeFields.mk false true true false)) (cond (decide (p0kind = (9 : Int))) (some (DivergeFields.mk false false true true)) (cond (decide (p0kind = (12 : Int))) (some (DivergeFields.mk false true false false)) (some (DivergeFields.mk false false false false)))))))))))
theorem w_diverge_compared {p0kind : Int} {res : DivergeFields} (h : diverge_compared p0kind = some res) : ACalls Try.prog 49 [.c (.int .i64 p0kind)] [] (.agg (AV.cs (rowDivergeFields res))) [] := by
  unfold diverge_compared at h
  refine acalls (fn := Try.f49) [0, 2, 3, 4, 7, 11, 14, 17, 20, 23, 26, 29] (by kernel_rfl) Try.func49 rfl (by kernel_rfl) (by kernel_rfl) ?_
  refine w_seqw ?_
  refine w_region ?_
  refine o_alloc (n := 0) (cs := [.c (.bool _), .c (.bool _), .c (.bool _), .c (.bool _)]) (σ' := [[.c (.bool _), .c (.bool _), .c (.bool _), .c (.bool _)]]) tz85 rfl rfl rfl ?_
  refine o_end (fr' := [(0, .c (.int _ _)), (2, .box 0 0), (3, .any), (4, .any), (7, .any), (11, .any), (14, .any), (17, .any), (20, .any), (23, .any), (26, .any), (29, .any)]) rfl ?_
  refine e_kw ?_
  refine w_seqw ?_
  refine w_seqw ?_
  refine w_region ?_
  refine o_p rfl (p_move (v := .c (.int _ _)) rfl) ?_
  refine o_end (fr' := [(0, .c (.int _ _)), (2, .box 0 0), (3, .c (.int _ _)), (4, .any), (7, .any), (11, .any), (14, .any), (17, .any), (20, .any), (23, .any), (26, .any), (29, .any)]) rfl ?_
  refine e_kw ?_
  refine w_block ?_
  refine w_seqw ?_
  refine w_region ?_
  refine o_p rfl (p_eql rfl rfl) ?_
  refine o_p rfl (p_assign (v := .c (.bool _)) rfl) ?_
  refine o_end (fr' := [(0, .c (.int _ _)), (2, .box 0 0), (3, .c (.int _ _)), (4, .c (.bool _)), (7, .any), (11, .any), (14, .any), (17, .any), (20, .any), (23, .any), (26, .any), (29, .any)]) rfl ?_
  refine e_kw ?_
  refine w_cond _ rfl (fun hb1 => ?_) (fun hb1 => ?_)
  · skip
    have h1 := cond_t (b := (decide (p0kind = (1 : Int)))) hb1 h
    refine w_seqw ?_
    refine w_region ?_
    refine o_p rfl (p_build (cs := [.c (.bool _), .c (.bool _), .c (.bool _), .c (.bool _)]) tb85 rfl) ?_
    refine o_store (v := .agg [.c (.bool _), .c (.bool _), .c (.bool _), .c (.bool _)]) (us := [.c (.bool _), .c (.bool _), .c (.bool _), .c (.bool _)]) (cs := [.c (.bool _), .c (.bool _), .c (.bool _), .c (.bool _)]) (σ' := [[.c (.bool _), .c (.bool _), .c (.bool _), .c (.bool _)]]) rfl tv85 rfl rfl rfl rfl rfl rfl rfl rfl ?_
    refine o_end (fr' := [(0, .c (.int _ _)), (2, .box 0 0), (3, .c (.int _ _)), (4, .c (.bool _)), (7, .any), (11, .any), (14, .any), (17, .any), (20, .any), (23, .any), (26, .any), (29, .any)]) rfl ?_
    refine e_kw ?_
    refine w_ret ?_
    refine e_blk_r ?_
    refine e_seq_r ?_
    have he2 := Option.some.inj h1
    subst he2
    refine e_ret (rs' := [.cell 2 85]) rfl ?_
    refine r_cells (us := [.c (.bool _), .c (.bool _), .c (.bool _), .c (.bool _)]) (cs := [.c (.bool _), .c (.bool _), .c (.bool _), .c (.bool _)]) tv85 rfl rfl rfl rfl ?_
    refine r_nil ?_
    exact fin_gen [] rfl rfl rfl (le_aggc rfl ⟨rfl, rfl, rfl, rfl, trivial⟩) st_nil
  · skip
    have h1 := cond_f (b := (decide (p0kind = (1 : Int)))) hb1 h
    obtain ⟨x3, hx3, h4⟩ := bind_s h1
    refine w_join (fun j5 => x3 = j5) (fun (j5 : Bool) => ([(2, .box 0 0), (3, .c (.int .i64 p0kind)), (7, .c (.bool j5))] : Fr)) (fun (j5 : Bool) => ([[.c (.bool false), .c (.bool false), .c (.bool false), .c (.bool false)]] : St)) ?_ ?_
    · skip
      refine w_seqw ?_
      refine w_region ?_
      refine o_p rfl (p_eql rfl rfl) ?_
      refine o_p rfl (p_assign (v := .c (.bool _)) rfl) ?_
      refine o_end (fr' := [(0, .c (.int _ _)), (2, .box 0 0), (3, .c (.int _ _)), (4, .c (.bool _)), (7, .c (.bool _)), (11, .any), (14, .any), (17, .any), (20, .any), (23, .any), (26, .any), (29, .any)]) rfl ?_
      refine e_kw ?_
      refine w_cond _ rfl (fun hb6 => ?_) (fun hb6 => ?_)
      · skip
        have h6 := cond_t (b := (decide (p0kind = (2 : Int)))) hb6 hx3
        refine w_skip ?_
        exact e_j _ (Option.some.inj h6).symm (w_weak [] 1 rfl rfl rfl rfl ⟨(AV.le_refl _), (AV.le_refl _), (AV.le_refl _), trivial⟩ (st_r rfl st_nil))
      · skip
        have h6 := cond_f (b := (decide (p0kind = (2 : Int)))) hb6 hx3
        refine w_region ?_
        refine o_p rfl (p_eql rfl rfl) ?_
        refine o_p rfl (p_assign (v := .c (.bool _)) rfl) ?_
        refine o_end (fr' := [(0, .c (.int _ _)), (2, .box 0 0), (3, .c (.int _ _)), (4, .c (.bool _)), (7, .c (.bool _)), (11, .any), (14, .any), (17, .any), (20, .any), (23, .any), (26, .any), (29, .any)]) rfl ?_
        exact e_j _ (Option.some.inj h6).symm (w_weak [] 1 rfl rfl rfl rfl ⟨(AV.le_refl _), (AV.le_refl _), (AV.le_refl _), trivial⟩ (st_r rfl st_nil))
    · skip
      intro j5 hj7
      subst hj7
      refine w_cond _ rfl (fun hb8 => ?_) (fun hb8 => ?_)
      · skip
        have h8 := cond_t (b := x3) hb8 h4
        refine w_seqw ?_
        refine w_region ?_
        refine o_p rfl (p_build (cs := [.c (.bool _), .c (.bool _), .c (.bool _), .c (.bool _)]) tb85 rfl) ?_
        refine o_store (v := .agg [.c (.bool _), .c (.bool _), .c (.bool _), .c (.bool _)]) (us := [.c (.bool _), .c (.bool _), .c (.bool _), .c (.bool _)]) (cs := [.c (.bool _), .c (.bool _), .c (.bool _), .c (.bool _)]) (σ' := [[.c (.bool _), .c (.bool _), .c (.bool _), .c (.bool _)]]) rfl tv85 rfl rfl rfl rfl rfl rfl rfl rfl ?_
        refine o_end (fr' := [(0, .any), (2, .box 0 0), (3, .c (.int _ _)), (4, .any), (7, .c (.bool _)), (11, .any), (14, .any), (17, .any), (20, .any), (23, .any), (26, .any), (29, .any)]) rfl ?_
        refine e_kw ?_
        refine w_ret ?_
        refine e_blk_r ?_
        refine e_seq_r ?_
        have he9 := Option.some.inj h8
        subst he9
        refine e_ret (rs' := [.cell 2 85]) rfl ?_
        refine r_cells (us := [.c (.bool _), .c (.bool _), .c (.bool _), .c (.bool _)]) (cs := [.c (.bool _), .c (.bool _), .c (.bool _), .c (.bool _)]) tv85 rfl rfl rfl rfl ?_
        refine r_nil ?_
        exact fin_gen [] rfl rfl rfl (le_aggc rfl ⟨rfl, rfl, rfl, rfl, trivial⟩) st_nil
      · skip
        have h8 := cond_f (b := x3) hb8 h4
        refine w_seqw ?_
        refine w_region ?_
        refine o_p rfl (p_eql rfl rfl) ?_
        refine o_p rfl (p_assign (v := .c (.bool _)) rfl) ?_
        refine o_end (fr' := [(0, .any), (2, .box 0 0), (3, .c (.int _ _)), (4, .any), (7, .c (.bool _)), (11, .c (.bool _)), (14, .any), (17, .any), (20, .any), (23, .any), (26, .any), (29, .any)]) rfl ?_
        refine e_kw ?_
        refine w_cond _ rfl (fun hb10 => ?_) (fun hb10 => ?_)
        · skip
          have h10 := cond_t (b := (decide (p0kind = (3 : Int)))) hb10 h8
          refine w_seqw ?_
          refine w_region ?_
          refine o_p rfl (p_build (cs := [.c (.bool _), .c (.bool _), .c (.bool _), .c (.bool _)]) tb85 rfl) ?_
          refine o_store (v := .agg [.c (.bool _), .c (.bool _), .c (.bool _), .c (.bool _)]) (us := [.c (.bool _), .c (.bool _), .c (.bool _), .c (.bool _)]) (cs := [.c (.bool _), .c (.bool _), .c (.bool _), .c (.bool _)]) (σ' := [[.c (.bool _), .c (.bool _), .c (.bool _), .c (.bool _)]]) rfl tv85 rfl rfl rfl rfl rfl rfl rfl rfl ?_
          refine o_end (fr' := [(0, .any), (2, .box 0 0), (3, .c (.int _ _)), (4, .any), (7, .c (.bool _)), (11, .c (.bool _)), (14, .any), (17, .any), (20, .any), (23, .any), (26, .any), (29, .any)]) rfl ?_
          refine e_kw ?_
          refine w_ret ?_
          refine e_blk_r ?_
          refine e_seq_r ?_
          have he11 := Option.some.inj h10
          subst he11
          refine e_ret (rs' := [.cell 2 85]) rfl ?_
          refine r_cells (us := [.c (.bool _), .c (.bool _), .c (.bool _), .c (.bool _)]) (cs := [.c (.bool _), .c (.bool _), .c (.bool _), .c (.bool _)]) tv85 rfl rfl rfl rfl ?_
          refine r_nil ?_
          exact fin_gen [] rfl rfl rfl (le_aggc rfl ⟨rfl, rfl, rfl, rfl, trivial⟩) st_nil
        · skip
          have h10 := cond_f (b := (decide (p0kind = (3 : Int)))) hb10 h8
          refine w_seqw ?_
          refine w_region ?_
          refine o_p rfl (p_eql rfl rfl) ?_
          refine o_p rfl (p_assign (v := .c (.bool _)) rfl) ?_
          refine o_end (fr' := [(0, .any), (2, .box 0 0), (3, .c (.int _ _)), (4, .any), (7, .c (.bool _)), (11, .c (.bool _)), (14, .c (.bool _)), (17, .any), (20, .any), (23, .any), (26, .any), (29, .any)]) rfl ?_
          refine e_kw ?_
          refine w_cond _ rfl (fun hb12 => ?_) (fun hb12 => ?_)
          · skip
            have h12 := cond_t (b := (decide (p0kind = (5 : Int)))) hb12 h10
            refine w_seqw ?_
            refine w_region ?_
            refine o_p rfl (p_build (cs := [.c (.bool _), .c (.bool _), .c (.bool _), .c (.bool _)]) tb85 rfl) ?_
            refine o_store (v := .agg [.c (.bool _), .c (.bool _), .c (.bool _), .c (.bool _)]) (us := [.c (.bool _), .c (.bool _), .c (.bool _), .c (.bool _)]) (cs := [.c (.bool _), .c (.bool _), .c (.bool _), .c (.bool _)]) (σ' := [[.c (.bool _), .c (.bool _), .c (.bool _), .c (.bool _)]]) rfl tv85 rfl rfl rfl rfl rfl rfl rfl rfl ?_
            refine o_end (fr' := [(0, .any), (2, .box 0 0), (3, .c (.int _ _)), (4, .any), (7, .c (.bool _)), (11, .c (.bool _)), (14, .c (.bool _)), (17, .any), (20, .any), (23, .any), (26, .any), (29, .any)]) rfl ?_
            refine e_kw ?_
            refine w_ret ?_
            refine e_blk_r ?_
            refine e_seq_r ?_
            have he13 := Option.some.inj h12
            subst he13
            refine e_ret (rs' := [.cell 2 85]) rfl ?_
            refine r_cells (us := [.c (.bool _), .c (.bool _), .c (.bool _), .c (.bool _)]) (cs := [.c (.bool _), .c (.bool _), .c (.bool _), .c (.bool _)]) tv85 rfl rfl rfl rfl ?_
            refine r_nil ?_
            exact fin_gen [] rfl rfl rfl (le_aggc rfl ⟨rfl, rfl, rfl, rfl, trivial⟩) st_nil
          · skip
            have h12 := cond_f (b := (decide (p0kind = (5 : Int)))) hb12 h10
            refine w_seqw ?_
            refine w_region ?_
            refine o_p rfl (p_eql rfl rfl) ?_
            refine o_p rfl (p_assign (v := .c (.bool _)) rfl) ?_
            refine o_end (fr' := [(0, .any), (2, .box 0 0), (3, .c (.int _ _)), (4, .any), (7, .c (.bool _)), (11, .c (.bool _)), (14, .c (.bool _)), (17, .c (.bool _)), (20, .any), (23, .any), (26, .any), (29, .any)]) rfl ?_
            refine e_kw ?_
            refine w_cond _ rfl (fun hb14 => ?_) (fun hb14 => ?_)
            · skip
              have h14 := cond_t (b := (decide (p0kind = (6 : Int)))) hb14 h12
              refine w_seqw ?_
              refine w_region ?_
              refine o_p rfl (p_build (cs := [.c (.bool _), .c (.bool _), .c (.bool _), .c (.bool _)]) tb85 rfl) ?_
              refine o_store (v := .agg [.c (.bool _), .c (.bool _), .c (.bool _), .c (.bool _)]) (us := [.c (.bool _), .c (.bool _), .c (.bool _), .c (.bool _)]) (cs := [.c (.bool _), .c (.bool _), .c (.bool _), .c (.bool _)]) (σ' := [[.c (.bool _), .c (.bool _), .c (.bool _), .c (.bool _)]]) rfl tv85 rfl rfl rfl rfl rfl rfl rfl rfl ?_
              refine o_end (fr' := [(0, .any), (2, .box 0 0), (3, .c (.int _ _)), (4, .any), (7, .c (.bool _)), (11, .c (.bool _)), (14, .c (.bool _)), (17, .c (.bool _)), (20, .any), (23, .any), (26, .any), (29, .any)]) rfl ?_
              refine e_kw ?_
              refine w_ret ?_
              refine e_blk_r ?_
              refine e_seq_r ?_
              have he15 := Option.some.inj h14
              subst he15
              refine e_ret (rs' := [.cell 2 85]) rfl ?_
              refine r_cells (us := [.c (.bool _), .c (.bool _), .c (.bool _), .c (.bool _)]) (cs := [.c (.bool _), .c (.bool _), .c (.bool _), .c (.bool _)]) tv85 rfl rfl rfl rfl ?_
              refine r_nil ?_
              exact fin_gen [] rfl rfl rfl (le_aggc rfl ⟨rfl, rfl, rfl, rfl, trivial⟩) st_nil
            · skip
              have h14 := cond_f (b := (decide (p0kind = (6 : Int)))) hb14 h12
              refine w_seqw ?_
              refine w_region ?_
              refine o_p rfl (p_eql rfl rfl) ?_
              refine o_p rfl (p_assign (v := .c (.bool _)) rfl) ?_
              refine o_end (fr' := [(0, .any), (2, .box 0 0), (3, .c (.int _ _)), (4, .any), (7, .c (.bool _)), (11, .c (.bool _)), (14, .c (.bool _)), (17, .c (.bool _)), (20, .c (.bool _)), (23, .any), (26, .any), (29, .any)]) rfl ?_
              refine e_kw ?_
              refine w_cond _ rfl (fun hb16 => ?_) (fun hb16 => ?_)
              · skip
                have h16 := cond_t (b := (decide (p0kind = (7 : Int)))) hb16 h14
                refine w_seqw ?_
                refine w_region ?_
                refine o_p rfl (p_build (cs := [.c (.bool _), .c (.bool _), .c (.bool _), .c (.bool _)]) tb85 rfl) ?_
                refine o_store (v := .agg [.c (.bool _), .c (.bool _), .c (.bool _), .c (.bool _)]) (us := [.c (.bool _), .c (.bool _), .c (.bool _), .c (.bool _)]) (cs := [.c (.bool _), .c (.bool _), .c (.bool _), .c (.bool _)]) (σ' := [[.c (.bool _), .c (.bool _), .c (.bool _), .c (.bool _)]]) rfl tv85 rfl rfl rfl rfl rfl rfl rfl rfl ?_
                refine o_end (fr' := [(0, .any), (2, .box 0 0), (3, .c (.int _ _)), (4, .any), (7, .c (.bool _)), (11, .c (.bool _)), (14, .c (.bool _)), (17, .c (.bool _)), (20, .c (.bool _)), (23, .any), (26, .any), (29, .any)]) rfl ?_
                refine e_kw ?_
                refine w_ret ?_
                refine e_blk_r ?_
                refine e_seq_r ?_
                have he17 := Option.some.inj h16
                subst he17
                refine e_ret (rs' := [.cell 2 85]) rfl ?_
                refine r_cells (us := [.c (.bool _), .c (.bool _), .c (.bool _), .c (.bool _)]) (cs := [.c (.bool _), .c (.bool _), .c (.bool _), .c (.bool _)]) tv85 rfl rfl rfl rfl ?_
                refine r_nil ?_
                exact fin_gen [] rfl rfl rfl (le_aggc rfl ⟨rfl, rfl, rfl, rfl, trivial⟩) st_nil
              · skip
                have h16 := cond_f (b := (decide (p0kind = (7 : Int)))) hb16 h14
                refine w_seqw ?_
                refine w_region ?_
                refine o_p rfl (p_eql rfl rfl) ?_
                refine o_p rfl (p_assign (v := .c (.bool _)) rfl) ?_
                refine o_end (fr' := [(0, .any), (2, .box 0 0), (3, .c (.int _ _)), (4, .any), (7, .c (.bool _)), (11, .c (.bool _)), (14, .c (.bool _)), (17, .c (.bool _)), (20, .c (.bool _)), (23, .c (.bool _)), (26, .any), (29, .any)]) rfl ?_
                refine e_kw ?_
                refine w_cond _ rfl (fun hb18 => ?_) (fun hb18 => ?_)
                · skip
                  have h18 := cond_t (b := (decide (p0kind = (8 : Int)))) hb18 h16
                  refine w_seqw ?_
                  refine w_region ?_
                  refine o_p rfl (p_build (cs := [.c (.bool _), .c (.bool _), .c (.bool _), .c (.bool _)]) tb85 rfl) ?_
                  refine o_store (v := .agg [.c (.bool _), .c (.bool _), .c (.bool _), .c (.bool _)]) (us := [.c (.bool _), .c (.bool _), .c (.bool _), .c (.bool _)]) (cs := [.c (.bool _), .c (.bool _), .c (.bool _), .c (.bool _)]) (σ' := [[.c (.bool _), .c (.bool _), .c (.bool _), .c (.bool _)]]) rfl tv85 rfl rfl rfl rfl rfl rfl rfl rfl ?_
                  refine o_end (fr' := [(0, .any), (2, .box 0 0), (3, .c (.int _ _)), (4, .any), (7, .c (.bool _)), (11, .c (.bool _)), (14, .c (.bool _)), (17, .c (.bool _)), (20, .c (.bool _)), (23, .c (.bool _)), (26, .any), (29, .any)]) rfl ?_
                  refine e_kw ?_
                  refine w_ret ?_
                  refine e_blk_r ?_
                  refine e_seq_r ?_
                  have he19 := Option.some.inj h18
                  subst he19
                  refine e_ret (rs' := [.cell 2 85]) rfl ?_
                  refine r_cells (us := [.c (.bool _), .c (.bool _), .c (.bool _), .c (.bool _)]) (cs := [.c (.bool _), .c (.bool _), .c (.bool _), .c (.bool _)]) tv85 rfl rfl rfl rfl ?_
                  refine r_nil ?_
                  exact fin_gen [] rfl rfl rfl (le_aggc rfl ⟨rfl, rfl, rfl, rfl, trivial⟩) st_nil
                · skip
                  have h18 := cond_f (b := (decide (p0kind = (8 : Int)))) hb18 h16
                  refine w_seqw ?_
                  refine w_region ?_
                  refine o_p rfl (p_eql rfl rfl) ?_
                  refine o_p rfl (p_assign (v := .c (.bool _)) rfl) ?_
                  refine o_end (fr' := [(0, .any), (2, .box 0 0), (3, .c (.int _ _)), (4, .any), (7, .c (.bool _)), (11, .c (.bool _)), (14, .c (.bool _)), (17, .c (.bool _)), (20, .c (.bool _)), (23, .c (.bool _)), (26, .c (.bool _)), (29, .any)]) rfl ?_
                  refine e_kw ?_
                  refine w_cond _ rfl (fun hb20 => ?_) (fun hb20 => ?_)
                  · skip
                    have h20 := cond_t (b := (decide (p0kind = (9 : Int)))) hb20 h18
                    refine w_seqw ?_
                    refine w_region ?_
                    refine o_p rfl (p_build (cs := [.c (.bool _), .c (.bool _), .c (.bool _), .c (.bool _)]) tb85 rfl) ?_
                    refine o_store (v := .agg [.c (.bool _), .c (.bool _), .c (.bool _), .c (.bool _)]) (us := [.c (.bool _), .c (.bool _), .c (.bool _), .c (.bool _)]) (cs := [.c (.bool _), .c (.bool _), .c (.bool _), .c (.bool _)]) (σ' := [[.c (.bool _), .c (.bool _), .c (.bool _), .c (.bool _)]]) rfl tv85 rfl rfl rfl rfl rfl rfl rfl rfl ?_
                    refine o_end (fr' := [(0, .any), (2, .box 0 0), (3, .c (.int _ _)), (4, .any), (7, .c (.bool _)), (11, .c (.bool _)), (14, .c (.bool _)), (17, .c (.bool _)), (20, .c (.bool _)), (23, .c (.bool _)), (26, .c (.bool _)), (29, .any)]) rfl ?_
                    refine e_kw ?_
                    refine w_ret ?_
                    refine e_blk_r ?_
                    refine e_seq_r ?_
                    have he21 := Option.some.inj h20
                    subst he21
                    refine e_ret (rs' := [.cell 2 85]) rfl ?_
                    refine r_cells (us := [.c (.bool _), .c (.bool _), .c (.bool _), .c (.bool _)]) (cs := [.c (.bool _), .c (.bool _), .c (.bool _), .c (.bool _)]) tv85 rfl rfl rfl rfl ?_
                    refine r_nil ?_
                    exact fin_gen [] rfl rfl rfl (le_aggc rfl ⟨rfl, rfl, rfl, rfl, trivial⟩) st_nil
                  · skip
                    have h20 := cond_f (b := (decide (p0kind = (9 : Int)))) hb20 h18
                    refine w_seqw ?_
                    refine w_region ?_
                    refine o_p rfl (p_eql rfl rfl) ?_
                    refine o_p rfl (p_assign (v := .c (.bool _)) rfl) ?_
                    refine o_end (fr' := [(0, .any), (2, .box 0 0), (3, .c (.int _ _)), (4, .any), (7, .c (.bool _)), (11, .c (.bool _)), (14, .c (.bool _)), (17, .c (.bool _)), (20, .c (.bool _)), (23, .c (.bool _)), (26, .c (.bool _)), (29, .c (.bool _))]) rfl ?_
                    refine e_kw ?_
                    refine w_cond _ rfl (fun hb22 => ?_) (fun hb22 => ?_)
                    · skip
                      have h22 := cond_t (b := (decide (p0kind = (12 : Int)))) hb22 h20
                      refine w_seqw ?_
                      refine w_region ?_
                      refine o_p rfl (p_build (cs := [.c (.bool _), .c (.bool _), .c (.bool _), .c (.bool _)]) tb85 rfl) ?_
                      refine o_store (v := .agg [.c (.bool _), .c (.bool _), .c (.bool _), .c (.bool _)]) (us := [.c (.bool _), .c (.bool _), .c (.bool _), .c (.bool _)]) (cs := [.c (.bool _), .c (.bool _), .c (.bool _), .c (.bool _)]) (σ' := [[.c (.bool _), .c (.bool _), .c (.bool _), .c (.bool _)]]) rfl tv85 rfl rfl rfl rfl rfl rfl rfl rfl ?_
                      refine o_end (fr' := [(0, .any), (2, .box 0 0), (3, .c (.int _ _)), (4, .any), (7, .c (.bool _)), (11, .c (.bool _)), (14, .c (.bool _)), (17, .c (.bool _)), (20, .c (.bool _)), (23, .c (.bool _)), (26, .c (.bool _)), (29, .c (.bool _))]) rfl ?_
                      refine e_kw ?_
                      refine w_ret ?_
                      refine e_blk_r ?_
                      refine e_seq_r ?_
                      have he23 := Option.some.inj h22
                      subst he23
                      refine e_ret (rs' := [.cell 2 85]) rfl ?_
                      refine r_cells (us := [.c (.bool _), .c (.bool _), .c (.bool _), .c (.bool _)]) (cs := [.c (.bool _), .c (.bool _), .c (.bool _), .c (.bool _)]) tv85 rfl rfl rfl rfl ?_
                      refine r_nil ?_
                      exact fin_gen [] rfl rfl rfl (le_aggc rfl ⟨rfl, rfl, rfl, rfl, trivial⟩) st_nil
                    · skip
                      have h22 := cond_f (b := (decide (p0kind = (12 : Int)))) hb22 h20
                      refine w_skip ?_
                      refine e_blk_n ?_
                      refine e_kw ?_
                      refine w_seqw ?_
                      refine w_region ?_
                      refine o_p rfl (p_build (cs := [.c (.bool _), .c (.bool _), .c (.bool _), .c (.bool _)]) tb85 rfl) ?_
                      refine o_store (v := .agg [.c (.bool _), .c (.bool _), .c (.bool _), .c (.bool _)]) (us := [.c (.bool _), .c (.bool _), .c (.bool _), .c (.bool _)]) (cs := [.c (.bool _), .c (.bool _), .c (.bool _), .c (.bool _)]) (σ' := [[.c (.bool _), .c (.bool _), .c (.bool _), .c (.bool _)]]) rfl tv85 rfl rfl rfl rfl rfl rfl rfl rfl ?_
                      refine o_end (fr' := [(0, .any), (2, .box 0 0), (3, .c (.int _ _)), (4, .any), (7, .c (.bool _)), (11, .c (.bool _)), (14, .c (.bool _)), (17, .c (.bool _)), (20, .c (.bool _)), (23, .c (.bool _)), (26, .c (.bool _)), (29, .c (.bool _))]) rfl ?_
                      refine e_kw ?_
                      refine w_ret ?_
                      have he24 := Option.some.inj h22
                      subst he24
                      refine e_ret (rs' := [.cell 2 85]) rfl ?_
                      refine r_cells (us := [.c (.bool _), .c (.bool _), .c (.bool _), .c (.bool _)]) (cs := [.c (.bool _), .c (.bool _), .c (.bool _), .c (.bool _)]) tv85 rfl rfl rfl rfl ?_
                      refine r_nil ?_
                      exact fin_gen [] rfl rfl rfl (le_aggc rfl ⟨rfl, rfl, rfl, rfl, trivial⟩) st_nil
noncomputable def event_commandOf (p0kind : Int) : Option Int :=
  cond (decide (p0kind = (7 : Int))) (some (1 : Int)) (cond (decide (p0kind = (12 : Int))) (some (2 : Int)) (cond (decide (p0kind = (14 : Int))) (some (3 : Int)) (cond (decide (p0kind = (16 : Int))) (some (4 : Int)) (cond (decide (p0kind = (19 : Int))) (some (5 : Int)) (cond (decide (p0kind = (23 : Int))) (some (6 : Int)) (cond (decide (p0kind = (18 : Int))) (some (7 : Int)) (cond (decide (p0kind = (27 : Int))) (some (8 : Int)) (cond (decide (p0kind = (28 : Int))) (some (9 : Int)) (cond (decide (p0kind = (29 : Int))) (some (10 : Int)) (cond (decide (p0kind = (30 : Int))) (some (11 : Int)) (cond (decide (p0kind = (31 : Int))) (some (12 : Int)) (cond (decide (p0kind = (32 : Int))) (some (13 : Int)) (cond (decide (p0kind = (35 : Int))) (some (14 : Int)) (some (0 : Int)))))))))))))))
theorem w_event_commandOf {p0kind : Int} {res : Int} (h : event_commandOf p0kind = some res) : ACalls Try.prog 82 [.c (.int .i64 p0kind)] [] (.c (.int .i64 res)) [] := by
  unfold event_commandOf at h
  refine acalls (fn := Try.f82) [0, 2, 3, 4, 6, 8, 10, 12, 14, 16, 18, 20, 22, 24, 26, 28, 30] (by kernel_rfl) Try.func82 rfl (by kernel_rfl) (by kernel_rfl) ?_
  refine w_seqw ?_
  refine w_region ?_
  refine o_p rfl (p_assign (v := .c (.int _ _)) rfl) ?_
  refine o_end (fr' := [(0, .c (.int _ _)), (2, .c (.int _ _)), (3, .any), (4, .any), (6, .any), (8, .any), (10, .any), (12, .any), (14, .any), (16, .any), (18, .any), (20, .any), (22, .any), (24, .any), (26, .any), (28, .any), (30, .any)]) rfl ?_
  refine e_kw ?_
  refine w_seqw ?_
  refine w_seqw ?_
  refine w_region ?_
  refine o_p rfl (p_move (v := .c (.int _ _)) rfl) ?_
  refine o_end (fr' := [(0, .c (.int _ _)), (2, .c (.int _ _)), (3, .c (.int _ _)), (4, .any), (6, .any), (8, .any), (10, .any), (12, .any), (14, .any), (16, .any), (18, .any), (20, .any), (22, .any), (24, .any), (26, .any), (28, .any), (30, .any)]) rfl ?_
  refine e_kw ?_
  refine w_block ?_
  refine w_seqw ?_
  refine w_region ?_
  refine o_p rfl (p_eql rfl rfl) ?_
  refine o_p rfl (p_assign (v := .c (.bool _)) rfl) ?_
  refine o_end (fr' := [(0, .c (.int _ _)), (2, .c (.int _ _)), (3, .c (.int _ _)), (4, .c (.bool _)), (6, .any), (8, .any), (10, .any), (12, .any), (14, .any), (16, .any), (18, .any), (20, .any), (22, .any), (24, .any), (26, .any), (28, .any), (30, .any)]) rfl ?_
  refine e_kw ?_
  refine w_cond _ rfl (fun hb1 => ?_) (fun hb1 => ?_)
  · skip
    have h1 := cond_t (b := (decide (p0kind = (7 : Int)))) hb1 h
    refine w_seqw ?_
    refine w_region ?_
    refine o_p rfl (p_assign (v := .c (.int _ _)) rfl) ?_
    refine o_end (fr' := [(0, .c (.int _ _)), (2, .c (.int _ _)), (3, .c (.int _ _)), (4, .c (.bool _)), (6, .any), (8, .any), (10, .any), (12, .any), (14, .any), (16, .any), (18, .any), (20, .any), (22, .any), (24, .any), (26, .any), (28, .any), (30, .any)]) rfl ?_
    refine e_kw ?_
    refine w_ret ?_
    refine e_blk_r ?_
    refine e_seq_r ?_
    have he2 := Option.some.inj h1
    subst he2
    refine e_ret (rs' := [.tmp 2]) rfl ?_
    refine r_tmp (v := .c (.int _ _)) rfl ?_
    refine r_nil ?_
    exact fin_gen [] rfl rfl rfl (AV.le_refl _) st_nil
  · skip
    have h1 := cond_f (b := (decide (p0kind = (7 : Int)))) hb1 h
    refine w_seqw ?_
    refine w_region ?_
    refine o_p rfl (p_eql rfl rfl) ?_
    refine o_p rfl (p_assign (v := .c (.bool _)) rfl) ?_
    refine o_end (fr' := [(0, .c (.int _ _)), (2, .c (.int _ _)), (3, .c (.int _ _)), (4, .c (.bool _)), (6, .c (.bool _)), (8, .any), (10, .any), (12, .any), (14, .any), (16, .any), (18, .any), (20, .any), (22, .any), (24, .any), (26, .any), (28, .any), (30, .any)]) rfl ?_
    refine e_kw ?_
    refine w_cond _ rfl (fun hb3 => ?_) (fun hb3 => ?_)
    · skip
      have h3 := cond_t (b := (decide (p0kind = (12 : Int)))) hb3 h1
      refine w_seqw ?_
      refine w_region ?_
      refine o_p rfl (p_assign (v := .c (.int _ _)) rfl) ?_
      refine o_end (fr' := [(0, .c (.int _ _)), (2, .c (.int _ _)), (3, .c (.int _ _)), (4, .c (.bool _)), (6, .c (.bool _)), (8, .any), (10, .any), (12, .any), (14, .any), (16, .any), (18, .any), (20, .any), (22, .any), (24, .any), (26, .any), (28, .any), (30, .any)]) rfl ?_
      refine e_kw ?_
      refine w_ret ?_
      refine e_blk_r ?_
      refine e_seq_r ?_
      have he4 := Option.some.inj h3
      subst he4
      refine e_ret (rs' := [.tmp 2]) rfl ?_
      refine r_tmp (v := .c (.int _ _)) rfl ?_
      refine r_nil ?_
      exact fin_gen [] rfl rfl rfl (AV.le_refl _) st_nil
    · skip
      have h3 := cond_f (b := (decide (p0kind = (12 : Int)))) hb3 h1
      refine w_seqw ?_
      refine w_region ?_
      refine o_p rfl (p_eql rfl rfl) ?_
      refine o_p rfl (p_assign (v := .c (.bool _)) rfl) ?_
      refine o_end (fr' := [(0, .c (.int _ _)), (2, .c (.int _ _)), (3, .c (.int _ _)), (4, .c (.bool _)), (6, .c (.bool _)), (8, .c (.bool _)), (10, .any), (12, .any), (14, .any), (16, .any), (18, .any), (20, .any), (22, .any), (24, .any), (26, .any), (28, .any), (30, .any)]) rfl ?_
      refine e_kw ?_
      refine w_cond _ rfl (fun hb5 => ?_) (fun hb5 => ?_)
      · skip
        have h5 := cond_t (b := (decide (p0kind = (14 : Int)))) hb5 h3
        refine w_seqw ?_
        refine w_region ?_
        refine o_p rfl (p_assign (v := .c (.int _ _)) rfl) ?_
        refine o_end (fr' := [(0, .c (.int _ _)), (2, .c (.int _ _)), (3, .c (.int _ _)), (4, .c (.bool _)), (6, .c (.bool _)), (8, .c (.bool _)), (10, .any), (12, .any), (14, .any), (16, .any), (18, .any), (20, .any), (22, .any), (24, .any), (26, .any), (28, .any), (30, .any)]) rfl ?_
        refine e_kw ?_
        refine w_ret ?_
        refine e_blk_r ?_
        refine e_seq_r ?_
        have he6 := Option.some.inj h5
        subst he6
        refine e_ret (rs' := [.tmp 2]) rfl ?_
        refine r_tmp (v := .c (.int _ _)) rfl ?_
        refine r_nil ?_
        exact fin_gen [] rfl rfl rfl (AV.le_refl _) st_nil
      · skip
        have h5 := cond_f (b := (decide (p0kind = (14 : Int)))) hb5 h3
        refine w_seqw ?_
        refine w_region ?_
        refine o_p rfl (p_eql rfl rfl) ?_
        refine o_p rfl (p_assign (v := .c (.bool _)) rfl) ?_
        refine o_end (fr' := [(0, .c (.int _ _)), (2, .c (.int _ _)), (3, .c (.int _ _)), (4, .c (.bool _)), (6, .c (.bool _)), (8, .c (.bool _)), (10, .c (.bool _)), (12, .any), (14, .any), (16, .any), (18, .any), (20, .any), (22, .any), (24, .any), (26, .any), (28, .any), (30, .any)]) rfl ?_
        refine e_kw ?_
        refine w_cond _ rfl (fun hb7 => ?_) (fun hb7 => ?_)
        · skip
          have h7 := cond_t (b := (decide (p0kind = (16 : Int)))) hb7 h5
          refine w_seqw ?_
          refine w_region ?_
          refine o_p rfl (p_assign (v := .c (.int _ _)) rfl) ?_
          refine o_end (fr' := [(0, .c (.int _ _)), (2, .c (.int _ _)), (3, .c (.int _ _)), (4, .c (.bool _)), (6, .c (.bool _)), (8, .c (.bool _)), (10, .c (.bool _)), (12, .any), (14, .any), (16, .any), (18, .any), (20, .any), (22, .any), (24, .any), (26, .any), (28, .any), (30, .any)]) rfl ?_
          refine e_kw ?_
          refine w_ret ?_
          refine e_blk_r ?_
          refine e_seq_r ?_
          have he8 := Option.some.inj h7
          subst he8
          refine e_ret (rs' := [.tmp 2]) rfl ?_
          refine r_tmp (v := .c (.int _ _)) rfl ?_
          refine r_nil ?_
          exact fin_gen [] rfl rfl rfl (AV.le_refl _) st_nil
        · skip
          have h7 := cond_f (b := (decide (p0kind = (16 : Int)))) hb7 h5
          refine w_seqw ?_
          refine w_region ?_
          refine o_p rfl (p_eql rfl rfl) ?_
          refine o_p rfl (p_assign (v := .c (.bool _)) rfl) ?_
          refine o_end (fr' := [(0, .c (.int _ _)), (2, .c (.int _ _)), (3, .c (.int _ _)), (4, .c (.bool _)), (6, .c (.bool _)), (8, .c (.bool _)), (10, .c (.bool _)), (12, .c (.bool _)), (14, .any), (16, .any), (18, .any), (20, .any), (22, .any), (24, .any), (26, .any), (28, .any), (30, .any)]) rfl ?_
          refine e_kw ?_
          refine w_cond _ rfl (fun hb9 => ?_) (fun hb9 => ?_)
          · skip
            have h9 := cond_t (b := (decide (p0kind = (19 : Int)))) hb9 h7
            refine w_seqw ?_
            refine w_region ?_
            refine o_p rfl (p_assign (v := .c (.int _ _)) rfl) ?_
            refine o_end (fr' := [(0, .c (.int _ _)), (2, .c (.int _ _)), (3, .c (.int _ _)), (4, .c (.bool _)), (6, .c (.bool _)), (8, .c (.bool _)), (10, .c (.bool _)), (12, .c (.bool _)), (14, .any), (16, .any), (18, .any), (20, .any), (22, .any), (24, .any), (26, .any), (28, .any), (30, .any)]) rfl ?_
            refine e_kw ?_
            refine w_ret ?_
            refine e_blk_r ?_
            refine e_seq_r ?_
            have he10 := Option.some.inj h9
            subst he10
            refine e_ret (rs' := [.tmp 2]) rfl ?_
            refine r_tmp (v := .c (.int _ _)) rfl ?_
            refine r_nil ?_
            exact fin_gen [] rfl rfl rfl (AV.le_refl _) st_nil
          · skip
            have h9 := cond_f (b := (decide (p0kind = (19 : Int)))) hb9 h7
            refine w_seqw ?_
            refine w_region ?_
            refine o_p rfl (p_eql rfl rfl) ?_
            refine o_p rfl (p_assign (v := .c (.bool _)) rfl) ?_
            refine o_end (fr' := [(0, .c (.int _ _)), (2, .c (.int _ _)), (3, .c (.int _ _)), (4, .c (.bool _)), (6, .c (.bool _)), (8, .c (.bool _)), (10, .c (.bool _)), (12, .c (.bool _)), (14, .c (.bool _)), (16, .any), (18, .any), (20, .any), (22, .any), (24, .any), (26, .any), (28, .any), (30, .any)]) rfl ?_
            refine e_kw ?_
            refine w_cond _ rfl (fun hb11 => ?_) (fun hb11 => ?_)
            · skip
              have h11 := cond_t (b := (decide (p0kind = (23 : Int)))) hb11 h9
              refine w_seqw ?_
              refine w_region ?_
              refine o_p rfl (p_assign (v := .c (.int _ _)) rfl) ?_
              refine o_end (fr' := [(0, .c (.int _ _)), (2, .c (.int _ _)), (3, .c (.int _ _)), (4, .c (.bool _)), (6, .c (.bool _)), (8, .c (.bool _)), (10, .c (.bool _)), (12, .c (.bool _)), (14, .c (.bool _)), (16, .any), (18, .any), (20, .any), (22, .any), (24, .any), (26, .any), (28, .any), (30, .any)]) rfl ?_
              refine e_kw ?_
              refine w_ret ?_
              refine e_blk_r ?_
              refine e_seq_r ?_
              have he12 := Option.some.inj h11
              subst he12
              refine e_ret (rs' := [.tmp 2]) rfl ?_
              refine r_tmp (v := .c (.int _ _)) rfl ?_
              refine r_nil ?_
              exact fin_gen [] rfl rfl rfl (AV.le_refl _) st_nil
            · skip
              have h11 := cond_f (b := (decide (p0kind = (23 : Int)))) hb11 h9
              refine w_seqw ?_
              refine w_region ?_
              refine o_p rfl (p_eql rfl rfl) ?_
              refine o_p rfl (p_assign (v := .c (.bool _)) rfl) ?_
              refine o_end (fr' := [(0, .c (.int _ _)), (2, .c (.int _ _)), (3, .c (.int _ _)), (4, .c (.bool _)), (6, .c (.bool _)), (8, .c (.bool _)), (10, .c (.bool _)), (12, .c (.bool _)), (14, .c (.bool _)), (16, .c (.bool _)), (18, .any), (20, .any), (22, .any), (24, .any), (26, .any), (28, .any), (30, .any)]) rfl ?_
              refine e_kw ?_
              refine w_cond _ rfl (fun hb13 => ?_) (fun hb13 => ?_)
              · skip
                have h13 := cond_t (b := (decide (p0kind = (18 : Int)))) hb13 h11
                refine w_seqw ?_
                refine w_region ?_
                refine o_p rfl (p_assign (v := .c (.int _ _)) rfl) ?_
                refine o_end (fr' := [(0, .c (.int _ _)), (2, .c (.int _ _)), (3, .c (.int _ _)), (4, .c (.bool _)), (6, .c (.bool _)), (8, .c (.bool _)), (10, .c (.bool _)), (12, .c (.bool _)), (14, .c (.bool _)), (16, .c (.bool _)), (18, .any), (20, .any), (22, .any), (24, .any), (26, .any), (28, .any), (30, .any)]) rfl ?_
                refine e_kw ?_
                refine w_ret ?_
                refine e_blk_r ?_
                refine e_seq_r ?_
                have he14 := Option.some.inj h13
                subst he14
                refine e_ret (rs' := [.tmp 2]) rfl ?_
                refine r_tmp (v := .c (.int _ _)) rfl ?_
                refine r_nil ?_
                exact fin_gen [] rfl rfl rfl (AV.le_refl _) st_nil
              · skip
                have h13 := cond_f (b := (decide (p0kind = (18 : Int)))) hb13 h11
                refine w_seqw ?_
                refine w_region ?_
                refine o_p rfl (p_eql rfl rfl) ?_
                refine o_p rfl (p_assign (v := .c (.bool _)) rfl) ?_
                refine o_end (fr' := [(0, .c (.int _ _)), (2, .c (.int _ _)), (3, .c (.int _ _)), (4, .c (.bool _)), (6, .c (.bool _)), (8, .c (.bool _)), (10, .c (.bool _)), (12, .c (.bool _)), (14, .c (.bool _)), (16, .c (.bool _)), (18, .c (.bool _)), (20, .any), (22, .any), (24, .any), (26, .any), (28, .any), (30, .any)]) rfl ?_
                refine e_kw ?_
                refine w_cond _ rfl (fun hb15 => ?_) (fun hb15 => ?_)
                · skip
                  have h15 := cond_t (b := (decide (p0kind = (27 : Int)))) hb15 h13
                  refine w_seqw ?_
                  refine w_region ?_
                  refine o_p rfl (p_assign (v := .c (.int _ _)) rfl) ?_
                  refine o_end (fr' := [(0, .c (.int _ _)), (2, .c (.int _ _)), (3, .c (.int _ _)), (4, .c (.bool _)), (6, .c (.bool _)), (8, .c (.bool _)), (10, .c (.bool _)), (12, .c (.bool _)), (14, .c (.bool _)), (16, .c (.bool _)), (18, .c (.bool _)), (20, .any), (22, .any), (24, .any), (26, .any), (28, .any), (30, .any)]) rfl ?_
                  refine e_kw ?_
                  refine w_ret ?_
                  refine e_blk_r ?_
                  refine e_seq_r ?_
                  have he16 := Option.some.inj h15
                  subst he16
                  refine e_ret (rs' := [.tmp 2]) rfl ?_
                  refine r_tmp (v := .c (.int _ _)) rfl ?_
                  refine r_nil ?_
                  exact fin_gen [] rfl rfl rfl (AV.le_refl _) st_nil
                · skip
                  have h15 := cond_f (b := (decide (p0kind = (27 : Int)))) hb15 h13
                  refine w_seqw ?_
                  refine w_region ?_
                  refine o_p rfl (p_eql rfl rfl) ?_
                  refine o_p rfl (p_assign (v := .c (.bool _)) rfl) ?_
                  refine o_end (fr' := [(0, .c (.int _ _)), (2, .c (.int _ _)), (3, .c (.int _ _)), (4, .c (.bool _)), (6, .c (.bool _)), (8, .c (.bool _)), (10, .c (.bool _)), (12, .c (.bool _)), (14, .c (.bool _)), (16, .c (.bool _)), (18, .c (.bool _)), (20, .c (.bool _)), (22, .any), (24, .any), (26, .any), (28, .any), (30, .any)]) rfl ?_
                  refine e_kw ?_
                  refine w_cond _ rfl (fun hb17 => ?_) (fun hb17 => ?_)
                  · skip
                    have h17 := cond_t (b := (decide (p0kind = (28 : Int)))) hb17 h15
                    refine w_seqw ?_
                    refine w_region ?_
                    refine o_p rfl (p_assign (v := .c (.int _ _)) rfl) ?_
                    refine o_end (fr' := [(0, .c (.int _ _)), (2, .c (.int _ _)), (3, .c (.int _ _)), (4, .c (.bool _)), (6, .c (.bool _)), (8, .c (.bool _)), (10, .c (.bool _)), (12, .c (.bool _)), (14, .c (.bool _)), (16, .c (.bool _)), (18, .c (.bool _)), (20, .c (.bool _)), (22, .any), (24, .any), (26, .any), (28, .any), (30, .any)]) rfl ?_
                    refine e_kw ?_
                    refine w_ret ?_
                    refine e_blk_r ?_
                    refine e_seq_r ?_
                    have he18 := Option.some.inj h17
                    subst he18
                    refine e_ret (rs' := [.tmp 2]) rfl ?_
                    refine r_tmp (v := .c (.int _ _)) rfl ?_
                    refine r_nil ?_
                    exact fin_gen [] rfl rfl rfl (AV.le_refl _) st_nil
                  · skip
                    have h17 := cond_f (b := (decide (p0kind = (28 : Int)))) hb17 h15
                    refine w_seqw ?_
                    refine w_region ?_
                    refine o_p rfl (p_eql rfl rfl) ?_
                    refine o_p rfl (p_assign (v := .c (.bool _)) rfl) ?_
                    refine o_end (fr' := [(0, .c (.int _ _)), (2, .c (.int _ _)), (3, .c (.int _ _)), (4, .c (.bool _)), (6, .c (.bool _)), (8, .c (.bool _)), (10, .c (.bool _)), (12, .c (.bool _)), (14, .c (.bool _)), (16, .c (.bool _)), (18, .c (.bool _)), (20, .c (.bool _)), (22, .c (.bool _)), (24, .any), (26, .any), (28, .any), (30, .any)]) rfl ?_
                    refine e_kw ?_
                    refine w_cond _ rfl (fun hb19 => ?_) (fun hb19 => ?_)
                    · skip
                      have h19 := cond_t (b := (decide (p0kind = (29 : Int)))) hb19 h17
                      refine w_seqw ?_
                      refine w_region ?_
                      refine o_p rfl (p_assign (v := .c (.int _ _)) rfl) ?_
                      refine o_end (fr' := [(0, .c (.int _ _)), (2, .c (.int _ _)), (3, .c (.int _ _)), (4, .c (.bool _)), (6, .c (.bool _)), (8, .c (.bool _)), (10, .c (.bool _)), (12, .c (.bool _)), (14, .c (.bool _)), (16, .c (.bool _)), (18, .c (.bool _)), (20, .c (.bool _)), (22, .c (.bool _)), (24, .any), (26, .any), (28, .any), (30, .any)]) rfl ?_
                      refine e_kw ?_
                      refine w_ret ?_
                      refine e_blk_r ?_
                      refine e_seq_r ?_
                      have he20 := Option.some.inj h19
                      subst he20
                      refine e_ret (rs' := [.tmp 2]) rfl ?_
                      refine r_tmp (v := .c (.int _ _)) rfl ?_
                      refine r_nil ?_
                      exact fin_gen [] rfl rfl rfl (AV.le_refl _) st_nil
                    · skip
                      have h19 := cond_f (b := (decide (p0kind = (29 : Int)))) hb19 h17
                      refine w_seqw ?_
                      refine w_region ?_
                      refine o_p rfl (p_eql rfl rfl) ?_
                      refine o_p rfl (p_assign (v := .c (.bool _)) rfl) ?_
                      refine o_end (fr' := [(0, .c (.int _ _)), (2, .c (.int _ _)), (3, .c (.int _ _)), (4, .c (.bool _)), (6, .c (.bool _)), (8, .c (.bool _)), (10, .c (.bool _)), (12, .c (.bool _)), (14, .c (.bool _)), (16, .c (.bool _)), (18, .c (.bool _)), (20, .c (.bool _)), (22, .c (.bool _)), (24, .c (.bool _)), (26, .any), (28, .any), (30, .any)]) rfl ?_
                      refine e_kw ?_
                      refine w_cond _ rfl (fun hb21 => ?_) (fun hb21 => ?_)
                      · skip
                        have h21 := cond_t (b := (decide (p0kind = (30 : Int)))) hb21 h19
                        refine w_seqw ?_
                        refine w_region ?_
                        refine o_p rfl (p_assign (v := .c (.int _ _)) rfl) ?_
                        refine o_end (fr' := [(0, .c (.int _ _)), (2, .c (.int _ _)), (3, .c (.int _ _)), (4, .c (.bool _)), (6, .c (.bool _)), (8, .c (.bool _)), (10, .c (.bool _)), (12, .c (.bool _)), (14, .c (.bool _)), (16, .c (.bool _)), (18, .c (.bool _)), (20, .c (.bool _)), (22, .c (.bool _)), (24, .c (.bool _)), (26, .any), (28, .any), (30, .any)]) rfl ?_
                        refine e_kw ?_
                        refine w_ret ?_
                        refine e_blk_r ?_
                        refine e_seq_r ?_
                        have he22 := Option.some.inj h21
                        subst he22
                        refine e_ret (rs' := [.tmp 2]) rfl ?_
                        refine r_tmp (v := .c (.int _ _)) rfl ?_
                        refine r_nil ?_
                        exact fin_gen [] rfl rfl rfl (AV.le_refl _) st_nil
                      · skip
                        have h21 := cond_f (b := (decide (p0kind = (30 : Int)))) hb21 h19
                        refine w_seqw ?_
                        refine w_region ?_
                        refine o_p rfl (p_eql rfl rfl) ?_
                        refine o_p rfl (p_assign (v := .c (.bool _)) rfl) ?_
                        refine o_end (fr' := [(0, .c (.int _ _)), (2, .c (.int _ _)), (3, .c (.int _ _)), (4, .c (.bool _)), (6, .c (.bool _)), (8, .c (.bool _)), (10, .c (.bool _)), (12, .c (.bool _)), (14, .c (.bool _)), (16, .c (.bool _)), (18, .c (.bool _)), (20, .c (.bool _)), (22, .c (.bool _)), (24, .c (.bool _)), (26, .c (.bool _)), (28, .any), (30, .any)]) rfl ?_
                        refine e_kw ?_
                        refine w_cond _ rfl (fun hb23 => ?_) (fun hb23 => ?_)
                        · skip
                          have h23 := cond_t (b := (decide (p0kind = (31 : Int)))) hb23 h21
                          refine w_seqw ?_
                          refine w_region ?_
                          refine o_p rfl (p_assign (v := .c (.int _ _)) rfl) ?_
                          refine o_end (fr' := [(0, .c (.int _ _)), (2, .c (.int _ _)), (3, .c (.int _ _)), (4, .c (.bool _)), (6, .c (.bool _)), (8, .c (.bool _)), (10, .c (.bool _)), (12, .c (.bool _)), (14, .c (.bool _)), (16, .c (.bool _)), (18, .c (.bool _)), (20, .c (.bool _)), (22, .c (.bool _)), (24, .c (.bool _)), (26, .c (.bool _)), (28, .any), (30, .any)]) rfl ?_
                          refine e_kw ?_
                          refine w_ret ?_
                          refine e_blk_r ?_
                          refine e_seq_r ?_
                          have he24 := Option.some.inj h23
                          subst he24
                          refine e_ret (rs' := [.tmp 2]) rfl ?_
                          refine r_tmp (v := .c (.int _ _)) rfl ?_
                          refine r_nil ?_
                          exact fin_gen [] rfl rfl rfl (AV.le_refl _) st_nil
                        · skip
                          have h23 := cond_f (b := (decide (p0kind = (31 : Int)))) hb23 h21
                          refine w_seqw ?_
                          refine w_region ?_
                          refine o_p rfl (p_eql rfl rfl) ?_
                          refine o_p rfl (p_assign (v := .c (.bool _)) rfl) ?_
                          refine o_end (fr' := [(0, .c (.int _ _)), (2, .c (.int _ _)), (3, .c (.int _ _)), (4, .c (.bool _)), (6, .c (.bool _)), (8, .c (.bool _)), (10, .c (.bool _)), (12, .c (.bool _)), (14, .c (.bool _)), (16, .c (.bool _)), (18, .c (.bool _)), (20, .c (.bool _)), (22, .c (.bool _)), (24, .c (.bool _)), (26, .c (.bool _)), (28, .c (.bool _)), (30, .any)]) rfl ?_
                          refine e_kw ?_
                          refine w_cond _ rfl (fun hb25 => ?_) (fun hb25 => ?_)
                          · skip
                            have h25 := cond_t (b := (decide (p0kind = (32 : Int)))) hb25 h23
                            refine w_seqw ?_
                            refine w_region ?_
                            refine o_p rfl (p_assign (v := .c (.int _ _)) rfl) ?_
                            refine o_end (fr' := [(0, .c (.int _ _)), (2, .c (.int _ _)), (3, .c (.int _ _)), (4, .c (.bool _)), (6, .c (.bool _)), (8, .c (.bool _)), (10, .c (.bool _)), (12, .c (.bool _)), (14, .c (.bool _)), (16, .c (.bool _)), (18, .c (.bool _)), (20, .c (.bool _)), (22, .c (.bool _)), (24, .c (.bool _)), (26, .c (.bool _)), (28, .c (.bool _)), (30, .any)]) rfl ?_
                            refine e_kw ?_
                            refine w_ret ?_
                            refine e_blk_r ?_
                            refine e_seq_r ?_
                            have he26 := Option.some.inj h25
                            subst he26
                            refine e_ret (rs' := [.tmp 2]) rfl ?_
                            refine r_tmp (v := .c (.int _ _)) rfl ?_
                            refine r_nil ?_
                            exact fin_gen [] rfl rfl rfl (AV.le_refl _) st_nil
                          · skip
                            have h25 := cond_f (b := (decide (p0kind = (32 : Int)))) hb25 h23
                            refine w_seqw ?_
                            refine w_region ?_
                            refine o_p rfl (p_eql rfl rfl) ?_
                            refine o_p rfl (p_assign (v := .c (.bool _)) rfl) ?_
                            refine o_end (fr' := [(0, .c (.int _ _)), (2, .c (.int _ _)), (3, .c (.int _ _)), (4, .c (.bool _)), (6, .c (.bool _)), (8, .c (.bool _)), (10, .c (.bool _)), (12, .c (.bool _)), (14, .c (.bool _)), (16, .c (.bool _)), (18, .c (.bool _)), (20, .c (.bool _)), (22, .c (.bool _)), (24, .c (.bool _)), (26, .c (.bool _)), (28, .c (.bool _)), (30, .c (.bool _))]) rfl ?_
                            refine e_kw ?_
                            refine w_cond _ rfl (fun hb27 => ?_) (fun hb27 => ?_)
                            · skip
                              have h27 := cond_t (b := (decide (p0kind = (35 : Int)))) hb27 h25
                              refine w_seqw ?_
                              refine w_region ?_
                              refine o_p rfl (p_assign (v := .c (.int _ _)) rfl) ?_
                              refine o_end (fr' := [(0, .c (.int _ _)), (2, .c (.int _ _)), (3, .c (.int _ _)), (4, .c (.bool _)), (6, .c (.bool _)), (8, .c (.bool _)), (10, .c (.bool _)), (12, .c (.bool _)), (14, .c (.bool _)), (16, .c (.bool _)), (18, .c (.bool _)), (20, .c (.bool _)), (22, .c (.bool _)), (24, .c (.bool _)), (26, .c (.bool _)), (28, .c (.bool _)), (30, .c (.bool _))]) rfl ?_
                              refine e_kw ?_
                              refine w_ret ?_
                              refine e_blk_r ?_
                              refine e_seq_r ?_
                              have he28 := Option.some.inj h27
                              subst he28
                              refine e_ret (rs' := [.tmp 2]) rfl ?_
                              refine r_tmp (v := .c (.int _ _)) rfl ?_
                              refine r_nil ?_
                              exact fin_gen [] rfl rfl rfl (AV.le_refl _) st_nil
                            · skip
                              have h27 := cond_f (b := (decide (p0kind = (35 : Int)))) hb27 h25
                              refine w_skip ?_
                              refine e_blk_n ?_
                              refine e_kw ?_
                              refine w_seqw ?_
                              refine w_region ?_
                              refine o_p rfl (p_assign (v := .c (.int _ _)) rfl) ?_
                              refine o_end (fr' := [(0, .c (.int _ _)), (2, .c (.int _ _)), (3, .c (.int _ _)), (4, .c (.bool _)), (6, .c (.bool _)), (8, .c (.bool _)), (10, .c (.bool _)), (12, .c (.bool _)), (14, .c (.bool _)), (16, .c (.bool _)), (18, .c (.bool _)), (20, .c (.bool _)), (22, .c (.bool _)), (24, .c (.bool _)), (26, .c (.bool _)), (28, .c (.bool _)), (30, .c (.bool _))]) rfl ?_
                              refine e_kw ?_
                              refine w_ret ?_
                              have he29 := Option.some.inj h27
                              subst he29
                              refine e_ret (rs' := [.tmp 2]) rfl ?_
                              refine r_tmp (v := .c (.int _ _)) rfl ?_
                              refine r_nil ?_
                              exact fin_gen [] rfl rfl rfl (AV.le_refl _) st_nil
noncomputable def event_IsCommand (p0kind : Int) : Option Bool :=
  (event_commandOf p0kind).bind fun (x1 : Int) => some (!decide (x1 = (0 : Int)))
theorem w_event_IsCommand {p0kind : Int} {res : Bool} (h : event_IsCommand p0kind = some res) : ACalls Try.prog 50 [.c (.int .i64 p0kind)] [] (.c (.bool res)) [] := by
  unfold event_IsCommand at h
  refine acalls (fn := Try.f50) [0, 2] (by kernel_rfl) Try.func50 rfl (by kernel_rfl) (by kernel_rfl) ?_
  refine w_seqw ?_
  refine w_region ?_
  refine o_p rfl (p_assign (v := .c (.bool _)) rfl) ?_
  refine o_end (fr' := [(0, .c (.int _ _)), (2, .c (.bool _))]) rfl ?_
  refine e_kw ?_
  refine w_seqw ?_
  refine w_region ?_
  refine o_p rfl (p_move (v := .c (.int _ _)) rfl) ?_
  obtain ⟨x1, hx1, h2⟩ := bind_s h
  refine o_v (ov_call (v := .c (.int _ _)) rfl (w_event_commandOf hx1) ⟨(AV.le_refl _), trivial⟩ rfl rfl rfl) ?_
  refine o_p rfl (p_neq rfl rfl) ?_
  refine o_p rfl (p_assign (v := .c (.bool _)) rfl) ?_
  refine o_end (fr' := [(0, .c (.int _ _)), (2, .c (.bool _))]) rfl ?_
  refine e_kw ?_
  refine w_ret ?_
  have he3 := Option.some.inj h2
  subst he3
  refine e_ret (rs' := [.tmp 2]) rfl ?_
  refine r_tmp (v := .c (.bool _)) rfl ?_
  refine r_nil ?_
  exact fin_gen [] rfl rfl rfl (AV.le_refl _) st_nil
end Go.Proofs.Ytnhchphmmdgphaa

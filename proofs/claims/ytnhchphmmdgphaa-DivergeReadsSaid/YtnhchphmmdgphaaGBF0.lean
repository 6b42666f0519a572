import Derived.Test.YtnhchphmmdgphaaGBTy
namespace Go.Proofs.Ytnhchphmmdgphaa
open Go Abs
set_option maxRecDepth 100000
set_option linter.unusedVariables false
set_option linter.unusedSimpArgs false
noncomputable def slices_Clone_byte_byte (p0s : (List UInt8)) : Option (List UInt8) :=
  app 1 ([] : List UInt8) p0s
theorem w_slices_Clone_byte_byte {p0s : (List UInt8)} {res : (List UInt8)} (h : slices_Clone_byte_byte p0s = some res) : ACalls Try.prog 46 [.c (PV.ls 1 brow p0s)] [] (AV.os 0 1 brow res) [] := by
  unfold slices_Clone_byte_byte at h
  refine acalls (fn := Try.f46) [0, 2, 4] (by kernel_rfl) Try.func46 rfl (by kernel_rfl) (by kernel_rfl) ?_
  obtain ⟨hm, he⟩ := app_some h
  rw [List.nil_append] at he
  subst he
  refine w_seqw ?_
  refine w_region ?_
  refine o_p rfl (p_assign (v := .nil) rfl) ?_
  refine o_end (fr' := [(0, .c (PV.ls _ _ _)), (2, .nil), (4, .any)]) rfl ?_
  refine e_kw ?_
  refine w_seqw ?_
  refine w_seqw ?_
  refine w_region ?_
  refine o_p rfl (p_move (v := .c (PV.ls _ _ _)) rfl) ?_
  refine o_nilc (row := brow) ti22 (isl_c rfl) (fun b hb => ?_)
  refine o_end (fr' := [(0, .c (PV.ls _ _ _)), (2, .nil), (4, .c (.bool _))]) rfl ?_
  refine e_kw ?_
  refine w_cond b rfl (fun e => ?_) (fun e => ?_)
  · rw [hb e]
    refine w_seqw ?_
    refine w_region ?_
    refine o_p rfl (p_assign (v := .nil) rfl) ?_
    refine o_end (fr' := [(0, .c (PV.ls _ _ _)), (2, .nil), (4, .c (.bool _))]) rfl ?_
    refine e_kw ?_
    refine w_ret ?_
    refine e_seq_r ?_
    refine e_ret (rs' := [.tmp 2]) rfl ?_
    refine r_tmp (v := .nil) rfl ?_
    refine r_nil ?_
    exact fin_gen [] rfl rfl rfl (le_nos rfl) st_nil
  · refine w_skip ?_
    refine e_kw ?_
    refine w_seqw ?_
    refine w_region ?_
    refine o_rows (row := brow) (xs := ([] : List UInt8)) (rows := []) (σ' := []) [] ts22 rfl rfl rfl arow_nil rfl rfl ?_
    refine o_p rfl (p_move (v := .c (PV.ls _ _ _)) rfl) ?_
    refine o_app (row := brow) ts22 rfl ti22 rfl (isl_c rfl) (fun _ => rfl) h ?_
    refine o_p rfl (p_assign (v := AV.os _ _ _ _) rfl) ?_
    refine o_end (fr' := [(0, .c (PV.ls _ _ _)), (2, AV.os _ _ _ _), (4, .c (.bool _))]) rfl ?_
    refine e_kw ?_
    refine w_ret ?_
    refine e_ret (rs' := [.tmp 2]) rfl ?_
    refine r_tmp (v := AV.os _ _ _ _) rfl ?_
    refine r_nil ?_
    exact fin_gen [112] rfl rfl rfl (AV.le_refl _) st_nil
noncomputable def wire_PutInt_l1  (s6 : ((List UInt8) × Int)) : Option (Step ((List UInt8) × Int) ((List UInt8) × Int)) :=
  cond (decide ((128 : Int) ≤ s6.2)) ((byteOf (abits .or .u8 (IntKind.wrap .u8 s6.2) (128 : Int))).bind fun (x8 : UInt8) => (app 1 s6.1 ([x8] : List UInt8)).bind fun (x10 : (List UInt8)) => some (Step.next (x10, (Int.fdiv s6.2 (2 ^ (min (Int.toNat (7 : Int)) (IntKind.bits .u64))))))) (some (Step.out (s6.1, s6.2)))
noncomputable def wire_PutInt (p0b : (List UInt8)) (p1n : Int) : Option (List UInt8) :=
  (slices_Clone_byte_byte p0b).bind fun (x1 : (List UInt8)) => ((loopO (wire_PutInt_l1) ((x1, (abits .xor .u64 (IntKind.wrap .u64 ((IntKind.wrap .u64 p1n) * 2 ^ (min (Int.toNat (1 : Int)) (IntKind.bits .u64)))) (IntKind.wrap .u64 (Int.fdiv p1n (2 ^ (min (Int.toNat (63 : Int)) (IntKind.bits .i64))))))))) : Option ((List UInt8) × Int)).bind fun (x3 : ((List UInt8) × Int)) => ((byteOf (IntKind.wrap .u8 x3.2)).bind fun (x14 : UInt8) => (app 1 x3.1 ([x14] : List UInt8)).bind fun (x16 : (List UInt8)) => some x16)
theorem w_wire_PutInt {p0b : (List UInt8)} {p1n : Int} {res : (List UInt8)} (h : wire_PutInt p0b p1n = some res) : ACalls Try.prog 14 [.c (PV.ls 1 brow p0b), .c (.int .i64 p1n)] [] (AV.os 0 1 brow res) [] := by
  unfold wire_PutInt at h
  refine acalls (fn := Try.f14) [0, 1, 4, 5, 6, 17] (by kernel_rfl) Try.func14 rfl (by kernel_rfl) (by kernel_rfl) ?_
  refine w_seqw ?_
  refine w_region ?_
  refine o_p rfl (p_assign (v := .nil) rfl) ?_
  refine o_end (fr' := [(0, .c (PV.ls _ _ _)), (1, .c (.int _ _)), (4, .nil), (5, .any), (6, .any), (17, .any)]) rfl ?_
  refine e_kw ?_
  refine w_seqw ?_
  refine w_region ?_
  refine o_p rfl (p_move (v := .c (PV.ls _ _ _)) rfl) ?_
  obtain ⟨x1, hx1, h2⟩ := bind_s h
  refine o_v (ov_call (v := AV.os _ _ _ _) rfl (w_slices_Clone_byte_byte hx1) ⟨(AV.le_refl _), trivial⟩ rfl rfl rfl) ?_
  refine o_p rfl (p_assign (v := AV.os _ _ _ _) rfl) ?_
  refine o_end (fr' := [(0, .c (PV.ls _ _ _)), (1, .c (.int _ _)), (4, .nil), (5, AV.os _ _ _ _), (6, .any), (17, .any)]) rfl ?_
  refine e_kw ?_
  refine w_seqw ?_
  refine w_region ?_
  refine o_p rfl (p_move (v := .c (.int _ _)) rfl) ?_
  refine o_p rfl (p_conv tk3 tk81 rfl) ?_
  refine o_p rfl (p_shl rfl rfl (by decide)) ?_
  refine o_p rfl (p_move (v := .c (.int _ _)) rfl) ?_
  refine o_p rfl (p_shr rfl rfl (by decide)) ?_
  refine o_p rfl (p_conv tk3 tk81 rfl) ?_
  refine o_p rfl (p_xor rfl rfl) ?_
  refine o_p rfl (p_assign (v := .c (.int _ _)) rfl) ?_
  refine o_end (fr' := [(0, .c (PV.ls _ _ _)), (1, .c (.int _ _)), (4, .nil), (5, AV.os _ _ _ _), (6, .c (.int _ _)), (17, .any)]) rfl ?_
  refine e_kw ?_
  obtain ⟨x3, hx3, h4⟩ := bind_s h2
  refine w_join (fun j5 => x3 = j5) (fun (j5 : ((List UInt8) × Int)) => ([(5, AV.os 0 1 brow j5.1), (6, .c (.int .u64 j5.2))] : Fr)) (fun (j5 : ((List UInt8) × Int)) => ([] : St)) ?_ ?_
  · skip
    refine w_block ?_
    refine w_loopo _ (fun (s6 : ((List UInt8) × Int)) => ([(5, AV.os 0 1 brow s6.1), (6, .c (.int .u64 s6.2))] : Fr)) (fun (s6 : ((List UInt8) × Int)) => ([] : St)) hx3 (w_weak [128] 0 rfl rfl rfl rfl ⟨(AV.le_refl _), (AV.le_refl _), trivial⟩ st_nil) ?_
    intro s6 st6 hs6 ho6
    unfold wire_PutInt_l1 at hs6
    refine w_seqw ?_
    refine w_seqw ?_
    refine w_region ?_
    refine o_p rfl (p_move (v := .c (.int _ _)) rfl) ?_
    refine o_p rfl (p_geq rfl rfl) ?_
    refine o_end (fr' := [(0, .any), (1, .any), (4, .any), (5, AV.os _ _ _ _), (6, .c (.int _ _)), (17, .c (.bool _))]) rfl ?_
    refine e_kw ?_
    refine w_cond _ rfl (fun hb7 => ?_) (fun hb7 => ?_)
    · skip
      have h7 := cond_t (b := (decide ((128 : Int) ≤ s6.2))) hb7 hs6
      refine w_skip ?_
      refine e_kw ?_
      refine w_block ?_
      refine w_seqw ?_
      refine w_region ?_
      refine o_p rfl (p_move (v := AV.os _ _ _ _) rfl) ?_
      refine o_p rfl (p_move (v := .c (.int _ _)) rfl) ?_
      refine o_p rfl (p_conv tk81 tk5 rfl) ?_
      refine o_p rfl (p_or rfl rfl) ?_
      obtain ⟨x8, hx8, h9⟩ := bind_s h7
      refine o_rows (row := brow) (xs := ([x8] : List UInt8)) (rows := [[_]]) (σ' := []) [0] ts22 rfl rfl rfl (arow_cons (brow_of hx8) arow_nil) rfl rfl ?_
      obtain ⟨x10, hx10, h11⟩ := bind_s h9
      refine o_app (row := brow) ts22 rfl ti22 rfl (isl_o rfl) (fun _ => rfl) hx10 ?_
      refine o_p rfl (p_assign (v := AV.os _ _ _ _) rfl) ?_
      refine o_end (fr' := [(0, .any), (1, .any), (4, .any), (5, AV.os _ _ _ _), (6, .c (.int _ _)), (17, .c (.bool _))]) rfl ?_
      refine e_kw ?_
      refine w_region ?_
      refine o_p rfl (p_move (v := .c (.int _ _)) rfl) ?_
      refine o_p rfl (p_shr rfl rfl (by decide)) ?_
      refine o_p rfl (p_assign (v := .c (.int _ _)) rfl) ?_
      refine o_end (fr' := [(0, .any), (1, .any), (4, .any), (5, AV.os _ _ _ _), (6, .c (.int _ _)), (17, .c (.bool _))]) rfl ?_
      refine e_blk_n ?_
      exact e_l _ (Option.some.inj h11).symm (w_weak [368] 0 rfl rfl rfl rfl ⟨(AV.le_refl _), (AV.le_refl _), trivial⟩ st_nil)
    · skip
      have h7 := cond_f (b := (decide ((128 : Int) ≤ s6.2))) hb7 hs6
      refine w_exit ?_
      refine e_seq_x ?_
      refine e_seq_x ?_
      refine e_blk_h ?_
      have h12 := un_out h7 ho6
      exact e_j _ (Option.some.inj h12).symm (w_weak [0] 0 rfl rfl rfl rfl ⟨(AV.le_refl _), (AV.le_refl _), trivial⟩ st_nil)
  · skip
    intro j5 hj13
    subst hj13
    refine w_seqw ?_
    refine w_region ?_
    refine o_p rfl (p_move (v := AV.os _ _ _ _) rfl) ?_
    refine o_p rfl (p_move (v := .c (.int _ _)) rfl) ?_
    refine o_p rfl (p_conv tk81 tk5 rfl) ?_
    obtain ⟨x14, hx14, h15⟩ := bind_s h4
    refine o_rows (row := brow) (xs := ([x14] : List UInt8)) (rows := [[_]]) (σ' := []) [0] ts22 rfl rfl rfl (arow_cons (brow_of hx14) arow_nil) rfl rfl ?_
    obtain ⟨x16, hx16, h17⟩ := bind_s h15
    refine o_app (row := brow) ts22 rfl ti22 rfl (isl_o rfl) (fun _ => rfl) hx16 ?_
    refine o_p rfl (p_assign (v := AV.os _ _ _ _) rfl) ?_
    refine o_end (fr' := [(0, .any), (1, .any), (4, AV.os _ _ _ _), (5, .c (PV.ls _ _ _)), (6, .c (.int _ _)), (17, .any)]) rfl ?_
    refine e_kw ?_
    refine w_ret ?_
    have he18 := Option.some.inj h17
    subst he18
    refine e_ret (rs' := [.tmp 4]) rfl ?_
    refine r_tmp (v := AV.os _ _ _ _) rfl ?_
    refine r_nil ?_
    exact fin_gen [480] rfl rfl rfl (AV.le_refl _) st_nil
noncomputable def law01xequal_l1 (p0a : (List UInt8)) (p1b : (List UInt8)) (s6 : Int) : Option (Step Int (Fl Bool Unit)) :=
  cond (decide (s6 < ((p0a).length : Int))) ((idx p0a s6).bind fun (x8 : UInt8) => (idx p1b s6).bind fun (x10 : UInt8) => cond (!decide (((x8).toNat : Int) = ((x10).toNat : Int))) (some (Step.out (Fl.done false))) (some (Step.next (IntKind.wrap .i64 (s6 + (1 : Int)))))) (some (Step.out (Fl.go ())))
noncomputable def law01xequal (p0a : (List UInt8)) (p1b : (List UInt8)) : Option Bool :=
  cond (!decide (((p0a).length : Int) = ((p1b).length : Int))) (some false) (((loopO (law01xequal_l1 p0a p1b) ((0 : Int))) : Option (Fl Bool Unit)).bind fun (x3 : (Fl Bool Unit)) => Fl.next x3 (fun (j5 : Unit) => (some true)))
theorem w_law01xequal {p0a : (List UInt8)} {p1b : (List UInt8)} {res : Bool} (h : law01xequal p0a p1b = some res) : ACalls Try.prog 15 [.c (PV.ls 1 brow p0a), .c (PV.ls 1 brow p1b)] [] (.c (.bool res)) [] := by
  unfold law01xequal at h
  refine acalls (fn := Try.f15) [0, 1, 4, 5, 10, 12, 13, 14, 24] (by kernel_rfl) Try.func15 rfl (by kernel_rfl) (by kernel_rfl) ?_
  refine w_seqw ?_
  refine w_region ?_
  refine o_p rfl (p_assign (v := .c (.bool _)) rfl) ?_
  refine o_end (fr' := [(0, .c (PV.ls _ _ _)), (1, .c (PV.ls _ _ _)), (4, .c (.bool _)), (5, .any), (10, .any), (12, .any), (13, .any), (14, .any), (24, .any)]) rfl ?_
  refine e_kw ?_
  refine w_seqw ?_
  refine w_seqw ?_
  refine w_region ?_
  refine o_p rfl (p_move (v := .c (PV.ls _ _ _)) rfl) ?_
  refine o_p rfl (p_len ti22 (isl_c rfl)) ?_
  refine o_p rfl (p_move (v := .c (PV.ls _ _ _)) rfl) ?_
  refine o_p rfl (p_len ti22 (isl_c rfl)) ?_
  refine o_p rfl (p_neq rfl rfl) ?_
  refine o_end (fr' := [(0, .c (PV.ls _ _ _)), (1, .c (PV.ls _ _ _)), (4, .c (.bool _)), (5, .any), (10, .c (.bool _)), (12, .any), (13, .any), (14, .any), (24, .any)]) rfl ?_
  refine e_kw ?_
  refine w_cond _ rfl (fun hb1 => ?_) (fun hb1 => ?_)
  · skip
    have h1 := cond_t (b := (!decide (((p0a).length : Int) = ((p1b).length : Int)))) hb1 h
    refine w_seqw ?_
    refine w_region ?_
    refine o_p rfl (p_assign (v := .c (.bool _)) rfl) ?_
    refine o_end (fr' := [(0, .c (PV.ls _ _ _)), (1, .c (PV.ls _ _ _)), (4, .c (.bool _)), (5, .any), (10, .c (.bool _)), (12, .any), (13, .any), (14, .any), (24, .any)]) rfl ?_
    refine e_kw ?_
    refine w_ret ?_
    refine e_seq_r ?_
    have he2 := Option.some.inj h1
    subst he2
    refine e_ret (rs' := [.tmp 4]) rfl ?_
    refine r_tmp (v := .c (.bool _)) rfl ?_
    refine r_nil ?_
    exact fin_gen [] rfl rfl rfl (AV.le_refl _) st_nil
  · skip
    have h1 := cond_f (b := (!decide (((p0a).length : Int) = ((p1b).length : Int)))) hb1 h
    refine w_skip ?_
    refine e_kw ?_
    refine w_seqw ?_
    refine w_seqw ?_
    refine w_region ?_
    refine o_p rfl (p_move (v := .c (PV.ls _ _ _)) rfl) ?_
    refine o_p rfl (p_len ti22 (isl_c rfl)) ?_
    refine o_p rfl (p_move (v := .c (.int _ _)) rfl) ?_
    refine o_end (fr' := [(0, .c (PV.ls _ _ _)), (1, .c (PV.ls _ _ _)), (4, .c (.bool _)), (5, .any), (10, .c (.bool _)), (12, .c (.int _ _)), (13, .c (.int _ _)), (14, .any), (24, .any)]) rfl ?_
    refine e_kw ?_
    obtain ⟨x3, hx3, h4⟩ := bind_s h1
    refine w_jtail cl_kw (fun j5 => x3 = Fl.go j5) (fun (j5 : Unit) => ([] : Fr)) (fun (j5 : Unit) => ([] : St)) ?_ ?_
    · skip
      refine w_block ?_
      refine w_loopo _ (fun (s6 : Int) => ([(0, .c (PV.ls 1 brow p0a)), (1, .c (PV.ls 1 brow p1b)), (12, .c (.int .i64 ((p0a).length : Int))), (13, .c (.int .i64 s6))] : Fr)) (fun (s6 : Int) => ([] : St)) hx3 (w_weak [] 0 rfl rfl rfl rfl ⟨(AV.le_refl _), (AV.le_refl _), (AV.le_refl _), (AV.le_refl _), trivial⟩ st_nil) ?_
      intro s6 st6 hs6 ho6
      unfold law01xequal_l1 at hs6
      refine w_seqw ?_
      refine w_region ?_
      refine o_p rfl (p_lss rfl rfl) ?_
      refine o_end (fr' := [(0, .c (PV.ls _ _ _)), (1, .c (PV.ls _ _ _)), (4, .any), (5, .any), (10, .any), (12, .c (.int _ _)), (13, .c (.int _ _)), (14, .c (.bool _)), (24, .any)]) rfl ?_
      refine e_kw ?_
      refine w_seqw ?_
      refine w_cond _ rfl (fun hb7 => ?_) (fun hb7 => ?_)
      · skip
        have h7 := cond_t (b := (decide (s6 < ((p0a).length : Int)))) hb7 hs6
        refine w_skip ?_
        refine e_kw ?_
        refine w_seqw ?_
        refine w_block ?_
        refine w_seqw ?_
        refine w_region ?_
        refine o_p rfl (p_move (v := .c (.int _ _)) rfl) ?_
        refine o_p rfl (p_assign (v := .c (.int _ _)) rfl) ?_
        refine o_end (fr' := [(0, .c (PV.ls _ _ _)), (1, .c (PV.ls _ _ _)), (4, .any), (5, .c (.int _ _)), (10, .any), (12, .c (.int _ _)), (13, .c (.int _ _)), (14, .c (.bool _)), (24, .any)]) rfl ?_
        refine e_kw ?_
        refine w_seqw ?_
        refine w_planT [.q 0, .q 1, .q 2, .q 3, .q 4, .q 5, .q 6, .q 7, .q 8] [(some 16, [0]), (some 17, [5]), (some 18, [16, 17]), (some 19, [18]), (some 20, [1]), (some 21, [5]), (some 22, [20, 21]), (some 23, [22]), (some 24, [19, 23])] [0, 0, 3, 7, 0, 0, 48, 112, 255] (by kernel_rfl) ?_
        refine d_q rfl (qv_p rfl (p_move (v := .c (PV.ls _ _ _)) rfl)) ?_
        refine d_q rfl (qv_p rfl (p_move (v := .c (.int _ _)) rfl)) ?_
        obtain ⟨x8, hx8, h9⟩ := bind_s h7
        refine d_q rfl (qv_p rfl (p_ia (cs := [.int _ _]) ts22 (isl_c rfl) rfl hx8 rfl)) ?_
        refine d_q rfl (qv_p rfl (p_loade (p := .int _ _) tv5 rfl rfl)) ?_
        refine d_q rfl (qv_p rfl (p_move (v := .c (PV.ls _ _ _)) rfl)) ?_
        refine d_q rfl (qv_p rfl (p_move (v := .c (.int _ _)) rfl)) ?_
        obtain ⟨x10, hx10, h11⟩ := bind_s h9
        refine d_q rfl (qv_p rfl (p_ia (cs := [.int _ _]) ts22 (isl_c rfl) rfl hx10 rfl)) ?_
        refine d_q rfl (qv_p rfl (p_loade (p := .int _ _) tv5 rfl rfl)) ?_
        refine d_q rfl (qv_p rfl (p_neq rfl rfl)) ?_
        refine d_end (fr' := [(0, .c (PV.ls _ _ _)), (1, .c (PV.ls _ _ _)), (4, .any), (5, .c (.int _ _)), (10, .any), (12, .c (.int _ _)), (13, .c (.int _ _)), (14, .c (.bool _)), (24, .c (.bool _))]) rfl ?_
        refine e_kw ?_
        refine w_cond _ rfl (fun hb12 => ?_) (fun hb12 => ?_)
        · skip
          have h12 := cond_t (b := (!decide (((x8).toNat : Int) = ((x10).toNat : Int)))) hb12 h11
          refine w_seqw ?_
          refine w_region ?_
          refine o_p rfl (p_assign (v := .c (.bool _)) rfl) ?_
          refine o_end (fr' := [(0, .c (PV.ls _ _ _)), (1, .c (PV.ls _ _ _)), (4, .c (.bool _)), (5, .c (.int _ _)), (10, .any), (12, .c (.int _ _)), (13, .c (.int _ _)), (14, .c (.bool _)), (24, .c (.bool _))]) rfl ?_
          refine e_kw ?_
          refine w_ret ?_
          refine e_blk_r ?_
          refine e_seq_r ?_
          refine e_seq_r ?_
          refine e_blk_r ?_
          refine e_seq_r ?_
          refine e_seq_r ?_
          have h13 := un_out h12 ho6
          have h14 := un_done h13 h4
          have he15 := Option.some.inj h14
          subst he15
          refine e_ret (rs' := [.tmp 4]) rfl ?_
          refine r_tmp (v := .c (.bool _)) rfl ?_
          refine r_nil ?_
          exact fin_gen [] rfl rfl rfl (AV.le_refl _) st_nil
        · skip
          have h12 := cond_f (b := (!decide (((x8).toNat : Int) = ((x10).toNat : Int)))) hb12 h11
          refine w_skip ?_
          refine e_blk_n ?_
          refine e_kw ?_
          refine w_region ?_
          refine o_p rfl (p_add rfl rfl) ?_
          refine o_p rfl (p_move (v := .c (.int _ _)) rfl) ?_
          refine o_end (fr' := [(0, .c (PV.ls _ _ _)), (1, .c (PV.ls _ _ _)), (4, .any), (5, .c (.int _ _)), (10, .any), (12, .c (.int _ _)), (13, .c (.int _ _)), (14, .c (.bool _)), (24, .c (.bool _))]) rfl ?_
          exact e_l _ (Option.some.inj h12).symm (w_weak [] 0 rfl rfl rfl rfl ⟨(AV.le_refl _), (AV.le_refl _), (AV.le_refl _), (AV.le_refl _), trivial⟩ st_nil)
      · skip
        have h7 := cond_f (b := (decide (s6 < ((p0a).length : Int)))) hb7 hs6
        refine w_exit ?_
        refine e_seq_x ?_
        refine e_seq_x ?_
        refine e_blk_h ?_
        have h16 := un_out h7 ho6
        exact e_j _ (Option.some.inj h16).symm (w_weak [] 0 rfl rfl rfl rfl trivial st_nil)
    · skip
      intro j5 hj17
      have h17 := un_go hj17 h4
      refine e_kw ?_
      refine w_seqw ?_
      refine w_region ?_
      refine o_p rfl (p_assign (v := .c (.bool _)) rfl) ?_
      refine o_end (fr' := [(0, .any), (1, .any), (4, .c (.bool _)), (5, .any), (10, .any), (12, .any), (13, .any), (14, .any), (24, .any)]) rfl ?_
      refine e_kw ?_
      refine w_ret ?_
      have he18 := Option.some.inj h17
      subst he18
      refine e_ret (rs' := [.tmp 4]) rfl ?_
      refine r_tmp (v := .c (.bool _)) rfl ?_
      refine r_nil ?_
      exact fin_gen [] rfl rfl rfl (AV.le_refl _) st_nil
noncomputable def wire_Open (p0b : (List UInt8)) : Option WireReader :=
  (slices_Clone_byte_byte p0b).bind fun (x1 : (List UInt8)) => some (WireReader.mk x1 (0 : Int) (0 : Int) true)
theorem w_wire_Open {p0b : (List UInt8)} {res : WireReader} (h : wire_Open p0b = some res) : ACalls Try.prog 17 [.c (PV.ls 1 brow p0b)] [] (.box 0 0) [AV.cs (rowWireReader res)] := by
  unfold wire_Open at h
  refine acalls (fn := Try.f17) [0, 2] (by kernel_rfl) Try.func17 rfl (by kernel_rfl) (by kernel_rfl) ?_
  refine w_seqw ?_
  refine w_region ?_
  refine o_p rfl (p_assign (v := .nilptr) rfl) ?_
  refine o_end (fr' := [(0, .c (PV.ls _ _ _)), (2, .nilptr)]) rfl ?_
  refine e_kw ?_
  refine w_seqw ?_
  refine w_region ?_
  refine o_p rfl (p_move (v := .c (PV.ls _ _ _)) rfl) ?_
  obtain ⟨x1, hx1, h2⟩ := bind_s h
  refine o_v (ov_call (v := AV.os _ _ _ _) rfl (w_slices_Clone_byte_byte hx1) ⟨(AV.le_refl _), trivial⟩ rfl rfl rfl) ?_
  refine o_p rfl (p_build (cs := [AV.os _ _ _ _, .c (.int _ _), .c (.int _ _), .c (.bool _)]) tb60 rfl) ?_
  refine o_box (v := .agg [AV.os _ _ _ _, .c (.int _ _), .c (.int _ _), .c (.bool _)]) (n := 0) (cs := [AV.os _ _ _ _, .c (.int _ _), .c (.int _ _), .c (.bool _)]) (σ' := [[AV.os _ _ _ _, .c (.int _ _), .c (.int _ _), .c (.bool _)]]) rfl rfl rfl rfl rfl ?_
  refine o_p rfl (p_assign (v := .box 0 0) rfl) ?_
  refine o_end (fr' := [(0, .c (PV.ls _ _ _)), (2, .box 0 0)]) rfl ?_
  refine e_kw ?_
  refine w_ret ?_
  have he3 := Option.some.inj h2
  subst he3
  refine e_ret (rs' := [.tmp 2]) rfl ?_
  refine r_tmp (v := .box 0 0) rfl ?_
  refine r_nil ?_
  exact fin_new (off := 0) (j := 0) rfl rfl rfl rfl rfl (st_c ⟨rfl, rfl, rfl, rfl, trivial⟩ st_nil)
noncomputable def wire_Reader_dead (p100v : WireReader) : Option Bool :=
  some (cond (!p100v.made_) true (!decide (p100v.err_ = (0 : Int))))
theorem w_wire_Reader_dead {p100v : WireReader} {res : Bool} (h : wire_Reader_dead p100v = some res) : ACalls Try.prog 48 [.box 0 0] [AV.cs (rowWireReader p100v)] (.c (.bool res)) [AV.cs (rowWireReader p100v)] := by
  unfold wire_Reader_dead at h
  refine acalls (fn := Try.f48) [0, 2] (by kernel_rfl) Try.func48 rfl (by kernel_rfl) (by kernel_rfl) ?_
  refine w_seqw ?_
  refine w_region ?_
  refine o_p rfl (p_assign (v := .c (.bool _)) rfl) ?_
  refine o_end (fr' := [(0, .box 0 0), (2, .c (.bool _))]) rfl ?_
  refine e_kw ?_
  refine w_seqw ?_
  refine w_region ?_
  refine o_p rfl (p_move (v := .box 0 0) rfl) ?_
  refine o_p rfl (p_peql ti27 rfl rfl) ?_
  refine o_p rfl (p_move (v := .c (.bool _)) rfl) ?_
  refine o_g rfl rfl (fun hc => ov_p rfl (p_move (v := .box 0 0) rfl)) ?_
  refine o_g rfl rfl (fun hc => ov_p rfl (p_nc (gx rfl hc))) ?_
  refine o_g rfl rfl (fun hc => ov_p rfl (p_fa tf60x3 (gx rfl hc))) ?_
  refine o_g rfl rfl (fun hc => ov_p rfl (p_load (v := .c (.bool _)) tv4 (gx rfl hc) rfl rfl)) ?_
  refine o_g rfl rfl (fun hc => ov_p rfl (p_not (gx rfl hc))) ?_
  refine o_p rfl (p_k (p_pickz rfl rfl rfl (fun e => keq e)) (show _ = .bool (!p100v.made_) from rfl)) ?_
  refine o_p rfl (p_move (v := .c (.bool _)) rfl) ?_
  refine o_g rfl rfl (fun hc => ov_p rfl (p_move (v := .box 0 0) rfl)) ?_
  refine o_g rfl rfl (fun hc => ov_p rfl (p_nc (gx rfl hc))) ?_
  refine o_g rfl rfl (fun hc => ov_p rfl (p_fa tf60x2 (gx rfl hc))) ?_
  refine o_g rfl rfl (fun hc => ov_p rfl (p_load (v := .c (.int _ _)) tv30 (gx rfl hc) rfl rfl)) ?_
  refine o_g rfl rfl (fun hc => ov_p rfl (p_neq (gx rfl hc) rfl)) ?_
  refine o_p rfl (p_pickz rfl rfl rfl (fun e => keq e)) ?_
  refine o_p rfl (p_assign (v := .c (.bool _)) rfl) ?_
  refine o_end (fr' := [(0, .box 0 0), (2, .c (.bool _))]) rfl ?_
  refine e_kw ?_
  refine w_ret ?_
  have he1 := Option.some.inj h
  subst he1
  refine e_ret (rs' := [.tmp 2]) rfl ?_
  refine r_tmp (v := .c (.bool _)) rfl ?_
  refine r_nil ?_
  exact fin_gen [] rfl rfl rfl (AV.le_refl _) (st_r rfl st_nil)
noncomputable def wire_Reader_Int_l1 (p100v : WireReader) (p1low : Int) (p2high : Int) (s10 : (Int × Int)) : Option (Step (Int × Int) (Fl (Int × WireReader) Unit)) :=
  cond (decide (s10.2 < (10 : Int))) (cond (decide ((((List.drop (Int.toNat p100v.at_) p100v.b_)).length : Int) ≤ s10.2)) (some (Step.out (Fl.done ((0 : Int), (WireReader.mk p100v.b_ p100v.at_ (4 : Int) p100v.made_))))) ((idx (List.drop (Int.toNat p100v.at_) p100v.b_) s10.2).bind fun (x16 : UInt8) => (nn (IntKind.wrap .i64 ((7 : Int) * s10.2))).bind fun (x18 : Int) => cond (decide ((128 : Int) ≤ ((x16).toNat : Int))) (some (Step.next ((abits .or .u64 s10.1 (IntKind.wrap .u64 ((IntKind.wrap .u64 (abits .and .u8 ((x16).toNat : Int) (127 : Int))) * 2 ^ (min (Int.toNat (IntKind.wrap .i64 ((7 : Int) * s10.2))) (IntKind.bits .u64))))), (IntKind.wrap .i64 (s10.2 + (1 : Int)))))) (cond (cond (cond (decide ((0 : Int) < s10.2)) (decide (((x16).toNat : Int) = (0 : Int))) false) true (cond (decide (s10.2 = (9 : Int))) (decide ((1 : Int) < ((x16).toNat : Int))) false)) (some (Step.out (Fl.done ((0 : Int), (WireReader.mk p100v.b_ p100v.at_ (3 : Int) p100v.made_))))) (cond (cond (decide ((abits .xor .i64 (IntKind.wrap .i64 (Int.fdiv (abits .or .u64 s10.1 (IntKind.wrap .u64 ((IntKind.wrap .u64 (abits .and .u8 ((x16).toNat : Int) (127 : Int))) * 2 ^ (min (Int.toNat (IntKind.wrap .i64 ((7 : Int) * s10.2))) (IntKind.bits .u64))))) (2 ^ (min (Int.toNat (1 : Int)) (IntKind.bits .u64))))) (IntKind.wrap .i64 (0 - (IntKind.wrap .i64 (abits .and .u64 (abits .or .u64 s10.1 (IntKind.wrap .u64 ((IntKind.wrap .u64 (abits .and .u8 ((x16).toNat : Int) (127 : Int))) * 2 ^ (min (Int.toNat (IntKind.wrap .i64 ((7 : Int) * s10.2))) (IntKind.bits .u64))))) (1 : Int)))))) < p1low)) true (decide (p2high < (abits .xor .i64 (IntKind.wrap .i64 (Int.fdiv (abits .or .u64 s10.1 (IntKind.wrap .u64 ((IntKind.wrap .u64 (abits .and .u8 ((x16).toNat : Int) (127 : Int))) * 2 ^ (min (Int.toNat (IntKind.wrap .i64 ((7 : Int) * s10.2))) (IntKind.bits .u64))))) (2 ^ (min (Int.toNat (1 : Int)) (IntKind.bits .u64))))) (IntKind.wrap .i64 (0 - (IntKind.wrap .i64 (abits .and .u64 (abits .or .u64 s10.1 (IntKind.wrap .u64 ((IntKind.wrap .u64 (abits .and .u8 ((x16).toNat : Int) (127 : Int))) * 2 ^ (min (Int.toNat (IntKind.wrap .i64 ((7 : Int) * s10.2))) (IntKind.bits .u64))))) (1 : Int))))))))) (some (Step.out (Fl.done ((0 : Int), (WireReader.mk p100v.b_ (IntKind.wrap .i64 (p100v.at_ + (IntKind.wrap .i64 (s10.2 + (1 : Int))))) (14 : Int) p100v.made_))))) (some (Step.out (Fl.done ((abits .xor .i64 (IntKind.wrap .i64 (Int.fdiv (abits .or .u64 s10.1 (IntKind.wrap .u64 ((IntKind.wrap .u64 (abits .and .u8 ((x16).toNat : Int) (127 : Int))) * 2 ^ (min (Int.toNat (IntKind.wrap .i64 ((7 : Int) * s10.2))) (IntKind.bits .u64))))) (2 ^ (min (Int.toNat (1 : Int)) (IntKind.bits .u64))))) (IntKind.wrap .i64 (0 - (IntKind.wrap .i64 (abits .and .u64 (abits .or .u64 s10.1 (IntKind.wrap .u64 ((IntKind.wrap .u64 (abits .and .u8 ((x16).toNat : Int) (127 : Int))) * 2 ^ (min (Int.toNat (IntKind.wrap .i64 ((7 : Int) * s10.2))) (IntKind.bits .u64))))) (1 : Int)))))), (WireReader.mk p100v.b_ (IntKind.wrap .i64 (p100v.at_ + (IntKind.wrap .i64 (s10.2 + (1 : Int))))) p100v.err_ p100v.made_))))))))) (some (Step.out (Fl.go ())))
noncomputable def wire_Reader_Int (p1low : Int) (p2high : Int) (p100v : WireReader) : Option (Int × WireReader) :=
  (wire_Reader_dead p100v).bind fun (x1 : Bool) => cond x1 (some ((0 : Int), p100v)) ((slcL p100v.b_ p100v.at_).bind fun (x5 : (List UInt8)) => ((loopO (wire_Reader_Int_l1 p100v p1low p2high) (((0 : Int), (0 : Int)))) : Option (Fl (Int × WireReader) Unit)).bind fun (x7 : (Fl (Int × WireReader) Unit)) => Fl.next x7 (fun (j9 : Unit) => (some ((0 : Int), (WireReader.mk p100v.b_ p100v.at_ (3 : Int) p100v.made_)))))
theorem w_wire_Reader_Int {p1low : Int} {p2high : Int} {p100v : WireReader} {res : (Int × WireReader)} (h : wire_Reader_Int p1low p2high p100v = some res) : ACalls Try.prog 19 [.box 0 0, .c (.int .i64 p1low), .c (.int .i64 p2high)] [AV.cs (rowWireReader p100v)] (.c (.int .i64 res.1)) [AV.cs (rowWireReader res.2)] := by
  unfold wire_Reader_Int at h
  refine acalls (fn := Try.f19) [0, 1, 2, 6, 7, 8, 9, 10, 11, 13, 23, 24, 29, 46, 60, 88] (by kernel_rfl) Try.func19 rfl (by kernel_rfl) (by kernel_rfl) ?_
  refine w_seqw ?_
  refine w_region ?_
  refine o_p rfl (p_assign (v := .c (.int _ _)) rfl) ?_
  refine o_end (fr' := [(0, .box 0 0), (1, .c (.int _ _)), (2, .c (.int _ _)), (6, .c (.int _ _)), (7, .any), (8, .any), (9, .any), (10, .any), (11, .any), (13, .any), (23, .any), (24, .any), (29, .any), (46, .any), (60, .any), (88, .any)]) rfl ?_
  refine e_kw ?_
  refine w_seqw ?_
  refine w_seqw ?_
  refine w_region ?_
  refine o_p rfl (p_move (v := .box 0 0) rfl) ?_
  obtain ⟨x1, hx1, h2⟩ := bind_s h
  refine o_call (v := .c (.bool _)) (σ' := [[.c (PV.ls _ _ _), .c (.int _ _), .c (.int _ _), .c (.bool _)]]) [0] rfl (w_wire_Reader_dead hx1) rfl rfl ⟨(AV.le_refl _), trivial⟩ (st_c ⟨rfl, rfl, rfl, rfl, trivial⟩ st_nil) rfl rfl rfl ?_
  refine o_end (fr' := [(0, .box 0 0), (1, .c (.int _ _)), (2, .c (.int _ _)), (6, .c (.int _ _)), (7, .any), (8, .any), (9, .any), (10, .any), (11, .any), (13, .c (.bool _)), (23, .any), (24, .any), (29, .any), (46, .any), (60, .any), (88, .any)]) rfl ?_
  refine e_kw ?_
  refine w_cond _ rfl (fun hb3 => ?_) (fun hb3 => ?_)
  · skip
    have h3 := cond_t (b := x1) hb3 h2
    refine w_seqw ?_
    refine w_region ?_
    refine o_p rfl (p_assign (v := .c (.int _ _)) rfl) ?_
    refine o_end (fr' := [(0, .box 0 0), (1, .c (.int _ _)), (2, .c (.int _ _)), (6, .c (.int _ _)), (7, .any), (8, .any), (9, .any), (10, .any), (11, .any), (13, .c (.bool _)), (23, .any), (24, .any), (29, .any), (46, .any), (60, .any), (88, .any)]) rfl ?_
    refine e_kw ?_
    refine w_ret ?_
    refine e_seq_r ?_
    have he4 := Option.some.inj h3
    subst he4
    refine e_ret (rs' := [.tmp 6]) rfl ?_
    refine r_tmp (v := .c (.int _ _)) rfl ?_
    refine r_nil ?_
    exact fin_gen [] rfl rfl rfl (AV.le_refl _) (st_c ⟨rfl, rfl, rfl, rfl, trivial⟩ st_nil)
  · skip
    have h3 := cond_f (b := x1) hb3 h2
    refine w_skip ?_
    refine e_kw ?_
    refine w_seqw ?_
    refine w_planT [.q 0, .q 1, .q 2, .q 3, .q 4, .q 5, .q 6, .q 7, .q 8, .n 9 []] [(some 14, [0]), (some 15, [14]), (some 16, [15]), (some 17, [16]), (some 18, [0]), (some 19, [18]), (some 20, [19]), (some 21, [20]), (some 22, [17, 21]), (some 7, [22])] [0, 1, 3, 7, 0, 16, 48, 112, 255, 511] (by kernel_rfl) ?_
    refine d_q rfl (qv_p rfl (p_move (v := .box 0 0) rfl)) ?_
    refine d_q rfl (qv_p rfl (p_nc rfl)) ?_
    refine d_q rfl (qv_p rfl (p_fa tf60x0 rfl)) ?_
    refine d_q rfl (qv_p rfl (p_load (v := .c (PV.ls _ _ _)) tv22 rfl rfl rfl)) ?_
    refine d_q rfl (qv_p rfl (p_move (v := .box 0 0) rfl)) ?_
    refine d_q rfl (qv_p rfl (p_nc rfl)) ?_
    refine d_q rfl (qv_p rfl (p_fa tf60x1 rfl)) ?_
    refine d_q rfl (qv_p rfl (p_load (v := .c (.int _ _)) tv3 rfl rfl rfl)) ?_
    obtain ⟨x5, hx5, h6⟩ := bind_s h3
    refine d_q rfl (qv_p rfl (p_sl_l tn22 ts22 (isl_c rfl) rfl (slcL_some hx5).1)) ?_
    refine d_n rfl ?_ rfl
    refine o_p rfl (p_assign (v := .c (PV.ls _ _ _)) rfl) ?_
    refine o_rc ?_
    refine ⟨rc_nil, ?_⟩
    refine d_end (fr' := [(0, .box 0 0), (1, .c (.int _ _)), (2, .c (.int _ _)), (6, .c (.int _ _)), (7, .c (PV.ls _ _ _)), (8, .any), (9, .any), (10, .any), (11, .any), (13, .c (.bool _)), (23, .any), (24, .any), (29, .any), (46, .any), (60, .any), (88, .any)]) rfl ?_
    refine e_kw ?_
    refine w_seqw ?_
    refine w_region ?_
    refine o_p rfl (p_assign (v := .c (.int _ _)) rfl) ?_
    refine o_end (fr' := [(0, .box 0 0), (1, .c (.int _ _)), (2, .c (.int _ _)), (6, .c (.int _ _)), (7, .c (PV.ls _ _ _)), (8, .c (.int _ _)), (9, .any), (10, .any), (11, .any), (13, .c (.bool _)), (23, .any), (24, .any), (29, .any), (46, .any), (60, .any), (88, .any)]) rfl ?_
    refine e_kw ?_
    refine w_seqw ?_
    refine w_seqw ?_
    refine w_region ?_
    refine o_p rfl (p_move (v := .c (.int _ _)) rfl) ?_
    refine o_end (fr' := [(0, .box 0 0), (1, .c (.int _ _)), (2, .c (.int _ _)), (6, .c (.int _ _)), (7, .c (PV.ls _ _ _)), (8, .c (.int _ _)), (9, .any), (10, .any), (11, .any), (13, .c (.bool _)), (23, .c (.int _ _)), (24, .any), (29, .any), (46, .any), (60, .any), (88, .any)]) rfl ?_
    refine e_kw ?_
    obtain ⟨x7, hx7, h8⟩ := bind_s h6
    refine w_jtail cl_kw (fun j9 => x7 = Fl.go j9) (fun (j9 : Unit) => ([(0, .box 0 0)] : Fr)) (fun (j9 : Unit) => ([[.c (PV.ls 1 brow p100v.b_), .c (.int .i64 p100v.at_), .c (.int .i64 p100v.err_), .c (.bool p100v.made_)]] : St)) ?_ ?_
    · skip
      refine w_block ?_
      refine w_loopo _ (fun (s10 : (Int × Int)) => ([(0, .box 0 0), (1, .c (.int .i64 p1low)), (2, .c (.int .i64 p2high)), (7, .c (PV.ls 1 brow (List.drop (Int.toNat p100v.at_) p100v.b_))), (8, .c (.int .u64 s10.1)), (23, .c (.int .i64 s10.2))] : Fr)) (fun (s10 : (Int × Int)) => ([[.c (PV.ls 1 brow p100v.b_), .c (.int .i64 p100v.at_), .c (.int .i64 p100v.err_), .c (.bool p100v.made_)]] : St)) hx7 (w_weak [] 1 rfl rfl rfl rfl ⟨(AV.le_refl _), (AV.le_refl _), (AV.le_refl _), (AV.le_refl _), (AV.le_refl _), (AV.le_refl _), trivial⟩ (st_r rfl st_nil)) ?_
      intro s10 st10 hs10 ho10
      unfold wire_Reader_Int_l1 at hs10
      refine w_seqw ?_
      refine w_region ?_
      refine o_p rfl (p_lss rfl rfl) ?_
      refine o_end (fr' := [(0, .box 0 0), (1, .c (.int _ _)), (2, .c (.int _ _)), (6, .any), (7, .c (PV.ls _ _ _)), (8, .c (.int _ _)), (9, .any), (10, .any), (11, .any), (13, .any), (23, .c (.int _ _)), (24, .c (.bool _)), (29, .any), (46, .any), (60, .any), (88, .any)]) rfl ?_
      refine e_kw ?_
      refine w_seqw ?_
      refine w_cond _ rfl (fun hb11 => ?_) (fun hb11 => ?_)
      · skip
        have h11 := cond_t (b := (decide (s10.2 < (10 : Int)))) hb11 hs10
        refine w_skip ?_
        refine e_kw ?_
        refine w_seqw ?_
        refine w_block ?_
        refine w_seqw ?_
        refine w_region ?_
        refine o_p rfl (p_move (v := .c (.int _ _)) rfl) ?_
        refine o_p rfl (p_assign (v := .c (.int _ _)) rfl) ?_
        refine o_end (fr' := [(0, .box 0 0), (1, .c (.int _ _)), (2, .c (.int _ _)), (6, .any), (7, .c (PV.ls _ _ _)), (8, .c (.int _ _)), (9, .c (.int _ _)), (10, .any), (11, .any), (13, .any), (23, .c (.int _ _)), (24, .c (.bool _)), (29, .any), (46, .any), (60, .any), (88, .any)]) rfl ?_
        refine e_kw ?_
        refine w_seqw ?_
        refine w_seqw ?_
        refine w_region ?_
        refine o_p rfl (p_move (v := .c (.int _ _)) rfl) ?_
        refine o_p rfl (p_move (v := .c (PV.ls _ _ _)) rfl) ?_
        refine o_p rfl (p_len ti22 (isl_c rfl)) ?_
        refine o_p rfl (p_geq rfl rfl) ?_
        refine o_end (fr' := [(0, .box 0 0), (1, .c (.int _ _)), (2, .c (.int _ _)), (6, .any), (7, .c (PV.ls _ _ _)), (8, .c (.int _ _)), (9, .c (.int _ _)), (10, .any), (11, .any), (13, .any), (23, .c (.int _ _)), (24, .c (.bool _)), (29, .c (.bool _)), (46, .any), (60, .any), (88, .any)]) rfl ?_
        refine e_kw ?_
        refine w_cond _ rfl (fun hb12 => ?_) (fun hb12 => ?_)
        · skip
          have h12 := cond_t (b := (decide ((((List.drop (Int.toNat p100v.at_) p100v.b_)).length : Int) ≤ s10.2))) hb12 h11
          refine w_seqw ?_
          refine w_region ?_
          refine o_p rfl (p_move (v := .box 0 0) rfl) ?_
          refine o_p rfl (p_nc rfl) ?_
          refine o_p rfl (p_fa tf60x2 rfl) ?_
          refine o_store (v := .c (.int _ _)) (us := [.c (.int _ _)]) (cs := [.c (PV.ls _ _ _), .c (.int _ _), .c (.int _ _), .c (.bool _)]) (σ' := [[.c (PV.ls _ _ _), .c (.int _ _), .c (.int _ _), .c (.bool _)]]) rfl tv30 rfl rfl rfl rfl rfl rfl rfl rfl ?_
          refine o_end (fr' := [(0, .box 0 0), (1, .c (.int _ _)), (2, .c (.int _ _)), (6, .any), (7, .c (PV.ls _ _ _)), (8, .c (.int _ _)), (9, .c (.int _ _)), (10, .any), (11, .any), (13, .any), (23, .c (.int _ _)), (24, .c (.bool _)), (29, .c (.bool _)), (46, .any), (60, .any), (88, .any)]) rfl ?_
          refine e_kw ?_
          refine w_seqw ?_
          refine w_region ?_
          refine o_p rfl (p_assign (v := .c (.int _ _)) rfl) ?_
          refine o_end (fr' := [(0, .box 0 0), (1, .c (.int _ _)), (2, .c (.int _ _)), (6, .c (.int _ _)), (7, .c (PV.ls _ _ _)), (8, .c (.int _ _)), (9, .c (.int _ _)), (10, .any), (11, .any), (13, .any), (23, .c (.int _ _)), (24, .c (.bool _)), (29, .c (.bool _)), (46, .any), (60, .any), (88, .any)]) rfl ?_
          refine e_kw ?_
          refine w_ret ?_
          refine e_seq_r ?_
          refine e_blk_r ?_
          refine e_seq_r ?_
          refine e_seq_r ?_
          refine e_blk_r ?_
          refine e_seq_r ?_
          refine e_seq_r ?_
          have h13 := un_out h12 ho10
          have h14 := un_done h13 h8
          have he15 := Option.some.inj h14
          subst he15
          refine e_ret (rs' := [.tmp 6]) rfl ?_
          refine r_tmp (v := .c (.int _ _)) rfl ?_
          refine r_nil ?_
          exact fin_gen [] rfl rfl rfl (AV.le_refl _) (st_c ⟨rfl, rfl, rfl, rfl, trivial⟩ st_nil)
        · skip
          have h12 := cond_f (b := (decide ((((List.drop (Int.toNat p100v.at_) p100v.b_)).length : Int) ≤ s10.2))) hb12 h11
          refine w_skip ?_
          refine e_kw ?_
          refine w_seqw ?_
          refine w_region ?_
          refine o_p rfl (p_move (v := .c (PV.ls _ _ _)) rfl) ?_
          refine o_p rfl (p_move (v := .c (.int _ _)) rfl) ?_
          obtain ⟨x16, hx16, h17⟩ := bind_s h12
          refine o_p rfl (p_ia (cs := [.int _ _]) ts22 (isl_c rfl) rfl hx16 rfl) ?_
          refine o_p rfl (p_loade (p := .int _ _) tv5 rfl rfl) ?_
          refine o_p rfl (p_assign (v := .c (.int _ _)) rfl) ?_
          refine o_end (fr' := [(0, .box 0 0), (1, .c (.int _ _)), (2, .c (.int _ _)), (6, .any), (7, .c (PV.ls _ _ _)), (8, .c (.int _ _)), (9, .c (.int _ _)), (10, .c (.int _ _)), (11, .any), (13, .any), (23, .c (.int _ _)), (24, .c (.bool _)), (29, .c (.bool _)), (46, .any), (60, .any), (88, .any)]) rfl ?_
          refine e_kw ?_
          refine w_seqw ?_
          refine w_region ?_
          refine o_p rfl (p_move (v := .c (.int _ _)) rfl) ?_
          refine o_p rfl (p_move (v := .c (.int _ _)) rfl) ?_
          refine o_p rfl (p_and rfl rfl) ?_
          refine o_p rfl (p_conv tk5 tk81 rfl) ?_
          refine o_p rfl (p_move (v := .c (.int _ _)) rfl) ?_
          refine o_p rfl (p_mul rfl rfl) ?_
          obtain ⟨x18, hx18, h19⟩ := bind_s h17
          refine o_p rfl (p_shl rfl rfl (nn_some hx18).1) ?_
          refine o_p rfl (p_or rfl rfl) ?_
          refine o_p rfl (p_assign (v := .c (.int _ _)) rfl) ?_
          refine o_end (fr' := [(0, .box 0 0), (1, .c (.int _ _)), (2, .c (.int _ _)), (6, .any), (7, .c (PV.ls _ _ _)), (8, .c (.int _ _)), (9, .c (.int _ _)), (10, .c (.int _ _)), (11, .any), (13, .any), (23, .c (.int _ _)), (24, .c (.bool _)), (29, .c (.bool _)), (46, .any), (60, .any), (88, .any)]) rfl ?_
          refine e_kw ?_
          refine w_seqw ?_
          refine w_seqw ?_
          refine w_region ?_
          refine o_p rfl (p_move (v := .c (.int _ _)) rfl) ?_
          refine o_p rfl (p_geq rfl rfl) ?_
          refine o_end (fr' := [(0, .box 0 0), (1, .c (.int _ _)), (2, .c (.int _ _)), (6, .any), (7, .c (PV.ls _ _ _)), (8, .c (.int _ _)), (9, .c (.int _ _)), (10, .c (.int _ _)), (11, .any), (13, .any), (23, .c (.int _ _)), (24, .c (.bool _)), (29, .c (.bool _)), (46, .c (.bool _)), (60, .any), (88, .any)]) rfl ?_
          refine e_kw ?_
          refine w_cond _ rfl (fun hb20 => ?_) (fun hb20 => ?_)
          · skip
            have h20 := cond_t (b := (decide ((128 : Int) ≤ ((x16).toNat : Int)))) hb20 h19
            refine w_exit ?_
            refine e_seq_x ?_
            refine e_blk_h ?_
            refine e_kw ?_
            refine w_region ?_
            refine o_p rfl (p_add rfl rfl) ?_
            refine o_p rfl (p_move (v := .c (.int _ _)) rfl) ?_
            refine o_end (fr' := [(0, .box 0 0), (1, .c (.int _ _)), (2, .c (.int _ _)), (6, .any), (7, .c (PV.ls _ _ _)), (8, .c (.int _ _)), (9, .c (.int _ _)), (10, .c (.int _ _)), (11, .any), (13, .any), (23, .c (.int _ _)), (24, .c (.bool _)), (29, .c (.bool _)), (46, .c (.bool _)), (60, .any), (88, .any)]) rfl ?_
            exact e_l _ (Option.some.inj h20).symm (w_weak [] 1 rfl rfl rfl rfl ⟨(AV.le_refl _), (AV.le_refl _), (AV.le_refl _), (AV.le_refl _), (AV.le_refl _), (AV.le_refl _), trivial⟩ (st_r rfl st_nil))
          · skip
            have h20 := cond_f (b := (decide ((128 : Int) ≤ ((x16).toNat : Int)))) hb20 h19
            refine w_skip ?_
            refine e_kw ?_
            refine w_seqw ?_
            refine w_seqw ?_
            refine w_region ?_
            refine o_p rfl (p_move (v := .c (.int _ _)) rfl) ?_
            refine o_p rfl (p_gtr rfl rfl) ?_
            refine o_p rfl (p_move (v := .c (.bool _)) rfl) ?_
            refine o_g rfl rfl (fun hc => ov_p rfl (p_move (v := .c (.int _ _)) rfl)) ?_
            refine o_g rfl rfl (fun hc => ov_p rfl (p_eql (gx rfl hc) rfl)) ?_
            refine o_p rfl (p_picky rfl rfl rfl (fun e => keq e)) ?_
            refine o_p rfl (p_move (v := .c (.bool _)) rfl) ?_
            refine o_g rfl rfl (fun hc => ov_p rfl (p_move (v := .c (.int _ _)) rfl)) ?_
            refine o_g rfl rfl (fun hc => ov_p rfl (p_eql (gx rfl hc) rfl)) ?_
            refine o_g rfl rfl (fun hc => ov_p rfl (p_move (v := .c (.bool _)) (gx rfl hc))) ?_
            refine o_gg rfl rfl (fun hc => ov_p rfl (p_move (v := .c (.int _ _)) rfl)) ?_
            refine o_gg rfl rfl (fun hc => ov_p rfl (p_gtr (gx rfl hc) rfl)) ?_
            refine o_g rfl rfl (fun hc => ov_p rfl (p_picky (gx rfl hc) rfl rfl (fun e => band hc (keq e)))) ?_
            refine o_p rfl (p_pickz rfl rfl rfl (fun e => keq e)) ?_
            refine o_end (fr' := [(0, .box 0 0), (1, .c (.int _ _)), (2, .c (.int _ _)), (6, .any), (7, .c (PV.ls _ _ _)), (8, .c (.int _ _)), (9, .c (.int _ _)), (10, .c (.int _ _)), (11, .any), (13, .any), (23, .c (.int _ _)), (24, .c (.bool _)), (29, .c (.bool _)), (46, .c (.bool _)), (60, .c (.bool _)), (88, .any)]) rfl ?_
            refine e_kw ?_
            refine w_cond _ rfl (fun hb21 => ?_) (fun hb21 => ?_)
            · skip
              have h21 := cond_t (b := (cond (cond (decide ((0 : Int) < s10.2)) (decide (((x16).toNat : Int) = (0 : Int))) false) true (cond (decide (s10.2 = (9 : Int))) (decide ((1 : Int) < ((x16).toNat : Int))) false))) hb21 h20
              refine w_seqw ?_
              refine w_region ?_
              refine o_p rfl (p_move (v := .box 0 0) rfl) ?_
              refine o_p rfl (p_nc rfl) ?_
              refine o_p rfl (p_fa tf60x2 rfl) ?_
              refine o_store (v := .c (.int _ _)) (us := [.c (.int _ _)]) (cs := [.c (PV.ls _ _ _), .c (.int _ _), .c (.int _ _), .c (.bool _)]) (σ' := [[.c (PV.ls _ _ _), .c (.int _ _), .c (.int _ _), .c (.bool _)]]) rfl tv30 rfl rfl rfl rfl rfl rfl rfl rfl ?_
              refine o_end (fr' := [(0, .box 0 0), (1, .c (.int _ _)), (2, .c (.int _ _)), (6, .any), (7, .c (PV.ls _ _ _)), (8, .c (.int _ _)), (9, .c (.int _ _)), (10, .c (.int _ _)), (11, .any), (13, .any), (23, .c (.int _ _)), (24, .c (.bool _)), (29, .c (.bool _)), (46, .c (.bool _)), (60, .c (.bool _)), (88, .any)]) rfl ?_
              refine e_kw ?_
              refine w_seqw ?_
              refine w_region ?_
              refine o_p rfl (p_assign (v := .c (.int _ _)) rfl) ?_
              refine o_end (fr' := [(0, .box 0 0), (1, .c (.int _ _)), (2, .c (.int _ _)), (6, .c (.int _ _)), (7, .c (PV.ls _ _ _)), (8, .c (.int _ _)), (9, .c (.int _ _)), (10, .c (.int _ _)), (11, .any), (13, .any), (23, .c (.int _ _)), (24, .c (.bool _)), (29, .c (.bool _)), (46, .c (.bool _)), (60, .c (.bool _)), (88, .any)]) rfl ?_
              refine e_kw ?_
              refine w_ret ?_
              refine e_seq_r ?_
              refine e_blk_r ?_
              refine e_seq_r ?_
              refine e_seq_r ?_
              refine e_blk_r ?_
              refine e_seq_r ?_
              refine e_seq_r ?_
              have h22 := un_out h21 ho10
              have h23 := un_done h22 h8
              have he24 := Option.some.inj h23
              subst he24
              refine e_ret (rs' := [.tmp 6]) rfl ?_
              refine r_tmp (v := .c (.int _ _)) rfl ?_
              refine r_nil ?_
              exact fin_gen [] rfl rfl rfl (AV.le_refl _) (st_c ⟨rfl, rfl, rfl, rfl, trivial⟩ st_nil)
            · skip
              have h21 := cond_f (b := (cond (cond (decide ((0 : Int) < s10.2)) (decide (((x16).toNat : Int) = (0 : Int))) false) true (cond (decide (s10.2 = (9 : Int))) (decide ((1 : Int) < ((x16).toNat : Int))) false))) hb21 h20
              refine w_skip ?_
              refine e_kw ?_
              refine w_seqw ?_
              refine w_region ?_
              refine o_p rfl (p_move (v := .box 0 0) rfl) ?_
              refine o_p rfl (p_nc rfl) ?_
              refine o_p rfl (p_fa tf60x1 rfl) ?_
              refine o_p rfl (p_load (v := .c (.int _ _)) tv3 rfl rfl rfl) ?_
              refine o_p rfl (p_move (v := .c (.int _ _)) rfl) ?_
              refine o_p rfl (p_add rfl rfl) ?_
              refine o_p rfl (p_add rfl rfl) ?_
              refine o_p rfl (p_nc rfl) ?_
              refine o_p rfl (p_fa tf60x1 rfl) ?_
              refine o_store (v := .c (.int _ _)) (us := [.c (.int _ _)]) (cs := [.c (PV.ls _ _ _), .c (.int _ _), .c (.int _ _), .c (.bool _)]) (σ' := [[.c (PV.ls _ _ _), .c (.int _ _), .c (.int _ _), .c (.bool _)]]) rfl tv3 rfl rfl rfl rfl rfl rfl rfl rfl ?_
              refine o_end (fr' := [(0, .box 0 0), (1, .c (.int _ _)), (2, .c (.int _ _)), (6, .any), (7, .c (PV.ls _ _ _)), (8, .c (.int _ _)), (9, .c (.int _ _)), (10, .c (.int _ _)), (11, .any), (13, .any), (23, .c (.int _ _)), (24, .c (.bool _)), (29, .c (.bool _)), (46, .c (.bool _)), (60, .c (.bool _)), (88, .any)]) rfl ?_
              refine e_kw ?_
              refine w_seqw ?_
              refine w_region ?_
              refine o_p rfl (p_move (v := .c (.int _ _)) rfl) ?_
              refine o_p rfl (p_shr rfl rfl (by decide)) ?_
              refine o_p rfl (p_conv tk81 tk3 rfl) ?_
              refine o_p rfl (p_move (v := .c (.int _ _)) rfl) ?_
              refine o_p rfl (p_and rfl rfl) ?_
              refine o_p rfl (p_conv tk81 tk3 rfl) ?_
              refine o_p rfl (p_neg rfl) ?_
              refine o_p rfl (p_xor rfl rfl) ?_
              refine o_p rfl (p_assign (v := .c (.int _ _)) rfl) ?_
              refine o_end (fr' := [(0, .box 0 0), (1, .c (.int _ _)), (2, .c (.int _ _)), (6, .any), (7, .c (PV.ls _ _ _)), (8, .c (.int _ _)), (9, .c (.int _ _)), (10, .c (.int _ _)), (11, .c (.int _ _)), (13, .any), (23, .c (.int _ _)), (24, .c (.bool _)), (29, .c (.bool _)), (46, .c (.bool _)), (60, .c (.bool _)), (88, .any)]) rfl ?_
              refine e_kw ?_
              refine w_seqw ?_
              refine w_seqw ?_
              refine w_region ?_
              refine o_p rfl (p_move (v := .c (.int _ _)) rfl) ?_
              refine o_p rfl (p_move (v := .c (.int _ _)) rfl) ?_
              refine o_p rfl (p_lss rfl rfl) ?_
              refine o_p rfl (p_move (v := .c (.bool _)) rfl) ?_
              refine o_g rfl rfl (fun hc => ov_p rfl (p_move (v := .c (.int _ _)) rfl)) ?_
              refine o_g rfl rfl (fun hc => ov_p rfl (p_move (v := .c (.int _ _)) rfl)) ?_
              refine o_g rfl rfl (fun hc => ov_p rfl (p_gtr (gx rfl hc) (gx rfl hc))) ?_
              refine o_p rfl (p_pickz rfl rfl rfl (fun e => keq e)) ?_
              refine o_end (fr' := [(0, .box 0 0), (1, .c (.int _ _)), (2, .c (.int _ _)), (6, .any), (7, .c (PV.ls _ _ _)), (8, .c (.int _ _)), (9, .c (.int _ _)), (10, .c (.int _ _)), (11, .c (.int _ _)), (13, .any), (23, .c (.int _ _)), (24, .c (.bool _)), (29, .c (.bool _)), (46, .c (.bool _)), (60, .c (.bool _)), (88, .c (.bool _))]) rfl ?_
              refine e_kw ?_
              refine w_cond _ rfl (fun hb25 => ?_) (fun hb25 => ?_)
              · skip
                have h25 := cond_t (b := (cond (decide ((abits .xor .i64 (IntKind.wrap .i64 (Int.fdiv (abits .or .u64 s10.1 (IntKind.wrap .u64 ((IntKind.wrap .u64 (abits .and .u8 ((x16).toNat : Int) (127 : Int))) * 2 ^ (min (Int.toNat (IntKind.wrap .i64 ((7 : Int) * s10.2))) (IntKind.bits .u64))))) (2 ^ (min (Int.toNat (1 : Int)) (IntKind.bits .u64))))) (IntKind.wrap .i64 (0 - (IntKind.wrap .i64 (abits .and .u64 (abits .or .u64 s10.1 (IntKind.wrap .u64 ((IntKind.wrap .u64 (abits .and .u8 ((x16).toNat : Int) (127 : Int))) * 2 ^ (min (Int.toNat (IntKind.wrap .i64 ((7 : Int) * s10.2))) (IntKind.bits .u64))))) (1 : Int)))))) < p1low)) true (decide (p2high < (abits .xor .i64 (IntKind.wrap .i64 (Int.fdiv (abits .or .u64 s10.1 (IntKind.wrap .u64 ((IntKind.wrap .u64 (abits .and .u8 ((x16).toNat : Int) (127 : Int))) * 2 ^ (min (Int.toNat (IntKind.wrap .i64 ((7 : Int) * s10.2))) (IntKind.bits .u64))))) (2 ^ (min (Int.toNat (1 : Int)) (IntKind.bits .u64))))) (IntKind.wrap .i64 (0 - (IntKind.wrap .i64 (abits .and .u64 (abits .or .u64 s10.1 (IntKind.wrap .u64 ((IntKind.wrap .u64 (abits .and .u8 ((x16).toNat : Int) (127 : Int))) * 2 ^ (min (Int.toNat (IntKind.wrap .i64 ((7 : Int) * s10.2))) (IntKind.bits .u64))))) (1 : Int)))))))))) hb25 h21
                refine w_seqw ?_
                refine w_region ?_
                refine o_p rfl (p_move (v := .box 0 0) rfl) ?_
                refine o_p rfl (p_nc rfl) ?_
                refine o_p rfl (p_fa tf60x2 rfl) ?_
                refine o_store (v := .c (.int _ _)) (us := [.c (.int _ _)]) (cs := [.c (PV.ls _ _ _), .c (.int _ _), .c (.int _ _), .c (.bool _)]) (σ' := [[.c (PV.ls _ _ _), .c (.int _ _), .c (.int _ _), .c (.bool _)]]) rfl tv30 rfl rfl rfl rfl rfl rfl rfl rfl ?_
                refine o_end (fr' := [(0, .box 0 0), (1, .c (.int _ _)), (2, .c (.int _ _)), (6, .any), (7, .c (PV.ls _ _ _)), (8, .c (.int _ _)), (9, .c (.int _ _)), (10, .c (.int _ _)), (11, .c (.int _ _)), (13, .any), (23, .c (.int _ _)), (24, .c (.bool _)), (29, .c (.bool _)), (46, .c (.bool _)), (60, .c (.bool _)), (88, .c (.bool _))]) rfl ?_
                refine e_kw ?_
                refine w_seqw ?_
                refine w_region ?_
                refine o_p rfl (p_assign (v := .c (.int _ _)) rfl) ?_
                refine o_end (fr' := [(0, .box 0 0), (1, .c (.int _ _)), (2, .c (.int _ _)), (6, .c (.int _ _)), (7, .c (PV.ls _ _ _)), (8, .c (.int _ _)), (9, .c (.int _ _)), (10, .c (.int _ _)), (11, .c (.int _ _)), (13, .any), (23, .c (.int _ _)), (24, .c (.bool _)), (29, .c (.bool _)), (46, .c (.bool _)), (60, .c (.bool _)), (88, .c (.bool _))]) rfl ?_
                refine e_kw ?_
                refine w_ret ?_
                refine e_seq_r ?_
                refine e_blk_r ?_
                refine e_seq_r ?_
                refine e_seq_r ?_
                refine e_blk_r ?_
                refine e_seq_r ?_
                refine e_seq_r ?_
                have h26 := un_out h25 ho10
                have h27 := un_done h26 h8
                have he28 := Option.some.inj h27
                subst he28
                refine e_ret (rs' := [.tmp 6]) rfl ?_
                refine r_tmp (v := .c (.int _ _)) rfl ?_
                refine r_nil ?_
                exact fin_gen [] rfl rfl rfl (AV.le_refl _) (st_c ⟨rfl, rfl, rfl, rfl, trivial⟩ st_nil)
              · skip
                have h25 := cond_f (b := (cond (decide ((abits .xor .i64 (IntKind.wrap .i64 (Int.fdiv (abits .or .u64 s10.1 (IntKind.wrap .u64 ((IntKind.wrap .u64 (abits .and .u8 ((x16).toNat : Int) (127 : Int))) * 2 ^ (min (Int.toNat (IntKind.wrap .i64 ((7 : Int) * s10.2))) (IntKind.bits .u64))))) (2 ^ (min (Int.toNat (1 : Int)) (IntKind.bits .u64))))) (IntKind.wrap .i64 (0 - (IntKind.wrap .i64 (abits .and .u64 (abits .or .u64 s10.1 (IntKind.wrap .u64 ((IntKind.wrap .u64 (abits .and .u8 ((x16).toNat : Int) (127 : Int))) * 2 ^ (min (Int.toNat (IntKind.wrap .i64 ((7 : Int) * s10.2))) (IntKind.bits .u64))))) (1 : Int)))))) < p1low)) true (decide (p2high < (abits .xor .i64 (IntKind.wrap .i64 (Int.fdiv (abits .or .u64 s10.1 (IntKind.wrap .u64 ((IntKind.wrap .u64 (abits .and .u8 ((x16).toNat : Int) (127 : Int))) * 2 ^ (min (Int.toNat (IntKind.wrap .i64 ((7 : Int) * s10.2))) (IntKind.bits .u64))))) (2 ^ (min (Int.toNat (1 : Int)) (IntKind.bits .u64))))) (IntKind.wrap .i64 (0 - (IntKind.wrap .i64 (abits .and .u64 (abits .or .u64 s10.1 (IntKind.wrap .u64 ((IntKind.wrap .u64 (abits .and .u8 ((x16).toNat : Int) (127 : Int))) * 2 ^ (min (Int.toNat (IntKind.wrap .i64 ((7 : Int) * s10.2))) (IntKind.bits .u64))))) (1 : Int)))))))))) hb25 h21
                refine w_skip ?_
                refine e_kw ?_
                refine w_seqw ?_
                refine w_region ?_
                refine o_p rfl (p_move (v := .c (.int _ _)) rfl) ?_
                refine o_p rfl (p_assign (v := .c (.int _ _)) rfl) ?_
                refine o_end (fr' := [(0, .box 0 0), (1, .c (.int _ _)), (2, .c (.int _ _)), (6, .c (.int _ _)), (7, .c (PV.ls _ _ _)), (8, .c (.int _ _)), (9, .c (.int _ _)), (10, .c (.int _ _)), (11, .c (.int _ _)), (13, .any), (23, .c (.int _ _)), (24, .c (.bool _)), (29, .c (.bool _)), (46, .c (.bool _)), (60, .c (.bool _)), (88, .c (.bool _))]) rfl ?_
                refine e_kw ?_
                refine w_ret ?_
                refine e_blk_r ?_
                refine e_seq_r ?_
                refine e_seq_r ?_
                refine e_blk_r ?_
                refine e_seq_r ?_
                refine e_seq_r ?_
                have h29 := un_out h25 ho10
                have h30 := un_done h29 h8
                have he31 := Option.some.inj h30
                subst he31
                refine e_ret (rs' := [.tmp 6]) rfl ?_
                refine r_tmp (v := .c (.int _ _)) rfl ?_
                refine r_nil ?_
                exact fin_gen [] rfl rfl rfl (AV.le_refl _) (st_c ⟨rfl, rfl, rfl, rfl, trivial⟩ st_nil)
      · skip
        have h11 := cond_f (b := (decide (s10.2 < (10 : Int)))) hb11 hs10
        refine w_exit ?_
        refine e_seq_x ?_
        refine e_seq_x ?_
        refine e_blk_h ?_
        have h32 := un_out h11 ho10
        exact e_j _ (Option.some.inj h32).symm (w_weak [] 1 rfl rfl rfl rfl ⟨(AV.le_refl _), trivial⟩ (st_r rfl st_nil))
    · skip
      intro j9 hj33
      have h33 := un_go hj33 h8
      refine e_kw ?_
      refine w_seqw ?_
      refine w_region ?_
      refine o_p rfl (p_move (v := .box 0 0) rfl) ?_
      refine o_p rfl (p_nc rfl) ?_
      refine o_p rfl (p_fa tf60x2 rfl) ?_
      refine o_store (v := .c (.int _ _)) (us := [.c (.int _ _)]) (cs := [.c (PV.ls _ _ _), .c (.int _ _), .c (.int _ _), .c (.bool _)]) (σ' := [[.c (PV.ls _ _ _), .c (.int _ _), .c (.int _ _), .c (.bool _)]]) rfl tv30 rfl rfl rfl rfl rfl rfl rfl rfl ?_
      refine o_end (fr' := [(0, .box 0 0), (1, .any), (2, .any), (6, .any), (7, .any), (8, .any), (9, .any), (10, .any), (11, .any), (13, .any), (23, .any), (24, .any), (29, .any), (46, .any), (60, .any), (88, .any)]) rfl ?_
      refine e_kw ?_
      refine w_seqw ?_
      refine w_region ?_
      refine o_p rfl (p_assign (v := .c (.int _ _)) rfl) ?_
      refine o_end (fr' := [(0, .box 0 0), (1, .any), (2, .any), (6, .c (.int _ _)), (7, .any), (8, .any), (9, .any), (10, .any), (11, .any), (13, .any), (23, .any), (24, .any), (29, .any), (46, .any), (60, .any), (88, .any)]) rfl ?_
      refine e_kw ?_
      refine w_ret ?_
      have he34 := Option.some.inj h33
      subst he34
      refine e_ret (rs' := [.tmp 6]) rfl ?_
      refine r_tmp (v := .c (.int _ _)) rfl ?_
      refine r_nil ?_
      exact fin_gen [] rfl rfl rfl (AV.le_refl _) (st_c ⟨rfl, rfl, rfl, rfl, trivial⟩ st_nil)
noncomputable def wire_Reader_Err (p100v : WireReader) : Option Int :=
  cond (!p100v.made_) (some (1 : Int)) (some p100v.err_)
theorem w_wire_Reader_Err {p100v : WireReader} {res : Int} (h : wire_Reader_Err p100v = some res) : ACalls Try.prog 20 [.box 0 0] [AV.cs (rowWireReader p100v)] (.c (.int .i64 res)) [AV.cs (rowWireReader p100v)] := by
  unfold wire_Reader_Err at h
  refine acalls (fn := Try.f20) [0, 2, 11] (by kernel_rfl) Try.func20 rfl (by kernel_rfl) (by kernel_rfl) ?_
  refine w_seqw ?_
  refine w_region ?_
  refine o_p rfl (p_assign (v := .c (.int _ _)) rfl) ?_
  refine o_end (fr' := [(0, .box 0 0), (2, .c (.int _ _)), (11, .any)]) rfl ?_
  refine e_kw ?_
  refine w_seqw ?_
  refine w_seqw ?_
  refine w_region ?_
  refine o_p rfl (p_move (v := .box 0 0) rfl) ?_
  refine o_p rfl (p_peql ti27 rfl rfl) ?_
  refine o_p rfl (p_move (v := .c (.bool _)) rfl) ?_
  refine o_g rfl rfl (fun hc => ov_p rfl (p_move (v := .box 0 0) rfl)) ?_
  refine o_g rfl rfl (fun hc => ov_p rfl (p_nc (gx rfl hc))) ?_
  refine o_g rfl rfl (fun hc => ov_p rfl (p_fa tf60x3 (gx rfl hc))) ?_
  refine o_g rfl rfl (fun hc => ov_p rfl (p_load (v := .c (.bool _)) tv4 (gx rfl hc) rfl rfl)) ?_
  refine o_g rfl rfl (fun hc => ov_p rfl (p_not (gx rfl hc))) ?_
  refine o_p rfl (p_k (p_pickz rfl rfl rfl (fun e => keq e)) (show _ = .bool (!p100v.made_) from rfl)) ?_
  refine o_end (fr' := [(0, .box 0 0), (2, .c (.int _ _)), (11, .c (.bool _))]) rfl ?_
  refine e_kw ?_
  refine w_cond _ rfl (fun hb1 => ?_) (fun hb1 => ?_)
  · skip
    have h1 := cond_t (b := (!p100v.made_)) hb1 h
    refine w_seqw ?_
    refine w_region ?_
    refine o_p rfl (p_assign (v := .c (.int _ _)) rfl) ?_
    refine o_end (fr' := [(0, .box 0 0), (2, .c (.int _ _)), (11, .c (.bool _))]) rfl ?_
    refine e_kw ?_
    refine w_ret ?_
    refine e_seq_r ?_
    have he2 := Option.some.inj h1
    subst he2
    refine e_ret (rs' := [.tmp 2]) rfl ?_
    refine r_tmp (v := .c (.int _ _)) rfl ?_
    refine r_nil ?_
    exact fin_gen [] rfl rfl rfl (AV.le_refl _) (st_r rfl st_nil)
  · skip
    have h1 := cond_f (b := (!p100v.made_)) hb1 h
    refine w_skip ?_
    refine e_kw ?_
    refine w_seqw ?_
    refine w_region ?_
    refine o_p rfl (p_move (v := .box 0 0) rfl) ?_
    refine o_p rfl (p_nc rfl) ?_
    refine o_p rfl (p_fa tf60x2 rfl) ?_
    refine o_p rfl (p_load (v := .c (.int _ _)) tv30 rfl rfl rfl) ?_
    refine o_p rfl (p_assign (v := .c (.int _ _)) rfl) ?_
    refine o_end (fr' := [(0, .box 0 0), (2, .c (.int _ _)), (11, .c (.bool _))]) rfl ?_
    refine e_kw ?_
    refine w_ret ?_
    have he3 := Option.some.inj h1
    subst he3
    refine e_ret (rs' := [.tmp 2]) rfl ?_
    refine r_tmp (v := .c (.int _ _)) rfl ?_
    refine r_nil ?_
    exact fin_gen [] rfl rfl rfl (AV.le_refl _) (st_r rfl st_nil)
noncomputable def wire_PutText (p0b : (List UInt8)) (p1s : (List UInt8)) : Option (List UInt8) :=
  (wire_PutInt p0b ((p1s).length : Int)).bind fun (x1 : (List UInt8)) => (app 1 x1 p1s).bind fun (x3 : (List UInt8)) => some x3
theorem w_wire_PutText {p0b : (List UInt8)} {p1s : (List UInt8)} {res : (List UInt8)} (h : wire_PutText p0b p1s = some res) : ACalls Try.prog 22 [.c (PV.ls 1 brow p0b), .c (.str p1s)] [] (AV.os 0 1 brow res) [] := by
  unfold wire_PutText at h
  refine acalls (fn := Try.f22) [0, 1, 4] (by kernel_rfl) Try.func22 rfl (by kernel_rfl) (by kernel_rfl) ?_
  refine w_seqw ?_
  refine w_region ?_
  refine o_p rfl (p_assign (v := .nil) rfl) ?_
  refine o_end (fr' := [(0, .c (PV.ls _ _ _)), (1, .c (.str _)), (4, .nil)]) rfl ?_
  refine e_kw ?_
  refine w_seqw ?_
  refine w_region ?_
  refine o_p rfl (p_move (v := .c (PV.ls _ _ _)) rfl) ?_
  refine o_p rfl (p_move (v := .c (.str _)) rfl) ?_
  refine o_p rfl (p_lens ti9 rfl) ?_
  obtain ⟨x1, hx1, h2⟩ := bind_s h
  refine o_v (ov_call (v := AV.os _ _ _ _) rfl (w_wire_PutInt hx1) ⟨(AV.le_refl _), (AV.le_refl _), trivial⟩ rfl rfl rfl) ?_
  refine o_p rfl (p_move (v := .c (.str _)) rfl) ?_
  obtain ⟨x3, hx3, h4⟩ := bind_s h2
  refine o_appS ts22 rfl ti9 rfl rfl hx3 ?_
  refine o_p rfl (p_assign (v := AV.os _ _ _ _) rfl) ?_
  refine o_end (fr' := [(0, .c (PV.ls _ _ _)), (1, .c (.str _)), (4, AV.os _ _ _ _)]) rfl ?_
  refine e_kw ?_
  refine w_ret ?_
  have he5 := Option.some.inj h4
  subst he5
  refine e_ret (rs' := [.tmp 4]) rfl ?_
  refine r_tmp (v := AV.os _ _ _ _) rfl ?_
  refine r_nil ?_
  exact fin_gen [160] rfl rfl rfl (AV.le_refl _) st_nil
noncomputable def wire_Reader_End (p100v : WireReader) : Option Int :=
  (wire_Reader_Err p100v).bind fun (x1 : Int) => cond (!decide (x1 = (0 : Int))) (some x1) (cond (decide (p100v.at_ < ((p100v.b_).length : Int))) (some (3 : Int)) (some (0 : Int)))
theorem w_wire_Reader_End {p100v : WireReader} {res : Int} (h : wire_Reader_End p100v = some res) : ACalls Try.prog 34 [.box 0 0] [AV.cs (rowWireReader p100v)] (.c (.int .i64 res)) [AV.cs (rowWireReader p100v)] := by
  unfold wire_Reader_End at h
  refine acalls (fn := Try.f34) [0, 2, 3, 7, 18] (by kernel_rfl) Try.func34 rfl (by kernel_rfl) (by kernel_rfl) ?_
  refine w_seqw ?_
  refine w_region ?_
  refine o_p rfl (p_assign (v := .c (.int _ _)) rfl) ?_
  refine o_end (fr' := [(0, .box 0 0), (2, .c (.int _ _)), (3, .any), (7, .any), (18, .any)]) rfl ?_
  refine e_kw ?_
  refine w_seqw ?_
  refine w_seqw ?_
  refine w_region ?_
  refine o_p rfl (p_move (v := .box 0 0) rfl) ?_
  obtain ⟨x1, hx1, h2⟩ := bind_s h
  refine o_call (v := .c (.int _ _)) (σ' := [[.c (PV.ls _ _ _), .c (.int _ _), .c (.int _ _), .c (.bool _)]]) [0] rfl (w_wire_Reader_Err hx1) rfl rfl ⟨(AV.le_refl _), trivial⟩ (st_c ⟨rfl, rfl, rfl, rfl, trivial⟩ st_nil) rfl rfl rfl ?_
  refine o_p rfl (p_assign (v := .c (.int _ _)) rfl) ?_
  refine o_end (fr' := [(0, .box 0 0), (2, .c (.int _ _)), (3, .c (.int _ _)), (7, .any), (18, .any)]) rfl ?_
  refine e_kw ?_
  refine w_seqw ?_
  refine w_region ?_
  refine o_p rfl (p_move (v := .c (.int _ _)) rfl) ?_
  refine o_p rfl (p_neq rfl rfl) ?_
  refine o_end (fr' := [(0, .box 0 0), (2, .c (.int _ _)), (3, .c (.int _ _)), (7, .c (.bool _)), (18, .any)]) rfl ?_
  refine e_kw ?_
  refine w_cond _ rfl (fun hb3 => ?_) (fun hb3 => ?_)
  · skip
    have h3 := cond_t (b := (!decide (x1 = (0 : Int)))) hb3 h2
    refine w_seqw ?_
    refine w_region ?_
    refine o_p rfl (p_move (v := .c (.int _ _)) rfl) ?_
    refine o_p rfl (p_assign (v := .c (.int _ _)) rfl) ?_
    refine o_end (fr' := [(0, .box 0 0), (2, .c (.int _ _)), (3, .c (.int _ _)), (7, .c (.bool _)), (18, .any)]) rfl ?_
    refine e_kw ?_
    refine w_ret ?_
    refine e_seq_r ?_
    have he4 := Option.some.inj h3
    subst he4
    refine e_ret (rs' := [.tmp 2]) rfl ?_
    refine r_tmp (v := .c (.int _ _)) rfl ?_
    refine r_nil ?_
    exact fin_gen [] rfl rfl rfl (AV.le_refl _) (st_r rfl st_nil)
  · skip
    have h3 := cond_f (b := (!decide (x1 = (0 : Int)))) hb3 h2
    refine w_skip ?_
    refine e_kw ?_
    refine w_seqw ?_
    refine w_seqw ?_
    refine w_planT [.q 0, .q 1, .q 2, .q 3, .q 4, .q 5, .q 6, .q 7, .q 8, .q 9] [(some 9, [0]), (some 10, [9]), (some 11, [10]), (some 12, [11]), (some 13, [0]), (some 14, [13]), (some 15, [14]), (some 16, [15]), (some 17, [16]), (some 18, [12, 17])] [0, 1, 3, 7, 0, 16, 48, 112, 240, 511] (by kernel_rfl) ?_
    refine d_q rfl (qv_p rfl (p_move (v := .box 0 0) rfl)) ?_
    refine d_q rfl (qv_p rfl (p_nc rfl)) ?_
    refine d_q rfl (qv_p rfl (p_fa tf60x1 rfl)) ?_
    refine d_q rfl (qv_p rfl (p_load (v := .c (.int _ _)) tv3 rfl rfl rfl)) ?_
    refine d_q rfl (qv_p rfl (p_move (v := .box 0 0) rfl)) ?_
    refine d_q rfl (qv_p rfl (p_nc rfl)) ?_
    refine d_q rfl (qv_p rfl (p_fa tf60x0 rfl)) ?_
    refine d_q rfl (qv_p rfl (p_load (v := .c (PV.ls _ _ _)) tv22 rfl rfl rfl)) ?_
    refine d_q rfl (qv_p rfl (p_len ti22 (isl_c rfl))) ?_
    refine d_q rfl (qv_p rfl (p_lss rfl rfl)) ?_
    refine d_end (fr' := [(0, .box 0 0), (2, .c (.int _ _)), (3, .c (.int _ _)), (7, .c (.bool _)), (18, .c (.bool _))]) rfl ?_
    refine e_kw ?_
    refine w_cond _ rfl (fun hb5 => ?_) (fun hb5 => ?_)
    · skip
      have h5 := cond_t (b := (decide (p100v.at_ < ((p100v.b_).length : Int)))) hb5 h3
      refine w_seqw ?_
      refine w_region ?_
      refine o_p rfl (p_assign (v := .c (.int _ _)) rfl) ?_
      refine o_end (fr' := [(0, .box 0 0), (2, .c (.int _ _)), (3, .c (.int _ _)), (7, .c (.bool _)), (18, .c (.bool _))]) rfl ?_
      refine e_kw ?_
      refine w_ret ?_
      refine e_seq_r ?_
      have he6 := Option.some.inj h5
      subst he6
      refine e_ret (rs' := [.tmp 2]) rfl ?_
      refine r_tmp (v := .c (.int _ _)) rfl ?_
      refine r_nil ?_
      exact fin_gen [] rfl rfl rfl (AV.le_refl _) (st_r rfl st_nil)
    · skip
      have h5 := cond_f (b := (decide (p100v.at_ < ((p100v.b_).length : Int)))) hb5 h3
      refine w_skip ?_
      refine e_kw ?_
      refine w_seqw ?_
      refine w_region ?_
      refine o_p rfl (p_assign (v := .c (.int _ _)) rfl) ?_
      refine o_end (fr' := [(0, .box 0 0), (2, .c (.int _ _)), (3, .c (.int _ _)), (7, .c (.bool _)), (18, .c (.bool _))]) rfl ?_
      refine e_kw ?_
      refine w_ret ?_
      have he7 := Option.some.inj h5
      subst he7
      refine e_ret (rs' := [.tmp 2]) rfl ?_
      refine r_tmp (v := .c (.int _ _)) rfl ?_
      refine r_nil ?_
      exact fin_gen [] rfl rfl rfl (AV.le_refl _) (st_r rfl st_nil)
noncomputable def wire_Reader_Text (p1most : Int) (p100v : WireReader) : Option ((List UInt8) × WireReader) :=
  (wire_Reader_Int (0 : Int) p1most p100v).bind fun (x1 : (Int × WireReader)) => (wire_Reader_dead x1.2).bind fun (x3 : Bool) => cond x3 (some (([] : List UInt8), x1.2)) (cond (decide ((IntKind.wrap .i64 (((x1.2.b_).length : Int) - x1.2.at_)) < x1.1)) (some (([] : List UInt8), (WireReader.mk x1.2.b_ x1.2.at_ (4 : Int) x1.2.made_))) ((slcB x1.2.b_ x1.2.at_ (IntKind.wrap .i64 (x1.2.at_ + x1.1))).bind fun (x9 : (List UInt8)) => some ((List.drop (Int.toNat x1.2.at_) (List.take (Int.toNat (IntKind.wrap .i64 (x1.2.at_ + x1.1))) x1.2.b_)), (WireReader.mk x1.2.b_ (IntKind.wrap .i64 (x1.2.at_ + x1.1)) x1.2.err_ x1.2.made_))))
theorem w_wire_Reader_Text {p1most : Int} {p100v : WireReader} {res : ((List UInt8) × WireReader)} (h : wire_Reader_Text p1most p100v = some res) : ACalls Try.prog 35 [.box 0 0, .c (.int .i64 p1most)] [AV.cs (rowWireReader p100v)] (.c (.str res.1)) [AV.cs (rowWireReader res.2)] := by
  unfold wire_Reader_Text at h
  refine acalls (fn := Try.f35) [0, 1, 4, 5, 6, 11, 23] (by kernel_rfl) Try.func35 rfl (by kernel_rfl) (by kernel_rfl) ?_
  refine w_seqw ?_
  refine w_region ?_
  refine o_p rfl (p_assign (v := .c (.str _)) rfl) ?_
  refine o_end (fr' := [(0, .box 0 0), (1, .c (.int _ _)), (4, .c (.str _)), (5, .any), (6, .any), (11, .any), (23, .any)]) rfl ?_
  refine e_kw ?_
  refine w_seqw ?_
  refine w_region ?_
  refine o_p rfl (p_move (v := .box 0 0) rfl) ?_
  refine o_p rfl (p_move (v := .c (.int _ _)) rfl) ?_
  obtain ⟨x1, hx1, h2⟩ := bind_s h
  refine o_call (v := .c (.int _ _)) (σ' := [[.c (PV.ls _ _ _), .c (.int _ _), .c (.int _ _), .c (.bool _)]]) [0] rfl (w_wire_Reader_Int hx1) rfl rfl ⟨(AV.le_refl _), (AV.le_refl _), (AV.le_refl _), trivial⟩ (st_c ⟨rfl, rfl, rfl, rfl, trivial⟩ st_nil) rfl rfl rfl ?_
  refine o_p rfl (p_assign (v := .c (.int _ _)) rfl) ?_
  refine o_end (fr' := [(0, .box 0 0), (1, .c (.int _ _)), (4, .c (.str _)), (5, .c (.int _ _)), (6, .any), (11, .any), (23, .any)]) rfl ?_
  refine e_kw ?_
  refine w_seqw ?_
  refine w_seqw ?_
  refine w_region ?_
  refine o_p rfl (p_move (v := .box 0 0) rfl) ?_
  obtain ⟨x3, hx3, h4⟩ := bind_s h2
  refine o_call (v := .c (.bool _)) (σ' := [[.c (PV.ls _ _ _), .c (.int _ _), .c (.int _ _), .c (.bool _)]]) [0] rfl (w_wire_Reader_dead hx3) rfl rfl ⟨(AV.le_refl _), trivial⟩ (st_c ⟨rfl, rfl, rfl, rfl, trivial⟩ st_nil) rfl rfl rfl ?_
  refine o_end (fr' := [(0, .box 0 0), (1, .c (.int _ _)), (4, .c (.str _)), (5, .c (.int _ _)), (6, .any), (11, .c (.bool _)), (23, .any)]) rfl ?_
  refine e_kw ?_
  refine w_cond _ rfl (fun hb5 => ?_) (fun hb5 => ?_)
  · skip
    have h5 := cond_t (b := x3) hb5 h4
    refine w_seqw ?_
    refine w_region ?_
    refine o_p rfl (p_assign (v := .c (.str _)) rfl) ?_
    refine o_end (fr' := [(0, .box 0 0), (1, .c (.int _ _)), (4, .c (.str _)), (5, .c (.int _ _)), (6, .any), (11, .c (.bool _)), (23, .any)]) rfl ?_
    refine e_kw ?_
    refine w_ret ?_
    refine e_seq_r ?_
    have he6 := Option.some.inj h5
    subst he6
    refine e_ret (rs' := [.tmp 4]) rfl ?_
    refine r_tmp (v := .c (.str _)) rfl ?_
    refine r_nil ?_
    exact fin_gen [] rfl rfl rfl (AV.le_refl _) (st_c ⟨rfl, rfl, rfl, rfl, trivial⟩ st_nil)
  · skip
    have h5 := cond_f (b := x3) hb5 h4
    refine w_skip ?_
    refine e_kw ?_
    refine w_seqw ?_
    refine w_seqw ?_
    refine w_planT [.q 0, .q 1, .q 2, .q 3, .q 4, .q 5, .q 6, .q 7, .q 8, .q 9, .q 10, .q 11] [(some 12, [5]), (some 13, [0]), (some 14, [13]), (some 15, [14]), (some 16, [15]), (some 17, [16]), (some 18, [0]), (some 19, [18]), (some 20, [19]), (some 21, [20]), (some 22, [17, 21]), (some 23, [12, 22])] [0, 0, 2, 6, 14, 30, 0, 64, 192, 448, 1022, 2047] (by kernel_rfl) ?_
    refine d_q rfl (qv_p rfl (p_move (v := .c (.int _ _)) rfl)) ?_
    refine d_q rfl (qv_p rfl (p_move (v := .box 0 0) rfl)) ?_
    refine d_q rfl (qv_p rfl (p_nc rfl)) ?_
    refine d_q rfl (qv_p rfl (p_fa tf60x0 rfl)) ?_
    refine d_q rfl (qv_p rfl (p_load (v := .c (PV.ls _ _ _)) tv22 rfl rfl rfl)) ?_
    refine d_q rfl (qv_p rfl (p_len ti22 (isl_c rfl))) ?_
    refine d_q rfl (qv_p rfl (p_move (v := .box 0 0) rfl)) ?_
    refine d_q rfl (qv_p rfl (p_nc rfl)) ?_
    refine d_q rfl (qv_p rfl (p_fa tf60x1 rfl)) ?_
    refine d_q rfl (qv_p rfl (p_load (v := .c (.int _ _)) tv3 rfl rfl rfl)) ?_
    refine d_q rfl (qv_p rfl (p_sub rfl rfl)) ?_
    refine d_q rfl (qv_p rfl (p_gtr rfl rfl)) ?_
    refine d_end (fr' := [(0, .box 0 0), (1, .c (.int _ _)), (4, .c (.str _)), (5, .c (.int _ _)), (6, .any), (11, .c (.bool _)), (23, .c (.bool _))]) rfl ?_
    refine e_kw ?_
    refine w_cond _ rfl (fun hb7 => ?_) (fun hb7 => ?_)
    · skip
      have h7 := cond_t (b := (decide ((IntKind.wrap .i64 (((x1.2.b_).length : Int) - x1.2.at_)) < x1.1))) hb7 h5
      refine w_seqw ?_
      refine w_region ?_
      refine o_p rfl (p_move (v := .box 0 0) rfl) ?_
      refine o_p rfl (p_nc rfl) ?_
      refine o_p rfl (p_fa tf60x2 rfl) ?_
      refine o_store (v := .c (.int _ _)) (us := [.c (.int _ _)]) (cs := [.c (PV.ls _ _ _), .c (.int _ _), .c (.int _ _), .c (.bool _)]) (σ' := [[.c (PV.ls _ _ _), .c (.int _ _), .c (.int _ _), .c (.bool _)]]) rfl tv30 rfl rfl rfl rfl rfl rfl rfl rfl ?_
      refine o_end (fr' := [(0, .box 0 0), (1, .c (.int _ _)), (4, .c (.str _)), (5, .c (.int _ _)), (6, .any), (11, .c (.bool _)), (23, .c (.bool _))]) rfl ?_
      refine e_kw ?_
      refine w_seqw ?_
      refine w_region ?_
      refine o_p rfl (p_assign (v := .c (.str _)) rfl) ?_
      refine o_end (fr' := [(0, .box 0 0), (1, .c (.int _ _)), (4, .c (.str _)), (5, .c (.int _ _)), (6, .any), (11, .c (.bool _)), (23, .c (.bool _))]) rfl ?_
      refine e_kw ?_
      refine w_ret ?_
      refine e_seq_r ?_
      have he8 := Option.some.inj h7
      subst he8
      refine e_ret (rs' := [.tmp 4]) rfl ?_
      refine r_tmp (v := .c (.str _)) rfl ?_
      refine r_nil ?_
      exact fin_gen [] rfl rfl rfl (AV.le_refl _) (st_c ⟨rfl, rfl, rfl, rfl, trivial⟩ st_nil)
    · skip
      have h7 := cond_f (b := (decide ((IntKind.wrap .i64 (((x1.2.b_).length : Int) - x1.2.at_)) < x1.1))) hb7 h5
      refine w_skip ?_
      refine e_kw ?_
      refine w_seqw ?_
      refine w_planT [.q 0, .q 1, .q 2, .q 3, .q 4, .q 5, .q 6, .q 7, .q 8, .q 9, .q 10, .q 11, .q 12, .q 13, .q 14, .q 15, .n 16 []] [(some 27, [0]), (some 28, [27]), (some 29, [28]), (some 30, [29]), (some 31, [0]), (some 32, [31]), (some 33, [32]), (some 34, [33]), (some 35, [0]), (some 36, [35]), (some 37, [36]), (some 38, [37]), (some 39, [5]), (some 40, [38, 39]), (some 41, [30, 34, 40]), (some 42, [41]), (some 6, [42])] [0, 1, 3, 7, 0, 16, 48, 112, 0, 256, 768, 1792, 0, 7936, 16383, 32767, 65535] (by kernel_rfl) ?_
      refine d_q rfl (qv_p rfl (p_move (v := .box 0 0) rfl)) ?_
      refine d_q rfl (qv_p rfl (p_nc rfl)) ?_
      refine d_q rfl (qv_p rfl (p_fa tf60x0 rfl)) ?_
      refine d_q rfl (qv_p rfl (p_load (v := .c (PV.ls _ _ _)) tv22 rfl rfl rfl)) ?_
      refine d_q rfl (qv_p rfl (p_move (v := .box 0 0) rfl)) ?_
      refine d_q rfl (qv_p rfl (p_nc rfl)) ?_
      refine d_q rfl (qv_p rfl (p_fa tf60x1 rfl)) ?_
      refine d_q rfl (qv_p rfl (p_load (v := .c (.int _ _)) tv3 rfl rfl rfl)) ?_
      refine d_q rfl (qv_p rfl (p_move (v := .box 0 0) rfl)) ?_
      refine d_q rfl (qv_p rfl (p_nc rfl)) ?_
      refine d_q rfl (qv_p rfl (p_fa tf60x1 rfl)) ?_
      refine d_q rfl (qv_p rfl (p_load (v := .c (.int _ _)) tv3 rfl rfl rfl)) ?_
      refine d_q rfl (qv_p rfl (p_move (v := .c (.int _ _)) rfl)) ?_
      refine d_q rfl (qv_p rfl (p_add rfl rfl)) ?_
      obtain ⟨x9, hx9, h10⟩ := bind_s h7
      refine d_q rfl (qv_p rfl (p_sl_b tn22 ts22 (isl_c rfl) rfl rfl (slcB_some hx9).1)) ?_
      refine d_q rfl (qv_p rfl (p_convbs tby22 ti9 (isl_c rfl))) ?_
      refine d_n rfl ?_ rfl
      refine o_p rfl (p_assign (v := .c (.str _)) rfl) ?_
      refine o_rc ?_
      refine ⟨rc_nil, ?_⟩
      refine d_end (fr' := [(0, .box 0 0), (1, .c (.int _ _)), (4, .c (.str _)), (5, .c (.int _ _)), (6, .c (.str _)), (11, .c (.bool _)), (23, .c (.bool _))]) rfl ?_
      refine e_kw ?_
      refine w_seqw ?_
      refine w_region ?_
      refine o_p rfl (p_move (v := .box 0 0) rfl) ?_
      refine o_p rfl (p_nc rfl) ?_
      refine o_p rfl (p_fa tf60x1 rfl) ?_
      refine o_p rfl (p_load (v := .c (.int _ _)) tv3 rfl rfl rfl) ?_
      refine o_p rfl (p_move (v := .c (.int _ _)) rfl) ?_
      refine o_p rfl (p_add rfl rfl) ?_
      refine o_p rfl (p_nc rfl) ?_
      refine o_p rfl (p_fa tf60x1 rfl) ?_
      refine o_store (v := .c (.int _ _)) (us := [.c (.int _ _)]) (cs := [.c (PV.ls _ _ _), .c (.int _ _), .c (.int _ _), .c (.bool _)]) (σ' := [[.c (PV.ls _ _ _), .c (.int _ _), .c (.int _ _), .c (.bool _)]]) rfl tv3 rfl rfl rfl rfl rfl rfl rfl rfl ?_
      refine o_end (fr' := [(0, .box 0 0), (1, .c (.int _ _)), (4, .c (.str _)), (5, .c (.int _ _)), (6, .c (.str _)), (11, .c (.bool _)), (23, .c (.bool _))]) rfl ?_
      refine e_kw ?_
      refine w_seqw ?_
      refine w_region ?_
      refine o_p rfl (p_move (v := .c (.str _)) rfl) ?_
      refine o_p rfl (p_assign (v := .c (.str _)) rfl) ?_
      refine o_end (fr' := [(0, .box 0 0), (1, .c (.int _ _)), (4, .c (.str _)), (5, .c (.int _ _)), (6, .c (.str _)), (11, .c (.bool _)), (23, .c (.bool _))]) rfl ?_
      refine e_kw ?_
      refine w_ret ?_
      have he11 := Option.some.inj h10
      subst he11
      refine e_ret (rs' := [.tmp 4]) rfl ?_
      refine r_tmp (v := .c (.str _)) rfl ?_
      refine r_nil ?_
      exact fin_gen [] rfl rfl rfl (AV.le_refl _) (st_c ⟨rfl, rfl, rfl, rfl, trivial⟩ st_nil)
noncomputable def law01xworks  : Option Bool :=
  (byteOf (4 : Int)).bind fun (x1 : UInt8) => (byteOf (97 : Int)).bind fun (x3 : UInt8) => (wire_Open ([x1, x3] : List UInt8)).bind fun (x5 : WireReader) => (byteOf (128 : Int)).bind fun (x7 : UInt8) => (byteOf (0 : Int)).bind fun (x9 : UInt8) => (wire_Open ([x7, x9] : List UInt8)).bind fun (x11 : WireReader) => (wire_Reader_Text (9 : Int) x5).bind fun (x13 : ((List UInt8) × WireReader)) => (wire_Reader_Int (-9223372036854775808 : Int) (9223372036854775807 : Int) x11).bind fun (x15 : (Int × WireReader)) => (byteOf (7 : Int)).bind fun (x17 : UInt8) => (wire_PutInt ([x17] : List UInt8) (-65 : Int)).bind fun (x19 : (List UInt8)) => (byteOf (7 : Int)).bind fun (x21 : UInt8) => (byteOf (129 : Int)).bind fun (x23 : UInt8) => (byteOf (1 : Int)).bind fun (x25 : UInt8) => (law01xequal x19 ([x21, x23, x25] : List UInt8)).bind fun (x27 : Bool) => cond x27 ((wire_PutText ([] : List UInt8) ([97, 98] : List UInt8)).bind fun (x30 : (List UInt8)) => (byteOf (4 : Int)).bind fun (x32 : UInt8) => (byteOf (97 : Int)).bind fun (x34 : UInt8) => (byteOf (98 : Int)).bind fun (x36 : UInt8) => (law01xequal x30 ([x32, x34, x36] : List UInt8)).bind fun (x38 : Bool) => cond x38 ((wire_Reader_Err x13.2).bind fun (x41 : Int) => cond (decide (x41 = (4 : Int))) ((wire_Reader_Err x15.2).bind fun (x44 : Int) => cond (decide (x44 = (3 : Int))) ((wire_Open ([] : List UInt8)).bind fun (x47 : WireReader) => (wire_Reader_End x47).bind fun (x49 : Int) => some (decide (x49 = (0 : Int)))) (some false)) (some false)) (some false)) (some false)
theorem w_law01xworks  {res : Bool} (h : law01xworks = some res) : ACalls Try.prog 16 [] [] (.c (.bool res)) [] := by
  unfold law01xworks at h
  refine acalls (fn := Try.f16) [0, 1, 2, 12] (by kernel_rfl) Try.func16 rfl (by kernel_rfl) (by kernel_rfl) ?_
  refine w_seqw ?_
  refine w_region ?_
  refine o_p rfl (p_assign (v := .c (.bool _)) rfl) ?_
  refine o_end (fr' := [(0, .c (.bool _)), (1, .any), (2, .any), (12, .any)]) rfl ?_
  refine e_kw ?_
  refine w_seqw ?_
  refine w_region ?_
  obtain ⟨x1, hx1, h2⟩ := bind_s h
  obtain ⟨x3, hx3, h4⟩ := bind_s h2
  refine o_rows (row := brow) (xs := ([x1, x3] : List UInt8)) (rows := [[_], [_]]) (σ' := []) [0] ts22 rfl rfl rfl (arow_cons (brow_of hx1) (arow_cons (brow_of hx3) arow_nil)) rfl rfl ?_
  obtain ⟨x5, hx5, h6⟩ := bind_s h4
  refine o_call (v := .box 0 0) (σ' := [[.c (PV.ls _ _ _), .c (.int _ _), .c (.int _ _), .c (.bool _)]]) [] rfl (w_wire_Open hx5) rfl rfl ⟨(AV.le_refl _), trivial⟩ st_nil rfl rfl rfl ?_
  obtain ⟨x7, hx7, h8⟩ := bind_s h6
  obtain ⟨x9, hx9, h10⟩ := bind_s h8
  refine o_rows (row := brow) (xs := ([x7, x9] : List UInt8)) (rows := [[_], [_]]) (σ' := [[.c (PV.ls _ _ _), .c (.int _ _), .c (.int _ _), .c (.bool _)]]) [0] ts22 rfl rfl rfl (arow_cons (brow_of hx7) (arow_cons (brow_of hx9) arow_nil)) rfl rfl ?_
  obtain ⟨x11, hx11, h12⟩ := bind_s h10
  refine o_call (v := .box 1 0) (σ' := [[.c (PV.ls _ _ _), .c (.int _ _), .c (.int _ _), .c (.bool _)], [.c (PV.ls _ _ _), .c (.int _ _), .c (.int _ _), .c (.bool _)]]) [] rfl (w_wire_Open hx11) rfl rfl ⟨(AV.le_refl _), trivial⟩ st_nil rfl rfl rfl ?_
  refine o_p rfl (p_assign (v := .box 0 0) rfl) ?_
  refine o_p rfl (p_assign (v := .box 1 0) rfl) ?_
  refine o_end (fr' := [(0, .c (.bool _)), (1, .box 0 0), (2, .box 1 0), (12, .any)]) rfl ?_
  refine e_kw ?_
  refine w_seqw ?_
  refine w_seqw ?_
  refine w_region ?_
  refine o_p rfl (p_move (v := .box 0 0) rfl) ?_
  refine o_p rfl (p_peql ti27 rfl rfl) ?_
  refine o_p rfl (p_move (v := .c (.bool _)) rfl) ?_
  refine o_g rfl rfl (fun hc => ov_p rfl (p_move (v := .box 1 0) rfl)) ?_
  refine o_g rfl rfl (fun hc => ov_p rfl (p_peql ti27 (gx rfl hc) rfl)) ?_
  refine o_p rfl (p_k (p_pickz rfl rfl rfl (fun e => keq e)) (show _ = .bool false from rfl)) ?_
  refine o_end (fr' := [(0, .c (.bool _)), (1, .box 0 0), (2, .box 1 0), (12, .c (.bool _))]) rfl ?_
  refine e_kw ?_
  refine w_cond_f rfl ?_
  refine w_skip ?_
  refine e_kw ?_
  refine w_seqw ?_
  refine w_region ?_
  refine o_p rfl (p_move (v := .box 0 0) rfl) ?_
  obtain ⟨x13, hx13, h14⟩ := bind_s h12
  refine o_call (v := .c (.str _)) (σ' := [[.c (PV.ls _ _ _), .c (.int _ _), .c (.int _ _), .c (.bool _)], [.c (PV.ls _ _ _), .c (.int _ _), .c (.int _ _), .c (.bool _)]]) [0] rfl (w_wire_Reader_Text hx13) rfl rfl ⟨(AV.le_refl _), (AV.le_refl _), trivial⟩ (st_c ⟨rfl, rfl, rfl, rfl, trivial⟩ st_nil) (ok_eq (by repeat (first | exact ok_nil | refine ok_cons rfl ?_ | refine ok_cons (dgv rfl) ?_))) rfl rfl ?_
  refine o_end (fr' := [(0, .c (.bool _)), (1, .box 0 0), (2, .box 1 0), (12, .c (.bool _))]) rfl ?_
  refine e_kw ?_
  refine w_seqw ?_
  refine w_region ?_
  refine o_p rfl (p_move (v := .box 1 0) rfl) ?_
  obtain ⟨x15, hx15, h16⟩ := bind_s h14
  refine o_call (v := .c (.int _ _)) (σ' := [[.c (PV.ls _ _ _), .c (.int _ _), .c (.int _ _), .c (.bool _)], [.c (PV.ls _ _ _), .c (.int _ _), .c (.int _ _), .c (.bool _)]]) [1] rfl (w_wire_Reader_Int hx15) rfl rfl ⟨(AV.le_refl _), (AV.le_refl _), (AV.le_refl _), trivial⟩ (st_c ⟨rfl, rfl, rfl, rfl, trivial⟩ st_nil) (ok_eq (by repeat (first | exact ok_nil | refine ok_cons rfl ?_ | refine ok_cons (dgv rfl) ?_))) rfl rfl ?_
  refine o_end (fr' := [(0, .c (.bool _)), (1, .box 0 0), (2, .box 1 0), (12, .c (.bool _))]) rfl ?_
  refine e_kw ?_
  refine w_seqw ?_
  refine w_region ?_
  obtain ⟨x17, hx17, h18⟩ := bind_s h16
  refine o_rows (row := brow) (xs := ([x17] : List UInt8)) (rows := [[_]]) (σ' := [[.c (PV.ls _ _ _), .c (.int _ _), .c (.int _ _), .c (.bool _)], [.c (PV.ls _ _ _), .c (.int _ _), .c (.int _ _), .c (.bool _)]]) [0] ts22 rfl rfl rfl (arow_cons (brow_of hx17) arow_nil) (ok_eq (by repeat (first | exact ok_nil | refine ok_cons rfl ?_ | refine ok_cons (dgv rfl) ?_))) rfl ?_
  obtain ⟨x19, hx19, h20⟩ := bind_s h18
  refine o_v (ov_call (v := AV.os _ _ _ _) rfl (w_wire_PutInt hx19) ⟨(AV.le_refl _), (AV.le_refl _), trivial⟩ (ok_eq (by repeat (first | exact ok_nil | refine ok_cons rfl ?_ | refine ok_cons (dgv rfl) ?_))) rfl rfl) ?_
  obtain ⟨x21, hx21, h22⟩ := bind_s h20
  obtain ⟨x23, hx23, h24⟩ := bind_s h22
  obtain ⟨x25, hx25, h26⟩ := bind_s h24
  refine o_rows (row := brow) (xs := ([x21, x23, x25] : List UInt8)) (rows := [[_], [_], [_]]) (σ' := [[.c (PV.ls _ _ _), .c (.int _ _), .c (.int _ _), .c (.bool _)], [.c (PV.ls _ _ _), .c (.int _ _), .c (.int _ _), .c (.bool _)]]) [0] ts22 rfl rfl rfl (arow_cons (brow_of hx21) (arow_cons (brow_of hx23) (arow_cons (brow_of hx25) arow_nil))) (ok_eq (by repeat (first | exact ok_nil | refine ok_cons rfl ?_ | refine ok_cons (dgv rfl) ?_))) rfl ?_
  obtain ⟨x27, hx27, h28⟩ := bind_s h26
  refine o_v (ov_call (v := .c (.bool _)) rfl (w_law01xequal hx27) ⟨(AV.le_refl _), (AV.le_refl _), trivial⟩ (ok_eq (by repeat (first | exact ok_nil | refine ok_cons rfl ?_ | refine ok_cons (dgv rfl) ?_))) rfl rfl) ?_
  refine o_p rfl (p_move (v := .c (.bool _)) rfl) ?_
  rcases Bool.eq_false_or_eq_true x27 with hb29 | hb29
  · skip
    have h29 := cond_t hb29 h28
    refine o_yes rfl rfl hb29 ?_
    obtain ⟨x30, hx30, h31⟩ := bind_s h29
    refine o_v (ov_call (v := AV.os _ _ _ _) rfl (w_wire_PutText hx30) ⟨le_nls, (AV.le_refl _), trivial⟩ (ok_eq (by repeat (first | exact ok_nil | refine ok_cons rfl ?_ | refine ok_cons (dgv rfl) ?_))) rfl rfl) ?_
    refine o_yes rfl rfl hb29 ?_
    obtain ⟨x32, hx32, h33⟩ := bind_s h31
    obtain ⟨x34, hx34, h35⟩ := bind_s h33
    obtain ⟨x36, hx36, h37⟩ := bind_s h35
    refine o_rows (row := brow) (xs := ([x32, x34, x36] : List UInt8)) (rows := [[_], [_], [_]]) (σ' := [[.c (PV.ls _ _ _), .c (.int _ _), .c (.int _ _), .c (.bool _)], [.c (PV.ls _ _ _), .c (.int _ _), .c (.int _ _), .c (.bool _)]]) [0] ts22 rfl rfl rfl (arow_cons (brow_of hx32) (arow_cons (brow_of hx34) (arow_cons (brow_of hx36) arow_nil))) (ok_eq (by repeat (first | exact ok_nil | refine ok_cons rfl ?_ | refine ok_cons (dgv rfl) ?_))) rfl ?_
    refine o_yes rfl rfl hb29 ?_
    obtain ⟨x38, hx38, h39⟩ := bind_s h37
    refine o_v (ov_call (v := .c (.bool _)) rfl (w_law01xequal hx38) ⟨(AV.le_refl _), (AV.le_refl _), trivial⟩ (ok_eq (by repeat (first | exact ok_nil | refine ok_cons rfl ?_ | refine ok_cons (dgv rfl) ?_))) rfl rfl) ?_
    refine o_p rfl (p_pick_t rfl hb29 rfl) ?_
    refine o_p rfl (p_move (v := .c (.bool _)) rfl) ?_
    rcases Bool.eq_false_or_eq_true x38 with hb40 | hb40
    · skip
      have h40 := cond_t hb40 h39
      refine o_yes rfl rfl hb40 ?_
      refine o_p rfl (p_move (v := .box 0 0) rfl) ?_
      refine o_yes rfl rfl hb40 ?_
      obtain ⟨x41, hx41, h42⟩ := bind_s h40
      refine o_call (v := .c (.int _ _)) (σ' := [[.c (PV.ls _ _ _), .c (.int _ _), .c (.int _ _), .c (.bool _)], [.c (PV.ls _ _ _), .c (.int _ _), .c (.int _ _), .c (.bool _)]]) [0] rfl (w_wire_Reader_Err hx41) rfl rfl ⟨(AV.le_refl _), trivial⟩ (st_c ⟨rfl, rfl, rfl, rfl, trivial⟩ st_nil) (ok_eq (by repeat (first | exact ok_nil | refine ok_cons rfl ?_ | refine ok_cons (dgv rfl) ?_))) rfl rfl ?_
      refine o_yes rfl rfl hb40 ?_
      refine o_p rfl (p_eql rfl rfl) ?_
      refine o_p rfl (p_pick_t rfl hb40 rfl) ?_
      refine o_p rfl (p_move (v := .c (.bool _)) rfl) ?_
      rcases Bool.eq_false_or_eq_true (decide (x41 = (4 : Int))) with hb43 | hb43
      · skip
        have h43 := cond_t hb43 h42
        refine o_yes rfl rfl hb43 ?_
        refine o_p rfl (p_move (v := .box 1 0) rfl) ?_
        refine o_yes rfl rfl hb43 ?_
        obtain ⟨x44, hx44, h45⟩ := bind_s h43
        refine o_call (v := .c (.int _ _)) (σ' := [[.c (PV.ls _ _ _), .c (.int _ _), .c (.int _ _), .c (.bool _)], [.c (PV.ls _ _ _), .c (.int _ _), .c (.int _ _), .c (.bool _)]]) [1] rfl (w_wire_Reader_Err hx44) rfl rfl ⟨(AV.le_refl _), trivial⟩ (st_c ⟨rfl, rfl, rfl, rfl, trivial⟩ st_nil) (ok_eq (by repeat (first | exact ok_nil | refine ok_cons rfl ?_ | refine ok_cons (dgv rfl) ?_))) rfl rfl ?_
        refine o_yes rfl rfl hb43 ?_
        refine o_p rfl (p_eql rfl rfl) ?_
        refine o_p rfl (p_pick_t rfl hb43 rfl) ?_
        refine o_p rfl (p_move (v := .c (.bool _)) rfl) ?_
        rcases Bool.eq_false_or_eq_true (decide (x44 = (3 : Int))) with hb46 | hb46
        · skip
          have h46 := cond_t hb46 h45
          refine o_yes rfl rfl hb46 ?_
          obtain ⟨x47, hx47, h48⟩ := bind_s h46
          refine o_call (v := .box 2 0) (σ' := [[.c (PV.ls _ _ _), .c (.int _ _), .c (.int _ _), .c (.bool _)], [.c (PV.ls _ _ _), .c (.int _ _), .c (.int _ _), .c (.bool _)], [.c (PV.ls _ _ _), .c (.int _ _), .c (.int _ _), .c (.bool _)]]) [] rfl (w_wire_Open hx47) rfl rfl ⟨le_nls, trivial⟩ st_nil (ok_eq (by repeat (first | exact ok_nil | refine ok_cons rfl ?_ | refine ok_cons (dgv rfl) ?_))) rfl rfl ?_
          refine o_yes rfl rfl hb46 ?_
          obtain ⟨x49, hx49, h50⟩ := bind_s h48
          refine o_call (v := .c (.int _ _)) (σ' := [[.c (PV.ls _ _ _), .c (.int _ _), .c (.int _ _), .c (.bool _)], [.c (PV.ls _ _ _), .c (.int _ _), .c (.int _ _), .c (.bool _)], [.c (PV.ls _ _ _), .c (.int _ _), .c (.int _ _), .c (.bool _)]]) [2] rfl (w_wire_Reader_End hx49) rfl rfl ⟨(AV.le_refl _), trivial⟩ (st_c ⟨rfl, rfl, rfl, rfl, trivial⟩ st_nil) (ok_eq (by repeat (first | exact ok_nil | refine ok_cons rfl ?_ | refine ok_cons (dgv rfl) ?_))) rfl rfl ?_
          refine o_yes rfl rfl hb46 ?_
          refine o_p rfl (p_eql rfl rfl) ?_
          refine o_p rfl (p_pick_t rfl hb46 rfl) ?_
          refine o_p rfl (p_assign (v := .c (.bool _)) rfl) ?_
          refine o_end (fr' := [(0, .c (.bool _)), (1, .box 0 0), (2, .box 1 0), (12, .c (.bool _))]) rfl ?_
          refine e_kw ?_
          refine w_ret ?_
          have he51 := Option.some.inj h50
          subst he51
          refine e_ret (rs' := [.tmp 0]) rfl ?_
          refine r_tmp (v := .c (.bool _)) rfl ?_
          refine r_nil ?_
          exact fin_gen [] rfl rfl rfl (AV.le_refl _) st_nil
        · skip
          have h46 := cond_f hb46 h45
          refine o_no rfl rfl hb46 ?_
          refine o_no rfl rfl hb46 ?_
          refine o_no rfl rfl hb46 ?_
          refine o_p rfl (p_pick_f rfl hb46 rfl) ?_
          refine o_p rfl (p_assign (v := .c (.bool _)) rfl) ?_
          refine o_end (fr' := [(0, .c (.bool _)), (1, .box 0 0), (2, .box 1 0), (12, .c (.bool _))]) rfl ?_
          refine e_kw ?_
          refine w_ret ?_
          have he52 := Option.some.inj h46
          subst he52
          refine e_ret (rs' := [.tmp 0]) rfl ?_
          refine r_tmp (v := .c (.bool _)) rfl ?_
          refine r_nil ?_
          exact fin_gen [] rfl rfl rfl (AV.le_refl _) st_nil
      · skip
        have h43 := cond_f hb43 h42
        refine o_no rfl rfl hb43 ?_
        refine o_no rfl rfl hb43 ?_
        refine o_no rfl rfl hb43 ?_
        refine o_p rfl (p_pick_f rfl hb43 rfl) ?_
        refine o_p rfl (p_move (v := .c (.bool _)) rfl) ?_
        refine o_no rfl rfl rfl ?_
        refine o_no rfl rfl rfl ?_
        refine o_no rfl rfl rfl ?_
        refine o_p rfl (p_pick_f rfl rfl rfl) ?_
        refine o_p rfl (p_assign (v := .c (.bool _)) rfl) ?_
        refine o_end (fr' := [(0, .c (.bool _)), (1, .box 0 0), (2, .box 1 0), (12, .c (.bool _))]) rfl ?_
        refine e_kw ?_
        refine w_ret ?_
        have he53 := Option.some.inj h43
        subst he53
        refine e_ret (rs' := [.tmp 0]) rfl ?_
        refine r_tmp (v := .c (.bool _)) rfl ?_
        refine r_nil ?_
        exact fin_gen [] rfl rfl rfl (AV.le_refl _) st_nil
    · skip
      have h40 := cond_f hb40 h39
      refine o_no rfl rfl hb40 ?_
      refine o_no rfl rfl hb40 ?_
      refine o_no rfl rfl hb40 ?_
      refine o_p rfl (p_pick_f rfl hb40 rfl) ?_
      refine o_p rfl (p_move (v := .c (.bool _)) rfl) ?_
      refine o_no rfl rfl rfl ?_
      refine o_no rfl rfl rfl ?_
      refine o_no rfl rfl rfl ?_
      refine o_p rfl (p_pick_f rfl rfl rfl) ?_
      refine o_p rfl (p_move (v := .c (.bool _)) rfl) ?_
      refine o_no rfl rfl rfl ?_
      refine o_no rfl rfl rfl ?_
      refine o_no rfl rfl rfl ?_
      refine o_p rfl (p_pick_f rfl rfl rfl) ?_
      refine o_p rfl (p_assign (v := .c (.bool _)) rfl) ?_
      refine o_end (fr' := [(0, .c (.bool _)), (1, .box 0 0), (2, .box 1 0), (12, .c (.bool _))]) rfl ?_
      refine e_kw ?_
      refine w_ret ?_
      have he54 := Option.some.inj h40
      subst he54
      refine e_ret (rs' := [.tmp 0]) rfl ?_
      refine r_tmp (v := .c (.bool _)) rfl ?_
      refine r_nil ?_
      exact fin_gen [] rfl rfl rfl (AV.le_refl _) st_nil
  · skip
    have h29 := cond_f hb29 h28
    refine o_no rfl rfl hb29 ?_
    refine o_no rfl rfl hb29 ?_
    refine o_no rfl rfl hb29 ?_
    refine o_p rfl (p_pick_f rfl hb29 rfl) ?_
    refine o_p rfl (p_move (v := .c (.bool _)) rfl) ?_
    refine o_no rfl rfl rfl ?_
    refine o_no rfl rfl rfl ?_
    refine o_no rfl rfl rfl ?_
    refine o_p rfl (p_pick_f rfl rfl rfl) ?_
    refine o_p rfl (p_move (v := .c (.bool _)) rfl) ?_
    refine o_no rfl rfl rfl ?_
    refine o_no rfl rfl rfl ?_
    refine o_no rfl rfl rfl ?_
    refine o_p rfl (p_pick_f rfl rfl rfl) ?_
    refine o_p rfl (p_move (v := .c (.bool _)) rfl) ?_
    refine o_no rfl rfl rfl ?_
    refine o_no rfl rfl rfl ?_
    refine o_no rfl rfl rfl ?_
    refine o_p rfl (p_pick_f rfl rfl rfl) ?_
    refine o_p rfl (p_assign (v := .c (.bool _)) rfl) ?_
    refine o_end (fr' := [(0, .c (.bool _)), (1, .box 0 0), (2, .box 1 0), (12, .c (.bool _))]) rfl ?_
    refine e_kw ?_
    refine w_ret ?_
    have he55 := Option.some.inj h29
    subst he55
    refine e_ret (rs' := [.tmp 0]) rfl ?_
    refine r_tmp (v := .c (.bool _)) rfl ?_
    refine r_nil ?_
    exact fin_gen [] rfl rfl rfl (AV.le_refl _) st_nil
noncomputable def law01xWirePrefix (p0m : Int) (p1n : Int) : Option Bool :=
  (wire_PutInt ([] : List UInt8) p0m).bind fun (x1 : (List UInt8)) => (wire_PutInt ([] : List UInt8) p1n).bind fun (x3 : (List UInt8)) => ((cond (decide (((x3).length : Int) < ((x1).length : Int))) (some (x3, x1)) (some (x1, x3))) : Option ((List UInt8) × (List UInt8))).bind fun (x5 : ((List UInt8) × (List UInt8))) => ((slcH x5.2 ((x5.1).length : Int)).bind fun (x10 : (List UInt8)) => (law01xequal x5.1 (List.take (Int.toNat ((x5.1).length : Int)) x5.2)).bind fun (x12 : Bool) => (gd ((x12 == (decide (p0m = p1n))) == true) (law01xworks)).bind fun (x14 : Bool) => some (cond (x12 == (decide (p0m = p1n))) x14 false))
theorem w_law01xWirePrefix {p0m : Int} {p1n : Int} {res : Bool} (h : law01xWirePrefix p0m p1n = some res) : ACalls Try.prog 3 [.c (.int .i64 p0m), .c (.int .i64 p1n)] [] (.c (.bool res)) [] := by
  unfold law01xWirePrefix at h
  refine acalls (fn := Try.f3) [0, 1, 4, 5, 6, 15] (by kernel_rfl) Try.func3 rfl (by kernel_rfl) (by kernel_rfl) ?_
  refine w_seqw ?_
  refine w_region ?_
  refine o_p rfl (p_assign (v := .c (.bool _)) rfl) ?_
  refine o_end (fr' := [(0, .c (.int _ _)), (1, .c (.int _ _)), (4, .c (.bool _)), (5, .any), (6, .any), (15, .any)]) rfl ?_
  refine e_kw ?_
  refine w_seqw ?_
  refine w_region ?_
  refine o_p rfl (p_move (v := .c (.int _ _)) rfl) ?_
  obtain ⟨x1, hx1, h2⟩ := bind_s h
  refine o_v (ov_call (v := AV.os _ _ _ _) rfl (w_wire_PutInt hx1) ⟨le_nls, (AV.le_refl _), trivial⟩ rfl rfl rfl) ?_
  refine o_p rfl (p_move (v := .c (.int _ _)) rfl) ?_
  obtain ⟨x3, hx3, h4⟩ := bind_s h2
  refine o_v (ov_call (v := AV.os _ _ _ _) rfl (w_wire_PutInt hx3) ⟨le_nls, (AV.le_refl _), trivial⟩ rfl rfl rfl) ?_
  refine o_p rfl (p_assign (v := AV.os _ _ _ _) rfl) ?_
  refine o_p rfl (p_assign (v := AV.os _ _ _ _) rfl) ?_
  refine o_end (fr' := [(0, .c (.int _ _)), (1, .c (.int _ _)), (4, .c (.bool _)), (5, AV.os _ _ _ _), (6, AV.os _ _ _ _), (15, .any)]) rfl ?_
  refine e_kw ?_
  obtain ⟨x5, hx5, h6⟩ := bind_s h4
  refine w_join (fun j7 => x5 = j7) (fun (j7 : ((List UInt8) × (List UInt8))) => ([(0, .c (.int .i64 p0m)), (1, .c (.int .i64 p1n)), (5, AV.os 0 1 brow j7.1), (6, AV.os 1 1 brow j7.2)] : Fr)) (fun (j7 : ((List UInt8) × (List UInt8))) => ([] : St)) ?_ ?_
  · skip
    refine w_seqw ?_
    refine w_region ?_
    refine o_p rfl (p_move (v := AV.os _ _ _ _) rfl) ?_
    refine o_p rfl (p_len ti22 (isl_o rfl)) ?_
    refine o_p rfl (p_move (v := AV.os _ _ _ _) rfl) ?_
    refine o_p rfl (p_len ti22 (isl_o rfl)) ?_
    refine o_p rfl (p_gtr rfl rfl) ?_
    refine o_end (fr' := [(0, .c (.int _ _)), (1, .c (.int _ _)), (4, .c (.bool _)), (5, AV.os _ _ _ _), (6, AV.os _ _ _ _), (15, .c (.bool _))]) rfl ?_
    refine e_kw ?_
    refine w_cond _ rfl (fun hb8 => ?_) (fun hb8 => ?_)
    · skip
      have h8 := cond_t (b := (decide (((x3).length : Int) < ((x1).length : Int)))) hb8 hx5
      refine w_region ?_
      refine o_p rfl (p_move (v := AV.os _ _ _ _) rfl) ?_
      refine o_p rfl (p_move (v := AV.os _ _ _ _) rfl) ?_
      refine o_p rfl (p_assign (v := AV.os _ _ _ _) rfl) ?_
      refine o_p rfl (p_assign (v := AV.os _ _ _ _) rfl) ?_
      refine o_end (fr' := [(0, .c (.int _ _)), (1, .c (.int _ _)), (4, .c (.bool _)), (5, AV.os _ _ _ _), (6, AV.os _ _ _ _), (15, .c (.bool _))]) rfl ?_
      exact e_j _ (Option.some.inj h8).symm (w_weak [160, 128] 0 rfl rfl rfl rfl ⟨(AV.le_refl _), (AV.le_refl _), (AV.le_refl _), (AV.le_refl _), trivial⟩ st_nil)
    · skip
      have h8 := cond_f (b := (decide (((x3).length : Int) < ((x1).length : Int)))) hb8 hx5
      refine w_skip ?_
      exact e_j _ (Option.some.inj h8).symm (w_weak [128, 160] 0 rfl rfl rfl rfl ⟨(AV.le_refl _), (AV.le_refl _), (AV.le_refl _), (AV.le_refl _), trivial⟩ st_nil)
  · skip
    intro j7 hj9
    subst hj9
    refine w_seqw ?_
    refine w_region ?_
    refine o_p rfl (p_move (v := AV.os _ _ _ _) rfl) ?_
    refine o_p rfl (p_move (v := AV.os _ _ _ _) rfl) ?_
    refine o_p rfl (p_move (v := AV.os _ _ _ _) rfl) ?_
    refine o_p rfl (p_len ti22 (isl_o rfl)) ?_
    obtain ⟨x10, hx10, h11⟩ := bind_s h6
    refine o_p rfl (p_sl_h tn22 ts22 (isl_o rfl) rfl (slcH_some hx10).1) ?_
    obtain ⟨x12, hx12, h13⟩ := bind_s h11
    refine o_v (ov_call (v := .c (.bool _)) rfl (w_law01xequal hx12) ⟨(AV.le_refl _), (AV.le_refl _), trivial⟩ rfl rfl rfl) ?_
    refine o_p rfl (p_move (v := .c (.int _ _)) rfl) ?_
    refine o_p rfl (p_move (v := .c (.int _ _)) rfl) ?_
    refine o_p rfl (p_eql rfl rfl) ?_
    refine o_p rfl (p_beql ti4 rfl rfl) ?_
    refine o_p rfl (p_move (v := .c (.bool _)) rfl) ?_
    obtain ⟨x14, hx14, h15⟩ := bind_s h13
    refine o_g rfl rfl (fun hc => ov_call (v := .c (.bool _)) rfl (w_law01xworks (gd_some hx14 hc)) trivial rfl rfl rfl) ?_
    refine o_p rfl (p_picky rfl rfl rfl (fun e => keq e)) ?_
    refine o_p rfl (p_assign (v := .c (.bool _)) rfl) ?_
    refine o_end (fr' := [(0, .c (.int _ _)), (1, .c (.int _ _)), (4, .c (.bool _)), (5, AV.os _ _ _ _), (6, AV.os _ _ _ _), (15, .any)]) rfl ?_
    refine e_kw ?_
    refine w_ret ?_
    have he16 := Option.some.inj h15
    subst he16
    refine e_ret (rs' := [.tmp 4]) rfl ?_
    refine r_tmp (v := .c (.bool _)) rfl ?_
    refine r_nil ?_
    exact fin_gen [] rfl rfl rfl (AV.le_refl _) st_nil
noncomputable def ref01xzigzag (p0n : Int) : Option Int :=
  cond (decide ((0 : Int) ≤ p0n)) (some (IntKind.wrap .u64 ((2 : Int) * (IntKind.wrap .u64 p0n)))) (some (IntKind.wrap .u64 ((IntKind.wrap .u64 ((2 : Int) * (IntKind.wrap .u64 (IntKind.wrap .i64 (0 - (IntKind.wrap .i64 (p0n + (1 : Int)))))))) + (1 : Int))))
theorem w_ref01xzigzag {p0n : Int} {res : Int} (h : ref01xzigzag p0n = some res) : ACalls Try.prog 47 [.c (.int .i64 p0n)] [] (.c (.int .u64 res)) [] := by
  unfold ref01xzigzag at h
  refine acalls (fn := Try.f47) [0, 2, 4] (by kernel_rfl) Try.func47 rfl (by kernel_rfl) (by kernel_rfl) ?_
  refine w_seqw ?_
  refine w_region ?_
  refine o_p rfl (p_assign (v := .c (.int _ _)) rfl) ?_
  refine o_end (fr' := [(0, .c (.int _ _)), (2, .c (.int _ _)), (4, .any)]) rfl ?_
  refine e_kw ?_
  refine w_seqw ?_
  refine w_seqw ?_
  refine w_region ?_
  refine o_p rfl (p_move (v := .c (.int _ _)) rfl) ?_
  refine o_p rfl (p_geq rfl rfl) ?_
  refine o_end (fr' := [(0, .c (.int _ _)), (2, .c (.int _ _)), (4, .c (.bool _))]) rfl ?_
  refine e_kw ?_
  refine w_cond _ rfl (fun hb1 => ?_) (fun hb1 => ?_)
  · skip
    have h1 := cond_t (b := (decide ((0 : Int) ≤ p0n))) hb1 h
    refine w_seqw ?_
    refine w_region ?_
    refine o_p rfl (p_move (v := .c (.int _ _)) rfl) ?_
    refine o_p rfl (p_conv tk3 tk81 rfl) ?_
    refine o_p rfl (p_mul rfl rfl) ?_
    refine o_p rfl (p_assign (v := .c (.int _ _)) rfl) ?_
    refine o_end (fr' := [(0, .c (.int _ _)), (2, .c (.int _ _)), (4, .c (.bool _))]) rfl ?_
    refine e_kw ?_
    refine w_ret ?_
    refine e_seq_r ?_
    have he2 := Option.some.inj h1
    subst he2
    refine e_ret (rs' := [.tmp 2]) rfl ?_
    refine r_tmp (v := .c (.int _ _)) rfl ?_
    refine r_nil ?_
    exact fin_gen [] rfl rfl rfl (AV.le_refl _) st_nil
  · skip
    have h1 := cond_f (b := (decide ((0 : Int) ≤ p0n))) hb1 h
    refine w_skip ?_
    refine e_kw ?_
    refine w_seqw ?_
    refine w_region ?_
    refine o_p rfl (p_move (v := .c (.int _ _)) rfl) ?_
    refine o_p rfl (p_add rfl rfl) ?_
    refine o_p rfl (p_neg rfl) ?_
    refine o_p rfl (p_conv tk3 tk81 rfl) ?_
    refine o_p rfl (p_mul rfl rfl) ?_
    refine o_p rfl (p_add rfl rfl) ?_
    refine o_p rfl (p_assign (v := .c (.int _ _)) rfl) ?_
    refine o_end (fr' := [(0, .c (.int _ _)), (2, .c (.int _ _)), (4, .c (.bool _))]) rfl ?_
    refine e_kw ?_
    refine w_ret ?_
    have he3 := Option.some.inj h1
    subst he3
    refine e_ret (rs' := [.tmp 2]) rfl ?_
    refine r_tmp (v := .c (.int _ _)) rfl ?_
    refine r_nil ?_
    exact fin_gen [] rfl rfl rfl (AV.le_refl _) st_nil
end Go.Proofs.Ytnhchphmmdgphaa

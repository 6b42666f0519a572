import Derived.Test.YtnhchphmmdgphaaGBTy
import Derived.Test.YtnhchphmmdgphaaGBF0
import Derived.Test.YtnhchphmmdgphaaGBF1
import Derived.Test.YtnhchphmmdgphaaGBF3
import Derived.Test.YtnhchphmmdgphaaGBF4
namespace Go.Proofs.Ytnhchphmmdgphaa
open Go Abs
set_option maxRecDepth 100000
set_option linter.unusedVariables false
set_option linter.unusedSimpArgs false
noncomputable def law01xWireReads_l1 (p1l : (List Law01Read)) (s12 : (Int × WireReader × Ref01Reader)) : Option (Step (Int × WireReader × Ref01Reader) (Fl Bool (WireReader × Ref01Reader))) :=
  cond (decide (s12.1 < ((p1l).length : Int))) ((idx p1l s12.1).bind fun (x14 : Law01Read) => (law01xplay x14 s12.2.1 s12.2.2).bind fun (x16 : (Bool × WireReader × Ref01Reader)) => cond (!x16.1) (some (Step.out (Fl.done false))) (some (Step.next ((IntKind.wrap .i64 (s12.1 + (1 : Int))), x16.2.1, x16.2.2)))) (some (Step.out (Fl.go (s12.2.1, s12.2.2))))
noncomputable def law01xWireReads (p0b : (List UInt8)) (p1l : (List Law01Read)) : Option Bool :=
  cond (cond (decide ((300 : Int) < ((p0b).length : Int))) true (decide ((40 : Int) < ((p1l).length : Int)))) ((law01xworks).bind fun (x2 : Bool) => some x2) ((wire_Open p0b).bind fun (x5 : WireReader) => (ref01xOpen p0b).bind fun (x7 : Ref01Reader) => ((loopO (law01xWireReads_l1 p1l) (((0 : Int), x5, x7))) : Option (Fl Bool (WireReader × Ref01Reader))).bind fun (x9 : (Fl Bool (WireReader × Ref01Reader))) => Fl.next x9 (fun (j11 : (WireReader × Ref01Reader)) => ((law01xworks).bind fun (x24 : Bool) => some x24)))
theorem w_law01xWireReads {p0b : (List UInt8)} {p1l : (List Law01Read)} {res : Bool} (h : law01xWireReads p0b p1l = some res) : ACalls Try.prog 8 [.c (PV.ls 1 brow p0b), .c (PV.ls 3 rowLaw01Read p1l)] [] (.c (.bool res)) [] := by
  unfold law01xWireReads at h
  refine acalls (fn := Try.f8) [0, 1, 4, 5, 6, 8, 16, 23, 24, 25, 26, 27, 34] (by kernel_rfl) Try.func8 rfl (by kernel_rfl) (by kernel_rfl) ?_
  refine w_seqw ?_
  refine w_region ?_
  refine o_p rfl (p_assign (v := .c (.bool _)) rfl) ?_
  refine o_end (fr' := [(0, .c (PV.ls _ _ _)), (1, .c (PV.ls _ _ _)), (4, .c (.bool _)), (5, .any), (6, .any), (8, .any), (16, .any), (23, .any), (24, .any), (25, .any), (26, .any), (27, .any), (34, .any)]) rfl ?_
  refine e_kw ?_
  refine w_seqw ?_
  refine w_seqw ?_
  refine w_region ?_
  refine o_p rfl (p_move (v := .c (PV.ls _ _ _)) rfl) ?_
  refine o_p rfl (p_len ti22 (isl_c rfl)) ?_
  refine o_p rfl (p_gtr rfl rfl) ?_
  refine o_p rfl (p_move (v := .c (.bool _)) rfl) ?_
  refine o_g rfl rfl (fun hc => ov_p rfl (p_move (v := .c (PV.ls _ _ _)) rfl)) ?_
  refine o_g rfl rfl (fun hc => ov_p rfl (p_len ti52 (isl_c (gx rfl hc)))) ?_
  refine o_g rfl rfl (fun hc => ov_p rfl (p_gtr (gx rfl hc) rfl)) ?_
  refine o_p rfl (p_pickz rfl rfl rfl (fun e => keq e)) ?_
  refine o_end (fr' := [(0, .c (PV.ls _ _ _)), (1, .c (PV.ls _ _ _)), (4, .c (.bool _)), (5, .any), (6, .any), (8, .any), (16, .c (.bool _)), (23, .any), (24, .any), (25, .any), (26, .any), (27, .any), (34, .any)]) rfl ?_
  refine e_kw ?_
  refine w_cond _ rfl (fun hb1 => ?_) (fun hb1 => ?_)
  · skip
    have h1 := cond_t (b := (cond (decide ((300 : Int) < ((p0b).length : Int))) true (decide ((40 : Int) < ((p1l).length : Int))))) hb1 h
    refine w_seqw ?_
    refine w_region ?_
    obtain ⟨x2, hx2, h3⟩ := bind_s h1
    refine o_v (ov_call (v := .c (.bool _)) rfl (w_law01xworks hx2) trivial (ok_eq (by repeat (first | exact ok_nil | refine ok_cons rfl ?_ | refine ok_cons (dgv rfl) ?_))) rfl rfl) ?_
    refine o_p rfl (p_assign (v := .c (.bool _)) rfl) ?_
    refine o_end (fr' := [(0, .c (PV.ls _ _ _)), (1, .c (PV.ls _ _ _)), (4, .c (.bool _)), (5, .any), (6, .any), (8, .any), (16, .c (.bool _)), (23, .any), (24, .any), (25, .any), (26, .any), (27, .any), (34, .any)]) rfl ?_
    refine e_kw ?_
    refine w_ret ?_
    refine e_seq_r ?_
    have he4 := Option.some.inj h3
    subst he4
    refine e_ret (rs' := [.tmp 4]) rfl ?_
    refine r_tmp (v := .c (.bool _)) rfl ?_
    refine r_nil ?_
    exact fin_gen [] rfl rfl rfl (AV.le_refl _) st_nil
  · skip
    have h1 := cond_f (b := (cond (decide ((300 : Int) < ((p0b).length : Int))) true (decide ((40 : Int) < ((p1l).length : Int))))) hb1 h
    refine w_skip ?_
    refine e_kw ?_
    refine w_seqw ?_
    refine w_region ?_
    refine o_p rfl (p_move (v := .c (PV.ls _ _ _)) rfl) ?_
    obtain ⟨x5, hx5, h6⟩ := bind_s h1
    refine o_call (v := .box 0 0) (σ' := [[.c (PV.ls _ _ _), .c (.int _ _), .c (.int _ _), .c (.bool _)]]) [] rfl (w_wire_Open hx5) rfl rfl ⟨(AV.le_refl _), trivial⟩ st_nil (ok_eq (by repeat (first | exact ok_nil | refine ok_cons rfl ?_ | refine ok_cons (dgv rfl) ?_))) rfl rfl ?_
    refine o_p rfl (p_move (v := .c (PV.ls _ _ _)) rfl) ?_
    obtain ⟨x7, hx7, h8⟩ := bind_s h6
    refine o_call (v := .box 1 0) (σ' := [[.c (PV.ls _ _ _), .c (.int _ _), .c (.int _ _), .c (.bool _)], [.c (.bool _), .c (PV.ls _ _ _), .c (.int _ _)]]) [] rfl (w_ref01xOpen hx7) rfl rfl ⟨(AV.le_refl _), trivial⟩ st_nil (ok_eq (by repeat (first | exact ok_nil | refine ok_cons rfl ?_ | refine ok_cons (dgv rfl) ?_))) rfl rfl ?_
    refine o_p rfl (p_assign (v := .box 0 0) rfl) ?_
    refine o_p rfl (p_assign (v := .box 1 0) rfl) ?_
    refine o_end (fr' := [(0, .c (PV.ls _ _ _)), (1, .c (PV.ls _ _ _)), (4, .c (.bool _)), (5, .box 0 0), (6, .box 1 0), (8, .any), (16, .c (.bool _)), (23, .any), (24, .any), (25, .any), (26, .any), (27, .any), (34, .any)]) rfl ?_
    refine e_kw ?_
    refine w_seqw ?_
    refine w_seqw ?_
    refine w_region ?_
    refine o_p rfl (p_move (v := .box 0 0) rfl) ?_
    refine o_p rfl (p_peql ti27 rfl rfl) ?_
    refine o_end (fr' := [(0, .c (PV.ls _ _ _)), (1, .c (PV.ls _ _ _)), (4, .c (.bool _)), (5, .box 0 0), (6, .box 1 0), (8, .any), (16, .c (.bool _)), (23, .c (.bool _)), (24, .any), (25, .any), (26, .any), (27, .any), (34, .any)]) rfl ?_
    refine e_kw ?_
    refine w_cond_f rfl ?_
    refine w_skip ?_
    refine e_kw ?_
    refine w_seqw ?_
    refine w_seqw ?_
    refine w_region ?_
    refine o_p rfl (p_move (v := .c (PV.ls _ _ _)) rfl) ?_
    refine o_p rfl (p_len ti52 (isl_c rfl)) ?_
    refine o_p rfl (p_move (v := .c (.int _ _)) rfl) ?_
    refine o_end (fr' := [(0, .c (PV.ls _ _ _)), (1, .c (PV.ls _ _ _)), (4, .c (.bool _)), (5, .box 0 0), (6, .box 1 0), (8, .any), (16, .c (.bool _)), (23, .c (.bool _)), (24, .c (PV.ls _ _ _)), (25, .c (.int _ _)), (26, .c (.int _ _)), (27, .any), (34, .any)]) rfl ?_
    refine e_kw ?_
    obtain ⟨x9, hx9, h10⟩ := bind_s h8
    refine w_jtail cl_kw (fun j11 => x9 = Fl.go j11) (fun (j11 : (WireReader × Ref01Reader)) => ([] : Fr)) (fun (j11 : (WireReader × Ref01Reader)) => ([[.c (PV.ls 1 brow j11.1.b_), .c (.int .i64 j11.1.at_), .c (.int .i64 j11.1.err_), .c (.bool j11.1.made_)], [.c (.bool j11.2.Made), .c (PV.ls 1 brow j11.2.Rest), .c (.int .i64 j11.2.Bad)]] : St)) ?_ ?_
    · skip
      refine w_block ?_
      refine w_loopo _ (fun (s12 : (Int × WireReader × Ref01Reader)) => ([(5, .box 0 0), (6, .box 1 0), (24, .c (PV.ls 3 rowLaw01Read p1l)), (25, .c (.int .i64 ((p1l).length : Int))), (26, .c (.int .i64 s12.1))] : Fr)) (fun (s12 : (Int × WireReader × Ref01Reader)) => ([[.c (PV.ls 1 brow s12.2.1.b_), .c (.int .i64 s12.2.1.at_), .c (.int .i64 s12.2.1.err_), .c (.bool s12.2.1.made_)], [.c (.bool s12.2.2.Made), .c (PV.ls 1 brow s12.2.2.Rest), .c (.int .i64 s12.2.2.Bad)]] : St)) hx9 (w_weak [] 2 rfl rfl rfl rfl ⟨(AV.le_refl _), (AV.le_refl _), (AV.le_refl _), (AV.le_refl _), (AV.le_refl _), trivial⟩ (st_r rfl (st_r rfl st_nil))) ?_
      intro s12 st12 hs12 ho12
      unfold law01xWireReads_l1 at hs12
      refine w_seqw ?_
      refine w_region ?_
      refine o_p rfl (p_lss rfl rfl) ?_
      refine o_end (fr' := [(0, .any), (1, .any), (4, .any), (5, .box 0 0), (6, .box 1 0), (8, .any), (16, .any), (23, .any), (24, .c (PV.ls _ _ _)), (25, .c (.int _ _)), (26, .c (.int _ _)), (27, .c (.bool _)), (34, .any)]) rfl ?_
      refine e_kw ?_
      refine w_seqw ?_
      refine w_cond _ rfl (fun hb13 => ?_) (fun hb13 => ?_)
      · skip
        have h13 := cond_t (b := (decide (s12.1 < ((p1l).length : Int)))) hb13 hs12
        refine w_skip ?_
        refine e_kw ?_
        refine w_seqw ?_
        refine w_block ?_
        refine w_seqw ?_
        refine w_region ?_
        obtain ⟨x14, hx14, h15⟩ := bind_s h13
        refine o_p rfl (p_ia (cs := [.int _ _, .int _ _, .int _ _]) ts52 (isl_c rfl) rfl hx14 rfl) ?_
        refine o_p rfl (p_loades (us := [.int _ _, .int _ _, .int _ _]) tv56 rfl rfl rfl) ?_
        refine o_alloc (n := 2) (cs := [.c (.int _ _), .c (.int _ _), .c (.int _ _)]) (σ' := [[.c (PV.ls _ _ _), .c (.int _ _), .c (.int _ _), .c (.bool _)], [.c (.bool _), .c (PV.ls _ _ _), .c (.int _ _)], [.c (.int _ _), .c (.int _ _), .c (.int _ _)]]) tz56 rfl rfl rfl ?_
        refine o_store (v := .agg [.c (.int _ _), .c (.int _ _), .c (.int _ _)]) (us := [.c (.int _ _), .c (.int _ _), .c (.int _ _)]) (cs := [.c (.int _ _), .c (.int _ _), .c (.int _ _)]) (σ' := [[.c (PV.ls _ _ _), .c (.int _ _), .c (.int _ _), .c (.bool _)], [.c (.bool _), .c (PV.ls _ _ _), .c (.int _ _)], [.c (.int _ _), .c (.int _ _), .c (.int _ _)]]) rfl tv56 rfl rfl rfl rfl rfl rfl rfl rfl ?_
        refine o_end (fr' := [(0, .any), (1, .any), (4, .any), (5, .box 0 0), (6, .box 1 0), (8, .box 2 0), (16, .any), (23, .any), (24, .c (PV.ls _ _ _)), (25, .c (.int _ _)), (26, .c (.int _ _)), (27, .c (.bool _)), (34, .any)]) rfl ?_
        refine e_kw ?_
        refine w_seqw ?_
        refine w_region ?_
        refine o_p rfl (p_move (v := .box 0 0) rfl) ?_
        refine o_p rfl (p_move (v := .box 1 0) rfl) ?_
        refine o_p rfl (p_loads (us := [.c (.int _ _), .c (.int _ _), .c (.int _ _)]) tv56 rfl rfl rfl rfl) ?_
        obtain ⟨x16, hx16, h17⟩ := bind_s h15
        refine o_call (v := .c (.bool _)) (σ' := [[.c (PV.ls _ _ _), .c (.int _ _), .c (.int _ _), .c (.bool _)], [.c (.bool _), .c (PV.ls _ _ _), .c (.int _ _)], [.c (.int _ _), .c (.int _ _), .c (.int _ _)]]) [0, 1] rfl (w_law01xplay hx16) rfl rfl ⟨(AV.le_refl _), (AV.le_refl _), (le_aggc rfl ⟨rfl, rfl, rfl, trivial⟩), trivial⟩ (st_c ⟨rfl, rfl, rfl, rfl, trivial⟩ (st_c ⟨rfl, rfl, rfl, trivial⟩ st_nil)) rfl rfl rfl ?_
        refine o_p rfl (p_not rfl) ?_
        refine o_end (fr' := [(0, .any), (1, .any), (4, .any), (5, .box 0 0), (6, .box 1 0), (8, .box 2 0), (16, .any), (23, .any), (24, .c (PV.ls _ _ _)), (25, .c (.int _ _)), (26, .c (.int _ _)), (27, .c (.bool _)), (34, .c (.bool _))]) rfl ?_
        refine e_kw ?_
        refine w_cond _ rfl (fun hb18 => ?_) (fun hb18 => ?_)
        · skip
          have h18 := cond_t (b := (!x16.1)) hb18 h17
          refine w_seqw ?_
          refine w_region ?_
          refine o_p rfl (p_assign (v := .c (.bool _)) rfl) ?_
          refine o_end (fr' := [(0, .any), (1, .any), (4, .c (.bool _)), (5, .box 0 0), (6, .box 1 0), (8, .box 2 0), (16, .any), (23, .any), (24, .c (PV.ls _ _ _)), (25, .c (.int _ _)), (26, .c (.int _ _)), (27, .c (.bool _)), (34, .c (.bool _))]) rfl ?_
          refine e_kw ?_
          refine w_ret ?_
          refine e_blk_r ?_
          refine e_seq_r ?_
          refine e_seq_r ?_
          refine e_blk_r ?_
          refine e_seq_r ?_
          refine e_seq_r ?_
          have h19 := un_out h18 ho12
          have h20 := un_done h19 h10
          have he21 := Option.some.inj h20
          subst he21
          refine e_ret (rs' := [.tmp 4]) rfl ?_
          refine r_tmp (v := .c (.bool _)) rfl ?_
          refine r_nil ?_
          exact fin_gen [] rfl rfl rfl (AV.le_refl _) st_nil
        · skip
          have h18 := cond_f (b := (!x16.1)) hb18 h17
          refine w_skip ?_
          refine e_blk_n ?_
          refine e_kw ?_
          refine w_region ?_
          refine o_p rfl (p_add rfl rfl) ?_
          refine o_p rfl (p_move (v := .c (.int _ _)) rfl) ?_
          refine o_end (fr' := [(0, .any), (1, .any), (4, .any), (5, .box 0 0), (6, .box 1 0), (8, .box 2 0), (16, .any), (23, .any), (24, .c (PV.ls _ _ _)), (25, .c (.int _ _)), (26, .c (.int _ _)), (27, .c (.bool _)), (34, .c (.bool _))]) rfl ?_
          exact e_l _ (Option.some.inj h18).symm (w_weak [] 2 rfl rfl rfl rfl ⟨(AV.le_refl _), (AV.le_refl _), (AV.le_refl _), (AV.le_refl _), (AV.le_refl _), trivial⟩ (st_r rfl (st_r rfl st_nil)))
      · skip
        have h13 := cond_f (b := (decide (s12.1 < ((p1l).length : Int)))) hb13 hs12
        refine w_exit ?_
        refine e_seq_x ?_
        refine e_seq_x ?_
        refine e_blk_h ?_
        have h22 := un_out h13 ho12
        exact e_j _ (Option.some.inj h22).symm (w_weak [] 2 rfl rfl rfl rfl trivial (st_r rfl (st_r rfl st_nil)))
    · skip
      intro j11 hj23
      have h23 := un_go hj23 h10
      refine e_kw ?_
      refine w_seqw ?_
      refine w_region ?_
      obtain ⟨x24, hx24, h25⟩ := bind_s h23
      refine o_v (ov_call (v := .c (.bool _)) rfl (w_law01xworks hx24) trivial rfl rfl rfl) ?_
      refine o_p rfl (p_assign (v := .c (.bool _)) rfl) ?_
      refine o_end (fr' := [(0, .any), (1, .any), (4, .c (.bool _)), (5, .any), (6, .any), (8, .any), (16, .any), (23, .any), (24, .any), (25, .any), (26, .any), (27, .any), (34, .any)]) rfl ?_
      refine e_kw ?_
      refine w_ret ?_
      have he26 := Option.some.inj h25
      subst he26
      refine e_ret (rs' := [.tmp 4]) rfl ?_
      refine r_tmp (v := .c (.bool _)) rfl ?_
      refine r_nil ?_
      exact fin_gen [] rfl rfl rfl (AV.le_refl _) st_nil
noncomputable def law01xWireRound (p0n : Int) (p1s : (List UInt8)) (p2yes : Bool) (p3rest : (List UInt8)) : Option Bool :=
  cond (cond (decide ((300 : Int) < ((p1s).length : Int))) true (decide ((50 : Int) < ((p3rest).length : Int)))) ((law01xworks).bind fun (x2 : Bool) => some x2) ((wire_PutInt ([] : List UInt8) p0n).bind fun (x5 : (List UInt8)) => (wire_PutText x5 p1s).bind fun (x7 : (List UInt8)) => (wire_PutBool x7 p2yes).bind fun (x9 : (List UInt8)) => (app 1 x9 p3rest).bind fun (x11 : (List UInt8)) => (wire_Open x11).bind fun (x13 : WireReader) => (((wire_Reader_Int p0n p0n x13).bind fun (x18 : (Int × WireReader)) => cond (!decide (x18.1 = p0n)) (some (Fl.done false)) ((wire_Reader_Text ((p1s).length : Int) x18.2).bind fun (x23 : ((List UInt8) × WireReader)) => cond (!decide (x23.1 = p1s)) (some (Fl.done false)) ((wire_Reader_Bool x23.2).bind fun (x28 : (Bool × WireReader)) => cond (!(x28.1 == p2yes)) (some (Fl.done false)) (some (Fl.go x28.2))))) : Option (Fl Bool WireReader)).bind fun (x15 : (Fl Bool WireReader)) => Fl.next x15 (fun (j17 : WireReader) => ((wire_Reader_Err j17).bind fun (x34 : Int) => cond (decide (x34 = (0 : Int))) ((wire_Reader_Left j17).bind fun (x37 : Int) => cond (decide (x37 = ((p3rest).length : Int))) ((law01xworks).bind fun (x40 : Bool) => some x40) (some false)) (some false))))
theorem w_law01xWireRound {p0n : Int} {p1s : (List UInt8)} {p2yes : Bool} {p3rest : (List UInt8)} {res : Bool} (h : law01xWireRound p0n p1s p2yes p3rest = some res) : ACalls Try.prog 10 [.c (.int .i64 p0n), .c (.str p1s), .c (.bool p2yes), .c (PV.ls 1 brow p3rest)] [] (.c (.bool res)) [] := by
  unfold law01xWireRound at h
  refine acalls (fn := Try.f10) [0, 1, 2, 3, 8, 9, 10, 18, 54] (by kernel_rfl) Try.func10 rfl (by kernel_rfl) (by kernel_rfl) ?_
  refine w_seqw ?_
  refine w_region ?_
  refine o_p rfl (p_assign (v := .c (.bool _)) rfl) ?_
  refine o_end (fr' := [(0, .c (.int _ _)), (1, .c (.str _)), (2, .c (.bool _)), (3, .c (PV.ls _ _ _)), (8, .c (.bool _)), (9, .any), (10, .any), (18, .any), (54, .any)]) rfl ?_
  refine e_kw ?_
  refine w_seqw ?_
  refine w_seqw ?_
  refine w_region ?_
  refine o_p rfl (p_move (v := .c (.str _)) rfl) ?_
  refine o_p rfl (p_lens ti9 rfl) ?_
  refine o_p rfl (p_gtr rfl rfl) ?_
  refine o_p rfl (p_move (v := .c (.bool _)) rfl) ?_
  refine o_g rfl rfl (fun hc => ov_p rfl (p_move (v := .c (PV.ls _ _ _)) rfl)) ?_
  refine o_g rfl rfl (fun hc => ov_p rfl (p_len ti22 (isl_c (gx rfl hc)))) ?_
  refine o_g rfl rfl (fun hc => ov_p rfl (p_gtr (gx rfl hc) rfl)) ?_
  refine o_p rfl (p_pickz rfl rfl rfl (fun e => keq e)) ?_
  refine o_end (fr' := [(0, .c (.int _ _)), (1, .c (.str _)), (2, .c (.bool _)), (3, .c (PV.ls _ _ _)), (8, .c (.bool _)), (9, .any), (10, .any), (18, .c (.bool _)), (54, .any)]) rfl ?_
  refine e_kw ?_
  refine w_cond _ rfl (fun hb1 => ?_) (fun hb1 => ?_)
  · skip
    have h1 := cond_t (b := (cond (decide ((300 : Int) < ((p1s).length : Int))) true (decide ((50 : Int) < ((p3rest).length : Int))))) hb1 h
    refine w_seqw ?_
    refine w_region ?_
    obtain ⟨x2, hx2, h3⟩ := bind_s h1
    refine o_v (ov_call (v := .c (.bool _)) rfl (w_law01xworks hx2) trivial (ok_eq (by repeat (first | exact ok_nil | refine ok_cons rfl ?_ | refine ok_cons (dgv rfl) ?_))) rfl rfl) ?_
    refine o_p rfl (p_assign (v := .c (.bool _)) rfl) ?_
    refine o_end (fr' := [(0, .c (.int _ _)), (1, .c (.str _)), (2, .c (.bool _)), (3, .c (PV.ls _ _ _)), (8, .c (.bool _)), (9, .any), (10, .any), (18, .c (.bool _)), (54, .any)]) rfl ?_
    refine e_kw ?_
    refine w_ret ?_
    refine e_seq_r ?_
    have he4 := Option.some.inj h3
    subst he4
    refine e_ret (rs' := [.tmp 8]) rfl ?_
    refine r_tmp (v := .c (.bool _)) rfl ?_
    refine r_nil ?_
    exact fin_gen [] rfl rfl rfl (AV.le_refl _) st_nil
  · skip
    have h1 := cond_f (b := (cond (decide ((300 : Int) < ((p1s).length : Int))) true (decide ((50 : Int) < ((p3rest).length : Int))))) hb1 h
    refine w_skip ?_
    refine e_kw ?_
    refine w_seqw ?_
    refine w_region ?_
    refine o_p rfl (p_move (v := .c (.int _ _)) rfl) ?_
    obtain ⟨x5, hx5, h6⟩ := bind_s h1
    refine o_v (ov_call (v := AV.os _ _ _ _) rfl (w_wire_PutInt hx5) ⟨le_nls, (AV.le_refl _), trivial⟩ (ok_eq (by repeat (first | exact ok_nil | refine ok_cons rfl ?_ | refine ok_cons (dgv rfl) ?_))) rfl rfl) ?_
    refine o_p rfl (p_move (v := .c (.str _)) rfl) ?_
    obtain ⟨x7, hx7, h8⟩ := bind_s h6
    refine o_v (ov_call (v := AV.os _ _ _ _) rfl (w_wire_PutText hx7) ⟨(AV.le_refl _), (AV.le_refl _), trivial⟩ (ok_eq (by repeat (first | exact ok_nil | refine ok_cons rfl ?_ | refine ok_cons (dgv rfl) ?_))) rfl rfl) ?_
    refine o_p rfl (p_move (v := .c (.bool _)) rfl) ?_
    obtain ⟨x9, hx9, h10⟩ := bind_s h8
    refine o_v (ov_call (v := AV.os _ _ _ _) rfl (w_wire_PutBool hx9) ⟨(AV.le_refl _), (AV.le_refl _), trivial⟩ (ok_eq (by repeat (first | exact ok_nil | refine ok_cons rfl ?_ | refine ok_cons (dgv rfl) ?_))) rfl rfl) ?_
    refine o_p rfl (p_assign (v := AV.os _ _ _ _) rfl) ?_
    refine o_end (fr' := [(0, .c (.int _ _)), (1, .c (.str _)), (2, .c (.bool _)), (3, .c (PV.ls _ _ _)), (8, .c (.bool _)), (9, AV.os _ _ _ _), (10, .any), (18, .c (.bool _)), (54, .any)]) rfl ?_
    refine e_kw ?_
    refine w_seqw ?_
    refine w_region ?_
    refine o_p rfl (p_move (v := AV.os _ _ _ _) rfl) ?_
    refine o_p rfl (p_move (v := .c (PV.ls _ _ _)) rfl) ?_
    obtain ⟨x11, hx11, h12⟩ := bind_s h10
    refine o_app (row := brow) ts22 rfl ti22 rfl (isl_c rfl) (fun _ => rfl) hx11 ?_
    refine o_p rfl (p_assign (v := AV.os _ _ _ _) rfl) ?_
    refine o_end (fr' := [(0, .c (.int _ _)), (1, .c (.str _)), (2, .c (.bool _)), (3, .c (PV.ls _ _ _)), (8, .c (.bool _)), (9, AV.os _ _ _ _), (10, .any), (18, .c (.bool _)), (54, .any)]) rfl ?_
    refine e_kw ?_
    refine w_seqw ?_
    refine w_region ?_
    refine o_p rfl (p_move (v := AV.os _ _ _ _) rfl) ?_
    obtain ⟨x13, hx13, h14⟩ := bind_s h12
    refine o_call (v := .box 0 0) (σ' := [[.c (PV.ls _ _ _), .c (.int _ _), .c (.int _ _), .c (.bool _)]]) [] rfl (w_wire_Open hx13) rfl rfl ⟨(AV.le_refl _), trivial⟩ st_nil (ok_eq (by repeat (first | exact ok_nil | refine ok_cons rfl ?_ | refine ok_cons (dgv rfl) ?_))) rfl rfl ?_
    refine o_p rfl (p_assign (v := .box 0 0) rfl) ?_
    refine o_end (fr' := [(0, .c (.int _ _)), (1, .c (.str _)), (2, .c (.bool _)), (3, .c (PV.ls _ _ _)), (8, .c (.bool _)), (9, AV.os _ _ _ _), (10, .box 0 0), (18, .c (.bool _)), (54, .any)]) rfl ?_
    refine e_kw ?_
    obtain ⟨x15, hx15, h16⟩ := bind_s h14
    refine w_join (fun j17 => x15 = Fl.go j17) (fun (j17 : WireReader) => ([(3, .c (PV.ls 1 brow p3rest)), (10, .box 0 0)] : Fr)) (fun (j17 : WireReader) => ([[.c (PV.ls 1 brow j17.b_), .c (.int .i64 j17.at_), .c (.int .i64 j17.err_), .c (.bool j17.made_)]] : St)) ?_ ?_
    · skip
      refine w_seqw ?_
      refine w_region ?_
      refine o_p rfl (p_move (v := .box 0 0) rfl) ?_
      refine o_p rfl (p_peql ti27 rfl rfl) ?_
      refine o_p rfl (p_move (v := .c (.bool _)) rfl) ?_
      refine o_yes rfl rfl rfl ?_
      refine o_p rfl (p_move (v := .box 0 0) rfl) ?_
      refine o_yes rfl rfl rfl ?_
      refine o_p rfl (p_move (v := .c (.int _ _)) rfl) ?_
      refine o_yes rfl rfl rfl ?_
      refine o_p rfl (p_move (v := .c (.int _ _)) rfl) ?_
      refine o_yes rfl rfl rfl ?_
      obtain ⟨x18, hx18, h19⟩ := bind_s hx15
      refine o_call (v := .c (.int _ _)) (σ' := [[.c (PV.ls _ _ _), .c (.int _ _), .c (.int _ _), .c (.bool _)]]) [0] rfl (w_wire_Reader_Int hx18) rfl rfl ⟨(AV.le_refl _), (AV.le_refl _), (AV.le_refl _), trivial⟩ (st_c ⟨rfl, rfl, rfl, rfl, trivial⟩ st_nil) (ok_eq (by repeat (first | exact ok_nil | refine ok_cons rfl ?_ | refine ok_cons (dgv rfl) ?_))) rfl rfl ?_
      refine o_yes rfl rfl rfl ?_
      refine o_p rfl (p_move (v := .c (.int _ _)) rfl) ?_
      refine o_yes rfl rfl rfl ?_
      refine o_p rfl (p_neq rfl rfl) ?_
      refine o_p rfl (p_pick_f rfl rfl rfl) ?_
      refine o_p rfl (p_move (v := .c (.bool _)) rfl) ?_
      rcases Bool.eq_false_or_eq_true (!decide (x18.1 = p0n)) with hb20 | hb20
      · skip
        have h20 := cond_t hb20 h19
        refine o_no rfl rfl hb20 ?_
        refine o_no rfl rfl hb20 ?_
        refine o_no rfl rfl hb20 ?_
        refine o_no rfl rfl hb20 ?_
        refine o_no rfl rfl hb20 ?_
        refine o_no rfl rfl hb20 ?_
        refine o_p rfl (p_pick_t rfl hb20 rfl) ?_
        refine o_p rfl (p_move (v := .c (.bool _)) rfl) ?_
        refine o_no rfl rfl rfl ?_
        refine o_no rfl rfl rfl ?_
        refine o_no rfl rfl rfl ?_
        refine o_no rfl rfl rfl ?_
        refine o_p rfl (p_pick_t rfl rfl rfl) ?_
        refine o_end (fr' := [(0, .c (.int _ _)), (1, .c (.str _)), (2, .c (.bool _)), (3, .c (PV.ls _ _ _)), (8, .c (.bool _)), (9, AV.os _ _ _ _), (10, .box 0 0), (18, .c (.bool _)), (54, .c (.bool _))]) rfl ?_
        refine e_kw ?_
        refine w_cond_t rfl ?_
        refine w_seqw ?_
        refine w_region ?_
        refine o_p rfl (p_assign (v := .c (.bool _)) rfl) ?_
        refine o_end (fr' := [(0, .c (.int _ _)), (1, .c (.str _)), (2, .c (.bool _)), (3, .c (PV.ls _ _ _)), (8, .c (.bool _)), (9, AV.os _ _ _ _), (10, .box 0 0), (18, .c (.bool _)), (54, .c (.bool _))]) rfl ?_
        refine e_kw ?_
        refine w_ret ?_
        refine e_seq_r ?_
        have h21 := un_done h20 h16
        have he22 := Option.some.inj h21
        subst he22
        refine e_ret (rs' := [.tmp 8]) rfl ?_
        refine r_tmp (v := .c (.bool _)) rfl ?_
        refine r_nil ?_
        exact fin_gen [] rfl rfl rfl (AV.le_refl _) st_nil
      · skip
        have h20 := cond_f hb20 h19
        refine o_yes rfl rfl hb20 ?_
        refine o_p rfl (p_move (v := .box 0 0) rfl) ?_
        refine o_yes rfl rfl hb20 ?_
        refine o_p rfl (p_move (v := .c (.str _)) rfl) ?_
        refine o_yes rfl rfl hb20 ?_
        refine o_p rfl (p_lens ti9 rfl) ?_
        refine o_yes rfl rfl hb20 ?_
        obtain ⟨x23, hx23, h24⟩ := bind_s h20
        refine o_call (v := .c (.str _)) (σ' := [[.c (PV.ls _ _ _), .c (.int _ _), .c (.int _ _), .c (.bool _)]]) [0] rfl (w_wire_Reader_Text hx23) rfl rfl ⟨(AV.le_refl _), (AV.le_refl _), trivial⟩ (st_c ⟨rfl, rfl, rfl, rfl, trivial⟩ st_nil) (ok_eq (by repeat (first | exact ok_nil | refine ok_cons rfl ?_ | refine ok_cons (dgv rfl) ?_))) rfl rfl ?_
        refine o_yes rfl rfl hb20 ?_
        refine o_p rfl (p_move (v := .c (.str _)) rfl) ?_
        refine o_yes rfl rfl hb20 ?_
        refine o_p rfl (p_sneq rfl rfl) ?_
        refine o_p rfl (p_pick_f rfl hb20 rfl) ?_
        refine o_p rfl (p_move (v := .c (.bool _)) rfl) ?_
        rcases Bool.eq_false_or_eq_true (!decide (x23.1 = p1s)) with hb25 | hb25
        · skip
          have h25 := cond_t hb25 h24
          refine o_no rfl rfl hb25 ?_
          refine o_no rfl rfl hb25 ?_
          refine o_no rfl rfl hb25 ?_
          refine o_no rfl rfl hb25 ?_
          refine o_p rfl (p_pick_t rfl hb25 rfl) ?_
          refine o_end (fr' := [(0, .c (.int _ _)), (1, .c (.str _)), (2, .c (.bool _)), (3, .c (PV.ls _ _ _)), (8, .c (.bool _)), (9, AV.os _ _ _ _), (10, .box 0 0), (18, .c (.bool _)), (54, .c (.bool _))]) rfl ?_
          refine e_kw ?_
          refine w_cond_t rfl ?_
          refine w_seqw ?_
          refine w_region ?_
          refine o_p rfl (p_assign (v := .c (.bool _)) rfl) ?_
          refine o_end (fr' := [(0, .c (.int _ _)), (1, .c (.str _)), (2, .c (.bool _)), (3, .c (PV.ls _ _ _)), (8, .c (.bool _)), (9, AV.os _ _ _ _), (10, .box 0 0), (18, .c (.bool _)), (54, .c (.bool _))]) rfl ?_
          refine e_kw ?_
          refine w_ret ?_
          refine e_seq_r ?_
          have h26 := un_done h25 h16
          have he27 := Option.some.inj h26
          subst he27
          refine e_ret (rs' := [.tmp 8]) rfl ?_
          refine r_tmp (v := .c (.bool _)) rfl ?_
          refine r_nil ?_
          exact fin_gen [] rfl rfl rfl (AV.le_refl _) st_nil
        · skip
          have h25 := cond_f hb25 h24
          refine o_yes rfl rfl hb25 ?_
          refine o_p rfl (p_move (v := .box 0 0) rfl) ?_
          refine o_yes rfl rfl hb25 ?_
          obtain ⟨x28, hx28, h29⟩ := bind_s h25
          refine o_call (v := .c (.bool _)) (σ' := [[.c (PV.ls _ _ _), .c (.int _ _), .c (.int _ _), .c (.bool _)]]) [0] rfl (w_wire_Reader_Bool hx28) rfl rfl ⟨(AV.le_refl _), trivial⟩ (st_c ⟨rfl, rfl, rfl, rfl, trivial⟩ st_nil) (ok_eq (by repeat (first | exact ok_nil | refine ok_cons rfl ?_ | refine ok_cons (dgv rfl) ?_))) rfl rfl ?_
          refine o_yes rfl rfl hb25 ?_
          refine o_p rfl (p_move (v := .c (.bool _)) rfl) ?_
          refine o_yes rfl rfl hb25 ?_
          refine o_p rfl (p_bneq ti4 rfl rfl) ?_
          refine o_p rfl (p_pick_f rfl hb25 rfl) ?_
          refine o_end (fr' := [(0, .c (.int _ _)), (1, .c (.str _)), (2, .c (.bool _)), (3, .c (PV.ls _ _ _)), (8, .c (.bool _)), (9, AV.os _ _ _ _), (10, .box 0 0), (18, .c (.bool _)), (54, .c (.bool _))]) rfl ?_
          refine e_kw ?_
          refine w_cond _ rfl (fun hb30 => ?_) (fun hb30 => ?_)
          · skip
            have h30 := cond_t (b := (!(x28.1 == p2yes))) hb30 h29
            refine w_seqw ?_
            refine w_region ?_
            refine o_p rfl (p_assign (v := .c (.bool _)) rfl) ?_
            refine o_end (fr' := [(0, .c (.int _ _)), (1, .c (.str _)), (2, .c (.bool _)), (3, .c (PV.ls _ _ _)), (8, .c (.bool _)), (9, AV.os _ _ _ _), (10, .box 0 0), (18, .c (.bool _)), (54, .c (.bool _))]) rfl ?_
            refine e_kw ?_
            refine w_ret ?_
            refine e_seq_r ?_
            have h31 := un_done h30 h16
            have he32 := Option.some.inj h31
            subst he32
            refine e_ret (rs' := [.tmp 8]) rfl ?_
            refine r_tmp (v := .c (.bool _)) rfl ?_
            refine r_nil ?_
            exact fin_gen [] rfl rfl rfl (AV.le_refl _) st_nil
          · skip
            have h30 := cond_f (b := (!(x28.1 == p2yes))) hb30 h29
            refine w_skip ?_
            exact e_j _ (Option.some.inj h30).symm (w_weak [] 1 rfl rfl rfl rfl ⟨(AV.le_refl _), (AV.le_refl _), trivial⟩ (st_r rfl st_nil))
    · skip
      intro j17 hj33
      have h33 := un_go hj33 h16
      refine w_seqw ?_
      refine w_region ?_
      refine o_p rfl (p_move (v := .box 0 0) rfl) ?_
      obtain ⟨x34, hx34, h35⟩ := bind_s h33
      refine o_call (v := .c (.int _ _)) (σ' := [[.c (PV.ls _ _ _), .c (.int _ _), .c (.int _ _), .c (.bool _)]]) [0] rfl (w_wire_Reader_Err hx34) rfl rfl ⟨(AV.le_refl _), trivial⟩ (st_c ⟨rfl, rfl, rfl, rfl, trivial⟩ st_nil) rfl rfl rfl ?_
      refine o_p rfl (p_eql rfl rfl) ?_
      refine o_p rfl (p_move (v := .c (.bool _)) rfl) ?_
      rcases Bool.eq_false_or_eq_true (decide (x34 = (0 : Int))) with hb36 | hb36
      · skip
        have h36 := cond_t hb36 h35
        refine o_yes rfl rfl hb36 ?_
        refine o_p rfl (p_move (v := .box 0 0) rfl) ?_
        refine o_yes rfl rfl hb36 ?_
        obtain ⟨x37, hx37, h38⟩ := bind_s h36
        refine o_call (v := .c (.int _ _)) (σ' := [[.c (PV.ls _ _ _), .c (.int _ _), .c (.int _ _), .c (.bool _)]]) [0] rfl (w_wire_Reader_Left hx37) rfl rfl ⟨(AV.le_refl _), trivial⟩ (st_c ⟨rfl, rfl, rfl, rfl, trivial⟩ st_nil) rfl rfl rfl ?_
        refine o_yes rfl rfl hb36 ?_
        refine o_p rfl (p_move (v := .c (PV.ls _ _ _)) rfl) ?_
        refine o_yes rfl rfl hb36 ?_
        refine o_p rfl (p_len ti22 (isl_c rfl)) ?_
        refine o_yes rfl rfl hb36 ?_
        refine o_p rfl (p_eql rfl rfl) ?_
        refine o_p rfl (p_pick_t rfl hb36 rfl) ?_
        refine o_p rfl (p_move (v := .c (.bool _)) rfl) ?_
        rcases Bool.eq_false_or_eq_true (decide (x37 = ((p3rest).length : Int))) with hb39 | hb39
        · skip
          have h39 := cond_t hb39 h38
          refine o_yes rfl rfl hb39 ?_
          obtain ⟨x40, hx40, h41⟩ := bind_s h39
          refine o_v (ov_call (v := .c (.bool _)) rfl (w_law01xworks hx40) trivial rfl rfl rfl) ?_
          refine o_p rfl (p_pick_t rfl hb39 rfl) ?_
          refine o_p rfl (p_assign (v := .c (.bool _)) rfl) ?_
          refine o_end (fr' := [(0, .any), (1, .any), (2, .any), (3, .c (PV.ls _ _ _)), (8, .c (.bool _)), (9, .any), (10, .box 0 0), (18, .any), (54, .any)]) rfl ?_
          refine e_kw ?_
          refine w_ret ?_
          have he42 := Option.some.inj h41
          subst he42
          refine e_ret (rs' := [.tmp 8]) rfl ?_
          refine r_tmp (v := .c (.bool _)) rfl ?_
          refine r_nil ?_
          exact fin_gen [] rfl rfl rfl (AV.le_refl _) st_nil
        · skip
          have h39 := cond_f hb39 h38
          refine o_no rfl rfl hb39 ?_
          refine o_p rfl (p_pick_f rfl hb39 rfl) ?_
          refine o_p rfl (p_assign (v := .c (.bool _)) rfl) ?_
          refine o_end (fr' := [(0, .any), (1, .any), (2, .any), (3, .c (PV.ls _ _ _)), (8, .c (.bool _)), (9, .any), (10, .box 0 0), (18, .any), (54, .any)]) rfl ?_
          refine e_kw ?_
          refine w_ret ?_
          have he43 := Option.some.inj h39
          subst he43
          refine e_ret (rs' := [.tmp 8]) rfl ?_
          refine r_tmp (v := .c (.bool _)) rfl ?_
          refine r_nil ?_
          exact fin_gen [] rfl rfl rfl (AV.le_refl _) st_nil
      · skip
        have h36 := cond_f hb36 h35
        refine o_no rfl rfl hb36 ?_
        refine o_no rfl rfl hb36 ?_
        refine o_no rfl rfl hb36 ?_
        refine o_no rfl rfl hb36 ?_
        refine o_no rfl rfl hb36 ?_
        refine o_p rfl (p_pick_f rfl hb36 rfl) ?_
        refine o_p rfl (p_move (v := .c (.bool _)) rfl) ?_
        refine o_no rfl rfl rfl ?_
        refine o_p rfl (p_pick_f rfl rfl rfl) ?_
        refine o_p rfl (p_assign (v := .c (.bool _)) rfl) ?_
        refine o_end (fr' := [(0, .any), (1, .any), (2, .any), (3, .c (PV.ls _ _ _)), (8, .c (.bool _)), (9, .any), (10, .box 0 0), (18, .any), (54, .any)]) rfl ?_
        refine e_kw ?_
        refine w_ret ?_
        have he44 := Option.some.inj h36
        subst he44
        refine e_ret (rs' := [.tmp 8]) rfl ?_
        refine r_tmp (v := .c (.bool _)) rfl ?_
        refine r_nil ?_
        exact fin_gen [] rfl rfl rfl (AV.le_refl _) st_nil
noncomputable def law01xWireCanonical (p0b : (List UInt8)) : Option Bool :=
  cond (decide ((300 : Int) < ((p0b).length : Int))) ((law01xworks).bind fun (x2 : Bool) => some x2) ((wire_Open p0b).bind fun (x5 : WireReader) => (wire_Open p0b).bind fun (x7 : WireReader) => (wire_Open p0b).bind fun (x9 : WireReader) => (wire_Reader_Int (-9223372036854775808 : Int) (9223372036854775807 : Int) x5).bind fun (x11 : (Int × WireReader)) => (wire_Reader_Text (9223372036854775807 : Int) x7).bind fun (x13 : ((List UInt8) × WireReader)) => (wire_Reader_Bool x9).bind fun (x15 : (Bool × WireReader)) => (((wire_Reader_Err x11.2).bind fun (x20 : Int) => cond (decide (x20 = (0 : Int))) ((wire_PutInt ([] : List UInt8) x11.1).bind fun (x23 : (List UInt8)) => (wire_Reader_Left x11.2).bind fun (x25 : Int) => (slcH p0b (IntKind.wrap .i64 (((p0b).length : Int) - x25))).bind fun (x27 : (List UInt8)) => (law01xequal x23 (List.take (Int.toNat (IntKind.wrap .i64 (((p0b).length : Int) - x25))) p0b)).bind fun (x29 : Bool) => cond (!x29) (some (Fl.done false)) ((wire_Reader_Err x13.2).bind fun (x34 : Int) => cond (decide (x34 = (0 : Int))) ((wire_PutText ([] : List UInt8) x13.1).bind fun (x37 : (List UInt8)) => (wire_Reader_Left x13.2).bind fun (x39 : Int) => (slcH p0b (IntKind.wrap .i64 (((p0b).length : Int) - x39))).bind fun (x41 : (List UInt8)) => (law01xequal x37 (List.take (Int.toNat (IntKind.wrap .i64 (((p0b).length : Int) - x39))) p0b)).bind fun (x43 : Bool) => cond (!x43) (some (Fl.done false)) (some (Fl.go ()))) (some (Fl.go ())))) ((wire_Reader_Err x13.2).bind fun (x48 : Int) => cond (decide (x48 = (0 : Int))) ((wire_PutText ([] : List UInt8) x13.1).bind fun (x51 : (List UInt8)) => (wire_Reader_Left x13.2).bind fun (x53 : Int) => (slcH p0b (IntKind.wrap .i64 (((p0b).length : Int) - x53))).bind fun (x55 : (List UInt8)) => (law01xequal x51 (List.take (Int.toNat (IntKind.wrap .i64 (((p0b).length : Int) - x53))) p0b)).bind fun (x57 : Bool) => cond (!x57) (some (Fl.done false)) (some (Fl.go ()))) (some (Fl.go ())))) : Option (Fl Bool Unit)).bind fun (x17 : (Fl Bool Unit)) => Fl.next x17 (fun (j19 : Unit) => ((wire_Reader_Err x15.2).bind fun (x63 : Int) => cond (!decide (x63 = (0 : Int))) ((law01xworks).bind fun (x66 : Bool) => some x66) ((wire_PutBool ([] : List UInt8) x15.1).bind fun (x69 : (List UInt8)) => (wire_Reader_Left x15.2).bind fun (x71 : Int) => (slcH p0b (IntKind.wrap .i64 (((p0b).length : Int) - x71))).bind fun (x73 : (List UInt8)) => (law01xequal x69 (List.take (Int.toNat (IntKind.wrap .i64 (((p0b).length : Int) - x71))) p0b)).bind fun (x75 : Bool) => cond x75 ((law01xworks).bind fun (x78 : Bool) => some x78) (some false)))))
theorem w_law01xWireCanonical {p0b : (List UInt8)} {res : Bool} (h : law01xWireCanonical p0b = some res) : ACalls Try.prog 11 [.c (PV.ls 1 brow p0b)] [] (.c (.bool res)) [] := by
  unfold law01xWireCanonical at h
  refine acalls (fn := Try.f11) [0, 2, 3, 4, 5, 6, 7, 8, 11, 28, 68] (by kernel_rfl) Try.func11 rfl (by kernel_rfl) (by kernel_rfl) ?_
  refine w_seqw ?_
  refine w_region ?_
  refine o_p rfl (p_assign (v := .c (.bool _)) rfl) ?_
  refine o_end (fr' := [(0, .c (PV.ls _ _ _)), (2, .c (.bool _)), (3, .any), (4, .any), (5, .any), (6, .any), (7, .any), (8, .any), (11, .any), (28, .any), (68, .any)]) rfl ?_
  refine e_kw ?_
  refine w_seqw ?_
  refine w_seqw ?_
  refine w_region ?_
  refine o_p rfl (p_move (v := .c (PV.ls _ _ _)) rfl) ?_
  refine o_p rfl (p_len ti22 (isl_c rfl)) ?_
  refine o_p rfl (p_gtr rfl rfl) ?_
  refine o_end (fr' := [(0, .c (PV.ls _ _ _)), (2, .c (.bool _)), (3, .any), (4, .any), (5, .any), (6, .any), (7, .any), (8, .any), (11, .c (.bool _)), (28, .any), (68, .any)]) rfl ?_
  refine e_kw ?_
  refine w_cond _ rfl (fun hb1 => ?_) (fun hb1 => ?_)
  · skip
    have h1 := cond_t (b := (decide ((300 : Int) < ((p0b).length : Int)))) hb1 h
    refine w_seqw ?_
    refine w_region ?_
    obtain ⟨x2, hx2, h3⟩ := bind_s h1
    refine o_v (ov_call (v := .c (.bool _)) rfl (w_law01xworks hx2) trivial rfl rfl rfl) ?_
    refine o_p rfl (p_assign (v := .c (.bool _)) rfl) ?_
    refine o_end (fr' := [(0, .c (PV.ls _ _ _)), (2, .c (.bool _)), (3, .any), (4, .any), (5, .any), (6, .any), (7, .any), (8, .any), (11, .c (.bool _)), (28, .any), (68, .any)]) rfl ?_
    refine e_kw ?_
    refine w_ret ?_
    refine e_seq_r ?_
    have he4 := Option.some.inj h3
    subst he4
    refine e_ret (rs' := [.tmp 2]) rfl ?_
    refine r_tmp (v := .c (.bool _)) rfl ?_
    refine r_nil ?_
    exact fin_gen [] rfl rfl rfl (AV.le_refl _) st_nil
  · skip
    have h1 := cond_f (b := (decide ((300 : Int) < ((p0b).length : Int)))) hb1 h
    refine w_skip ?_
    refine e_kw ?_
    refine w_seqw ?_
    refine w_region ?_
    refine o_p rfl (p_move (v := .c (PV.ls _ _ _)) rfl) ?_
    obtain ⟨x5, hx5, h6⟩ := bind_s h1
    refine o_call (v := .box 0 0) (σ' := [[.c (PV.ls _ _ _), .c (.int _ _), .c (.int _ _), .c (.bool _)]]) [] rfl (w_wire_Open hx5) rfl rfl ⟨(AV.le_refl _), trivial⟩ st_nil rfl rfl rfl ?_
    refine o_p rfl (p_move (v := .c (PV.ls _ _ _)) rfl) ?_
    obtain ⟨x7, hx7, h8⟩ := bind_s h6
    refine o_call (v := .box 1 0) (σ' := [[.c (PV.ls _ _ _), .c (.int _ _), .c (.int _ _), .c (.bool _)], [.c (PV.ls _ _ _), .c (.int _ _), .c (.int _ _), .c (.bool _)]]) [] rfl (w_wire_Open hx7) rfl rfl ⟨(AV.le_refl _), trivial⟩ st_nil rfl rfl rfl ?_
    refine o_p rfl (p_move (v := .c (PV.ls _ _ _)) rfl) ?_
    obtain ⟨x9, hx9, h10⟩ := bind_s h8
    refine o_call (v := .box 2 0) (σ' := [[.c (PV.ls _ _ _), .c (.int _ _), .c (.int _ _), .c (.bool _)], [.c (PV.ls _ _ _), .c (.int _ _), .c (.int _ _), .c (.bool _)], [.c (PV.ls _ _ _), .c (.int _ _), .c (.int _ _), .c (.bool _)]]) [] rfl (w_wire_Open hx9) rfl rfl ⟨(AV.le_refl _), trivial⟩ st_nil rfl rfl rfl ?_
    refine o_p rfl (p_assign (v := .box 0 0) rfl) ?_
    refine o_p rfl (p_assign (v := .box 1 0) rfl) ?_
    refine o_p rfl (p_assign (v := .box 2 0) rfl) ?_
    refine o_end (fr' := [(0, .c (PV.ls _ _ _)), (2, .c (.bool _)), (3, .box 0 0), (4, .box 1 0), (5, .box 2 0), (6, .any), (7, .any), (8, .any), (11, .c (.bool _)), (28, .any), (68, .any)]) rfl ?_
    refine e_kw ?_
    refine w_seqw ?_
    refine w_seqw ?_
    refine w_region ?_
    refine o_p rfl (p_move (v := .box 0 0) rfl) ?_
    refine o_p rfl (p_peql ti27 rfl rfl) ?_
    refine o_p rfl (p_move (v := .c (.bool _)) rfl) ?_
    refine o_g rfl rfl (fun hc => ov_p rfl (p_move (v := .box 1 0) rfl)) ?_
    refine o_g rfl rfl (fun hc => ov_p rfl (p_peql ti27 (gx rfl hc) rfl)) ?_
    refine o_p rfl (p_k (p_pickz rfl rfl rfl (fun e => keq e)) (show _ = .bool false from rfl)) ?_
    refine o_p rfl (p_move (v := .c (.bool _)) rfl) ?_
    refine o_g rfl rfl (fun hc => ov_p rfl (p_move (v := .box 2 0) rfl)) ?_
    refine o_g rfl rfl (fun hc => ov_p rfl (p_peql ti27 (gx rfl hc) rfl)) ?_
    refine o_p rfl (p_k (p_pickz rfl rfl rfl (fun e => keq e)) (show _ = .bool false from rfl)) ?_
    refine o_end (fr' := [(0, .c (PV.ls _ _ _)), (2, .c (.bool _)), (3, .box 0 0), (4, .box 1 0), (5, .box 2 0), (6, .any), (7, .any), (8, .any), (11, .c (.bool _)), (28, .c (.bool _)), (68, .any)]) rfl ?_
    refine e_kw ?_
    refine w_cond_f rfl ?_
    refine w_skip ?_
    refine e_kw ?_
    refine w_seqw ?_
    refine w_region ?_
    refine o_p rfl (p_move (v := .box 0 0) rfl) ?_
    obtain ⟨x11, hx11, h12⟩ := bind_s h10
    refine o_call (v := .c (.int _ _)) (σ' := [[.c (PV.ls _ _ _), .c (.int _ _), .c (.int _ _), .c (.bool _)], [.c (PV.ls _ _ _), .c (.int _ _), .c (.int _ _), .c (.bool _)], [.c (PV.ls _ _ _), .c (.int _ _), .c (.int _ _), .c (.bool _)]]) [0] rfl (w_wire_Reader_Int hx11) rfl rfl ⟨(AV.le_refl _), (AV.le_refl _), (AV.le_refl _), trivial⟩ (st_c ⟨rfl, rfl, rfl, rfl, trivial⟩ st_nil) (ok_eq (by repeat (first | exact ok_nil | refine ok_cons rfl ?_ | refine ok_cons (dgv rfl) ?_))) rfl rfl ?_
    refine o_p rfl (p_move (v := .box 1 0) rfl) ?_
    obtain ⟨x13, hx13, h14⟩ := bind_s h12
    refine o_call (v := .c (.str _)) (σ' := [[.c (PV.ls _ _ _), .c (.int _ _), .c (.int _ _), .c (.bool _)], [.c (PV.ls _ _ _), .c (.int _ _), .c (.int _ _), .c (.bool _)], [.c (PV.ls _ _ _), .c (.int _ _), .c (.int _ _), .c (.bool _)]]) [1] rfl (w_wire_Reader_Text hx13) rfl rfl ⟨(AV.le_refl _), (AV.le_refl _), trivial⟩ (st_c ⟨rfl, rfl, rfl, rfl, trivial⟩ st_nil) (ok_eq (by repeat (first | exact ok_nil | refine ok_cons rfl ?_ | refine ok_cons (dgv rfl) ?_))) rfl rfl ?_
    refine o_p rfl (p_move (v := .box 2 0) rfl) ?_
    obtain ⟨x15, hx15, h16⟩ := bind_s h14
    refine o_call (v := .c (.bool _)) (σ' := [[.c (PV.ls _ _ _), .c (.int _ _), .c (.int _ _), .c (.bool _)], [.c (PV.ls _ _ _), .c (.int _ _), .c (.int _ _), .c (.bool _)], [.c (PV.ls _ _ _), .c (.int _ _), .c (.int _ _), .c (.bool _)]]) [2] rfl (w_wire_Reader_Bool hx15) rfl rfl ⟨(AV.le_refl _), trivial⟩ (st_c ⟨rfl, rfl, rfl, rfl, trivial⟩ st_nil) (ok_eq (by repeat (first | exact ok_nil | refine ok_cons rfl ?_ | refine ok_cons (dgv rfl) ?_))) rfl rfl ?_
    refine o_p rfl (p_assign (v := .c (.int _ _)) rfl) ?_
    refine o_p rfl (p_assign (v := .c (.str _)) rfl) ?_
    refine o_p rfl (p_assign (v := .c (.bool _)) rfl) ?_
    refine o_end (fr' := [(0, .c (PV.ls _ _ _)), (2, .c (.bool _)), (3, .box 0 0), (4, .box 1 0), (5, .box 2 0), (6, .c (.int _ _)), (7, .c (.str _)), (8, .c (.bool _)), (11, .c (.bool _)), (28, .c (.bool _)), (68, .any)]) rfl ?_
    refine e_kw ?_
    obtain ⟨x17, hx17, h18⟩ := bind_s h16
    refine w_join (fun j19 => x17 = Fl.go j19) (fun (j19 : Unit) => ([(0, .c (PV.ls 1 brow p0b)), (5, .box 2 0), (8, .c (.bool x15.1))] : Fr)) (fun (j19 : Unit) => ([[.c (PV.ls 1 brow x11.2.b_), .c (.int .i64 x11.2.at_), .c (.int .i64 x11.2.err_), .c (.bool x11.2.made_)], [.c (PV.ls 1 brow x13.2.b_), .c (.int .i64 x13.2.at_), .c (.int .i64 x13.2.err_), .c (.bool x13.2.made_)], [.c (PV.ls 1 brow x15.2.b_), .c (.int .i64 x15.2.at_), .c (.int .i64 x15.2.err_), .c (.bool x15.2.made_)]] : St)) ?_ ?_
    · skip
      refine w_seqw ?_
      refine w_region ?_
      refine o_p rfl (p_move (v := .box 0 0) rfl) ?_
      obtain ⟨x20, hx20, h21⟩ := bind_s hx17
      refine o_call (v := .c (.int _ _)) (σ' := [[.c (PV.ls _ _ _), .c (.int _ _), .c (.int _ _), .c (.bool _)], [.c (PV.ls _ _ _), .c (.int _ _), .c (.int _ _), .c (.bool _)], [.c (PV.ls _ _ _), .c (.int _ _), .c (.int _ _), .c (.bool _)]]) [0] rfl (w_wire_Reader_Err hx20) rfl rfl ⟨(AV.le_refl _), trivial⟩ (st_c ⟨rfl, rfl, rfl, rfl, trivial⟩ st_nil) (ok_eq (by repeat (first | exact ok_nil | refine ok_cons rfl ?_ | refine ok_cons (dgv rfl) ?_))) rfl rfl ?_
      refine o_p rfl (p_eql rfl rfl) ?_
      refine o_p rfl (p_move (v := .c (.bool _)) rfl) ?_
      rcases Bool.eq_false_or_eq_true (decide (x20 = (0 : Int))) with hb22 | hb22
      · skip
        have h22 := cond_t hb22 h21
        refine o_yes rfl rfl hb22 ?_
        refine o_p rfl (p_move (v := .c (.int _ _)) rfl) ?_
        refine o_yes rfl rfl hb22 ?_
        obtain ⟨x23, hx23, h24⟩ := bind_s h22
        refine o_v (ov_call (v := AV.os _ _ _ _) rfl (w_wire_PutInt hx23) ⟨le_nls, (AV.le_refl _), trivial⟩ (ok_eq (by repeat (first | exact ok_nil | refine ok_cons rfl ?_ | refine ok_cons (dgv rfl) ?_))) rfl rfl) ?_
        refine o_yes rfl rfl hb22 ?_
        refine o_p rfl (p_move (v := .c (PV.ls _ _ _)) rfl) ?_
        refine o_yes rfl rfl hb22 ?_
        refine o_p rfl (p_move (v := .c (PV.ls _ _ _)) rfl) ?_
        refine o_yes rfl rfl hb22 ?_
        refine o_p rfl (p_len ti22 (isl_c rfl)) ?_
        refine o_yes rfl rfl hb22 ?_
        refine o_p rfl (p_move (v := .box 0 0) rfl) ?_
        refine o_yes rfl rfl hb22 ?_
        obtain ⟨x25, hx25, h26⟩ := bind_s h24
        refine o_call (v := .c (.int _ _)) (σ' := [[.c (PV.ls _ _ _), .c (.int _ _), .c (.int _ _), .c (.bool _)], [.c (PV.ls _ _ _), .c (.int _ _), .c (.int _ _), .c (.bool _)], [.c (PV.ls _ _ _), .c (.int _ _), .c (.int _ _), .c (.bool _)]]) [0] rfl (w_wire_Reader_Left hx25) rfl rfl ⟨(AV.le_refl _), trivial⟩ (st_c ⟨rfl, rfl, rfl, rfl, trivial⟩ st_nil) (ok_eq (by repeat (first | exact ok_nil | refine ok_cons rfl ?_ | refine ok_cons (dgv rfl) ?_))) rfl rfl ?_
        refine o_yes rfl rfl hb22 ?_
        refine o_p rfl (p_sub rfl rfl) ?_
        refine o_yes rfl rfl hb22 ?_
        obtain ⟨x27, hx27, h28⟩ := bind_s h26
        refine o_p rfl (p_sl_h tn22 ts22 (isl_c rfl) rfl (slcH_some hx27).1) ?_
        refine o_yes rfl rfl hb22 ?_
        obtain ⟨x29, hx29, h30⟩ := bind_s h28
        refine o_v (ov_call (v := .c (.bool _)) rfl (w_law01xequal hx29) ⟨(AV.le_refl _), (AV.le_refl _), trivial⟩ (ok_eq (by repeat (first | exact ok_nil | refine ok_cons rfl ?_ | refine ok_cons (dgv rfl) ?_))) rfl rfl) ?_
        refine o_yes rfl rfl hb22 ?_
        refine o_p rfl (p_not rfl) ?_
        refine o_p rfl (p_pick_t rfl hb22 rfl) ?_
        refine o_p rfl (p_move (v := .c (.bool _)) rfl) ?_
        rcases Bool.eq_false_or_eq_true (!x29) with hb31 | hb31
        · skip
          have h31 := cond_t hb31 h30
          refine o_no rfl rfl hb31 ?_
          refine o_no rfl rfl hb31 ?_
          refine o_no rfl rfl hb31 ?_
          refine o_no rfl rfl hb31 ?_
          refine o_skip rfl rfl ?_
          refine o_skip rfl rfl ?_
          refine o_skip rfl rfl ?_
          refine o_skip rfl rfl ?_
          refine o_skip rfl rfl ?_
          refine o_skip rfl rfl ?_
          refine o_skip rfl rfl ?_
          refine o_skip rfl rfl ?_
          refine o_skip rfl rfl ?_
          refine o_skip rfl rfl ?_
          refine o_skip rfl rfl ?_
          refine o_no rfl rfl hb31 ?_
          refine o_p rfl (p_pick_t rfl hb31 rfl) ?_
          refine o_end (fr' := [(0, .c (PV.ls _ _ _)), (2, .c (.bool _)), (3, .box 0 0), (4, .box 1 0), (5, .box 2 0), (6, .c (.int _ _)), (7, .c (.str _)), (8, .c (.bool _)), (11, .c (.bool _)), (28, .c (.bool _)), (68, .c (.bool _))]) rfl ?_
          refine e_kw ?_
          refine w_cond_t rfl ?_
          refine w_seqw ?_
          refine w_region ?_
          refine o_p rfl (p_assign (v := .c (.bool _)) rfl) ?_
          refine o_end (fr' := [(0, .c (PV.ls _ _ _)), (2, .c (.bool _)), (3, .box 0 0), (4, .box 1 0), (5, .box 2 0), (6, .c (.int _ _)), (7, .c (.str _)), (8, .c (.bool _)), (11, .c (.bool _)), (28, .c (.bool _)), (68, .c (.bool _))]) rfl ?_
          refine e_kw ?_
          refine w_ret ?_
          refine e_seq_r ?_
          have h32 := un_done h31 h18
          have he33 := Option.some.inj h32
          subst he33
          refine e_ret (rs' := [.tmp 2]) rfl ?_
          refine r_tmp (v := .c (.bool _)) rfl ?_
          refine r_nil ?_
          exact fin_gen [] rfl rfl rfl (AV.le_refl _) st_nil
        · skip
          have h31 := cond_f hb31 h30
          refine o_yes rfl rfl hb31 ?_
          refine o_p rfl (p_move (v := .box 1 0) rfl) ?_
          refine o_yes rfl rfl hb31 ?_
          obtain ⟨x34, hx34, h35⟩ := bind_s h31
          refine o_call (v := .c (.int _ _)) (σ' := [[.c (PV.ls _ _ _), .c (.int _ _), .c (.int _ _), .c (.bool _)], [.c (PV.ls _ _ _), .c (.int _ _), .c (.int _ _), .c (.bool _)], [.c (PV.ls _ _ _), .c (.int _ _), .c (.int _ _), .c (.bool _)]]) [1] rfl (w_wire_Reader_Err hx34) rfl rfl ⟨(AV.le_refl _), trivial⟩ (st_c ⟨rfl, rfl, rfl, rfl, trivial⟩ st_nil) (ok_eq (by repeat (first | exact ok_nil | refine ok_cons rfl ?_ | refine ok_cons (dgv rfl) ?_))) rfl rfl ?_
          refine o_yes rfl rfl hb31 ?_
          refine o_p rfl (p_eql rfl rfl) ?_
          refine o_yes rfl rfl hb31 ?_
          refine o_p rfl (p_move (v := .c (.bool _)) rfl) ?_
          rcases Bool.eq_false_or_eq_true (decide (x34 = (0 : Int))) with hb36 | hb36
          · skip
            have h36 := cond_t hb36 h35
            refine o_yes rfl rfl hb36 ?_
            refine o_p rfl (p_move (v := .c (.str _)) rfl) ?_
            refine o_yes rfl rfl hb36 ?_
            obtain ⟨x37, hx37, h38⟩ := bind_s h36
            refine o_v (ov_call (v := AV.os _ _ _ _) rfl (w_wire_PutText hx37) ⟨le_nls, (AV.le_refl _), trivial⟩ (ok_eq (by repeat (first | exact ok_nil | refine ok_cons rfl ?_ | refine ok_cons (dgv rfl) ?_))) rfl rfl) ?_
            refine o_yes rfl rfl hb36 ?_
            refine o_p rfl (p_move (v := .c (PV.ls _ _ _)) rfl) ?_
            refine o_yes rfl rfl hb36 ?_
            refine o_p rfl (p_move (v := .c (PV.ls _ _ _)) rfl) ?_
            refine o_yes rfl rfl hb36 ?_
            refine o_p rfl (p_len ti22 (isl_c rfl)) ?_
            refine o_yes rfl rfl hb36 ?_
            refine o_p rfl (p_move (v := .box 1 0) rfl) ?_
            refine o_yes rfl rfl hb36 ?_
            obtain ⟨x39, hx39, h40⟩ := bind_s h38
            refine o_call (v := .c (.int _ _)) (σ' := [[.c (PV.ls _ _ _), .c (.int _ _), .c (.int _ _), .c (.bool _)], [.c (PV.ls _ _ _), .c (.int _ _), .c (.int _ _), .c (.bool _)], [.c (PV.ls _ _ _), .c (.int _ _), .c (.int _ _), .c (.bool _)]]) [1] rfl (w_wire_Reader_Left hx39) rfl rfl ⟨(AV.le_refl _), trivial⟩ (st_c ⟨rfl, rfl, rfl, rfl, trivial⟩ st_nil) (ok_eq (by repeat (first | exact ok_nil | refine ok_cons rfl ?_ | refine ok_cons (dgv rfl) ?_))) rfl rfl ?_
            refine o_yes rfl rfl hb36 ?_
            refine o_p rfl (p_sub rfl rfl) ?_
            refine o_yes rfl rfl hb36 ?_
            obtain ⟨x41, hx41, h42⟩ := bind_s h40
            refine o_p rfl (p_sl_h tn22 ts22 (isl_c rfl) rfl (slcH_some hx41).1) ?_
            refine o_yes rfl rfl hb36 ?_
            obtain ⟨x43, hx43, h44⟩ := bind_s h42
            refine o_v (ov_call (v := .c (.bool _)) rfl (w_law01xequal hx43) ⟨(AV.le_refl _), (AV.le_refl _), trivial⟩ (ok_eq (by repeat (first | exact ok_nil | refine ok_cons rfl ?_ | refine ok_cons (dgv rfl) ?_))) rfl rfl) ?_
            refine o_yes rfl rfl hb36 ?_
            refine o_p rfl (p_not rfl) ?_
            refine o_yes rfl rfl hb31 ?_
            refine o_p rfl (p_pick_t rfl hb36 rfl) ?_
            refine o_p rfl (p_pick_f rfl hb31 rfl) ?_
            refine o_end (fr' := [(0, .c (PV.ls _ _ _)), (2, .c (.bool _)), (3, .box 0 0), (4, .box 1 0), (5, .box 2 0), (6, .c (.int _ _)), (7, .c (.str _)), (8, .c (.bool _)), (11, .c (.bool _)), (28, .c (.bool _)), (68, .c (.bool _))]) rfl ?_
            refine e_kw ?_
            refine w_cond _ rfl (fun hb45 => ?_) (fun hb45 => ?_)
            · skip
              have h45 := cond_t (b := (!x43)) hb45 h44
              refine w_seqw ?_
              refine w_region ?_
              refine o_p rfl (p_assign (v := .c (.bool _)) rfl) ?_
              refine o_end (fr' := [(0, .c (PV.ls _ _ _)), (2, .c (.bool _)), (3, .box 0 0), (4, .box 1 0), (5, .box 2 0), (6, .c (.int _ _)), (7, .c (.str _)), (8, .c (.bool _)), (11, .c (.bool _)), (28, .c (.bool _)), (68, .c (.bool _))]) rfl ?_
              refine e_kw ?_
              refine w_ret ?_
              refine e_seq_r ?_
              have h46 := un_done h45 h18
              have he47 := Option.some.inj h46
              subst he47
              refine e_ret (rs' := [.tmp 2]) rfl ?_
              refine r_tmp (v := .c (.bool _)) rfl ?_
              refine r_nil ?_
              exact fin_gen [] rfl rfl rfl (AV.le_refl _) st_nil
            · skip
              have h45 := cond_f (b := (!x43)) hb45 h44
              refine w_skip ?_
              exact e_j _ (Option.some.inj h45).symm (w_weak [] 3 rfl rfl rfl rfl ⟨(AV.le_refl _), (AV.le_refl _), (AV.le_refl _), trivial⟩ (st_r rfl (st_r rfl (st_r rfl st_nil))))
          · skip
            have h36 := cond_f hb36 h35
            refine o_no rfl rfl hb36 ?_
            refine o_no rfl rfl hb36 ?_
            refine o_no rfl rfl hb36 ?_
            refine o_no rfl rfl hb36 ?_
            refine o_no rfl rfl hb36 ?_
            refine o_no rfl rfl hb36 ?_
            refine o_no rfl rfl hb36 ?_
            refine o_no rfl rfl hb36 ?_
            refine o_no rfl rfl hb36 ?_
            refine o_no rfl rfl hb36 ?_
            refine o_no rfl rfl hb36 ?_
            refine o_yes rfl rfl hb31 ?_
            refine o_p rfl (p_pick_f rfl hb36 rfl) ?_
            refine o_p rfl (p_pick_f rfl hb31 rfl) ?_
            refine o_end (fr' := [(0, .c (PV.ls _ _ _)), (2, .c (.bool _)), (3, .box 0 0), (4, .box 1 0), (5, .box 2 0), (6, .c (.int _ _)), (7, .c (.str _)), (8, .c (.bool _)), (11, .c (.bool _)), (28, .c (.bool _)), (68, .c (.bool _))]) rfl ?_
            refine e_kw ?_
            refine w_cond_f rfl ?_
            refine w_skip ?_
            exact e_j _ (Option.some.inj h36).symm (w_weak [] 3 rfl rfl rfl rfl ⟨(AV.le_refl _), (AV.le_refl _), (AV.le_refl _), trivial⟩ (st_r rfl (st_r rfl (st_r rfl st_nil))))
      · skip
        have h22 := cond_f hb22 h21
        refine o_no rfl rfl hb22 ?_
        refine o_no rfl rfl hb22 ?_
        refine o_no rfl rfl hb22 ?_
        refine o_no rfl rfl hb22 ?_
        refine o_no rfl rfl hb22 ?_
        refine o_no rfl rfl hb22 ?_
        refine o_no rfl rfl hb22 ?_
        refine o_no rfl rfl hb22 ?_
        refine o_no rfl rfl hb22 ?_
        refine o_no rfl rfl hb22 ?_
        refine o_no rfl rfl hb22 ?_
        refine o_p rfl (p_pick_f rfl hb22 rfl) ?_
        refine o_p rfl (p_move (v := .c (.bool _)) rfl) ?_
        refine o_yes rfl rfl rfl ?_
        refine o_p rfl (p_move (v := .box 1 0) rfl) ?_
        refine o_yes rfl rfl rfl ?_
        obtain ⟨x48, hx48, h49⟩ := bind_s h22
        refine o_call (v := .c (.int _ _)) (σ' := [[.c (PV.ls _ _ _), .c (.int _ _), .c (.int _ _), .c (.bool _)], [.c (PV.ls _ _ _), .c (.int _ _), .c (.int _ _), .c (.bool _)], [.c (PV.ls _ _ _), .c (.int _ _), .c (.int _ _), .c (.bool _)]]) [1] rfl (w_wire_Reader_Err hx48) rfl rfl ⟨(AV.le_refl _), trivial⟩ (st_c ⟨rfl, rfl, rfl, rfl, trivial⟩ st_nil) (ok_eq (by repeat (first | exact ok_nil | refine ok_cons rfl ?_ | refine ok_cons (dgv rfl) ?_))) rfl rfl ?_
        refine o_yes rfl rfl rfl ?_
        refine o_p rfl (p_eql rfl rfl) ?_
        refine o_yes rfl rfl rfl ?_
        refine o_p rfl (p_move (v := .c (.bool _)) rfl) ?_
        rcases Bool.eq_false_or_eq_true (decide (x48 = (0 : Int))) with hb50 | hb50
        · skip
          have h50 := cond_t hb50 h49
          refine o_yes rfl rfl hb50 ?_
          refine o_p rfl (p_move (v := .c (.str _)) rfl) ?_
          refine o_yes rfl rfl hb50 ?_
          obtain ⟨x51, hx51, h52⟩ := bind_s h50
          refine o_v (ov_call (v := AV.os _ _ _ _) rfl (w_wire_PutText hx51) ⟨le_nls, (AV.le_refl _), trivial⟩ (ok_eq (by repeat (first | exact ok_nil | refine ok_cons rfl ?_ | refine ok_cons (dgv rfl) ?_))) rfl rfl) ?_
          refine o_yes rfl rfl hb50 ?_
          refine o_p rfl (p_move (v := .c (PV.ls _ _ _)) rfl) ?_
          refine o_yes rfl rfl hb50 ?_
          refine o_p rfl (p_move (v := .c (PV.ls _ _ _)) rfl) ?_
          refine o_yes rfl rfl hb50 ?_
          refine o_p rfl (p_len ti22 (isl_c rfl)) ?_
          refine o_yes rfl rfl hb50 ?_
          refine o_p rfl (p_move (v := .box 1 0) rfl) ?_
          refine o_yes rfl rfl hb50 ?_
          obtain ⟨x53, hx53, h54⟩ := bind_s h52
          refine o_call (v := .c (.int _ _)) (σ' := [[.c (PV.ls _ _ _), .c (.int _ _), .c (.int _ _), .c (.bool _)], [.c (PV.ls _ _ _), .c (.int _ _), .c (.int _ _), .c (.bool _)], [.c (PV.ls _ _ _), .c (.int _ _), .c (.int _ _), .c (.bool _)]]) [1] rfl (w_wire_Reader_Left hx53) rfl rfl ⟨(AV.le_refl _), trivial⟩ (st_c ⟨rfl, rfl, rfl, rfl, trivial⟩ st_nil) (ok_eq (by repeat (first | exact ok_nil | refine ok_cons rfl ?_ | refine ok_cons (dgv rfl) ?_))) rfl rfl ?_
          refine o_yes rfl rfl hb50 ?_
          refine o_p rfl (p_sub rfl rfl) ?_
          refine o_yes rfl rfl hb50 ?_
          obtain ⟨x55, hx55, h56⟩ := bind_s h54
          refine o_p rfl (p_sl_h tn22 ts22 (isl_c rfl) rfl (slcH_some hx55).1) ?_
          refine o_yes rfl rfl hb50 ?_
          obtain ⟨x57, hx57, h58⟩ := bind_s h56
          refine o_v (ov_call (v := .c (.bool _)) rfl (w_law01xequal hx57) ⟨(AV.le_refl _), (AV.le_refl _), trivial⟩ (ok_eq (by repeat (first | exact ok_nil | refine ok_cons rfl ?_ | refine ok_cons (dgv rfl) ?_))) rfl rfl) ?_
          refine o_yes rfl rfl hb50 ?_
          refine o_p rfl (p_not rfl) ?_
          refine o_yes rfl rfl rfl ?_
          refine o_p rfl (p_pick_t rfl hb50 rfl) ?_
          refine o_p rfl (p_pick_f rfl rfl rfl) ?_
          refine o_end (fr' := [(0, .c (PV.ls _ _ _)), (2, .c (.bool _)), (3, .box 0 0), (4, .box 1 0), (5, .box 2 0), (6, .c (.int _ _)), (7, .c (.str _)), (8, .c (.bool _)), (11, .c (.bool _)), (28, .c (.bool _)), (68, .c (.bool _))]) rfl ?_
          refine e_kw ?_
          refine w_cond _ rfl (fun hb59 => ?_) (fun hb59 => ?_)
          · skip
            have h59 := cond_t (b := (!x57)) hb59 h58
            refine w_seqw ?_
            refine w_region ?_
            refine o_p rfl (p_assign (v := .c (.bool _)) rfl) ?_
            refine o_end (fr' := [(0, .c (PV.ls _ _ _)), (2, .c (.bool _)), (3, .box 0 0), (4, .box 1 0), (5, .box 2 0), (6, .c (.int _ _)), (7, .c (.str _)), (8, .c (.bool _)), (11, .c (.bool _)), (28, .c (.bool _)), (68, .c (.bool _))]) rfl ?_
            refine e_kw ?_
            refine w_ret ?_
            refine e_seq_r ?_
            have h60 := un_done h59 h18
            have he61 := Option.some.inj h60
            subst he61
            refine e_ret (rs' := [.tmp 2]) rfl ?_
            refine r_tmp (v := .c (.bool _)) rfl ?_
            refine r_nil ?_
            exact fin_gen [] rfl rfl rfl (AV.le_refl _) st_nil
          · skip
            have h59 := cond_f (b := (!x57)) hb59 h58
            refine w_skip ?_
            exact e_j _ (Option.some.inj h59).symm (w_weak [] 3 rfl rfl rfl rfl ⟨(AV.le_refl _), (AV.le_refl _), (AV.le_refl _), trivial⟩ (st_r rfl (st_r rfl (st_r rfl st_nil))))
        · skip
          have h50 := cond_f hb50 h49
          refine o_no rfl rfl hb50 ?_
          refine o_no rfl rfl hb50 ?_
          refine o_no rfl rfl hb50 ?_
          refine o_no rfl rfl hb50 ?_
          refine o_no rfl rfl hb50 ?_
          refine o_no rfl rfl hb50 ?_
          refine o_no rfl rfl hb50 ?_
          refine o_no rfl rfl hb50 ?_
          refine o_no rfl rfl hb50 ?_
          refine o_no rfl rfl hb50 ?_
          refine o_no rfl rfl hb50 ?_
          refine o_yes rfl rfl rfl ?_
          refine o_p rfl (p_pick_f rfl hb50 rfl) ?_
          refine o_p rfl (p_pick_f rfl rfl rfl) ?_
          refine o_end (fr' := [(0, .c (PV.ls _ _ _)), (2, .c (.bool _)), (3, .box 0 0), (4, .box 1 0), (5, .box 2 0), (6, .c (.int _ _)), (7, .c (.str _)), (8, .c (.bool _)), (11, .c (.bool _)), (28, .c (.bool _)), (68, .c (.bool _))]) rfl ?_
          refine e_kw ?_
          refine w_cond_f rfl ?_
          refine w_skip ?_
          exact e_j _ (Option.some.inj h50).symm (w_weak [] 3 rfl rfl rfl rfl ⟨(AV.le_refl _), (AV.le_refl _), (AV.le_refl _), trivial⟩ (st_r rfl (st_r rfl (st_r rfl st_nil))))
    · skip
      intro j19 hj62
      have h62 := un_go hj62 h18
      refine w_seqw ?_
      refine w_region ?_
      refine o_p rfl (p_move (v := .box 2 0) rfl) ?_
      obtain ⟨x63, hx63, h64⟩ := bind_s h62
      refine o_call (v := .c (.int _ _)) (σ' := [[.c (PV.ls _ _ _), .c (.int _ _), .c (.int _ _), .c (.bool _)], [.c (PV.ls _ _ _), .c (.int _ _), .c (.int _ _), .c (.bool _)], [.c (PV.ls _ _ _), .c (.int _ _), .c (.int _ _), .c (.bool _)]]) [2] rfl (w_wire_Reader_Err hx63) rfl rfl ⟨(AV.le_refl _), trivial⟩ (st_c ⟨rfl, rfl, rfl, rfl, trivial⟩ st_nil) rfl rfl rfl ?_
      refine o_p rfl (p_neq rfl rfl) ?_
      refine o_p rfl (p_move (v := .c (.bool _)) rfl) ?_
      rcases Bool.eq_false_or_eq_true (!decide (x63 = (0 : Int))) with hb65 | hb65
      · skip
        have h65 := cond_t hb65 h64
        refine o_no rfl rfl hb65 ?_
        refine o_no rfl rfl hb65 ?_
        refine o_no rfl rfl hb65 ?_
        refine o_no rfl rfl hb65 ?_
        refine o_no rfl rfl hb65 ?_
        refine o_no rfl rfl hb65 ?_
        refine o_no rfl rfl hb65 ?_
        refine o_no rfl rfl hb65 ?_
        refine o_no rfl rfl hb65 ?_
        refine o_no rfl rfl hb65 ?_
        refine o_p rfl (p_pick_t rfl hb65 rfl) ?_
        refine o_p rfl (p_move (v := .c (.bool _)) rfl) ?_
        refine o_yes rfl rfl rfl ?_
        obtain ⟨x66, hx66, h67⟩ := bind_s h65
        refine o_v (ov_call (v := .c (.bool _)) rfl (w_law01xworks hx66) trivial rfl rfl rfl) ?_
        refine o_p rfl (p_pick_t rfl rfl rfl) ?_
        refine o_p rfl (p_assign (v := .c (.bool _)) rfl) ?_
        refine o_end (fr' := [(0, .c (PV.ls _ _ _)), (2, .c (.bool _)), (3, .any), (4, .any), (5, .box 2 0), (6, .any), (7, .any), (8, .c (.bool _)), (11, .any), (28, .any), (68, .any)]) rfl ?_
        refine e_kw ?_
        refine w_ret ?_
        have he68 := Option.some.inj h67
        subst he68
        refine e_ret (rs' := [.tmp 2]) rfl ?_
        refine r_tmp (v := .c (.bool _)) rfl ?_
        refine r_nil ?_
        exact fin_gen [] rfl rfl rfl (AV.le_refl _) st_nil
      · skip
        have h65 := cond_f hb65 h64
        refine o_yes rfl rfl hb65 ?_
        refine o_p rfl (p_move (v := .c (.bool _)) rfl) ?_
        refine o_yes rfl rfl hb65 ?_
        obtain ⟨x69, hx69, h70⟩ := bind_s h65
        refine o_v (ov_call (v := AV.os _ _ _ _) rfl (w_wire_PutBool hx69) ⟨le_nls, (AV.le_refl _), trivial⟩ rfl rfl rfl) ?_
        refine o_yes rfl rfl hb65 ?_
        refine o_p rfl (p_move (v := .c (PV.ls _ _ _)) rfl) ?_
        refine o_yes rfl rfl hb65 ?_
        refine o_p rfl (p_move (v := .c (PV.ls _ _ _)) rfl) ?_
        refine o_yes rfl rfl hb65 ?_
        refine o_p rfl (p_len ti22 (isl_c rfl)) ?_
        refine o_yes rfl rfl hb65 ?_
        refine o_p rfl (p_move (v := .box 2 0) rfl) ?_
        refine o_yes rfl rfl hb65 ?_
        obtain ⟨x71, hx71, h72⟩ := bind_s h70
        refine o_call (v := .c (.int _ _)) (σ' := [[.c (PV.ls _ _ _), .c (.int _ _), .c (.int _ _), .c (.bool _)], [.c (PV.ls _ _ _), .c (.int _ _), .c (.int _ _), .c (.bool _)], [.c (PV.ls _ _ _), .c (.int _ _), .c (.int _ _), .c (.bool _)]]) [2] rfl (w_wire_Reader_Left hx71) rfl rfl ⟨(AV.le_refl _), trivial⟩ (st_c ⟨rfl, rfl, rfl, rfl, trivial⟩ st_nil) rfl rfl rfl ?_
        refine o_yes rfl rfl hb65 ?_
        refine o_p rfl (p_sub rfl rfl) ?_
        refine o_yes rfl rfl hb65 ?_
        obtain ⟨x73, hx73, h74⟩ := bind_s h72
        refine o_p rfl (p_sl_h tn22 ts22 (isl_c rfl) rfl (slcH_some hx73).1) ?_
        refine o_yes rfl rfl hb65 ?_
        obtain ⟨x75, hx75, h76⟩ := bind_s h74
        refine o_v (ov_call (v := .c (.bool _)) rfl (w_law01xequal hx75) ⟨(AV.le_refl _), (AV.le_refl _), trivial⟩ rfl rfl rfl) ?_
        refine o_p rfl (p_pick_f rfl hb65 rfl) ?_
        refine o_p rfl (p_move (v := .c (.bool _)) rfl) ?_
        rcases Bool.eq_false_or_eq_true x75 with hb77 | hb77
        · skip
          have h77 := cond_t hb77 h76
          refine o_yes rfl rfl hb77 ?_
          obtain ⟨x78, hx78, h79⟩ := bind_s h77
          refine o_v (ov_call (v := .c (.bool _)) rfl (w_law01xworks hx78) trivial rfl rfl rfl) ?_
          refine o_p rfl (p_pick_t rfl hb77 rfl) ?_
          refine o_p rfl (p_assign (v := .c (.bool _)) rfl) ?_
          refine o_end (fr' := [(0, .c (PV.ls _ _ _)), (2, .c (.bool _)), (3, .any), (4, .any), (5, .box 2 0), (6, .any), (7, .any), (8, .c (.bool _)), (11, .any), (28, .any), (68, .any)]) rfl ?_
          refine e_kw ?_
          refine w_ret ?_
          have he80 := Option.some.inj h79
          subst he80
          refine e_ret (rs' := [.tmp 2]) rfl ?_
          refine r_tmp (v := .c (.bool _)) rfl ?_
          refine r_nil ?_
          exact fin_gen [] rfl rfl rfl (AV.le_refl _) st_nil
        · skip
          have h77 := cond_f hb77 h76
          refine o_no rfl rfl hb77 ?_
          refine o_p rfl (p_pick_f rfl hb77 rfl) ?_
          refine o_p rfl (p_assign (v := .c (.bool _)) rfl) ?_
          refine o_end (fr' := [(0, .c (PV.ls _ _ _)), (2, .c (.bool _)), (3, .any), (4, .any), (5, .box 2 0), (6, .any), (7, .any), (8, .c (.bool _)), (11, .any), (28, .any), (68, .any)]) rfl ?_
          refine e_kw ?_
          refine w_ret ?_
          have he81 := Option.some.inj h77
          subst he81
          refine e_ret (rs' := [.tmp 2]) rfl ?_
          refine r_tmp (v := .c (.bool _)) rfl ?_
          refine r_nil ?_
          exact fin_gen [] rfl rfl rfl (AV.le_refl _) st_nil
noncomputable def ref27xMarkers_l1 (p0es : (List ApiEvent)) (s4 : ((List ApiPatch) × Int)) : Option (Step ((List ApiPatch) × Int) (List ApiPatch)) :=
  cond (decide (s4.2 < ((p0es).length : Int))) ((((idx p0es s4.2).bind fun (x9 : ApiEvent) => (gd ((decide (x9.Kind = (18 : Int))) == true) (idx p0es s4.2)).bind fun (x11 : ApiEvent) => cond (cond (decide (x9.Kind = (18 : Int))) (decide ((0 : Int) ≤ x11.N)) false) ((idx p0es s4.2).bind fun (x14 : ApiEvent) => (idx p0es s4.2).bind fun (x16 : ApiEvent) => (app 112 s4.1 ([(ApiPatch.mk (0 : Int) x14.Name x16.N (ApiValue.mk (0 : Int) (0 : Int) ([] : List UInt8) ([] : (List ApiValue)) ([] : (List (List UInt8)))))] : List ApiPatch)).bind fun (x18 : (List ApiPatch)) => some x18) (some s4.1)) : Option (List ApiPatch)).bind fun (x6 : (List ApiPatch)) => ((idx p0es s4.2).bind fun (x21 : ApiEvent) => (gd ((decide (x21.Kind = (18 : Int))) == true) (idx p0es s4.2)).bind fun (x23 : ApiEvent) => cond (cond (decide (x21.Kind = (18 : Int))) (decide (x23.N = (-1 : Int))) false) ((idx p0es s4.2).bind fun (x26 : ApiEvent) => (idx p0es s4.2).bind fun (x28 : ApiEvent) => (app 112 x6 ([(ApiPatch.mk (1 : Int) x26.Name (0 : Int) x28.Data)] : List ApiPatch)).bind fun (x30 : (List ApiPatch)) => some (Step.next (x30, (IntKind.wrap .i64 (s4.2 + (1 : Int)))))) (some (Step.next (x6, (IntKind.wrap .i64 (s4.2 + (1 : Int)))))))) (some (Step.out s4.1))
noncomputable def ref27xMarkers (p0es : (List ApiEvent)) : Option (List ApiPatch) :=
  ((loopO (ref27xMarkers_l1 p0es) ((([] : (List ApiPatch)), (0 : Int)))) : Option (List ApiPatch)).bind fun (x1 : (List ApiPatch)) => (some x1)
theorem w_ref27xMarkers {p0es : (List ApiEvent)} {res : (List ApiPatch)} (h : ref27xMarkers p0es = some res) : ACalls Try.prog 39 [.c (PV.ls 24 rowApiEvent p0es)] [] (AV.os 0 8 rowApiPatch res) [] := by
  unfold ref27xMarkers at h
  refine acalls (fn := Try.f39) [0, 2, 3, 4, 8, 24, 52] (by kernel_rfl) Try.func39 rfl (by kernel_rfl) (by kernel_rfl) ?_
  refine w_seqw ?_
  refine w_region ?_
  refine o_p rfl (p_assign (v := .nil) rfl) ?_
  refine o_end (fr' := [(0, .c (PV.ls _ _ _)), (2, .nil), (3, .any), (4, .any), (8, .any), (24, .any), (52, .any)]) rfl ?_
  refine e_kw ?_
  refine w_seqw ?_
  refine w_region ?_
  refine o_p rfl (p_assign (v := .nil) rfl) ?_
  refine o_end (fr' := [(0, .c (PV.ls _ _ _)), (2, .nil), (3, .nil), (4, .any), (8, .any), (24, .any), (52, .any)]) rfl ?_
  refine e_kw ?_
  refine w_seqw ?_
  refine w_seqw ?_
  refine w_region ?_
  refine o_p rfl (p_assign (v := .c (.int _ _)) rfl) ?_
  refine o_end (fr' := [(0, .c (PV.ls _ _ _)), (2, .nil), (3, .nil), (4, .c (.int _ _)), (8, .any), (24, .any), (52, .any)]) rfl ?_
  refine e_kw ?_
  obtain ⟨x1, hx1, h2⟩ := bind_s h
  refine w_jtail cl_kw (fun j3 => x1 = j3) (fun (j3 : (List ApiPatch)) => ([(3, AV.os 0 8 rowApiPatch j3)] : Fr)) (fun (j3 : (List ApiPatch)) => ([] : St)) ?_ ?_
  · skip
    refine w_block ?_
    refine w_loopo _ (fun (s4 : ((List ApiPatch) × Int)) => ([(0, .c (PV.ls 24 rowApiEvent p0es)), (3, AV.os 0 8 rowApiPatch s4.1), (4, .c (.int .i64 s4.2))] : Fr)) (fun (s4 : ((List ApiPatch) × Int)) => ([] : St)) hx1 (w_weak [1000000] 0 rfl rfl rfl rfl ⟨(AV.le_refl _), (le_nos rfl), (AV.le_refl _), trivial⟩ st_nil) ?_
    intro s4 st4 hs4 ho4
    unfold ref27xMarkers_l1 at hs4
    refine w_seqw ?_
    refine w_seqw ?_
    refine w_region ?_
    refine o_p rfl (p_move (v := .c (.int _ _)) rfl) ?_
    refine o_p rfl (p_move (v := .c (PV.ls _ _ _)) rfl) ?_
    refine o_p rfl (p_len ti49 (isl_c rfl)) ?_
    refine o_p rfl (p_lss rfl rfl) ?_
    refine o_end (fr' := [(0, .c (PV.ls _ _ _)), (2, .any), (3, AV.os _ _ _ _), (4, .c (.int _ _)), (8, .c (.bool _)), (24, .any), (52, .any)]) rfl ?_
    refine e_kw ?_
    refine w_cond _ rfl (fun hb5 => ?_) (fun hb5 => ?_)
    · skip
      have h5 := cond_t (b := (decide (s4.2 < ((p0es).length : Int)))) hb5 hs4
      refine w_skip ?_
      refine e_kw ?_
      refine w_seqw ?_
      refine w_block ?_
      obtain ⟨x6, hx6, h7⟩ := bind_s h5
      refine w_join (fun j8 => x6 = j8) (fun (j8 : (List ApiPatch)) => ([(0, .c (PV.ls 24 rowApiEvent p0es)), (3, AV.os 0 8 rowApiPatch j8), (4, .c (.int .i64 s4.2))] : Fr)) (fun (j8 : (List ApiPatch)) => ([] : St)) ?_ ?_
      · skip
        refine w_seqw ?_
        refine w_region ?_
        refine o_p rfl (p_move (v := .c (PV.ls _ _ _)) rfl) ?_
        refine o_p rfl (p_move (v := .c (.int _ _)) rfl) ?_
        obtain ⟨x9, hx9, h10⟩ := bind_s hx6
        refine o_p rfl (p_ia (cs := [.int _ _, .int _ _, .int _ _, .int _ _, .int _ _, .int _ _, .int _ _, .str _, .str _, .int _ _, .int _ _, .str _, PV.ls _ _ _, PV.ls _ _ _, .str _, .int _ _, .int _ _, .int _ _, .int _ _, .int _ _, .int _ _, .int _ _, .int _ _, PV.ls _ _ _]) ts49 (isl_c rfl) rfl hx9 rfl) ?_
        refine o_p rfl (p_fae tf46x1 rfl) ?_
        refine o_p rfl (p_loade (p := .int _ _) tv3 rfl rfl) ?_
        refine o_p rfl (p_eql rfl rfl) ?_
        refine o_p rfl (p_move (v := .c (.bool _)) rfl) ?_
        refine o_g rfl rfl (fun hc => ov_p rfl (p_move (v := .c (PV.ls _ _ _)) rfl)) ?_
        refine o_g rfl rfl (fun hc => ov_p rfl (p_move (v := .c (.int _ _)) rfl)) ?_
        obtain ⟨x11, hx11, h12⟩ := bind_s h10
        refine o_g rfl rfl (fun hc => ov_p rfl (p_ia (cs := [.int _ _, .int _ _, .int _ _, .int _ _, .int _ _, .int _ _, .int _ _, .str _, .str _, .int _ _, .int _ _, .str _, PV.ls _ _ _, PV.ls _ _ _, .str _, .int _ _, .int _ _, .int _ _, .int _ _, .int _ _, .int _ _, .int _ _, .int _ _, PV.ls _ _ _]) ts49 (isl_c (gx rfl hc)) (gx rfl hc) (gd_some hx11 hc) rfl)) ?_
        refine o_g rfl rfl (fun hc => ov_p rfl (p_fae tf46x5 (gx rfl hc))) ?_
        refine o_g rfl rfl (fun hc => ov_p rfl (p_loade (p := .int _ _) tv3 (gx rfl hc) rfl)) ?_
        refine o_g rfl rfl (fun hc => ov_p rfl (p_geq (gx rfl hc) rfl)) ?_
        refine o_p rfl (p_picky rfl rfl rfl (fun e => keq e)) ?_
        refine o_end (fr' := [(0, .c (PV.ls _ _ _)), (2, .any), (3, AV.os _ _ _ _), (4, .c (.int _ _)), (8, .c (.bool _)), (24, .c (.bool _)), (52, .any)]) rfl ?_
        refine e_kw ?_
        refine w_cond _ rfl (fun hb13 => ?_) (fun hb13 => ?_)
        · skip
          have h13 := cond_t (b := (cond (decide (x9.Kind = (18 : Int))) (decide ((0 : Int) ≤ x11.N)) false)) hb13 h12
          refine w_planT [.q 0, .q 1, .q 2, .q 3, .q 4, .q 5, .q 6, .q 7, .q 8, .q 9, .q 10, .q 11, .n 12 [0], .n 13 [], .n 14 []] [(some 25, [3]), (some 26, [0]), (some 27, [4]), (some 28, [26, 27]), (some 29, [28]), (some 30, [29]), (some 31, [0]), (some 32, [4]), (some 33, [31, 32]), (some 34, [33]), (some 35, [34]), (some 36, [30, 35]), (some 37, [36]), (some 38, [25, 37]), (some 3, [38])] [0, 0, 0, 6, 14, 30, 0, 0, 192, 448, 960, 2046, 4094, 8191, 16383] (by kernel_rfl) ?_
          refine d_q rfl (qv_p rfl (p_move (v := AV.os _ _ _ _) rfl)) ?_
          refine d_q rfl (qv_p rfl (p_move (v := .c (PV.ls _ _ _)) rfl)) ?_
          refine d_q rfl (qv_p rfl (p_move (v := .c (.int _ _)) rfl)) ?_
          obtain ⟨x14, hx14, h15⟩ := bind_s h13
          refine d_q rfl (qv_p rfl (p_ia (cs := [.int _ _, .int _ _, .int _ _, .int _ _, .int _ _, .int _ _, .int _ _, .str _, .str _, .int _ _, .int _ _, .str _, PV.ls _ _ _, PV.ls _ _ _, .str _, .int _ _, .int _ _, .int _ _, .int _ _, .int _ _, .int _ _, .int _ _, .int _ _, PV.ls _ _ _]) ts49 (isl_c rfl) rfl hx14 rfl)) ?_
          refine d_q rfl (qv_p rfl (p_fae tf46x7 rfl)) ?_
          refine d_q rfl (qv_p rfl (p_loade (p := .str _) tv9 rfl rfl)) ?_
          refine d_q rfl (qv_p rfl (p_move (v := .c (PV.ls _ _ _)) rfl)) ?_
          refine d_q rfl (qv_p rfl (p_move (v := .c (.int _ _)) rfl)) ?_
          obtain ⟨x16, hx16, h17⟩ := bind_s h15
          refine d_q rfl (qv_p rfl (p_ia (cs := [.int _ _, .int _ _, .int _ _, .int _ _, .int _ _, .int _ _, .int _ _, .str _, .str _, .int _ _, .int _ _, .str _, PV.ls _ _ _, PV.ls _ _ _, .str _, .int _ _, .int _ _, .int _ _, .int _ _, .int _ _, .int _ _, .int _ _, .int _ _, PV.ls _ _ _]) ts49 (isl_c rfl) rfl hx16 rfl)) ?_
          refine d_q rfl (qv_p rfl (p_fae tf46x5 rfl)) ?_
          refine d_q rfl (qv_p rfl (p_loade (p := .int _ _) tv3 rfl rfl)) ?_
          refine d_q rfl (qv_p rfl (p_build (cs := [.c (.int _ _), .c (.str _), .c (.int _ _), .c (.int _ _), .c (.int _ _), .c (.str _), .nil, .nil]) tb71 rfl)) ?_
          refine d_n rfl ?_ rfl
          refine o_rows (row := rowApiPatch) (xs := ([(ApiPatch.mk (0 : Int) x14.Name x16.N (ApiValue.mk (0 : Int) (0 : Int) ([] : List UInt8) ([] : (List ApiValue)) ([] : (List (List UInt8)))))] : List ApiPatch)) (rows := [[_, _, _, _, _, _, _, _]]) (σ' := []) [0, 0, 0, 0, 0, 0, 5, 1] ts66 rfl rfl rfl (arow_cons rfl arow_nil) (ok_eq (by repeat (first | exact ok_nil | refine ok_cons rfl ?_ | refine ok_cons (dgv rfl) ?_))) rfl ?_
          refine o_rc ?_
          refine ⟨(rc_q (v := AV.os _ _ _ _) rfl rfl (qv_p rfl (p_move (v := AV.os _ _ _ _) rfl)) rc_nil), ?_⟩
          refine d_n rfl ?_ rfl
          obtain ⟨x18, hx18, h19⟩ := bind_s h17
          refine o_app (row := rowApiPatch) ts66 rfl ti66 rfl (isl_o rfl) (fun _ => rfl) hx18 ?_
          refine o_rc ?_
          refine ⟨rc_nil, ?_⟩
          refine d_n rfl ?_ rfl
          refine o_p rfl (p_assign (v := AV.os _ _ _ _) rfl) ?_
          refine o_rc ?_
          refine ⟨rc_nil, ?_⟩
          refine d_end (fr' := [(0, .c (PV.ls _ _ _)), (2, .any), (3, AV.os _ _ _ _), (4, .c (.int _ _)), (8, .c (.bool _)), (24, .c (.bool _)), (52, .any)]) rfl ?_
          exact e_j _ (Option.some.inj h19).symm (w_weak [608] 0 rfl rfl rfl rfl ⟨(AV.le_refl _), (AV.le_refl _), (AV.le_refl _), trivial⟩ st_nil)
        · skip
          have h13 := cond_f (b := (cond (decide (x9.Kind = (18 : Int))) (decide ((0 : Int) ≤ x11.N)) false)) hb13 h12
          refine w_skip ?_
          exact e_j _ (Option.some.inj h13).symm (w_weak [0] 0 rfl rfl rfl rfl ⟨(AV.le_refl _), (AV.le_refl _), (AV.le_refl _), trivial⟩ st_nil)
      · skip
        intro j8 hj20
        subst hj20
        refine w_seqw ?_
        refine w_region ?_
        refine o_p rfl (p_move (v := .c (PV.ls _ _ _)) rfl) ?_
        refine o_p rfl (p_move (v := .c (.int _ _)) rfl) ?_
        obtain ⟨x21, hx21, h22⟩ := bind_s h7
        refine o_p rfl (p_ia (cs := [.int _ _, .int _ _, .int _ _, .int _ _, .int _ _, .int _ _, .int _ _, .str _, .str _, .int _ _, .int _ _, .str _, PV.ls _ _ _, PV.ls _ _ _, .str _, .int _ _, .int _ _, .int _ _, .int _ _, .int _ _, .int _ _, .int _ _, .int _ _, PV.ls _ _ _]) ts49 (isl_c rfl) rfl hx21 rfl) ?_
        refine o_p rfl (p_fae tf46x1 rfl) ?_
        refine o_p rfl (p_loade (p := .int _ _) tv3 rfl rfl) ?_
        refine o_p rfl (p_eql rfl rfl) ?_
        refine o_p rfl (p_move (v := .c (.bool _)) rfl) ?_
        refine o_g rfl rfl (fun hc => ov_p rfl (p_move (v := .c (PV.ls _ _ _)) rfl)) ?_
        refine o_g rfl rfl (fun hc => ov_p rfl (p_move (v := .c (.int _ _)) rfl)) ?_
        obtain ⟨x23, hx23, h24⟩ := bind_s h22
        refine o_g rfl rfl (fun hc => ov_p rfl (p_ia (cs := [.int _ _, .int _ _, .int _ _, .int _ _, .int _ _, .int _ _, .int _ _, .str _, .str _, .int _ _, .int _ _, .str _, PV.ls _ _ _, PV.ls _ _ _, .str _, .int _ _, .int _ _, .int _ _, .int _ _, .int _ _, .int _ _, .int _ _, .int _ _, PV.ls _ _ _]) ts49 (isl_c (gx rfl hc)) (gx rfl hc) (gd_some hx23 hc) rfl)) ?_
        refine o_g rfl rfl (fun hc => ov_p rfl (p_fae tf46x5 (gx rfl hc))) ?_
        refine o_g rfl rfl (fun hc => ov_p rfl (p_loade (p := .int _ _) tv3 (gx rfl hc) rfl)) ?_
        refine o_g rfl rfl (fun hc => ov_p rfl (p_eql (gx rfl hc) rfl)) ?_
        refine o_p rfl (p_picky rfl rfl rfl (fun e => keq e)) ?_
        refine o_end (fr' := [(0, .c (PV.ls _ _ _)), (2, .any), (3, AV.os _ _ _ _), (4, .c (.int _ _)), (8, .any), (24, .any), (52, .c (.bool _))]) rfl ?_
        refine e_kw ?_
        refine w_cond _ rfl (fun hb25 => ?_) (fun hb25 => ?_)
        · skip
          have h25 := cond_t (b := (cond (decide (x21.Kind = (18 : Int))) (decide (x23.N = (-1 : Int))) false)) hb25 h24
          refine w_planT [.q 0, .q 1, .q 2, .q 3, .q 4, .q 5, .q 6, .q 7, .q 8, .q 9, .q 10, .q 11, .n 12 [0], .n 13 [], .n 14 []] [(some 53, [3]), (some 54, [0]), (some 55, [4]), (some 56, [54, 55]), (some 57, [56]), (some 58, [57]), (some 59, [0]), (some 60, [4]), (some 61, [59, 60]), (some 62, [61]), (some 63, [62]), (some 64, [58, 63]), (some 65, [64]), (some 66, [53, 65]), (some 3, [66])] [0, 0, 0, 6, 14, 30, 0, 0, 192, 448, 960, 2046, 4094, 8191, 16383] (by kernel_rfl) ?_
          refine d_q rfl (qv_p rfl (p_move (v := AV.os _ _ _ _) rfl)) ?_
          refine d_q rfl (qv_p rfl (p_move (v := .c (PV.ls _ _ _)) rfl)) ?_
          refine d_q rfl (qv_p rfl (p_move (v := .c (.int _ _)) rfl)) ?_
          obtain ⟨x26, hx26, h27⟩ := bind_s h25
          refine d_q rfl (qv_p rfl (p_ia (cs := [.int _ _, .int _ _, .int _ _, .int _ _, .int _ _, .int _ _, .int _ _, .str _, .str _, .int _ _, .int _ _, .str _, PV.ls _ _ _, PV.ls _ _ _, .str _, .int _ _, .int _ _, .int _ _, .int _ _, .int _ _, .int _ _, .int _ _, .int _ _, PV.ls _ _ _]) ts49 (isl_c rfl) rfl hx26 rfl)) ?_
          refine d_q rfl (qv_p rfl (p_fae tf46x7 rfl)) ?_
          refine d_q rfl (qv_p rfl (p_loade (p := .str _) tv9 rfl rfl)) ?_
          refine d_q rfl (qv_p rfl (p_move (v := .c (PV.ls _ _ _)) rfl)) ?_
          refine d_q rfl (qv_p rfl (p_move (v := .c (.int _ _)) rfl)) ?_
          obtain ⟨x28, hx28, h29⟩ := bind_s h27
          refine d_q rfl (qv_p rfl (p_ia (cs := [.int _ _, .int _ _, .int _ _, .int _ _, .int _ _, .int _ _, .int _ _, .str _, .str _, .int _ _, .int _ _, .str _, PV.ls _ _ _, PV.ls _ _ _, .str _, .int _ _, .int _ _, .int _ _, .int _ _, .int _ _, .int _ _, .int _ _, .int _ _, PV.ls _ _ _]) ts49 (isl_c rfl) rfl hx28 rfl)) ?_
          refine d_q rfl (qv_p rfl (p_fae tf46x9 rfl)) ?_
          refine d_q rfl (qv_p rfl (p_loades (us := [.int _ _, .int _ _, .str _, PV.ls _ _ _, PV.ls _ _ _]) tv40 rfl rfl rfl)) ?_
          refine d_q rfl (qv_p rfl (p_build (cs := [.c (.int _ _), .c (.str _), .c (.int _ _), .c (.int _ _), .c (.int _ _), .c (.str _), .c (PV.ls _ _ _), .c (PV.ls _ _ _)]) tb71 rfl)) ?_
          refine d_n rfl ?_ rfl
          refine o_rows (row := rowApiPatch) (xs := ([(ApiPatch.mk (1 : Int) x26.Name (0 : Int) x28.Data)] : List ApiPatch)) (rows := [[_, _, _, _, _, _, _, _]]) (σ' := []) [0, 0, 0, 0, 0, 0, 5, 1] ts66 rfl rfl rfl (arow_cons rfl arow_nil) (ok_eq (by repeat (first | exact ok_nil | refine ok_cons rfl ?_ | refine ok_cons (dgv rfl) ?_))) rfl ?_
          refine o_rc ?_
          refine ⟨(rc_q (v := AV.os _ _ _ _) rfl rfl (qv_p rfl (p_move (v := AV.os _ _ _ _) rfl)) rc_nil), ?_⟩
          refine d_n rfl ?_ rfl
          obtain ⟨x30, hx30, h31⟩ := bind_s h29
          refine o_app (row := rowApiPatch) ts66 rfl ti66 rfl (isl_o rfl) (fun _ => rfl) hx30 ?_
          refine o_rc ?_
          refine ⟨rc_nil, ?_⟩
          refine d_n rfl ?_ rfl
          refine o_p rfl (p_assign (v := AV.os _ _ _ _) rfl) ?_
          refine o_rc ?_
          refine ⟨rc_nil, ?_⟩
          refine d_end (fr' := [(0, .c (PV.ls _ _ _)), (2, .any), (3, AV.os _ _ _ _), (4, .c (.int _ _)), (8, .any), (24, .any), (52, .c (.bool _))]) rfl ?_
          refine e_blk_n ?_
          refine e_kw ?_
          refine w_region ?_
          refine o_p rfl (p_move (v := .c (.int _ _)) rfl) ?_
          refine o_p rfl (p_add rfl rfl) ?_
          refine o_p rfl (p_assign (v := .c (.int _ _)) rfl) ?_
          refine o_end (fr' := [(0, .c (PV.ls _ _ _)), (2, .any), (3, AV.os _ _ _ _), (4, .c (.int _ _)), (8, .any), (24, .any), (52, .c (.bool _))]) rfl ?_
          exact e_l _ (Option.some.inj h31).symm (w_weak [1056] 0 rfl rfl rfl rfl ⟨(AV.le_refl _), (AV.le_refl _), (AV.le_refl _), trivial⟩ st_nil)
        · skip
          have h25 := cond_f (b := (cond (decide (x21.Kind = (18 : Int))) (decide (x23.N = (-1 : Int))) false)) hb25 h24
          refine w_skip ?_
          refine e_blk_n ?_
          refine e_kw ?_
          refine w_region ?_
          refine o_p rfl (p_move (v := .c (.int _ _)) rfl) ?_
          refine o_p rfl (p_add rfl rfl) ?_
          refine o_p rfl (p_assign (v := .c (.int _ _)) rfl) ?_
          refine o_end (fr' := [(0, .c (PV.ls _ _ _)), (2, .any), (3, AV.os _ _ _ _), (4, .c (.int _ _)), (8, .any), (24, .any), (52, .c (.bool _))]) rfl ?_
          exact e_l _ (Option.some.inj h25).symm (w_weak [0] 0 rfl rfl rfl rfl ⟨(AV.le_refl _), (AV.le_refl _), (AV.le_refl _), trivial⟩ st_nil)
    · skip
      have h5 := cond_f (b := (decide (s4.2 < ((p0es).length : Int)))) hb5 hs4
      refine w_exit ?_
      refine e_seq_x ?_
      refine e_seq_x ?_
      refine e_blk_h ?_
      have h32 := un_out h5 ho4
      exact e_j _ (Option.some.inj h32).symm (w_weak [0] 0 rfl rfl rfl rfl ⟨(AV.le_refl _), trivial⟩ st_nil)
  · skip
    intro j3 hj33
    subst hj33
    refine e_kw ?_
    refine w_seqw ?_
    refine w_region ?_
    refine o_p rfl (p_move (v := AV.os _ _ _ _) rfl) ?_
    refine o_p rfl (p_assign (v := AV.os _ _ _ _) rfl) ?_
    refine o_end (fr' := [(0, .any), (2, AV.os _ _ _ _), (3, AV.os _ _ _ _), (4, .any), (8, .any), (24, .any), (52, .any)]) rfl ?_
    refine e_kw ?_
    refine w_ret ?_
    have he34 := Option.some.inj h2
    subst he34
    refine e_ret (rs' := [.tmp 2]) rfl ?_
    refine r_tmp (v := AV.os _ _ _ _) rfl ?_
    refine r_nil ?_
    exact fin_gen [0] rfl rfl rfl (AV.le_refl _) st_nil
noncomputable def diverge_Admits_l1 (p0es : (List ApiEvent)) (s4 : ((List ApiAdmit) × Int)) : Option (Step ((List ApiAdmit) × Int) (List ApiAdmit)) :=
  cond (decide (s4.2 < ((p0es).length : Int))) ((idx p0es s4.2).bind fun (x6 : ApiEvent) => cond (decide (x6.Kind = (27 : Int))) ((value_Copy x6.Data).bind fun (x9 : ApiValue) => (app 112 s4.1 ([(ApiAdmit.mk x6.Key x6.Name x9)] : List ApiAdmit)).bind fun (x11 : (List ApiAdmit)) => some (Step.next (x11, (IntKind.wrap .i64 (s4.2 + (1 : Int)))))) (some (Step.next (s4.1, (IntKind.wrap .i64 (s4.2 + (1 : Int))))))) (some (Step.out s4.1))
noncomputable def diverge_Admits (p0es : (List ApiEvent)) : Option (List ApiAdmit) :=
  ((loopO (diverge_Admits_l1 p0es) ((([] : (List ApiAdmit)), (0 : Int)))) : Option (List ApiAdmit)).bind fun (x1 : (List ApiAdmit)) => (some x1)
theorem w_diverge_Admits {p0es : (List ApiEvent)} {res : (List ApiAdmit)} (h : diverge_Admits p0es = some res) : ACalls Try.prog 40 [.c (PV.ls 24 rowApiEvent p0es)] [] (AV.os 0 7 rowApiAdmit res) [] := by
  unfold diverge_Admits at h
  refine acalls (fn := Try.f40) [0, 2, 3, 5, 6, 7, 8, 9, 14] (by kernel_rfl) Try.func40 rfl (by kernel_rfl) (by kernel_rfl) ?_
  refine w_seqw ?_
  refine w_region ?_
  refine o_p rfl (p_assign (v := .nil) rfl) ?_
  refine o_end (fr' := [(0, .c (PV.ls _ _ _)), (2, .nil), (3, .any), (5, .any), (6, .any), (7, .any), (8, .any), (9, .any), (14, .any)]) rfl ?_
  refine e_kw ?_
  refine w_seqw ?_
  refine w_region ?_
  refine o_p rfl (p_assign (v := .nil) rfl) ?_
  refine o_end (fr' := [(0, .c (PV.ls _ _ _)), (2, .nil), (3, .nil), (5, .any), (6, .any), (7, .any), (8, .any), (9, .any), (14, .any)]) rfl ?_
  refine e_kw ?_
  refine w_seqw ?_
  refine w_seqw ?_
  refine w_region ?_
  refine o_p rfl (p_move (v := .c (PV.ls _ _ _)) rfl) ?_
  refine o_p rfl (p_len ti49 (isl_c rfl)) ?_
  refine o_p rfl (p_move (v := .c (.int _ _)) rfl) ?_
  refine o_end (fr' := [(0, .c (PV.ls _ _ _)), (2, .nil), (3, .nil), (5, .any), (6, .c (PV.ls _ _ _)), (7, .c (.int _ _)), (8, .c (.int _ _)), (9, .any), (14, .any)]) rfl ?_
  refine e_kw ?_
  obtain ⟨x1, hx1, h2⟩ := bind_s h
  refine w_jtail cl_kw (fun j3 => x1 = j3) (fun (j3 : (List ApiAdmit)) => ([(3, AV.os 0 7 rowApiAdmit j3)] : Fr)) (fun (j3 : (List ApiAdmit)) => ([] : St)) ?_ ?_
  · skip
    refine w_block ?_
    refine w_loopo _ (fun (s4 : ((List ApiAdmit) × Int)) => ([(3, AV.os 0 7 rowApiAdmit s4.1), (6, .c (PV.ls 24 rowApiEvent p0es)), (7, .c (.int .i64 ((p0es).length : Int))), (8, .c (.int .i64 s4.2))] : Fr)) (fun (s4 : ((List ApiAdmit) × Int)) => ([] : St)) hx1 (w_weak [1000000] 0 rfl rfl rfl rfl ⟨(le_nos rfl), (AV.le_refl _), (AV.le_refl _), (AV.le_refl _), trivial⟩ st_nil) ?_
    intro s4 st4 hs4 ho4
    unfold diverge_Admits_l1 at hs4
    refine w_seqw ?_
    refine w_region ?_
    refine o_p rfl (p_lss rfl rfl) ?_
    refine o_end (fr' := [(0, .any), (2, .any), (3, AV.os _ _ _ _), (5, .any), (6, .c (PV.ls _ _ _)), (7, .c (.int _ _)), (8, .c (.int _ _)), (9, .c (.bool _)), (14, .any)]) rfl ?_
    refine e_kw ?_
    refine w_seqw ?_
    refine w_cond _ rfl (fun hb5 => ?_) (fun hb5 => ?_)
    · skip
      have h5 := cond_t (b := (decide (s4.2 < ((p0es).length : Int)))) hb5 hs4
      refine w_skip ?_
      refine e_kw ?_
      refine w_seqw ?_
      refine w_block ?_
      refine w_seqw ?_
      refine w_region ?_
      obtain ⟨x6, hx6, h7⟩ := bind_s h5
      refine o_p rfl (p_ia (cs := [.int _ _, .int _ _, .int _ _, .int _ _, .int _ _, .int _ _, .int _ _, .str _, .str _, .int _ _, .int _ _, .str _, PV.ls _ _ _, PV.ls _ _ _, .str _, .int _ _, .int _ _, .int _ _, .int _ _, .int _ _, .int _ _, .int _ _, .int _ _, PV.ls _ _ _]) ts49 (isl_c rfl) rfl hx6 rfl) ?_
      refine o_p rfl (p_loades (us := [.int _ _, .int _ _, .int _ _, .int _ _, .int _ _, .int _ _, .int _ _, .str _, .str _, .int _ _, .int _ _, .str _, PV.ls _ _ _, PV.ls _ _ _, .str _, .int _ _, .int _ _, .int _ _, .int _ _, .int _ _, .int _ _, .int _ _, .int _ _, PV.ls _ _ _]) tv46 rfl rfl rfl) ?_
      refine o_alloc (n := 0) (cs := [.c (.int _ _), .c (.int _ _), .c (.int _ _), .c (.int _ _), .c (.int _ _), .c (.int _ _), .c (.int _ _), .c (.str _), .c (.str _), .c (.int _ _), .c (.int _ _), .c (.str _), .nil, .nil, .c (.str _), .c (.int _ _), .c (.int _ _), .c (.int _ _), .c (.int _ _), .c (.int _ _), .c (.int _ _), .c (.int _ _), .c (.int _ _), .nil]) (σ' := [[.c (.int _ _), .c (.int _ _), .c (.int _ _), .c (.int _ _), .c (.int _ _), .c (.int _ _), .c (.int _ _), .c (.str _), .c (.str _), .c (.int _ _), .c (.int _ _), .c (.str _), .nil, .nil, .c (.str _), .c (.int _ _), .c (.int _ _), .c (.int _ _), .c (.int _ _), .c (.int _ _), .c (.int _ _), .c (.int _ _), .c (.int _ _), .nil]]) tz46 rfl rfl rfl ?_
      refine o_store (v := .agg [.c (.int _ _), .c (.int _ _), .c (.int _ _), .c (.int _ _), .c (.int _ _), .c (.int _ _), .c (.int _ _), .c (.str _), .c (.str _), .c (.int _ _), .c (.int _ _), .c (.str _), .c (PV.ls _ _ _), .c (PV.ls _ _ _), .c (.str _), .c (.int _ _), .c (.int _ _), .c (.int _ _), .c (.int _ _), .c (.int _ _), .c (.int _ _), .c (.int _ _), .c (.int _ _), .c (PV.ls _ _ _)]) (us := [.c (.int _ _), .c (.int _ _), .c (.int _ _), .c (.int _ _), .c (.int _ _), .c (.int _ _), .c (.int _ _), .c (.str _), .c (.str _), .c (.int _ _), .c (.int _ _), .c (.str _), .c (PV.ls _ _ _), .c (PV.ls _ _ _), .c (.str _), .c (.int _ _), .c (.int _ _), .c (.int _ _), .c (.int _ _), .c (.int _ _), .c (.int _ _), .c (.int _ _), .c (.int _ _), .c (PV.ls _ _ _)]) (cs := [.c (.int _ _), .c (.int _ _), .c (.int _ _), .c (.int _ _), .c (.int _ _), .c (.int _ _), .c (.int _ _), .c (.str _), .c (.str _), .c (.int _ _), .c (.int _ _), .c (.str _), .nil, .nil, .c (.str _), .c (.int _ _), .c (.int _ _), .c (.int _ _), .c (.int _ _), .c (.int _ _), .c (.int _ _), .c (.int _ _), .c (.int _ _), .nil]) (σ' := [[.c (.int _ _), .c (.int _ _), .c (.int _ _), .c (.int _ _), .c (.int _ _), .c (.int _ _), .c (.int _ _), .c (.str _), .c (.str _), .c (.int _ _), .c (.int _ _), .c (.str _), .c (PV.ls _ _ _), .c (PV.ls _ _ _), .c (.str _), .c (.int _ _), .c (.int _ _), .c (.int _ _), .c (.int _ _), .c (.int _ _), .c (.int _ _), .c (.int _ _), .c (.int _ _), .c (PV.ls _ _ _)]]) rfl tv46 rfl rfl rfl rfl rfl rfl rfl rfl ?_
      refine o_end (fr' := [(0, .any), (2, .any), (3, AV.os _ _ _ _), (5, .box 0 0), (6, .c (PV.ls _ _ _)), (7, .c (.int _ _)), (8, .c (.int _ _)), (9, .c (.bool _)), (14, .any)]) rfl ?_
      refine e_kw ?_
      refine w_seqw ?_
      refine w_region ?_
      refine o_p rfl (p_fa tf46x1 rfl) ?_
      refine o_p rfl (p_load (v := .c (.int _ _)) tv3 rfl rfl rfl) ?_
      refine o_p rfl (p_eql rfl rfl) ?_
      refine o_end (fr' := [(0, .any), (2, .any), (3, AV.os _ _ _ _), (5, .box 0 0), (6, .c (PV.ls _ _ _)), (7, .c (.int _ _)), (8, .c (.int _ _)), (9, .c (.bool _)), (14, .c (.bool _))]) rfl ?_
      refine e_kw ?_
      refine w_cond _ rfl (fun hb8 => ?_) (fun hb8 => ?_)
      · skip
        have h8 := cond_t (b := (decide (x6.Kind = (27 : Int)))) hb8 h7
        refine w_planT [.q 0, .q 1, .q 2, .q 3, .q 4, .q 5, .q 6, .q 7, .q 8, .n 9 [0], .n 10 [], .n 11 []] [(some 15, [3]), (some 16, [5]), (some 17, [16]), (some 18, [5]), (some 19, [18]), (some 20, [5]), (some 21, [20]), (some 22, [21]), (some 23, [17, 19, 22]), (some 24, [23]), (some 25, [15, 24]), (some 3, [25])] [0, 0, 2, 0, 8, 0, 32, 96, 254, 510, 1023, 2047] (by kernel_rfl) ?_
        refine d_q rfl (qv_p rfl (p_move (v := AV.os _ _ _ _) rfl)) ?_
        refine d_q rfl (qv_p rfl (p_fa tf46x8 rfl)) ?_
        refine d_q rfl (qv_p rfl (p_load (v := .c (.str _)) tv9 rfl rfl rfl)) ?_
        refine d_q rfl (qv_p rfl (p_fa tf46x7 rfl)) ?_
        refine d_q rfl (qv_p rfl (p_load (v := .c (.str _)) tv9 rfl rfl rfl)) ?_
        refine d_q rfl (qv_p rfl (p_fa tf46x9 rfl)) ?_
        refine d_q rfl (qv_p rfl (p_loads (us := [.c (.int _ _), .c (.int _ _), .c (.str _), .c (PV.ls _ _ _), .c (PV.ls _ _ _)]) tv40 rfl rfl rfl rfl)) ?_
        obtain ⟨x9, hx9, h10⟩ := bind_s h8
        refine d_q rfl (qv_call (v := .agg [.c (.int _ _), .c (.int _ _), .c (.str _), .c (PV.ls _ _ _), .c (PV.ls _ _ _)]) rfl (w_value_Copy hx9) ⟨(le_aggc rfl ⟨rfl, rfl, rfl, rfl, rfl, trivial⟩), trivial⟩ rfl) ?_
        refine d_q rfl (qv_p rfl (p_build (cs := [.c (.str _), .c (.str _), .c (.int _ _), .c (.int _ _), .c (.str _), .c (PV.ls _ _ _), .c (PV.ls _ _ _)]) tb74 rfl)) ?_
        refine d_n rfl ?_ rfl
        refine o_rows (row := rowApiAdmit) (xs := ([(ApiAdmit.mk x6.Key x6.Name x9)] : List ApiAdmit)) (rows := [[_, _, _, _, _, _, _]]) (σ' := [[.c (.int _ _), .c (.int _ _), .c (.int _ _), .c (.int _ _), .c (.int _ _), .c (.int _ _), .c (.int _ _), .c (.str _), .c (.str _), .c (.int _ _), .c (.int _ _), .c (.str _), .c (PV.ls _ _ _), .c (PV.ls _ _ _), .c (.str _), .c (.int _ _), .c (.int _ _), .c (.int _ _), .c (.int _ _), .c (.int _ _), .c (.int _ _), .c (.int _ _), .c (.int _ _), .c (PV.ls _ _ _)]]) [0, 0, 0, 0, 0, 5, 1] ts68 rfl rfl rfl (arow_cons rfl arow_nil) rfl rfl ?_
        refine o_rc ?_
        refine ⟨(rc_q (v := AV.os _ _ _ _) rfl rfl (qv_p rfl (p_move (v := AV.os _ _ _ _) rfl)) rc_nil), ?_⟩
        refine d_n rfl ?_ rfl
        obtain ⟨x11, hx11, h12⟩ := bind_s h10
        refine o_app (row := rowApiAdmit) ts68 rfl ti68 rfl (isl_o rfl) (fun _ => rfl) hx11 ?_
        refine o_rc ?_
        refine ⟨rc_nil, ?_⟩
        refine d_n rfl ?_ rfl
        refine o_p rfl (p_assign (v := AV.os _ _ _ _) rfl) ?_
        refine o_rc ?_
        refine ⟨rc_nil, ?_⟩
        refine d_end (fr' := [(0, .any), (2, .any), (3, AV.os _ _ _ _), (5, .box 0 0), (6, .c (PV.ls _ _ _)), (7, .c (.int _ _)), (8, .c (.int _ _)), (9, .c (.bool _)), (14, .c (.bool _))]) rfl ?_
        refine e_blk_n ?_
        refine e_kw ?_
        refine w_region ?_
        refine o_p rfl (p_add rfl rfl) ?_
        refine o_p rfl (p_move (v := .c (.int _ _)) rfl) ?_
        refine o_end (fr' := [(0, .any), (2, .any), (3, AV.os _ _ _ _), (5, .box 0 0), (6, .c (PV.ls _ _ _)), (7, .c (.int _ _)), (8, .c (.int _ _)), (9, .c (.bool _)), (14, .c (.bool _))]) rfl ?_
        exact e_l _ (Option.some.inj h12).symm (w_weak [400] 0 rfl rfl rfl rfl ⟨(AV.le_refl _), (AV.le_refl _), (AV.le_refl _), (AV.le_refl _), trivial⟩ st_nil)
      · skip
        have h8 := cond_f (b := (decide (x6.Kind = (27 : Int)))) hb8 h7
        refine w_skip ?_
        refine e_blk_n ?_
        refine e_kw ?_
        refine w_region ?_
        refine o_p rfl (p_add rfl rfl) ?_
        refine o_p rfl (p_move (v := .c (.int _ _)) rfl) ?_
        refine o_end (fr' := [(0, .any), (2, .any), (3, AV.os _ _ _ _), (5, .box 0 0), (6, .c (PV.ls _ _ _)), (7, .c (.int _ _)), (8, .c (.int _ _)), (9, .c (.bool _)), (14, .c (.bool _))]) rfl ?_
        exact e_l _ (Option.some.inj h8).symm (w_weak [0] 0 rfl rfl rfl rfl ⟨(AV.le_refl _), (AV.le_refl _), (AV.le_refl _), (AV.le_refl _), trivial⟩ st_nil)
    · skip
      have h5 := cond_f (b := (decide (s4.2 < ((p0es).length : Int)))) hb5 hs4
      refine w_exit ?_
      refine e_seq_x ?_
      refine e_seq_x ?_
      refine e_blk_h ?_
      have h13 := un_out h5 ho4
      exact e_j _ (Option.some.inj h13).symm (w_weak [0] 0 rfl rfl rfl rfl ⟨(AV.le_refl _), trivial⟩ st_nil)
  · skip
    intro j3 hj14
    subst hj14
    refine e_kw ?_
    refine w_seqw ?_
    refine w_region ?_
    refine o_p rfl (p_move (v := AV.os _ _ _ _) rfl) ?_
    refine o_p rfl (p_assign (v := AV.os _ _ _ _) rfl) ?_
    refine o_end (fr' := [(0, .any), (2, AV.os _ _ _ _), (3, AV.os _ _ _ _), (5, .any), (6, .any), (7, .any), (8, .any), (9, .any), (14, .any)]) rfl ?_
    refine e_kw ?_
    refine w_ret ?_
    have he15 := Option.some.inj h2
    subst he15
    refine e_ret (rs' := [.tmp 2]) rfl ?_
    refine r_tmp (v := AV.os _ _ _ _) rfl ?_
    refine r_nil ?_
    exact fin_gen [0] rfl rfl rfl (AV.le_refl _) st_nil
end Go.Proofs.Ytnhchphmmdgphaa

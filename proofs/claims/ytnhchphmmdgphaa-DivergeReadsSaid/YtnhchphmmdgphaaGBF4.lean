import Derived.Test.YtnhchphmmdgphaaGBTy
import Derived.Test.YtnhchphmmdgphaaGBF0
import Derived.Test.YtnhchphmmdgphaaGBF1
import Derived.Test.YtnhchphmmdgphaaGBF3
namespace Go.Proofs.Ytnhchphmmdgphaa
open Go Abs
set_option maxRecDepth 100000
set_option linter.unusedVariables false
set_option linter.unusedSimpArgs false
noncomputable def ref01xReader_count_l1 (p100v : Ref01Reader) (s4 : Int) : Option (Step Int (Fl (Int × Int) Unit)) :=
  cond (decide (s4 ≤ (10 : Int))) (cond (decide (((p100v.Rest).length : Int) < s4)) (some (Step.out (Fl.done ((0 : Int), (4 : Int))))) ((idx p100v.Rest (IntKind.wrap .i64 (s4 - (1 : Int)))).bind fun (x10 : UInt8) => cond (decide (((x10).toNat : Int) < (128 : Int))) (cond (cond (cond (decide ((1 : Int) < s4)) (decide (((x10).toNat : Int) = (0 : Int))) false) true (cond (decide (s4 = (10 : Int))) (decide ((1 : Int) < ((x10).toNat : Int))) false)) (some (Step.out (Fl.done ((0 : Int), (3 : Int))))) (some (Step.out (Fl.done (s4, (0 : Int)))))) (some (Step.next (IntKind.wrap .i64 (s4 + (1 : Int))))))) (some (Step.out (Fl.go ())))
noncomputable def ref01xReader_count (p100v : Ref01Reader) : Option (Int × Int) :=
  ((loopO (ref01xReader_count_l1 p100v) ((1 : Int))) : Option (Fl (Int × Int) Unit)).bind fun (x1 : (Fl (Int × Int) Unit)) => Fl.next x1 (fun (j3 : Unit) => (some ((0 : Int), (3 : Int))))
theorem w_ref01xReader_count {p100v : Ref01Reader} {res : (Int × Int)} (h : ref01xReader_count p100v = some res) : ACalls Try.prog 60 [.box 0 0] [AV.cs (rowRef01Reader p100v)] (.tup [.c (.int .i64 res.1), .c (.int .i64 res.2)]) [AV.cs (rowRef01Reader p100v)] := by
  unfold ref01xReader_count at h
  refine acalls (fn := Try.f60) [0, 2, 3, 4, 5, 7, 16, 26, 40] (by kernel_rfl) Try.func60 rfl (by kernel_rfl) (by kernel_rfl) ?_
  refine w_seqw ?_
  refine w_region ?_
  refine o_p rfl (p_assign (v := .c (.int _ _)) rfl) ?_
  refine o_p rfl (p_assign (v := .c (.int _ _)) rfl) ?_
  refine o_end (fr' := [(0, .box 0 0), (2, .c (.int _ _)), (3, .c (.int _ _)), (4, .any), (5, .any), (7, .any), (16, .any), (26, .any), (40, .any)]) rfl ?_
  refine e_kw ?_
  refine w_seqw ?_
  refine w_seqw ?_
  refine w_region ?_
  refine o_p rfl (p_assign (v := .c (.int _ _)) rfl) ?_
  refine o_end (fr' := [(0, .box 0 0), (2, .c (.int _ _)), (3, .c (.int _ _)), (4, .c (.int _ _)), (5, .any), (7, .any), (16, .any), (26, .any), (40, .any)]) rfl ?_
  refine e_kw ?_
  obtain ⟨x1, hx1, h2⟩ := bind_s h
  refine w_jtail cl_kw (fun j3 => x1 = Fl.go j3) (fun (j3 : Unit) => ([] : Fr)) (fun (j3 : Unit) => ([[.c (.bool p100v.Made), .c (PV.ls 1 brow p100v.Rest), .c (.int .i64 p100v.Bad)]] : St)) ?_ ?_
  · skip
    refine w_block ?_
    refine w_loopo _ (fun (s4 : Int) => ([(0, .box 0 0), (4, .c (.int .i64 s4))] : Fr)) (fun (s4 : Int) => ([[.c (.bool p100v.Made), .c (PV.ls 1 brow p100v.Rest), .c (.int .i64 p100v.Bad)]] : St)) hx1 (w_weak [] 1 rfl rfl rfl rfl ⟨(AV.le_refl _), (AV.le_refl _), trivial⟩ (st_r rfl st_nil)) ?_
    intro s4 st4 hs4 ho4
    unfold ref01xReader_count_l1 at hs4
    refine w_seqw ?_
    refine w_seqw ?_
    refine w_region ?_
    refine o_p rfl (p_move (v := .c (.int _ _)) rfl) ?_
    refine o_p rfl (p_leq rfl rfl) ?_
    refine o_end (fr' := [(0, .box 0 0), (2, .any), (3, .any), (4, .c (.int _ _)), (5, .any), (7, .c (.bool _)), (16, .any), (26, .any), (40, .any)]) rfl ?_
    refine e_kw ?_
    refine w_cond _ rfl (fun hb5 => ?_) (fun hb5 => ?_)
    · skip
      have h5 := cond_t (b := (decide (s4 ≤ (10 : Int)))) hb5 hs4
      refine w_skip ?_
      refine e_kw ?_
      refine w_seqw ?_
      refine w_block ?_
      refine w_seqw ?_
      refine w_seqw ?_
      refine w_region ?_
      refine o_p rfl (p_move (v := .c (.int _ _)) rfl) ?_
      refine o_p rfl (p_move (v := .box 0 0) rfl) ?_
      refine o_p rfl (p_nc rfl) ?_
      refine o_p rfl (p_fa tf90x1 rfl) ?_
      refine o_p rfl (p_load (v := .c (PV.ls _ _ _)) tv22 rfl rfl rfl) ?_
      refine o_p rfl (p_len ti22 (isl_c rfl)) ?_
      refine o_p rfl (p_gtr rfl rfl) ?_
      refine o_end (fr' := [(0, .box 0 0), (2, .any), (3, .any), (4, .c (.int _ _)), (5, .any), (7, .c (.bool _)), (16, .c (.bool _)), (26, .any), (40, .any)]) rfl ?_
      refine e_kw ?_
      refine w_cond _ rfl (fun hb6 => ?_) (fun hb6 => ?_)
      · skip
        have h6 := cond_t (b := (decide (((p100v.Rest).length : Int) < s4))) hb6 h5
        refine w_seqw ?_
        refine w_region ?_
        refine o_p rfl (p_assign (v := .c (.int _ _)) rfl) ?_
        refine o_p rfl (p_assign (v := .c (.int _ _)) rfl) ?_
        refine o_end (fr' := [(0, .box 0 0), (2, .c (.int _ _)), (3, .c (.int _ _)), (4, .c (.int _ _)), (5, .any), (7, .c (.bool _)), (16, .c (.bool _)), (26, .any), (40, .any)]) rfl ?_
        refine e_kw ?_
        refine w_ret ?_
        refine e_seq_r ?_
        refine e_blk_r ?_
        refine e_seq_r ?_
        refine e_seq_r ?_
        refine e_blk_r ?_
        refine e_seq_r ?_
        refine e_seq_r ?_
        have h7 := un_out h6 ho4
        have h8 := un_done h7 h2
        have he9 := Option.some.inj h8
        subst he9
        refine e_ret (rs' := [.tmp 2, .tmp 3]) rfl ?_
        refine r_tmp (v := .c (.int _ _)) rfl ?_
        refine r_tmp (v := .c (.int _ _)) rfl ?_
        refine r_nil ?_
        exact fin_gen [] rfl rfl rfl (le_tupp rfl ⟨(AV.le_refl _), (AV.le_refl _), trivial⟩) (st_r rfl st_nil)
      · skip
        have h6 := cond_f (b := (decide (((p100v.Rest).length : Int) < s4))) hb6 h5
        refine w_skip ?_
        refine e_kw ?_
        refine w_seqw ?_
        refine w_region ?_
        refine o_p rfl (p_move (v := .box 0 0) rfl) ?_
        refine o_p rfl (p_nc rfl) ?_
        refine o_p rfl (p_fa tf90x1 rfl) ?_
        refine o_p rfl (p_load (v := .c (PV.ls _ _ _)) tv22 rfl rfl rfl) ?_
        refine o_p rfl (p_move (v := .c (.int _ _)) rfl) ?_
        refine o_p rfl (p_sub rfl rfl) ?_
        obtain ⟨x10, hx10, h11⟩ := bind_s h6
        refine o_p rfl (p_ia (cs := [.int _ _]) ts22 (isl_c rfl) rfl hx10 rfl) ?_
        refine o_p rfl (p_loade (p := .int _ _) tv5 rfl rfl) ?_
        refine o_p rfl (p_assign (v := .c (.int _ _)) rfl) ?_
        refine o_end (fr' := [(0, .box 0 0), (2, .any), (3, .any), (4, .c (.int _ _)), (5, .c (.int _ _)), (7, .c (.bool _)), (16, .c (.bool _)), (26, .any), (40, .any)]) rfl ?_
        refine e_kw ?_
        refine w_seqw ?_
        refine w_region ?_
        refine o_p rfl (p_move (v := .c (.int _ _)) rfl) ?_
        refine o_p rfl (p_lss rfl rfl) ?_
        refine o_end (fr' := [(0, .box 0 0), (2, .any), (3, .any), (4, .c (.int _ _)), (5, .c (.int _ _)), (7, .c (.bool _)), (16, .c (.bool _)), (26, .c (.bool _)), (40, .any)]) rfl ?_
        refine e_kw ?_
        refine w_cond _ rfl (fun hb12 => ?_) (fun hb12 => ?_)
        · skip
          have h12 := cond_t (b := (decide (((x10).toNat : Int) < (128 : Int)))) hb12 h11
          refine w_seqw ?_
          refine w_seqw ?_
          refine w_region ?_
          refine o_p rfl (p_move (v := .c (.int _ _)) rfl) ?_
          refine o_p rfl (p_gtr rfl rfl) ?_
          refine o_p rfl (p_move (v := .c (.bool _)) rfl) ?_
          refine o_g rfl rfl (fun hc => ov_p rfl (p_move (v := .c (.int _ _)) rfl)) ?_
          refine o_g rfl rfl (fun hc => ov_p rfl (p_eql (gx rfl hc) rfl)) ?_
          refine o_p rfl (p_picky rfl rfl rfl (fun e => keq e)) ?_
          refine o_p rfl (p_move (v := .c (.bool _)) rfl) ?_
          refine o_g rfl rfl (fun hc => ov_p rfl (p_move (v := .c (.int _ _)) rfl)) ?_
          refine o_g rfl rfl (fun hc => ov_p rfl (p_eql (gx rfl hc) rfl)) ?_
          refine o_g rfl rfl (fun hc => ov_p rfl (p_move (v := .c (.bool _)) (gx rfl hc))) ?_
          refine o_gg rfl rfl (fun hc => ov_p rfl (p_move (v := .c (.int _ _)) rfl)) ?_
          refine o_gg rfl rfl (fun hc => ov_p rfl (p_gtr (gx rfl hc) rfl)) ?_
          refine o_g rfl rfl (fun hc => ov_p rfl (p_picky (gx rfl hc) rfl rfl (fun e => band hc (keq e)))) ?_
          refine o_p rfl (p_pickz rfl rfl rfl (fun e => keq e)) ?_
          refine o_end (fr' := [(0, .box 0 0), (2, .any), (3, .any), (4, .c (.int _ _)), (5, .c (.int _ _)), (7, .c (.bool _)), (16, .c (.bool _)), (26, .c (.bool _)), (40, .c (.bool _))]) rfl ?_
          refine e_kw ?_
          refine w_cond _ rfl (fun hb13 => ?_) (fun hb13 => ?_)
          · skip
            have h13 := cond_t (b := (cond (cond (decide ((1 : Int) < s4)) (decide (((x10).toNat : Int) = (0 : Int))) false) true (cond (decide (s4 = (10 : Int))) (decide ((1 : Int) < ((x10).toNat : Int))) false))) hb13 h12
            refine w_seqw ?_
            refine w_region ?_
            refine o_p rfl (p_assign (v := .c (.int _ _)) rfl) ?_
            refine o_p rfl (p_assign (v := .c (.int _ _)) rfl) ?_
            refine o_end (fr' := [(0, .box 0 0), (2, .c (.int _ _)), (3, .c (.int _ _)), (4, .c (.int _ _)), (5, .c (.int _ _)), (7, .c (.bool _)), (16, .c (.bool _)), (26, .c (.bool _)), (40, .c (.bool _))]) rfl ?_
            refine e_kw ?_
            refine w_ret ?_
            refine e_seq_r ?_
            refine e_blk_r ?_
            refine e_seq_r ?_
            refine e_seq_r ?_
            refine e_blk_r ?_
            refine e_seq_r ?_
            refine e_seq_r ?_
            have h14 := un_out h13 ho4
            have h15 := un_done h14 h2
            have he16 := Option.some.inj h15
            subst he16
            refine e_ret (rs' := [.tmp 2, .tmp 3]) rfl ?_
            refine r_tmp (v := .c (.int _ _)) rfl ?_
            refine r_tmp (v := .c (.int _ _)) rfl ?_
            refine r_nil ?_
            exact fin_gen [] rfl rfl rfl (le_tupp rfl ⟨(AV.le_refl _), (AV.le_refl _), trivial⟩) (st_r rfl st_nil)
          · skip
            have h13 := cond_f (b := (cond (cond (decide ((1 : Int) < s4)) (decide (((x10).toNat : Int) = (0 : Int))) false) true (cond (decide (s4 = (10 : Int))) (decide ((1 : Int) < ((x10).toNat : Int))) false))) hb13 h12
            refine w_skip ?_
            refine e_kw ?_
            refine w_seqw ?_
            refine w_region ?_
            refine o_p rfl (p_move (v := .c (.int _ _)) rfl) ?_
            refine o_p rfl (p_assign (v := .c (.int _ _)) rfl) ?_
            refine o_p rfl (p_assign (v := .c (.int _ _)) rfl) ?_
            refine o_end (fr' := [(0, .box 0 0), (2, .c (.int _ _)), (3, .c (.int _ _)), (4, .c (.int _ _)), (5, .c (.int _ _)), (7, .c (.bool _)), (16, .c (.bool _)), (26, .c (.bool _)), (40, .c (.bool _))]) rfl ?_
            refine e_kw ?_
            refine w_ret ?_
            refine e_blk_r ?_
            refine e_seq_r ?_
            refine e_seq_r ?_
            refine e_blk_r ?_
            refine e_seq_r ?_
            refine e_seq_r ?_
            have h17 := un_out h13 ho4
            have h18 := un_done h17 h2
            have he19 := Option.some.inj h18
            subst he19
            refine e_ret (rs' := [.tmp 2, .tmp 3]) rfl ?_
            refine r_tmp (v := .c (.int _ _)) rfl ?_
            refine r_tmp (v := .c (.int _ _)) rfl ?_
            refine r_nil ?_
            exact fin_gen [] rfl rfl rfl (le_tupp rfl ⟨(AV.le_refl _), (AV.le_refl _), trivial⟩) (st_r rfl st_nil)
        · skip
          have h12 := cond_f (b := (decide (((x10).toNat : Int) < (128 : Int)))) hb12 h11
          refine w_skip ?_
          refine e_blk_n ?_
          refine e_kw ?_
          refine w_region ?_
          refine o_p rfl (p_move (v := .c (.int _ _)) rfl) ?_
          refine o_p rfl (p_add rfl rfl) ?_
          refine o_p rfl (p_assign (v := .c (.int _ _)) rfl) ?_
          refine o_end (fr' := [(0, .box 0 0), (2, .any), (3, .any), (4, .c (.int _ _)), (5, .c (.int _ _)), (7, .c (.bool _)), (16, .c (.bool _)), (26, .c (.bool _)), (40, .any)]) rfl ?_
          exact e_l _ (Option.some.inj h12).symm (w_weak [] 1 rfl rfl rfl rfl ⟨(AV.le_refl _), (AV.le_refl _), trivial⟩ (st_r rfl st_nil))
    · skip
      have h5 := cond_f (b := (decide (s4 ≤ (10 : Int)))) hb5 hs4
      refine w_exit ?_
      refine e_seq_x ?_
      refine e_seq_x ?_
      refine e_blk_h ?_
      have h20 := un_out h5 ho4
      exact e_j _ (Option.some.inj h20).symm (w_weak [] 1 rfl rfl rfl rfl trivial (st_r rfl st_nil))
  · skip
    intro j3 hj21
    have h21 := un_go hj21 h2
    refine e_kw ?_
    refine w_seqw ?_
    refine w_region ?_
    refine o_p rfl (p_assign (v := .c (.int _ _)) rfl) ?_
    refine o_p rfl (p_assign (v := .c (.int _ _)) rfl) ?_
    refine o_end (fr' := [(0, .any), (2, .c (.int _ _)), (3, .c (.int _ _)), (4, .any), (5, .any), (7, .any), (16, .any), (26, .any), (40, .any)]) rfl ?_
    refine e_kw ?_
    refine w_ret ?_
    have he22 := Option.some.inj h21
    subst he22
    refine e_ret (rs' := [.tmp 2, .tmp 3]) rfl ?_
    refine r_tmp (v := .c (.int _ _)) rfl ?_
    refine r_tmp (v := .c (.int _ _)) rfl ?_
    refine r_nil ?_
    exact fin_gen [] rfl rfl rfl (le_tupp rfl ⟨(AV.le_refl _), (AV.le_refl _), trivial⟩) (st_r rfl st_nil)
noncomputable def ref01xReader_set (p1e : Int) (p100v : Ref01Reader) : Option Ref01Reader :=
  some (Ref01Reader.mk p100v.Made ([] : (List UInt8)) p1e)
theorem w_ref01xReader_set {p1e : Int} {p100v : Ref01Reader} {res : Ref01Reader} (h : ref01xReader_set p1e p100v = some res) : ACalls Try.prog 61 [.box 0 0, .c (.int .i64 p1e)] [AV.cs (rowRef01Reader p100v)] (.any) [AV.cs (rowRef01Reader res)] := by
  unfold ref01xReader_set at h
  refine acalls (fn := Try.f61) [0, 1] (by kernel_rfl) Try.func61 rfl (by kernel_rfl) (by kernel_rfl) ?_
  refine w_seqw ?_
  refine w_region ?_
  refine o_p rfl (p_move (v := .box 0 0) rfl) ?_
  refine o_p rfl (p_move (v := .c (.int _ _)) rfl) ?_
  refine o_p rfl (p_nc rfl) ?_
  refine o_p rfl (p_fa tf90x2 rfl) ?_
  refine o_store (v := .c (.int _ _)) (us := [.c (.int _ _)]) (cs := [.c (.bool _), .c (PV.ls _ _ _), .c (.int _ _)]) (σ' := [[.c (.bool _), .c (PV.ls _ _ _), .c (.int _ _)]]) rfl tv30 rfl rfl rfl rfl rfl rfl rfl rfl ?_
  refine o_end (fr' := [(0, .box 0 0), (1, .c (.int _ _))]) rfl ?_
  refine e_kw ?_
  refine w_region ?_
  refine o_p rfl (p_move (v := .box 0 0) rfl) ?_
  refine o_p rfl (p_nc rfl) ?_
  refine o_p rfl (p_fa tf90x1 rfl) ?_
  refine o_store (v := .nil) (us := [.nil]) (cs := [.c (.bool _), .c (PV.ls _ _ _), .c (.int _ _)]) (σ' := [[.c (.bool _), .nil, .c (.int _ _)]]) rfl tv22 rfl rfl rfl rfl rfl rfl rfl rfl ?_
  refine o_end (fr' := [(0, .box 0 0), (1, .c (.int _ _))]) rfl ?_
  have he1 := Option.some.inj h
  subst he1
  refine e_fin (rs' := []) rfl ?_
  refine r_nil ?_
  exact fin_gen [] rfl rfl rfl (AV.le_any _) (st_c ⟨rfl, ⟨_, rfl⟩, rfl, trivial⟩ st_nil)
noncomputable def ref01xReader_Int_l1 (p100v : Ref01Reader) (s14 : (Int × Int)) : Option (Step (Int × Int) Int) :=
  cond (decide ((0 : Int) ≤ s14.2)) ((idx p100v.Rest s14.2).bind fun (x16 : UInt8) => some (Step.next ((IntKind.wrap .u64 ((IntKind.wrap .u64 (s14.1 * (128 : Int))) + (IntKind.wrap .u64 (Int.tmod ((x16).toNat : Int) (128 : Int))))), (IntKind.wrap .i64 (s14.2 - (1 : Int)))))) (some (Step.out s14.1))
noncomputable def ref01xReader_Int (p1low : Int) (p2high : Int) (p100v : Ref01Reader) : Option (Int × Ref01Reader) :=
  (ref01xReader_stopped p100v).bind fun (x1 : Bool) => cond x1 (some ((0 : Int), p100v)) ((ref01xReader_count p100v).bind fun (x5 : (Int × Int)) => cond (!decide (x5.2 = (0 : Int))) ((ref01xReader_set x5.2 p100v).bind fun (x8 : Ref01Reader) => some ((0 : Int), x8)) (((loopO (ref01xReader_Int_l1 p100v) (((0 : Int), (IntKind.wrap .i64 (x5.1 - (1 : Int)))))) : Option Int).bind fun (x11 : Int) => (((cond (decide ((Int.tmod x11 (2 : Int)) = (1 : Int))) (some (IntKind.wrap .i64 ((IntKind.wrap .i64 (0 - (IntKind.wrap .i64 (IntKind.wrap .u64 (Int.tdiv x11 (2 : Int)))))) - (1 : Int)))) (some (IntKind.wrap .i64 (IntKind.wrap .u64 (Int.tdiv x11 (2 : Int)))))) : Option Int).bind fun (x20 : Int) => (cond (cond (decide (x20 < p1low)) true (decide (p2high < x20))) ((ref01xReader_set (14 : Int) p100v).bind fun (x26 : Ref01Reader) => some ((0 : Int), x26)) ((slcL p100v.Rest x5.1).bind fun (x29 : (List UInt8)) => some (x20, (Ref01Reader.mk p100v.Made (List.drop (Int.toNat x5.1) p100v.Rest) p100v.Bad)))))))
theorem w_ref01xReader_Int {p1low : Int} {p2high : Int} {p100v : Ref01Reader} {res : (Int × Ref01Reader)} (h : ref01xReader_Int p1low p2high p100v = some res) : ACalls Try.prog 37 [.box 0 0, .c (.int .i64 p1low), .c (.int .i64 p2high)] [AV.cs (rowRef01Reader p100v)] (.c (.int .i64 res.1)) [AV.cs (rowRef01Reader res.2)] := by
  unfold ref01xReader_Int at h
  refine acalls (fn := Try.f37) [0, 1, 2, 6, 7, 8, 9, 10, 11, 13, 20, 27, 47, 58] (by kernel_rfl) Try.func37 rfl (by kernel_rfl) (by kernel_rfl) ?_
  refine w_seqw ?_
  refine w_region ?_
  refine o_p rfl (p_assign (v := .c (.int _ _)) rfl) ?_
  refine o_end (fr' := [(0, .box 0 0), (1, .c (.int _ _)), (2, .c (.int _ _)), (6, .c (.int _ _)), (7, .any), (8, .any), (9, .any), (10, .any), (11, .any), (13, .any), (20, .any), (27, .any), (47, .any), (58, .any)]) rfl ?_
  refine e_kw ?_
  refine w_seqw ?_
  refine w_seqw ?_
  refine w_region ?_
  refine o_p rfl (p_move (v := .box 0 0) rfl) ?_
  obtain ⟨x1, hx1, h2⟩ := bind_s h
  refine o_call (v := .c (.bool _)) (σ' := [[.c (.bool _), .c (PV.ls _ _ _), .c (.int _ _)]]) [0] rfl (w_ref01xReader_stopped hx1) rfl rfl ⟨(AV.le_refl _), trivial⟩ (st_c ⟨rfl, rfl, rfl, trivial⟩ st_nil) rfl rfl rfl ?_
  refine o_end (fr' := [(0, .box 0 0), (1, .c (.int _ _)), (2, .c (.int _ _)), (6, .c (.int _ _)), (7, .any), (8, .any), (9, .any), (10, .any), (11, .any), (13, .c (.bool _)), (20, .any), (27, .any), (47, .any), (58, .any)]) rfl ?_
  refine e_kw ?_
  refine w_cond _ rfl (fun hb3 => ?_) (fun hb3 => ?_)
  · skip
    have h3 := cond_t (b := x1) hb3 h2
    refine w_seqw ?_
    refine w_region ?_
    refine o_p rfl (p_assign (v := .c (.int _ _)) rfl) ?_
    refine o_end (fr' := [(0, .box 0 0), (1, .c (.int _ _)), (2, .c (.int _ _)), (6, .c (.int _ _)), (7, .any), (8, .any), (9, .any), (10, .any), (11, .any), (13, .c (.bool _)), (20, .any), (27, .any), (47, .any), (58, .any)]) rfl ?_
    refine e_kw ?_
    refine w_ret ?_
    refine e_seq_r ?_
    have he4 := Option.some.inj h3
    subst he4
    refine e_ret (rs' := [.tmp 6]) rfl ?_
    refine r_tmp (v := .c (.int _ _)) rfl ?_
    refine r_nil ?_
    exact fin_gen [] rfl rfl rfl (AV.le_refl _) (st_c ⟨rfl, rfl, rfl, trivial⟩ st_nil)
  · skip
    have h3 := cond_f (b := x1) hb3 h2
    refine w_skip ?_
    refine e_kw ?_
    refine w_seqw ?_
    refine w_region ?_
    refine o_p rfl (p_move (v := .box 0 0) rfl) ?_
    obtain ⟨x5, hx5, h6⟩ := bind_s h3
    refine o_call (v := .tup [.c (.int _ _), .c (.int _ _)]) (σ' := [[.c (.bool _), .c (PV.ls _ _ _), .c (.int _ _)]]) [0] rfl (w_ref01xReader_count hx5) rfl rfl ⟨(AV.le_refl _), trivial⟩ (st_c ⟨rfl, rfl, rfl, trivial⟩ st_nil) rfl rfl rfl ?_
    refine o_p rfl (p_move (v := .tup [.c (.int _ _), .c (.int _ _)]) rfl) ?_
    refine o_p rfl (p_ex (v := .c (.int _ _)) rfl rfl) ?_
    refine o_p rfl (p_ex (v := .c (.int _ _)) rfl rfl) ?_
    refine o_p rfl (p_assign (v := .c (.int _ _)) rfl) ?_
    refine o_p rfl (p_assign (v := .c (.int _ _)) rfl) ?_
    refine o_end (fr' := [(0, .box 0 0), (1, .c (.int _ _)), (2, .c (.int _ _)), (6, .c (.int _ _)), (7, .c (.int _ _)), (8, .c (.int _ _)), (9, .any), (10, .any), (11, .any), (13, .c (.bool _)), (20, .any), (27, .any), (47, .any), (58, .any)]) rfl ?_
    refine e_kw ?_
    refine w_seqw ?_
    refine w_seqw ?_
    refine w_region ?_
    refine o_p rfl (p_move (v := .c (.int _ _)) rfl) ?_
    refine o_p rfl (p_neq rfl rfl) ?_
    refine o_end (fr' := [(0, .box 0 0), (1, .c (.int _ _)), (2, .c (.int _ _)), (6, .c (.int _ _)), (7, .c (.int _ _)), (8, .c (.int _ _)), (9, .any), (10, .any), (11, .any), (13, .c (.bool _)), (20, .c (.bool _)), (27, .any), (47, .any), (58, .any)]) rfl ?_
    refine e_kw ?_
    refine w_cond _ rfl (fun hb7 => ?_) (fun hb7 => ?_)
    · skip
      have h7 := cond_t (b := (!decide (x5.2 = (0 : Int)))) hb7 h6
      refine w_seqw ?_
      refine w_region ?_
      refine o_p rfl (p_move (v := .box 0 0) rfl) ?_
      refine o_p rfl (p_move (v := .c (.int _ _)) rfl) ?_
      obtain ⟨x8, hx8, h9⟩ := bind_s h7
      refine o_call (v := _) (σ' := [[.c (.bool _), .c (PV.ls _ _ _), .c (.int _ _)]]) [0] rfl (w_ref01xReader_set hx8) rfl rfl ⟨(AV.le_refl _), (AV.le_refl _), trivial⟩ (st_c ⟨rfl, rfl, rfl, trivial⟩ st_nil) rfl rfl rfl ?_
      refine o_end (fr' := [(0, .box 0 0), (1, .c (.int _ _)), (2, .c (.int _ _)), (6, .c (.int _ _)), (7, .c (.int _ _)), (8, .c (.int _ _)), (9, .any), (10, .any), (11, .any), (13, .c (.bool _)), (20, .c (.bool _)), (27, .any), (47, .any), (58, .any)]) rfl ?_
      refine e_kw ?_
      refine w_seqw ?_
      refine w_region ?_
      refine o_p rfl (p_assign (v := .c (.int _ _)) rfl) ?_
      refine o_end (fr' := [(0, .box 0 0), (1, .c (.int _ _)), (2, .c (.int _ _)), (6, .c (.int _ _)), (7, .c (.int _ _)), (8, .c (.int _ _)), (9, .any), (10, .any), (11, .any), (13, .c (.bool _)), (20, .c (.bool _)), (27, .any), (47, .any), (58, .any)]) rfl ?_
      refine e_kw ?_
      refine w_ret ?_
      refine e_seq_r ?_
      have he10 := Option.some.inj h9
      subst he10
      refine e_ret (rs' := [.tmp 6]) rfl ?_
      refine r_tmp (v := .c (.int _ _)) rfl ?_
      refine r_nil ?_
      exact fin_gen [] rfl rfl rfl (AV.le_refl _) (st_c ⟨rfl, rfl, rfl, trivial⟩ st_nil)
    · skip
      have h7 := cond_f (b := (!decide (x5.2 = (0 : Int)))) hb7 h6
      refine w_skip ?_
      refine e_kw ?_
      refine w_seqw ?_
      refine w_region ?_
      refine o_p rfl (p_assign (v := .c (.int _ _)) rfl) ?_
      refine o_end (fr' := [(0, .box 0 0), (1, .c (.int _ _)), (2, .c (.int _ _)), (6, .c (.int _ _)), (7, .c (.int _ _)), (8, .c (.int _ _)), (9, .c (.int _ _)), (10, .any), (11, .any), (13, .c (.bool _)), (20, .c (.bool _)), (27, .any), (47, .any), (58, .any)]) rfl ?_
      refine e_kw ?_
      refine w_seqw ?_
      refine w_seqw ?_
      refine w_region ?_
      refine o_p rfl (p_move (v := .c (.int _ _)) rfl) ?_
      refine o_p rfl (p_sub rfl rfl) ?_
      refine o_p rfl (p_assign (v := .c (.int _ _)) rfl) ?_
      refine o_end (fr' := [(0, .box 0 0), (1, .c (.int _ _)), (2, .c (.int _ _)), (6, .c (.int _ _)), (7, .c (.int _ _)), (8, .c (.int _ _)), (9, .c (.int _ _)), (10, .c (.int _ _)), (11, .any), (13, .c (.bool _)), (20, .c (.bool _)), (27, .any), (47, .any), (58, .any)]) rfl ?_
      refine e_kw ?_
      obtain ⟨x11, hx11, h12⟩ := bind_s h7
      refine w_jtail cl_kw (fun j13 => x11 = j13) (fun (j13 : Int) => ([(0, .box 0 0), (1, .c (.int .i64 p1low)), (2, .c (.int .i64 p2high)), (7, .c (.int .i64 x5.1)), (9, .c (.int .u64 j13))] : Fr)) (fun (j13 : Int) => ([[.c (.bool p100v.Made), .c (PV.ls 1 brow p100v.Rest), .c (.int .i64 p100v.Bad)]] : St)) ?_ ?_
      · skip
        refine w_block ?_
        refine w_loopo _ (fun (s14 : (Int × Int)) => ([(0, .box 0 0), (1, .c (.int .i64 p1low)), (2, .c (.int .i64 p2high)), (7, .c (.int .i64 x5.1)), (9, .c (.int .u64 s14.1)), (10, .c (.int .i64 s14.2))] : Fr)) (fun (s14 : (Int × Int)) => ([[.c (.bool p100v.Made), .c (PV.ls 1 brow p100v.Rest), .c (.int .i64 p100v.Bad)]] : St)) hx11 (w_weak [] 1 rfl rfl rfl rfl ⟨(AV.le_refl _), (AV.le_refl _), (AV.le_refl _), (AV.le_refl _), (AV.le_refl _), (AV.le_refl _), trivial⟩ (st_r rfl st_nil)) ?_
        intro s14 st14 hs14 ho14
        unfold ref01xReader_Int_l1 at hs14
        refine w_seqw ?_
        refine w_seqw ?_
        refine w_region ?_
        refine o_p rfl (p_move (v := .c (.int _ _)) rfl) ?_
        refine o_p rfl (p_geq rfl rfl) ?_
        refine o_end (fr' := [(0, .box 0 0), (1, .c (.int _ _)), (2, .c (.int _ _)), (6, .any), (7, .c (.int _ _)), (8, .any), (9, .c (.int _ _)), (10, .c (.int _ _)), (11, .any), (13, .any), (20, .any), (27, .c (.bool _)), (47, .any), (58, .any)]) rfl ?_
        refine e_kw ?_
        refine w_cond _ rfl (fun hb15 => ?_) (fun hb15 => ?_)
        · skip
          have h15 := cond_t (b := (decide ((0 : Int) ≤ s14.2))) hb15 hs14
          refine w_skip ?_
          refine e_kw ?_
          refine w_seqw ?_
          refine w_block ?_
          refine w_region ?_
          refine o_p rfl (p_move (v := .c (.int _ _)) rfl) ?_
          refine o_p rfl (p_mul rfl rfl) ?_
          refine o_p rfl (p_move (v := .box 0 0) rfl) ?_
          refine o_p rfl (p_nc rfl) ?_
          refine o_p rfl (p_fa tf90x1 rfl) ?_
          refine o_p rfl (p_load (v := .c (PV.ls _ _ _)) tv22 rfl rfl rfl) ?_
          refine o_p rfl (p_move (v := .c (.int _ _)) rfl) ?_
          obtain ⟨x16, hx16, h17⟩ := bind_s h15
          refine o_p rfl (p_ia (cs := [.int _ _]) ts22 (isl_c rfl) rfl hx16 rfl) ?_
          refine o_p rfl (p_loade (p := .int _ _) tv5 rfl rfl) ?_
          refine o_p rfl (p_rem rfl rfl (by decide)) ?_
          refine o_p rfl (p_conv tk5 tk81 rfl) ?_
          refine o_p rfl (p_add rfl rfl) ?_
          refine o_p rfl (p_assign (v := .c (.int _ _)) rfl) ?_
          refine o_end (fr' := [(0, .box 0 0), (1, .c (.int _ _)), (2, .c (.int _ _)), (6, .any), (7, .c (.int _ _)), (8, .any), (9, .c (.int _ _)), (10, .c (.int _ _)), (11, .any), (13, .any), (20, .any), (27, .c (.bool _)), (47, .any), (58, .any)]) rfl ?_
          refine e_blk_n ?_
          refine e_kw ?_
          refine w_region ?_
          refine o_p rfl (p_move (v := .c (.int _ _)) rfl) ?_
          refine o_p rfl (p_sub rfl rfl) ?_
          refine o_p rfl (p_assign (v := .c (.int _ _)) rfl) ?_
          refine o_end (fr' := [(0, .box 0 0), (1, .c (.int _ _)), (2, .c (.int _ _)), (6, .any), (7, .c (.int _ _)), (8, .any), (9, .c (.int _ _)), (10, .c (.int _ _)), (11, .any), (13, .any), (20, .any), (27, .c (.bool _)), (47, .any), (58, .any)]) rfl ?_
          exact e_l _ (Option.some.inj h17).symm (w_weak [] 1 rfl rfl rfl rfl ⟨(AV.le_refl _), (AV.le_refl _), (AV.le_refl _), (AV.le_refl _), (AV.le_refl _), (AV.le_refl _), trivial⟩ (st_r rfl st_nil))
        · skip
          have h15 := cond_f (b := (decide ((0 : Int) ≤ s14.2))) hb15 hs14
          refine w_exit ?_
          refine e_seq_x ?_
          refine e_seq_x ?_
          refine e_blk_h ?_
          have h18 := un_out h15 ho14
          exact e_j _ (Option.some.inj h18).symm (w_weak [] 1 rfl rfl rfl rfl ⟨(AV.le_refl _), (AV.le_refl _), (AV.le_refl _), (AV.le_refl _), (AV.le_refl _), trivial⟩ (st_r rfl st_nil))
      · skip
        intro j13 hj19
        subst hj19
        refine e_kw ?_
        refine w_seqw ?_
        refine w_region ?_
        refine o_p rfl (p_move (v := .c (.int _ _)) rfl) ?_
        refine o_p rfl (p_quo rfl rfl (by decide)) ?_
        refine o_p rfl (p_conv tk81 tk3 rfl) ?_
        refine o_p rfl (p_assign (v := .c (.int _ _)) rfl) ?_
        refine o_end (fr' := [(0, .box 0 0), (1, .c (.int _ _)), (2, .c (.int _ _)), (6, .any), (7, .c (.int _ _)), (8, .any), (9, .c (.int _ _)), (10, .any), (11, .c (.int _ _)), (13, .any), (20, .any), (27, .any), (47, .any), (58, .any)]) rfl ?_
        refine e_kw ?_
        obtain ⟨x20, hx20, h21⟩ := bind_s h12
        refine w_join (fun j22 => x20 = j22) (fun (j22 : Int) => ([(0, .box 0 0), (1, .c (.int .i64 p1low)), (2, .c (.int .i64 p2high)), (7, .c (.int .i64 x5.1)), (11, .c (.int .i64 j22))] : Fr)) (fun (j22 : Int) => ([[.c (.bool p100v.Made), .c (PV.ls 1 brow p100v.Rest), .c (.int .i64 p100v.Bad)]] : St)) ?_ ?_
        · skip
          refine w_seqw ?_
          refine w_region ?_
          refine o_p rfl (p_move (v := .c (.int _ _)) rfl) ?_
          refine o_p rfl (p_rem rfl rfl (by decide)) ?_
          refine o_p rfl (p_eql rfl rfl) ?_
          refine o_end (fr' := [(0, .box 0 0), (1, .c (.int _ _)), (2, .c (.int _ _)), (6, .any), (7, .c (.int _ _)), (8, .any), (9, .c (.int _ _)), (10, .any), (11, .c (.int _ _)), (13, .any), (20, .any), (27, .any), (47, .c (.bool _)), (58, .any)]) rfl ?_
          refine e_kw ?_
          refine w_cond _ rfl (fun hb23 => ?_) (fun hb23 => ?_)
          · skip
            have h23 := cond_t (b := (decide ((Int.tmod x11 (2 : Int)) = (1 : Int)))) hb23 hx20
            refine w_region ?_
            refine o_p rfl (p_move (v := .c (.int _ _)) rfl) ?_
            refine o_p rfl (p_neg rfl) ?_
            refine o_p rfl (p_sub rfl rfl) ?_
            refine o_p rfl (p_assign (v := .c (.int _ _)) rfl) ?_
            refine o_end (fr' := [(0, .box 0 0), (1, .c (.int _ _)), (2, .c (.int _ _)), (6, .any), (7, .c (.int _ _)), (8, .any), (9, .c (.int _ _)), (10, .any), (11, .c (.int _ _)), (13, .any), (20, .any), (27, .any), (47, .c (.bool _)), (58, .any)]) rfl ?_
            exact e_j _ (Option.some.inj h23).symm (w_weak [] 1 rfl rfl rfl rfl ⟨(AV.le_refl _), (AV.le_refl _), (AV.le_refl _), (AV.le_refl _), (AV.le_refl _), trivial⟩ (st_r rfl st_nil))
          · skip
            have h23 := cond_f (b := (decide ((Int.tmod x11 (2 : Int)) = (1 : Int)))) hb23 hx20
            refine w_skip ?_
            exact e_j _ (Option.some.inj h23).symm (w_weak [] 1 rfl rfl rfl rfl ⟨(AV.le_refl _), (AV.le_refl _), (AV.le_refl _), (AV.le_refl _), (AV.le_refl _), trivial⟩ (st_r rfl st_nil))
        · skip
          intro j22 hj24
          subst hj24
          refine w_seqw ?_
          refine w_seqw ?_
          refine w_region ?_
          refine o_p rfl (p_move (v := .c (.int _ _)) rfl) ?_
          refine o_p rfl (p_move (v := .c (.int _ _)) rfl) ?_
          refine o_p rfl (p_lss rfl rfl) ?_
          refine o_p rfl (p_move (v := .c (.bool _)) rfl) ?_
          refine o_g rfl rfl (fun hc => ov_p rfl (p_move (v := .c (.int _ _)) rfl)) ?_
          refine o_g rfl rfl (fun hc => ov_p rfl (p_move (v := .c (.int _ _)) rfl)) ?_
          refine o_g rfl rfl (fun hc => ov_p rfl (p_gtr (gx rfl hc) (gx rfl hc))) ?_
          refine o_p rfl (p_pickz rfl rfl rfl (fun e => keq e)) ?_
          refine o_end (fr' := [(0, .box 0 0), (1, .c (.int _ _)), (2, .c (.int _ _)), (6, .any), (7, .c (.int _ _)), (8, .any), (9, .any), (10, .any), (11, .c (.int _ _)), (13, .any), (20, .any), (27, .any), (47, .any), (58, .c (.bool _))]) rfl ?_
          refine e_kw ?_
          refine w_cond _ rfl (fun hb25 => ?_) (fun hb25 => ?_)
          · skip
            have h25 := cond_t (b := (cond (decide (x20 < p1low)) true (decide (p2high < x20)))) hb25 h21
            refine w_seqw ?_
            refine w_region ?_
            refine o_p rfl (p_move (v := .box 0 0) rfl) ?_
            obtain ⟨x26, hx26, h27⟩ := bind_s h25
            refine o_call (v := _) (σ' := [[.c (.bool _), .c (PV.ls _ _ _), .c (.int _ _)]]) [0] rfl (w_ref01xReader_set hx26) rfl rfl ⟨(AV.le_refl _), (AV.le_refl _), trivial⟩ (st_c ⟨rfl, rfl, rfl, trivial⟩ st_nil) (ok_eq (by repeat (first | exact ok_nil | refine ok_cons rfl ?_ | refine ok_cons (dgv rfl) ?_))) rfl rfl ?_
            refine o_end (fr' := [(0, .box 0 0), (1, .c (.int _ _)), (2, .c (.int _ _)), (6, .any), (7, .c (.int _ _)), (8, .any), (9, .any), (10, .any), (11, .c (.int _ _)), (13, .any), (20, .any), (27, .any), (47, .any), (58, .c (.bool _))]) rfl ?_
            refine e_kw ?_
            refine w_seqw ?_
            refine w_region ?_
            refine o_p rfl (p_assign (v := .c (.int _ _)) rfl) ?_
            refine o_end (fr' := [(0, .box 0 0), (1, .c (.int _ _)), (2, .c (.int _ _)), (6, .c (.int _ _)), (7, .c (.int _ _)), (8, .any), (9, .any), (10, .any), (11, .c (.int _ _)), (13, .any), (20, .any), (27, .any), (47, .any), (58, .c (.bool _))]) rfl ?_
            refine e_kw ?_
            refine w_ret ?_
            refine e_seq_r ?_
            have he28 := Option.some.inj h27
            subst he28
            refine e_ret (rs' := [.tmp 6]) rfl ?_
            refine r_tmp (v := .c (.int _ _)) rfl ?_
            refine r_nil ?_
            exact fin_gen [] rfl rfl rfl (AV.le_refl _) (st_c ⟨rfl, rfl, rfl, trivial⟩ st_nil)
          · skip
            have h25 := cond_f (b := (cond (decide (x20 < p1low)) true (decide (p2high < x20)))) hb25 h21
            refine w_skip ?_
            refine e_kw ?_
            refine w_seqw ?_
            refine w_region ?_
            refine o_p rfl (p_move (v := .box 0 0) rfl) ?_
            refine o_p rfl (p_move (v := .box 0 0) rfl) ?_
            refine o_p rfl (p_nc rfl) ?_
            refine o_p rfl (p_fa tf90x1 rfl) ?_
            refine o_p rfl (p_load (v := .c (PV.ls _ _ _)) tv22 rfl rfl rfl) ?_
            refine o_p rfl (p_move (v := .c (.int _ _)) rfl) ?_
            obtain ⟨x29, hx29, h30⟩ := bind_s h25
            refine o_p rfl (p_sl_l tn22 ts22 (isl_c rfl) rfl (slcL_some hx29).1) ?_
            refine o_p rfl (p_nc rfl) ?_
            refine o_p rfl (p_fa tf90x1 rfl) ?_
            refine o_store (v := .c (PV.ls _ _ _)) (us := [.c (PV.ls _ _ _)]) (cs := [.c (.bool _), .c (PV.ls _ _ _), .c (.int _ _)]) (σ' := [[.c (.bool _), .c (PV.ls _ _ _), .c (.int _ _)]]) rfl tv22 rfl rfl rfl rfl rfl rfl rfl rfl ?_
            refine o_end (fr' := [(0, .box 0 0), (1, .c (.int _ _)), (2, .c (.int _ _)), (6, .any), (7, .c (.int _ _)), (8, .any), (9, .any), (10, .any), (11, .c (.int _ _)), (13, .any), (20, .any), (27, .any), (47, .any), (58, .c (.bool _))]) rfl ?_
            refine e_kw ?_
            refine w_seqw ?_
            refine w_region ?_
            refine o_p rfl (p_move (v := .c (.int _ _)) rfl) ?_
            refine o_p rfl (p_assign (v := .c (.int _ _)) rfl) ?_
            refine o_end (fr' := [(0, .box 0 0), (1, .c (.int _ _)), (2, .c (.int _ _)), (6, .c (.int _ _)), (7, .c (.int _ _)), (8, .any), (9, .any), (10, .any), (11, .c (.int _ _)), (13, .any), (20, .any), (27, .any), (47, .any), (58, .c (.bool _))]) rfl ?_
            refine e_kw ?_
            refine w_ret ?_
            have he31 := Option.some.inj h30
            subst he31
            refine e_ret (rs' := [.tmp 6]) rfl ?_
            refine r_tmp (v := .c (.int _ _)) rfl ?_
            refine r_nil ?_
            exact fin_gen [] rfl rfl rfl (AV.le_refl _) (st_c ⟨rfl, rfl, rfl, trivial⟩ st_nil)
noncomputable def ref01xReader_Text (p1most : Int) (p100v : Ref01Reader) : Option ((List UInt8) × Ref01Reader) :=
  (ref01xReader_Int (0 : Int) p1most p100v).bind fun (x1 : (Int × Ref01Reader)) => (ref01xReader_stopped x1.2).bind fun (x3 : Bool) => cond x3 (some (([] : List UInt8), x1.2)) (cond (decide (((x1.2.Rest).length : Int) < x1.1)) ((ref01xReader_set (4 : Int) x1.2).bind fun (x8 : Ref01Reader) => some (([] : List UInt8), x8)) ((slcH x1.2.Rest x1.1).bind fun (x11 : (List UInt8)) => (slcL x1.2.Rest x1.1).bind fun (x13 : (List UInt8)) => some ((List.take (Int.toNat x1.1) x1.2.Rest), (Ref01Reader.mk x1.2.Made (List.drop (Int.toNat x1.1) x1.2.Rest) x1.2.Bad))))
theorem w_ref01xReader_Text {p1most : Int} {p100v : Ref01Reader} {res : ((List UInt8) × Ref01Reader)} (h : ref01xReader_Text p1most p100v = some res) : ACalls Try.prog 53 [.box 0 0, .c (.int .i64 p1most)] [AV.cs (rowRef01Reader p100v)] (.c (.str res.1)) [AV.cs (rowRef01Reader res.2)] := by
  unfold ref01xReader_Text at h
  refine acalls (fn := Try.f53) [0, 1, 4, 5, 6, 11, 18] (by kernel_rfl) Try.func53 rfl (by kernel_rfl) (by kernel_rfl) ?_
  refine w_seqw ?_
  refine w_region ?_
  refine o_p rfl (p_assign (v := .c (.str _)) rfl) ?_
  refine o_end (fr' := [(0, .box 0 0), (1, .c (.int _ _)), (4, .c (.str _)), (5, .any), (6, .any), (11, .any), (18, .any)]) rfl ?_
  refine e_kw ?_
  refine w_seqw ?_
  refine w_region ?_
  refine o_p rfl (p_move (v := .box 0 0) rfl) ?_
  refine o_p rfl (p_move (v := .c (.int _ _)) rfl) ?_
  obtain ⟨x1, hx1, h2⟩ := bind_s h
  refine o_call (v := .c (.int _ _)) (σ' := [[.c (.bool _), .c (PV.ls _ _ _), .c (.int _ _)]]) [0] rfl (w_ref01xReader_Int hx1) rfl rfl ⟨(AV.le_refl _), (AV.le_refl _), (AV.le_refl _), trivial⟩ (st_c ⟨rfl, rfl, rfl, trivial⟩ st_nil) rfl rfl rfl ?_
  refine o_p rfl (p_assign (v := .c (.int _ _)) rfl) ?_
  refine o_end (fr' := [(0, .box 0 0), (1, .c (.int _ _)), (4, .c (.str _)), (5, .c (.int _ _)), (6, .any), (11, .any), (18, .any)]) rfl ?_
  refine e_kw ?_
  refine w_seqw ?_
  refine w_seqw ?_
  refine w_region ?_
  refine o_p rfl (p_move (v := .box 0 0) rfl) ?_
  obtain ⟨x3, hx3, h4⟩ := bind_s h2
  refine o_call (v := .c (.bool _)) (σ' := [[.c (.bool _), .c (PV.ls _ _ _), .c (.int _ _)]]) [0] rfl (w_ref01xReader_stopped hx3) rfl rfl ⟨(AV.le_refl _), trivial⟩ (st_c ⟨rfl, rfl, rfl, trivial⟩ st_nil) rfl rfl rfl ?_
  refine o_end (fr' := [(0, .box 0 0), (1, .c (.int _ _)), (4, .c (.str _)), (5, .c (.int _ _)), (6, .any), (11, .c (.bool _)), (18, .any)]) rfl ?_
  refine e_kw ?_
  refine w_cond _ rfl (fun hb5 => ?_) (fun hb5 => ?_)
  · skip
    have h5 := cond_t (b := x3) hb5 h4
    refine w_seqw ?_
    refine w_region ?_
    refine o_p rfl (p_assign (v := .c (.str _)) rfl) ?_
    refine o_end (fr' := [(0, .box 0 0), (1, .c (.int _ _)), (4, .c (.str _)), (5, .c (.int _ _)), (6, .any), (11, .c (.bool _)), (18, .any)]) rfl ?_
    refine e_kw ?_
    refine w_ret ?_
    refine e_seq_r ?_
    have he6 := Option.some.inj h5
    subst he6
    refine e_ret (rs' := [.tmp 4]) rfl ?_
    refine r_tmp (v := .c (.str _)) rfl ?_
    refine r_nil ?_
    exact fin_gen [] rfl rfl rfl (AV.le_refl _) (st_c ⟨rfl, rfl, rfl, trivial⟩ st_nil)
  · skip
    have h5 := cond_f (b := x3) hb5 h4
    refine w_skip ?_
    refine e_kw ?_
    refine w_seqw ?_
    refine w_seqw ?_
    refine w_region ?_
    refine o_p rfl (p_move (v := .c (.int _ _)) rfl) ?_
    refine o_p rfl (p_move (v := .box 0 0) rfl) ?_
    refine o_p rfl (p_nc rfl) ?_
    refine o_p rfl (p_fa tf90x1 rfl) ?_
    refine o_p rfl (p_load (v := .c (PV.ls _ _ _)) tv22 rfl rfl rfl) ?_
    refine o_p rfl (p_len ti22 (isl_c rfl)) ?_
    refine o_p rfl (p_gtr rfl rfl) ?_
    refine o_end (fr' := [(0, .box 0 0), (1, .c (.int _ _)), (4, .c (.str _)), (5, .c (.int _ _)), (6, .any), (11, .c (.bool _)), (18, .c (.bool _))]) rfl ?_
    refine e_kw ?_
    refine w_cond _ rfl (fun hb7 => ?_) (fun hb7 => ?_)
    · skip
      have h7 := cond_t (b := (decide (((x1.2.Rest).length : Int) < x1.1))) hb7 h5
      refine w_seqw ?_
      refine w_region ?_
      refine o_p rfl (p_move (v := .box 0 0) rfl) ?_
      obtain ⟨x8, hx8, h9⟩ := bind_s h7
      refine o_call (v := _) (σ' := [[.c (.bool _), .c (PV.ls _ _ _), .c (.int _ _)]]) [0] rfl (w_ref01xReader_set hx8) rfl rfl ⟨(AV.le_refl _), (AV.le_refl _), trivial⟩ (st_c ⟨rfl, rfl, rfl, trivial⟩ st_nil) rfl rfl rfl ?_
      refine o_end (fr' := [(0, .box 0 0), (1, .c (.int _ _)), (4, .c (.str _)), (5, .c (.int _ _)), (6, .any), (11, .c (.bool _)), (18, .c (.bool _))]) rfl ?_
      refine e_kw ?_
      refine w_seqw ?_
      refine w_region ?_
      refine o_p rfl (p_assign (v := .c (.str _)) rfl) ?_
      refine o_end (fr' := [(0, .box 0 0), (1, .c (.int _ _)), (4, .c (.str _)), (5, .c (.int _ _)), (6, .any), (11, .c (.bool _)), (18, .c (.bool _))]) rfl ?_
      refine e_kw ?_
      refine w_ret ?_
      refine e_seq_r ?_
      have he10 := Option.some.inj h9
      subst he10
      refine e_ret (rs' := [.tmp 4]) rfl ?_
      refine r_tmp (v := .c (.str _)) rfl ?_
      refine r_nil ?_
      exact fin_gen [] rfl rfl rfl (AV.le_refl _) (st_c ⟨rfl, rfl, rfl, trivial⟩ st_nil)
    · skip
      have h7 := cond_f (b := (decide (((x1.2.Rest).length : Int) < x1.1))) hb7 h5
      refine w_skip ?_
      refine e_kw ?_
      refine w_seqw ?_
      refine w_region ?_
      refine o_p rfl (p_move (v := .box 0 0) rfl) ?_
      refine o_p rfl (p_nc rfl) ?_
      refine o_p rfl (p_fa tf90x1 rfl) ?_
      refine o_p rfl (p_load (v := .c (PV.ls _ _ _)) tv22 rfl rfl rfl) ?_
      refine o_p rfl (p_move (v := .c (.int _ _)) rfl) ?_
      obtain ⟨x11, hx11, h12⟩ := bind_s h7
      refine o_p rfl (p_sl_h tn22 ts22 (isl_c rfl) rfl (slcH_some hx11).1) ?_
      refine o_p rfl (p_convbs tby22 ti9 (isl_c rfl)) ?_
      refine o_p rfl (p_assign (v := .c (.str _)) rfl) ?_
      refine o_end (fr' := [(0, .box 0 0), (1, .c (.int _ _)), (4, .c (.str _)), (5, .c (.int _ _)), (6, .c (.str _)), (11, .c (.bool _)), (18, .c (.bool _))]) rfl ?_
      refine e_kw ?_
      refine w_seqw ?_
      refine w_region ?_
      refine o_p rfl (p_move (v := .box 0 0) rfl) ?_
      refine o_p rfl (p_move (v := .box 0 0) rfl) ?_
      refine o_p rfl (p_nc rfl) ?_
      refine o_p rfl (p_fa tf90x1 rfl) ?_
      refine o_p rfl (p_load (v := .c (PV.ls _ _ _)) tv22 rfl rfl rfl) ?_
      refine o_p rfl (p_move (v := .c (.int _ _)) rfl) ?_
      obtain ⟨x13, hx13, h14⟩ := bind_s h12
      refine o_p rfl (p_sl_l tn22 ts22 (isl_c rfl) rfl (slcL_some hx13).1) ?_
      refine o_p rfl (p_nc rfl) ?_
      refine o_p rfl (p_fa tf90x1 rfl) ?_
      refine o_store (v := .c (PV.ls _ _ _)) (us := [.c (PV.ls _ _ _)]) (cs := [.c (.bool _), .c (PV.ls _ _ _), .c (.int _ _)]) (σ' := [[.c (.bool _), .c (PV.ls _ _ _), .c (.int _ _)]]) rfl tv22 rfl rfl rfl rfl rfl rfl rfl rfl ?_
      refine o_end (fr' := [(0, .box 0 0), (1, .c (.int _ _)), (4, .c (.str _)), (5, .c (.int _ _)), (6, .c (.str _)), (11, .c (.bool _)), (18, .c (.bool _))]) rfl ?_
      refine e_kw ?_
      refine w_seqw ?_
      refine w_region ?_
      refine o_p rfl (p_move (v := .c (.str _)) rfl) ?_
      refine o_p rfl (p_assign (v := .c (.str _)) rfl) ?_
      refine o_end (fr' := [(0, .box 0 0), (1, .c (.int _ _)), (4, .c (.str _)), (5, .c (.int _ _)), (6, .c (.str _)), (11, .c (.bool _)), (18, .c (.bool _))]) rfl ?_
      refine e_kw ?_
      refine w_ret ?_
      have he15 := Option.some.inj h14
      subst he15
      refine e_ret (rs' := [.tmp 4]) rfl ?_
      refine r_tmp (v := .c (.str _)) rfl ?_
      refine r_nil ?_
      exact fin_gen [] rfl rfl rfl (AV.le_refl _) (st_c ⟨rfl, rfl, rfl, trivial⟩ st_nil)
noncomputable def ref01xReader_Bool (p100v : Ref01Reader) : Option (Bool × Ref01Reader) :=
  (ref01xReader_stopped p100v).bind fun (x1 : Bool) => cond x1 (some (false, p100v)) (cond (decide (((p100v.Rest).length : Int) = (0 : Int))) ((ref01xReader_set (4 : Int) p100v).bind fun (x6 : Ref01Reader) => some (false, x6)) ((idx p100v.Rest (0 : Int)).bind fun (x9 : UInt8) => cond (decide ((1 : Int) < ((x9).toNat : Int))) ((ref01xReader_set (3 : Int) p100v).bind fun (x12 : Ref01Reader) => some (false, x12)) ((idx p100v.Rest (0 : Int)).bind fun (x15 : UInt8) => (slcL p100v.Rest (1 : Int)).bind fun (x17 : (List UInt8)) => some ((decide (((x15).toNat : Int) = (1 : Int))), (Ref01Reader.mk p100v.Made (List.drop (Int.toNat (1 : Int)) p100v.Rest) p100v.Bad)))))
theorem w_ref01xReader_Bool {p100v : Ref01Reader} {res : (Bool × Ref01Reader)} (h : ref01xReader_Bool p100v = some res) : ACalls Try.prog 54 [.box 0 0] [AV.cs (rowRef01Reader p100v)] (.c (.bool res.1)) [AV.cs (rowRef01Reader res.2)] := by
  unfold ref01xReader_Bool at h
  refine acalls (fn := Try.f54) [0, 2, 3, 5, 11, 20] (by kernel_rfl) Try.func54 rfl (by kernel_rfl) (by kernel_rfl) ?_
  refine w_seqw ?_
  refine w_region ?_
  refine o_p rfl (p_assign (v := .c (.bool _)) rfl) ?_
  refine o_end (fr' := [(0, .box 0 0), (2, .c (.bool _)), (3, .any), (5, .any), (11, .any), (20, .any)]) rfl ?_
  refine e_kw ?_
  refine w_seqw ?_
  refine w_seqw ?_
  refine w_region ?_
  refine o_p rfl (p_move (v := .box 0 0) rfl) ?_
  obtain ⟨x1, hx1, h2⟩ := bind_s h
  refine o_call (v := .c (.bool _)) (σ' := [[.c (.bool _), .c (PV.ls _ _ _), .c (.int _ _)]]) [0] rfl (w_ref01xReader_stopped hx1) rfl rfl ⟨(AV.le_refl _), trivial⟩ (st_c ⟨rfl, rfl, rfl, trivial⟩ st_nil) rfl rfl rfl ?_
  refine o_end (fr' := [(0, .box 0 0), (2, .c (.bool _)), (3, .any), (5, .c (.bool _)), (11, .any), (20, .any)]) rfl ?_
  refine e_kw ?_
  refine w_cond _ rfl (fun hb3 => ?_) (fun hb3 => ?_)
  · skip
    have h3 := cond_t (b := x1) hb3 h2
    refine w_seqw ?_
    refine w_region ?_
    refine o_p rfl (p_assign (v := .c (.bool _)) rfl) ?_
    refine o_end (fr' := [(0, .box 0 0), (2, .c (.bool _)), (3, .any), (5, .c (.bool _)), (11, .any), (20, .any)]) rfl ?_
    refine e_kw ?_
    refine w_ret ?_
    refine e_seq_r ?_
    have he4 := Option.some.inj h3
    subst he4
    refine e_ret (rs' := [.tmp 2]) rfl ?_
    refine r_tmp (v := .c (.bool _)) rfl ?_
    refine r_nil ?_
    exact fin_gen [] rfl rfl rfl (AV.le_refl _) (st_c ⟨rfl, rfl, rfl, trivial⟩ st_nil)
  · skip
    have h3 := cond_f (b := x1) hb3 h2
    refine w_skip ?_
    refine e_kw ?_
    refine w_seqw ?_
    refine w_seqw ?_
    refine w_region ?_
    refine o_p rfl (p_move (v := .box 0 0) rfl) ?_
    refine o_p rfl (p_nc rfl) ?_
    refine o_p rfl (p_fa tf90x1 rfl) ?_
    refine o_p rfl (p_load (v := .c (PV.ls _ _ _)) tv22 rfl rfl rfl) ?_
    refine o_p rfl (p_len ti22 (isl_c rfl)) ?_
    refine o_p rfl (p_eql rfl rfl) ?_
    refine o_end (fr' := [(0, .box 0 0), (2, .c (.bool _)), (3, .any), (5, .c (.bool _)), (11, .c (.bool _)), (20, .any)]) rfl ?_
    refine e_kw ?_
    refine w_cond _ rfl (fun hb5 => ?_) (fun hb5 => ?_)
    · skip
      have h5 := cond_t (b := (decide (((p100v.Rest).length : Int) = (0 : Int)))) hb5 h3
      refine w_seqw ?_
      refine w_region ?_
      refine o_p rfl (p_move (v := .box 0 0) rfl) ?_
      obtain ⟨x6, hx6, h7⟩ := bind_s h5
      refine o_call (v := _) (σ' := [[.c (.bool _), .c (PV.ls _ _ _), .c (.int _ _)]]) [0] rfl (w_ref01xReader_set hx6) rfl rfl ⟨(AV.le_refl _), (AV.le_refl _), trivial⟩ (st_c ⟨rfl, rfl, rfl, trivial⟩ st_nil) rfl rfl rfl ?_
      refine o_end (fr' := [(0, .box 0 0), (2, .c (.bool _)), (3, .any), (5, .c (.bool _)), (11, .c (.bool _)), (20, .any)]) rfl ?_
      refine e_kw ?_
      refine w_seqw ?_
      refine w_region ?_
      refine o_p rfl (p_assign (v := .c (.bool _)) rfl) ?_
      refine o_end (fr' := [(0, .box 0 0), (2, .c (.bool _)), (3, .any), (5, .c (.bool _)), (11, .c (.bool _)), (20, .any)]) rfl ?_
      refine e_kw ?_
      refine w_ret ?_
      refine e_seq_r ?_
      have he8 := Option.some.inj h7
      subst he8
      refine e_ret (rs' := [.tmp 2]) rfl ?_
      refine r_tmp (v := .c (.bool _)) rfl ?_
      refine r_nil ?_
      exact fin_gen [] rfl rfl rfl (AV.le_refl _) (st_c ⟨rfl, rfl, rfl, trivial⟩ st_nil)
    · skip
      have h5 := cond_f (b := (decide (((p100v.Rest).length : Int) = (0 : Int)))) hb5 h3
      refine w_skip ?_
      refine e_kw ?_
      refine w_seqw ?_
      refine w_seqw ?_
      refine w_region ?_
      refine o_p rfl (p_move (v := .box 0 0) rfl) ?_
      refine o_p rfl (p_nc rfl) ?_
      refine o_p rfl (p_fa tf90x1 rfl) ?_
      refine o_p rfl (p_load (v := .c (PV.ls _ _ _)) tv22 rfl rfl rfl) ?_
      obtain ⟨x9, hx9, h10⟩ := bind_s h5
      refine o_p rfl (p_ia (cs := [.int _ _]) ts22 (isl_c rfl) rfl hx9 rfl) ?_
      refine o_p rfl (p_loade (p := .int _ _) tv5 rfl rfl) ?_
      refine o_p rfl (p_gtr rfl rfl) ?_
      refine o_end (fr' := [(0, .box 0 0), (2, .c (.bool _)), (3, .any), (5, .c (.bool _)), (11, .c (.bool _)), (20, .c (.bool _))]) rfl ?_
      refine e_kw ?_
      refine w_cond _ rfl (fun hb11 => ?_) (fun hb11 => ?_)
      · skip
        have h11 := cond_t (b := (decide ((1 : Int) < ((x9).toNat : Int)))) hb11 h10
        refine w_seqw ?_
        refine w_region ?_
        refine o_p rfl (p_move (v := .box 0 0) rfl) ?_
        obtain ⟨x12, hx12, h13⟩ := bind_s h11
        refine o_call (v := _) (σ' := [[.c (.bool _), .c (PV.ls _ _ _), .c (.int _ _)]]) [0] rfl (w_ref01xReader_set hx12) rfl rfl ⟨(AV.le_refl _), (AV.le_refl _), trivial⟩ (st_c ⟨rfl, rfl, rfl, trivial⟩ st_nil) rfl rfl rfl ?_
        refine o_end (fr' := [(0, .box 0 0), (2, .c (.bool _)), (3, .any), (5, .c (.bool _)), (11, .c (.bool _)), (20, .c (.bool _))]) rfl ?_
        refine e_kw ?_
        refine w_seqw ?_
        refine w_region ?_
        refine o_p rfl (p_assign (v := .c (.bool _)) rfl) ?_
        refine o_end (fr' := [(0, .box 0 0), (2, .c (.bool _)), (3, .any), (5, .c (.bool _)), (11, .c (.bool _)), (20, .c (.bool _))]) rfl ?_
        refine e_kw ?_
        refine w_ret ?_
        refine e_seq_r ?_
        have he14 := Option.some.inj h13
        subst he14
        refine e_ret (rs' := [.tmp 2]) rfl ?_
        refine r_tmp (v := .c (.bool _)) rfl ?_
        refine r_nil ?_
        exact fin_gen [] rfl rfl rfl (AV.le_refl _) (st_c ⟨rfl, rfl, rfl, trivial⟩ st_nil)
      · skip
        have h11 := cond_f (b := (decide ((1 : Int) < ((x9).toNat : Int)))) hb11 h10
        refine w_skip ?_
        refine e_kw ?_
        refine w_seqw ?_
        refine w_region ?_
        refine o_p rfl (p_move (v := .box 0 0) rfl) ?_
        refine o_p rfl (p_nc rfl) ?_
        refine o_p rfl (p_fa tf90x1 rfl) ?_
        refine o_p rfl (p_load (v := .c (PV.ls _ _ _)) tv22 rfl rfl rfl) ?_
        obtain ⟨x15, hx15, h16⟩ := bind_s h11
        refine o_p rfl (p_ia (cs := [.int _ _]) ts22 (isl_c rfl) rfl hx15 rfl) ?_
        refine o_p rfl (p_loade (p := .int _ _) tv5 rfl rfl) ?_
        refine o_p rfl (p_eql rfl rfl) ?_
        refine o_p rfl (p_assign (v := .c (.bool _)) rfl) ?_
        refine o_end (fr' := [(0, .box 0 0), (2, .c (.bool _)), (3, .c (.bool _)), (5, .c (.bool _)), (11, .c (.bool _)), (20, .c (.bool _))]) rfl ?_
        refine e_kw ?_
        refine w_seqw ?_
        refine w_region ?_
        refine o_p rfl (p_move (v := .box 0 0) rfl) ?_
        refine o_p rfl (p_move (v := .box 0 0) rfl) ?_
        refine o_p rfl (p_nc rfl) ?_
        refine o_p rfl (p_fa tf90x1 rfl) ?_
        refine o_p rfl (p_load (v := .c (PV.ls _ _ _)) tv22 rfl rfl rfl) ?_
        obtain ⟨x17, hx17, h18⟩ := bind_s h16
        refine o_p rfl (p_sl_l tn22 ts22 (isl_c rfl) rfl (slcL_some hx17).1) ?_
        refine o_p rfl (p_nc rfl) ?_
        refine o_p rfl (p_fa tf90x1 rfl) ?_
        refine o_store (v := .c (PV.ls _ _ _)) (us := [.c (PV.ls _ _ _)]) (cs := [.c (.bool _), .c (PV.ls _ _ _), .c (.int _ _)]) (σ' := [[.c (.bool _), .c (PV.ls _ _ _), .c (.int _ _)]]) rfl tv22 rfl rfl rfl rfl rfl rfl rfl rfl ?_
        refine o_end (fr' := [(0, .box 0 0), (2, .c (.bool _)), (3, .c (.bool _)), (5, .c (.bool _)), (11, .c (.bool _)), (20, .c (.bool _))]) rfl ?_
        refine e_kw ?_
        refine w_seqw ?_
        refine w_region ?_
        refine o_p rfl (p_move (v := .c (.bool _)) rfl) ?_
        refine o_p rfl (p_assign (v := .c (.bool _)) rfl) ?_
        refine o_end (fr' := [(0, .box 0 0), (2, .c (.bool _)), (3, .c (.bool _)), (5, .c (.bool _)), (11, .c (.bool _)), (20, .c (.bool _))]) rfl ?_
        refine e_kw ?_
        refine w_ret ?_
        have he19 := Option.some.inj h18
        subst he19
        refine e_ret (rs' := [.tmp 2]) rfl ?_
        refine r_tmp (v := .c (.bool _)) rfl ?_
        refine r_nil ?_
        exact fin_gen [] rfl rfl rfl (AV.le_refl _) (st_c ⟨rfl, rfl, rfl, trivial⟩ st_nil)
noncomputable def ref01xReader_Fail (p1e : Int) (p100v : Ref01Reader) : Option Ref01Reader :=
  (ref01xReader_stopped p100v).bind fun (x1 : Bool) => cond (cond (!x1) (!decide (p1e = (0 : Int))) false) ((ref01xReader_set p1e p100v).bind fun (x4 : Ref01Reader) => some x4) (some p100v)
theorem w_ref01xReader_Fail {p1e : Int} {p100v : Ref01Reader} {res : Ref01Reader} (h : ref01xReader_Fail p1e p100v = some res) : ACalls Try.prog 55 [.box 0 0, .c (.int .i64 p1e)] [AV.cs (rowRef01Reader p100v)] (.any) [AV.cs (rowRef01Reader res)] := by
  unfold ref01xReader_Fail at h
  refine acalls (fn := Try.f55) [0, 1, 10] (by kernel_rfl) Try.func55 rfl (by kernel_rfl) (by kernel_rfl) ?_
  refine w_seqw ?_
  refine w_region ?_
  refine o_p rfl (p_move (v := .box 0 0) rfl) ?_
  obtain ⟨x1, hx1, h2⟩ := bind_s h
  refine o_call (v := .c (.bool _)) (σ' := [[.c (.bool _), .c (PV.ls _ _ _), .c (.int _ _)]]) [0] rfl (w_ref01xReader_stopped hx1) rfl rfl ⟨(AV.le_refl _), trivial⟩ (st_c ⟨rfl, rfl, rfl, trivial⟩ st_nil) rfl rfl rfl ?_
  refine o_p rfl (p_not rfl) ?_
  refine o_p rfl (p_move (v := .c (.bool _)) rfl) ?_
  refine o_g rfl rfl (fun hc => ov_p rfl (p_move (v := .c (.int _ _)) rfl)) ?_
  refine o_g rfl rfl (fun hc => ov_p rfl (p_neq (gx rfl hc) rfl)) ?_
  refine o_p rfl (p_picky rfl rfl rfl (fun e => keq e)) ?_
  refine o_end (fr' := [(0, .box 0 0), (1, .c (.int _ _)), (10, .c (.bool _))]) rfl ?_
  refine e_kw ?_
  refine w_cond _ rfl (fun hb3 => ?_) (fun hb3 => ?_)
  · skip
    have h3 := cond_t (b := (cond (!x1) (!decide (p1e = (0 : Int))) false)) hb3 h2
    refine w_region ?_
    refine o_p rfl (p_move (v := .box 0 0) rfl) ?_
    refine o_p rfl (p_move (v := .c (.int _ _)) rfl) ?_
    obtain ⟨x4, hx4, h5⟩ := bind_s h3
    refine o_call (v := _) (σ' := [[.c (.bool _), .c (PV.ls _ _ _), .c (.int _ _)]]) [0] rfl (w_ref01xReader_set hx4) rfl rfl ⟨(AV.le_refl _), (AV.le_refl _), trivial⟩ (st_c ⟨rfl, rfl, rfl, trivial⟩ st_nil) (ok_eq (by repeat (first | exact ok_nil | refine ok_cons rfl ?_ | refine ok_cons (dgv rfl) ?_))) rfl rfl ?_
    refine o_end (fr' := [(0, .box 0 0), (1, .c (.int _ _)), (10, .c (.bool _))]) rfl ?_
    have he6 := Option.some.inj h5
    subst he6
    refine e_fin (rs' := []) rfl ?_
    refine r_nil ?_
    exact fin_gen [] rfl rfl rfl (AV.le_any _) (st_c ⟨rfl, rfl, rfl, trivial⟩ st_nil)
  · skip
    have h3 := cond_f (b := (cond (!x1) (!decide (p1e = (0 : Int))) false)) hb3 h2
    refine w_skip ?_
    have he7 := Option.some.inj h3
    subst he7
    refine e_fin (rs' := []) rfl ?_
    refine r_nil ?_
    exact fin_gen [] rfl rfl rfl (AV.le_any _) (st_c ⟨rfl, rfl, rfl, trivial⟩ st_nil)
noncomputable def ref01xReader_Err (p100v : Ref01Reader) : Option Int :=
  cond (!p100v.Made) (some (1 : Int)) (some p100v.Bad)
theorem w_ref01xReader_Err {p100v : Ref01Reader} {res : Int} (h : ref01xReader_Err p100v = some res) : ACalls Try.prog 56 [.box 0 0] [AV.cs (rowRef01Reader p100v)] (.c (.int .i64 res)) [AV.cs (rowRef01Reader p100v)] := by
  unfold ref01xReader_Err at h
  refine acalls (fn := Try.f56) [0, 2, 11] (by kernel_rfl) Try.func56 rfl (by kernel_rfl) (by kernel_rfl) ?_
  refine w_seqw ?_
  refine w_region ?_
  refine o_p rfl (p_assign (v := .c (.int _ _)) rfl) ?_
  refine o_end (fr' := [(0, .box 0 0), (2, .c (.int _ _)), (11, .any)]) rfl ?_
  refine e_kw ?_
  refine w_seqw ?_
  refine w_seqw ?_
  refine w_region ?_
  refine o_p rfl (p_move (v := .box 0 0) rfl) ?_
  refine o_p rfl (p_peql ti53 rfl rfl) ?_
  refine o_p rfl (p_move (v := .c (.bool _)) rfl) ?_
  refine o_g rfl rfl (fun hc => ov_p rfl (p_move (v := .box 0 0) rfl)) ?_
  refine o_g rfl rfl (fun hc => ov_p rfl (p_nc (gx rfl hc))) ?_
  refine o_g rfl rfl (fun hc => ov_p rfl (p_fa tf90x0 (gx rfl hc))) ?_
  refine o_g rfl rfl (fun hc => ov_p rfl (p_load (v := .c (.bool _)) tv4 (gx rfl hc) rfl rfl)) ?_
  refine o_g rfl rfl (fun hc => ov_p rfl (p_not (gx rfl hc))) ?_
  refine o_p rfl (p_k (p_pickz rfl rfl rfl (fun e => keq e)) (show _ = .bool (!p100v.Made) from rfl)) ?_
  refine o_end (fr' := [(0, .box 0 0), (2, .c (.int _ _)), (11, .c (.bool _))]) rfl ?_
  refine e_kw ?_
  refine w_cond _ rfl (fun hb1 => ?_) (fun hb1 => ?_)
  · skip
    have h1 := cond_t (b := (!p100v.Made)) hb1 h
    refine w_seqw ?_
    refine w_region ?_
    refine o_p rfl (p_assign (v := .c (.int _ _)) rfl) ?_
    refine o_end (fr' := [(0, .box 0 0), (2, .c (.int _ _)), (11, .c (.bool _))]) rfl ?_
    refine e_kw ?_
    refine w_ret ?_
    refine e_seq_r ?_
    have he2 := Option.some.inj h1
    subst he2
    refine e_ret (rs' := [.tmp 2]) rfl ?_
    refine r_tmp (v := .c (.int _ _)) rfl ?_
    refine r_nil ?_
    exact fin_gen [] rfl rfl rfl (AV.le_refl _) (st_r rfl st_nil)
  · skip
    have h1 := cond_f (b := (!p100v.Made)) hb1 h
    refine w_skip ?_
    refine e_kw ?_
    refine w_seqw ?_
    refine w_region ?_
    refine o_p rfl (p_move (v := .box 0 0) rfl) ?_
    refine o_p rfl (p_nc rfl) ?_
    refine o_p rfl (p_fa tf90x2 rfl) ?_
    refine o_p rfl (p_load (v := .c (.int _ _)) tv30 rfl rfl rfl) ?_
    refine o_p rfl (p_assign (v := .c (.int _ _)) rfl) ?_
    refine o_end (fr' := [(0, .box 0 0), (2, .c (.int _ _)), (11, .c (.bool _))]) rfl ?_
    refine e_kw ?_
    refine w_ret ?_
    have he3 := Option.some.inj h1
    subst he3
    refine e_ret (rs' := [.tmp 2]) rfl ?_
    refine r_tmp (v := .c (.int _ _)) rfl ?_
    refine r_nil ?_
    exact fin_gen [] rfl rfl rfl (AV.le_refl _) (st_r rfl st_nil)
noncomputable def ref01xReader_End (p100v : Ref01Reader) : Option Int :=
  (ref01xReader_Err p100v).bind fun (x1 : Int) => cond (!decide (x1 = (0 : Int))) (some x1) (cond (decide ((0 : Int) < ((p100v.Rest).length : Int))) (some (3 : Int)) (some (0 : Int)))
theorem w_ref01xReader_End {p100v : Ref01Reader} {res : Int} (h : ref01xReader_End p100v = some res) : ACalls Try.prog 57 [.box 0 0] [AV.cs (rowRef01Reader p100v)] (.c (.int .i64 res)) [AV.cs (rowRef01Reader p100v)] := by
  unfold ref01xReader_End at h
  refine acalls (fn := Try.f57) [0, 2, 3, 7, 14] (by kernel_rfl) Try.func57 rfl (by kernel_rfl) (by kernel_rfl) ?_
  refine w_seqw ?_
  refine w_region ?_
  refine o_p rfl (p_assign (v := .c (.int _ _)) rfl) ?_
  refine o_end (fr' := [(0, .box 0 0), (2, .c (.int _ _)), (3, .any), (7, .any), (14, .any)]) rfl ?_
  refine e_kw ?_
  refine w_seqw ?_
  refine w_seqw ?_
  refine w_region ?_
  refine o_p rfl (p_move (v := .box 0 0) rfl) ?_
  obtain ⟨x1, hx1, h2⟩ := bind_s h
  refine o_call (v := .c (.int _ _)) (σ' := [[.c (.bool _), .c (PV.ls _ _ _), .c (.int _ _)]]) [0] rfl (w_ref01xReader_Err hx1) rfl rfl ⟨(AV.le_refl _), trivial⟩ (st_c ⟨rfl, rfl, rfl, trivial⟩ st_nil) rfl rfl rfl ?_
  refine o_p rfl (p_assign (v := .c (.int _ _)) rfl) ?_
  refine o_end (fr' := [(0, .box 0 0), (2, .c (.int _ _)), (3, .c (.int _ _)), (7, .any), (14, .any)]) rfl ?_
  refine e_kw ?_
  refine w_seqw ?_
  refine w_region ?_
  refine o_p rfl (p_move (v := .c (.int _ _)) rfl) ?_
  refine o_p rfl (p_neq rfl rfl) ?_
  refine o_end (fr' := [(0, .box 0 0), (2, .c (.int _ _)), (3, .c (.int _ _)), (7, .c (.bool _)), (14, .any)]) rfl ?_
  refine e_kw ?_
  refine w_cond _ rfl (fun hb3 => ?_) (fun hb3 => ?_)
  · skip
    have h3 := cond_t (b := (!decide (x1 = (0 : Int)))) hb3 h2
    refine w_seqw ?_
    refine w_region ?_
    refine o_p rfl (p_move (v := .c (.int _ _)) rfl) ?_
    refine o_p rfl (p_assign (v := .c (.int _ _)) rfl) ?_
    refine o_end (fr' := [(0, .box 0 0), (2, .c (.int _ _)), (3, .c (.int _ _)), (7, .c (.bool _)), (14, .any)]) rfl ?_
    refine e_kw ?_
    refine w_ret ?_
    refine e_seq_r ?_
    have he4 := Option.some.inj h3
    subst he4
    refine e_ret (rs' := [.tmp 2]) rfl ?_
    refine r_tmp (v := .c (.int _ _)) rfl ?_
    refine r_nil ?_
    exact fin_gen [] rfl rfl rfl (AV.le_refl _) (st_r rfl st_nil)
  · skip
    have h3 := cond_f (b := (!decide (x1 = (0 : Int)))) hb3 h2
    refine w_skip ?_
    refine e_kw ?_
    refine w_seqw ?_
    refine w_seqw ?_
    refine w_region ?_
    refine o_p rfl (p_move (v := .box 0 0) rfl) ?_
    refine o_p rfl (p_nc rfl) ?_
    refine o_p rfl (p_fa tf90x1 rfl) ?_
    refine o_p rfl (p_load (v := .c (PV.ls _ _ _)) tv22 rfl rfl rfl) ?_
    refine o_p rfl (p_len ti22 (isl_c rfl)) ?_
    refine o_p rfl (p_gtr rfl rfl) ?_
    refine o_end (fr' := [(0, .box 0 0), (2, .c (.int _ _)), (3, .c (.int _ _)), (7, .c (.bool _)), (14, .c (.bool _))]) rfl ?_
    refine e_kw ?_
    refine w_cond _ rfl (fun hb5 => ?_) (fun hb5 => ?_)
    · skip
      have h5 := cond_t (b := (decide ((0 : Int) < ((p100v.Rest).length : Int)))) hb5 h3
      refine w_seqw ?_
      refine w_region ?_
      refine o_p rfl (p_assign (v := .c (.int _ _)) rfl) ?_
      refine o_end (fr' := [(0, .box 0 0), (2, .c (.int _ _)), (3, .c (.int _ _)), (7, .c (.bool _)), (14, .c (.bool _))]) rfl ?_
      refine e_kw ?_
      refine w_ret ?_
      refine e_seq_r ?_
      have he6 := Option.some.inj h5
      subst he6
      refine e_ret (rs' := [.tmp 2]) rfl ?_
      refine r_tmp (v := .c (.int _ _)) rfl ?_
      refine r_nil ?_
      exact fin_gen [] rfl rfl rfl (AV.le_refl _) (st_r rfl st_nil)
    · skip
      have h5 := cond_f (b := (decide ((0 : Int) < ((p100v.Rest).length : Int)))) hb5 h3
      refine w_skip ?_
      refine e_kw ?_
      refine w_seqw ?_
      refine w_region ?_
      refine o_p rfl (p_assign (v := .c (.int _ _)) rfl) ?_
      refine o_end (fr' := [(0, .box 0 0), (2, .c (.int _ _)), (3, .c (.int _ _)), (7, .c (.bool _)), (14, .c (.bool _))]) rfl ?_
      refine e_kw ?_
      refine w_ret ?_
      have he7 := Option.some.inj h5
      subst he7
      refine e_ret (rs' := [.tmp 2]) rfl ?_
      refine r_tmp (v := .c (.int _ _)) rfl ?_
      refine r_nil ?_
      exact fin_gen [] rfl rfl rfl (AV.le_refl _) (st_r rfl st_nil)
noncomputable def ref01xReader_Left (p100v : Ref01Reader) : Option Int :=
  (ref01xReader_stopped p100v).bind fun (x1 : Bool) => cond x1 (some (0 : Int)) (some ((p100v.Rest).length : Int))
theorem w_ref01xReader_Left {p100v : Ref01Reader} {res : Int} (h : ref01xReader_Left p100v = some res) : ACalls Try.prog 58 [.box 0 0] [AV.cs (rowRef01Reader p100v)] (.c (.int .i64 res)) [AV.cs (rowRef01Reader p100v)] := by
  unfold ref01xReader_Left at h
  refine acalls (fn := Try.f58) [0, 2, 4] (by kernel_rfl) Try.func58 rfl (by kernel_rfl) (by kernel_rfl) ?_
  refine w_seqw ?_
  refine w_region ?_
  refine o_p rfl (p_assign (v := .c (.int _ _)) rfl) ?_
  refine o_end (fr' := [(0, .box 0 0), (2, .c (.int _ _)), (4, .any)]) rfl ?_
  refine e_kw ?_
  refine w_seqw ?_
  refine w_seqw ?_
  refine w_region ?_
  refine o_p rfl (p_move (v := .box 0 0) rfl) ?_
  obtain ⟨x1, hx1, h2⟩ := bind_s h
  refine o_call (v := .c (.bool _)) (σ' := [[.c (.bool _), .c (PV.ls _ _ _), .c (.int _ _)]]) [0] rfl (w_ref01xReader_stopped hx1) rfl rfl ⟨(AV.le_refl _), trivial⟩ (st_c ⟨rfl, rfl, rfl, trivial⟩ st_nil) rfl rfl rfl ?_
  refine o_end (fr' := [(0, .box 0 0), (2, .c (.int _ _)), (4, .c (.bool _))]) rfl ?_
  refine e_kw ?_
  refine w_cond _ rfl (fun hb3 => ?_) (fun hb3 => ?_)
  · skip
    have h3 := cond_t (b := x1) hb3 h2
    refine w_seqw ?_
    refine w_region ?_
    refine o_p rfl (p_assign (v := .c (.int _ _)) rfl) ?_
    refine o_end (fr' := [(0, .box 0 0), (2, .c (.int _ _)), (4, .c (.bool _))]) rfl ?_
    refine e_kw ?_
    refine w_ret ?_
    refine e_seq_r ?_
    have he4 := Option.some.inj h3
    subst he4
    refine e_ret (rs' := [.tmp 2]) rfl ?_
    refine r_tmp (v := .c (.int _ _)) rfl ?_
    refine r_nil ?_
    exact fin_gen [] rfl rfl rfl (AV.le_refl _) (st_r rfl st_nil)
  · skip
    have h3 := cond_f (b := x1) hb3 h2
    refine w_skip ?_
    refine e_kw ?_
    refine w_seqw ?_
    refine w_region ?_
    refine o_p rfl (p_move (v := .box 0 0) rfl) ?_
    refine o_p rfl (p_nc rfl) ?_
    refine o_p rfl (p_fa tf90x1 rfl) ?_
    refine o_p rfl (p_load (v := .c (PV.ls _ _ _)) tv22 rfl rfl rfl) ?_
    refine o_p rfl (p_len ti22 (isl_c rfl)) ?_
    refine o_p rfl (p_assign (v := .c (.int _ _)) rfl) ?_
    refine o_end (fr' := [(0, .box 0 0), (2, .c (.int _ _)), (4, .c (.bool _))]) rfl ?_
    refine e_kw ?_
    refine w_ret ?_
    have he5 := Option.some.inj h3
    subst he5
    refine e_ret (rs' := [.tmp 2]) rfl ?_
    refine r_tmp (v := .c (.int _ _)) rfl ?_
    refine r_nil ?_
    exact fin_gen [] rfl rfl rfl (AV.le_refl _) (st_r rfl st_nil)
noncomputable def law01xplay (p2c : Law01Read) (p100v : WireReader) (p101v : Ref01Reader) : Option (Bool × WireReader × Ref01Reader) :=
  ((cond (decide (p2c.Kind = (0 : Int))) ((wire_Reader_Int p2c.Low p2c.High p100v).bind fun (x5 : (Int × WireReader)) => (ref01xReader_Int p2c.Low p2c.High p101v).bind fun (x7 : (Int × Ref01Reader)) => some ((decide (x5.1 = x7.1)), x5.2, x7.2)) (cond (decide (p2c.Kind = (1 : Int))) ((wire_Reader_Text p2c.High p100v).bind fun (x10 : ((List UInt8) × WireReader)) => (ref01xReader_Text p2c.High p101v).bind fun (x12 : ((List UInt8) × Ref01Reader)) => some ((decide (x10.1 = x12.1)), x10.2, x12.2)) (cond (decide (p2c.Kind = (2 : Int))) ((wire_Reader_Bool p100v).bind fun (x15 : (Bool × WireReader)) => (ref01xReader_Bool p101v).bind fun (x17 : (Bool × Ref01Reader)) => some ((x15.1 == x17.1), x15.2, x17.2)) (cond (decide (p2c.Kind = (3 : Int))) ((wire_Reader_Fail p2c.Low p100v).bind fun (x20 : WireReader) => (ref01xReader_Fail p2c.Low p101v).bind fun (x22 : Ref01Reader) => some (true, x20, x22)) (some (true, p100v, p101v)))))) : Option (Bool × WireReader × Ref01Reader)).bind fun (x1 : (Bool × WireReader × Ref01Reader)) => (cond x1.1 ((wire_Reader_Err x1.2.1).bind fun (x26 : Int) => (ref01xReader_Err x1.2.2).bind fun (x28 : Int) => cond (decide (x26 = x28)) ((wire_Reader_End x1.2.1).bind fun (x31 : Int) => (ref01xReader_End x1.2.2).bind fun (x33 : Int) => cond (decide (x31 = x33)) ((wire_Reader_Left x1.2.1).bind fun (x36 : Int) => (ref01xReader_Left x1.2.2).bind fun (x38 : Int) => some ((decide (x36 = x38)), x1.2.1, x1.2.2)) (some (false, x1.2.1, x1.2.2))) (some (false, x1.2.1, x1.2.2))) (some (false, x1.2.1, x1.2.2)))
theorem w_law01xplay {p2c : Law01Read} {p100v : WireReader} {p101v : Ref01Reader} {res : (Bool × WireReader × Ref01Reader)} (h : law01xplay p2c p100v p101v = some res) : ACalls Try.prog 32 [.box 0 0, .box 1 0, .agg (AV.cs (rowLaw01Read p2c))] [AV.cs (rowWireReader p100v), AV.cs (rowRef01Reader p101v)] (.c (.bool res.1)) [AV.cs (rowWireReader res.2.1), AV.cs (rowRef01Reader res.2.2)] := by
  unfold law01xplay at h
  refine acalls (fn := Try.f32) [0, 1, 2, 5, 6, 7, 9, 10, 25, 36, 43] (by kernel_rfl) Try.func32 rfl (by kernel_rfl) (by kernel_rfl) ?_
  refine w_seqw ?_
  refine w_region ?_
  refine o_box (v := .agg [.c (.int _ _), .c (.int _ _), .c (.int _ _)]) (n := 2) (cs := [.c (.int _ _), .c (.int _ _), .c (.int _ _)]) (σ' := [[.c (PV.ls _ _ _), .c (.int _ _), .c (.int _ _), .c (.bool _)], [.c (.bool _), .c (PV.ls _ _ _), .c (.int _ _)], [.c (.int _ _), .c (.int _ _), .c (.int _ _)]]) rfl rfl rfl rfl rfl ?_
  refine o_p rfl (p_assign (v := .c (.bool _)) rfl) ?_
  refine o_end (fr' := [(0, .box 0 0), (1, .box 1 0), (2, .agg [.c (.int _ _), .c (.int _ _), .c (.int _ _)]), (5, .box 2 0), (6, .c (.bool _)), (7, .any), (9, .any), (10, .any), (25, .any), (36, .any), (43, .any)]) rfl ?_
  refine e_kw ?_
  refine w_seqw ?_
  refine w_region ?_
  refine o_p rfl (p_assign (v := .c (.bool _)) rfl) ?_
  refine o_end (fr' := [(0, .box 0 0), (1, .box 1 0), (2, .agg [.c (.int _ _), .c (.int _ _), .c (.int _ _)]), (5, .box 2 0), (6, .c (.bool _)), (7, .c (.bool _)), (9, .any), (10, .any), (25, .any), (36, .any), (43, .any)]) rfl ?_
  refine e_kw ?_
  obtain ⟨x1, hx1, h2⟩ := bind_s h
  refine w_join (fun j3 => x1 = j3) (fun (j3 : (Bool × WireReader × Ref01Reader)) => ([(0, .box 0 0), (1, .box 1 0), (7, .c (.bool j3.1))] : Fr)) (fun (j3 : (Bool × WireReader × Ref01Reader)) => ([[.c (PV.ls 1 brow j3.2.1.b_), .c (.int .i64 j3.2.1.at_), .c (.int .i64 j3.2.1.err_), .c (.bool j3.2.1.made_)], [.c (.bool j3.2.2.Made), .c (PV.ls 1 brow j3.2.2.Rest), .c (.int .i64 j3.2.2.Bad)], [.c (.int .i64 p2c.Kind), .c (.int .i64 p2c.Low), .c (.int .i64 p2c.High)]] : St)) ?_ ?_
  · skip
    refine w_seqw ?_
    refine w_region ?_
    refine o_p rfl (p_fa tf56x0 rfl) ?_
    refine o_p rfl (p_load (v := .c (.int _ _)) tv3 rfl rfl rfl) ?_
    refine o_end (fr' := [(0, .box 0 0), (1, .box 1 0), (2, .agg [.c (.int _ _), .c (.int _ _), .c (.int _ _)]), (5, .box 2 0), (6, .c (.bool _)), (7, .c (.bool _)), (9, .c (.int _ _)), (10, .any), (25, .any), (36, .any), (43, .any)]) rfl ?_
    refine e_kw ?_
    refine w_block ?_
    refine w_seqw ?_
    refine w_region ?_
    refine o_p rfl (p_eql rfl rfl) ?_
    refine o_p rfl (p_assign (v := .c (.bool _)) rfl) ?_
    refine o_end (fr' := [(0, .box 0 0), (1, .box 1 0), (2, .agg [.c (.int _ _), .c (.int _ _), .c (.int _ _)]), (5, .box 2 0), (6, .c (.bool _)), (7, .c (.bool _)), (9, .c (.int _ _)), (10, .c (.bool _)), (25, .any), (36, .any), (43, .any)]) rfl ?_
    refine e_kw ?_
    refine w_cond _ rfl (fun hb4 => ?_) (fun hb4 => ?_)
    · skip
      have h4 := cond_t (b := (decide (p2c.Kind = (0 : Int)))) hb4 hx1
      refine w_planT [.q 0, .q 1, .q 2, .q 3, .q 4, .q 6, .q 7, .q 8, .q 9, .q 10, .n 5 [6, 7, 8, 9, 10], .n 11 [], .q 12, .n 13 []] [(some 12, [0]), (some 13, [5]), (some 14, [13]), (some 15, [5]), (some 16, [15]), (some 17, [12, 14, 16]), (some 18, [1]), (some 19, [5]), (some 20, [19]), (some 21, [5]), (some 22, [21]), (some 23, [18, 20, 22]), (some 24, [17, 23]), (some 7, [24])] [0, 0, 2, 0, 8, 31, 0, 0, 128, 0, 512, 2047, 4095, 8191] (by kernel_rfl) ?_
      refine d_q rfl (qv_p rfl (p_move (v := .box 0 0) rfl)) ?_
      refine d_q rfl (qv_p rfl (p_fa tf56x1 rfl)) ?_
      refine d_q rfl (qv_p rfl (p_load (v := .c (.int _ _)) tv3 rfl rfl rfl)) ?_
      refine d_q rfl (qv_p rfl (p_fa tf56x2 rfl)) ?_
      refine d_q rfl (qv_p rfl (p_load (v := .c (.int _ _)) tv3 rfl rfl rfl)) ?_
      refine d_q rfl (qv_p rfl (p_move (v := .box 1 0) rfl)) ?_
      refine d_q rfl (qv_p rfl (p_fa tf56x1 rfl)) ?_
      refine d_q rfl (qv_p rfl (p_load (v := .c (.int _ _)) tv3 rfl rfl rfl)) ?_
      refine d_q rfl (qv_p rfl (p_fa tf56x2 rfl)) ?_
      refine d_q rfl (qv_p rfl (p_load (v := .c (.int _ _)) tv3 rfl rfl rfl)) ?_
      refine d_n rfl ?_ rfl
      obtain ⟨x5, hx5, h6⟩ := bind_s h4
      refine o_call (v := .c (.int _ _)) (σ' := [[.c (PV.ls _ _ _), .c (.int _ _), .c (.int _ _), .c (.bool _)], [.c (.bool _), .c (PV.ls _ _ _), .c (.int _ _)], [.c (.int _ _), .c (.int _ _), .c (.int _ _)]]) [0] rfl (w_wire_Reader_Int hx5) rfl rfl ⟨(AV.le_refl _), (AV.le_refl _), (AV.le_refl _), trivial⟩ (st_c ⟨rfl, rfl, rfl, rfl, trivial⟩ st_nil) rfl rfl rfl ?_
      refine o_rc ?_
      refine ⟨(rc_q (v := .box 1 0) rfl rfl (qv_p rfl (p_move (v := .box 1 0) rfl)) (rc_q (v := .box 2 1) rfl rfl (qv_p rfl (p_fa tf56x1 rfl)) (rc_q (v := .c (.int _ _)) rfl rfl (qv_p rfl (p_load (v := .c (.int _ _)) tv3 rfl rfl rfl)) (rc_q (v := .box 2 2) rfl rfl (qv_p rfl (p_fa tf56x2 rfl)) (rc_q (v := .c (.int _ _)) rfl rfl (qv_p rfl (p_load (v := .c (.int _ _)) tv3 rfl rfl rfl)) rc_nil))))), ?_⟩
      refine d_n rfl ?_ rfl
      obtain ⟨x7, hx7, h8⟩ := bind_s h6
      refine o_call (v := .c (.int _ _)) (σ' := [[.c (PV.ls _ _ _), .c (.int _ _), .c (.int _ _), .c (.bool _)], [.c (.bool _), .c (PV.ls _ _ _), .c (.int _ _)], [.c (.int _ _), .c (.int _ _), .c (.int _ _)]]) [1] rfl (w_ref01xReader_Int hx7) rfl rfl ⟨(AV.le_refl _), (AV.le_refl _), (AV.le_refl _), trivial⟩ (st_c ⟨rfl, rfl, rfl, trivial⟩ st_nil) rfl rfl rfl ?_
      refine o_rc ?_
      refine ⟨rc_nil, ?_⟩
      refine d_q rfl (qv_p rfl (p_eql rfl rfl)) ?_
      refine d_n rfl ?_ rfl
      refine o_p rfl (p_assign (v := .c (.bool _)) rfl) ?_
      refine o_rc ?_
      refine ⟨rc_nil, ?_⟩
      refine d_end (fr' := [(0, .box 0 0), (1, .box 1 0), (2, .agg [.c (.int _ _), .c (.int _ _), .c (.int _ _)]), (5, .box 2 0), (6, .c (.bool _)), (7, .c (.bool _)), (9, .c (.int _ _)), (10, .c (.bool _)), (25, .any), (36, .any), (43, .any)]) rfl ?_
      refine e_blk_n ?_
      exact e_j _ (Option.some.inj h8).symm (w_weak [] 3 rfl rfl rfl rfl ⟨(AV.le_refl _), (AV.le_refl _), (AV.le_refl _), trivial⟩ (st_r rfl (st_r rfl (st_r rfl st_nil))))
    · skip
      have h4 := cond_f (b := (decide (p2c.Kind = (0 : Int)))) hb4 hx1
      refine w_seqw ?_
      refine w_region ?_
      refine o_p rfl (p_eql rfl rfl) ?_
      refine o_p rfl (p_assign (v := .c (.bool _)) rfl) ?_
      refine o_end (fr' := [(0, .box 0 0), (1, .box 1 0), (2, .agg [.c (.int _ _), .c (.int _ _), .c (.int _ _)]), (5, .box 2 0), (6, .c (.bool _)), (7, .c (.bool _)), (9, .c (.int _ _)), (10, .c (.bool _)), (25, .c (.bool _)), (36, .any), (43, .any)]) rfl ?_
      refine e_kw ?_
      refine w_cond _ rfl (fun hb9 => ?_) (fun hb9 => ?_)
      · skip
        have h9 := cond_t (b := (decide (p2c.Kind = (1 : Int)))) hb9 h4
        refine w_planT [.q 0, .q 1, .q 2, .q 4, .q 5, .q 6, .n 3 [4, 5, 6], .n 7 [], .q 8, .n 9 []] [(some 27, [0]), (some 28, [5]), (some 29, [28]), (some 30, [27, 29]), (some 31, [1]), (some 32, [5]), (some 33, [32]), (some 34, [31, 33]), (some 35, [30, 34]), (some 7, [35])] [0, 0, 2, 7, 0, 0, 32, 127, 255, 511] (by kernel_rfl) ?_
        refine d_q rfl (qv_p rfl (p_move (v := .box 0 0) rfl)) ?_
        refine d_q rfl (qv_p rfl (p_fa tf56x2 rfl)) ?_
        refine d_q rfl (qv_p rfl (p_load (v := .c (.int _ _)) tv3 rfl rfl rfl)) ?_
        refine d_q rfl (qv_p rfl (p_move (v := .box 1 0) rfl)) ?_
        refine d_q rfl (qv_p rfl (p_fa tf56x2 rfl)) ?_
        refine d_q rfl (qv_p rfl (p_load (v := .c (.int _ _)) tv3 rfl rfl rfl)) ?_
        refine d_n rfl ?_ rfl
        obtain ⟨x10, hx10, h11⟩ := bind_s h9
        refine o_call (v := .c (.str _)) (σ' := [[.c (PV.ls _ _ _), .c (.int _ _), .c (.int _ _), .c (.bool _)], [.c (.bool _), .c (PV.ls _ _ _), .c (.int _ _)], [.c (.int _ _), .c (.int _ _), .c (.int _ _)]]) [0] rfl (w_wire_Reader_Text hx10) rfl rfl ⟨(AV.le_refl _), (AV.le_refl _), trivial⟩ (st_c ⟨rfl, rfl, rfl, rfl, trivial⟩ st_nil) rfl rfl rfl ?_
        refine o_rc ?_
        refine ⟨(rc_q (v := .box 1 0) rfl rfl (qv_p rfl (p_move (v := .box 1 0) rfl)) (rc_q (v := .box 2 2) rfl rfl (qv_p rfl (p_fa tf56x2 rfl)) (rc_q (v := .c (.int _ _)) rfl rfl (qv_p rfl (p_load (v := .c (.int _ _)) tv3 rfl rfl rfl)) rc_nil))), ?_⟩
        refine d_n rfl ?_ rfl
        obtain ⟨x12, hx12, h13⟩ := bind_s h11
        refine o_call (v := .c (.str _)) (σ' := [[.c (PV.ls _ _ _), .c (.int _ _), .c (.int _ _), .c (.bool _)], [.c (.bool _), .c (PV.ls _ _ _), .c (.int _ _)], [.c (.int _ _), .c (.int _ _), .c (.int _ _)]]) [1] rfl (w_ref01xReader_Text hx12) rfl rfl ⟨(AV.le_refl _), (AV.le_refl _), trivial⟩ (st_c ⟨rfl, rfl, rfl, trivial⟩ st_nil) rfl rfl rfl ?_
        refine o_rc ?_
        refine ⟨rc_nil, ?_⟩
        refine d_q rfl (qv_p rfl (p_seql rfl rfl)) ?_
        refine d_n rfl ?_ rfl
        refine o_p rfl (p_assign (v := .c (.bool _)) rfl) ?_
        refine o_rc ?_
        refine ⟨rc_nil, ?_⟩
        refine d_end (fr' := [(0, .box 0 0), (1, .box 1 0), (2, .agg [.c (.int _ _), .c (.int _ _), .c (.int _ _)]), (5, .box 2 0), (6, .c (.bool _)), (7, .c (.bool _)), (9, .c (.int _ _)), (10, .c (.bool _)), (25, .c (.bool _)), (36, .any), (43, .any)]) rfl ?_
        refine e_blk_n ?_
        exact e_j _ (Option.some.inj h13).symm (w_weak [] 3 rfl rfl rfl rfl ⟨(AV.le_refl _), (AV.le_refl _), (AV.le_refl _), trivial⟩ (st_r rfl (st_r rfl (st_r rfl st_nil))))
      · skip
        have h9 := cond_f (b := (decide (p2c.Kind = (1 : Int)))) hb9 h4
        refine w_seqw ?_
        refine w_region ?_
        refine o_p rfl (p_eql rfl rfl) ?_
        refine o_p rfl (p_assign (v := .c (.bool _)) rfl) ?_
        refine o_end (fr' := [(0, .box 0 0), (1, .box 1 0), (2, .agg [.c (.int _ _), .c (.int _ _), .c (.int _ _)]), (5, .box 2 0), (6, .c (.bool _)), (7, .c (.bool _)), (9, .c (.int _ _)), (10, .c (.bool _)), (25, .c (.bool _)), (36, .c (.bool _)), (43, .any)]) rfl ?_
        refine e_kw ?_
        refine w_cond _ rfl (fun hb14 => ?_) (fun hb14 => ?_)
        · skip
          have h14 := cond_t (b := (decide (p2c.Kind = (2 : Int)))) hb14 h9
          refine w_region ?_
          refine o_p rfl (p_move (v := .box 0 0) rfl) ?_
          obtain ⟨x15, hx15, h16⟩ := bind_s h14
          refine o_call (v := .c (.bool _)) (σ' := [[.c (PV.ls _ _ _), .c (.int _ _), .c (.int _ _), .c (.bool _)], [.c (.bool _), .c (PV.ls _ _ _), .c (.int _ _)], [.c (.int _ _), .c (.int _ _), .c (.int _ _)]]) [0] rfl (w_wire_Reader_Bool hx15) rfl rfl ⟨(AV.le_refl _), trivial⟩ (st_c ⟨rfl, rfl, rfl, rfl, trivial⟩ st_nil) rfl rfl rfl ?_
          refine o_p rfl (p_move (v := .box 1 0) rfl) ?_
          obtain ⟨x17, hx17, h18⟩ := bind_s h16
          refine o_call (v := .c (.bool _)) (σ' := [[.c (PV.ls _ _ _), .c (.int _ _), .c (.int _ _), .c (.bool _)], [.c (.bool _), .c (PV.ls _ _ _), .c (.int _ _)], [.c (.int _ _), .c (.int _ _), .c (.int _ _)]]) [1] rfl (w_ref01xReader_Bool hx17) rfl rfl ⟨(AV.le_refl _), trivial⟩ (st_c ⟨rfl, rfl, rfl, trivial⟩ st_nil) rfl rfl rfl ?_
          refine o_p rfl (p_beql ti4 rfl rfl) ?_
          refine o_p rfl (p_assign (v := .c (.bool _)) rfl) ?_
          refine o_end (fr' := [(0, .box 0 0), (1, .box 1 0), (2, .agg [.c (.int _ _), .c (.int _ _), .c (.int _ _)]), (5, .box 2 0), (6, .c (.bool _)), (7, .c (.bool _)), (9, .c (.int _ _)), (10, .c (.bool _)), (25, .c (.bool _)), (36, .c (.bool _)), (43, .any)]) rfl ?_
          refine e_blk_n ?_
          exact e_j _ (Option.some.inj h18).symm (w_weak [] 3 rfl rfl rfl rfl ⟨(AV.le_refl _), (AV.le_refl _), (AV.le_refl _), trivial⟩ (st_r rfl (st_r rfl (st_r rfl st_nil))))
        · skip
          have h14 := cond_f (b := (decide (p2c.Kind = (2 : Int)))) hb14 h9
          refine w_seqw ?_
          refine w_region ?_
          refine o_p rfl (p_eql rfl rfl) ?_
          refine o_p rfl (p_assign (v := .c (.bool _)) rfl) ?_
          refine o_end (fr' := [(0, .box 0 0), (1, .box 1 0), (2, .agg [.c (.int _ _), .c (.int _ _), .c (.int _ _)]), (5, .box 2 0), (6, .c (.bool _)), (7, .c (.bool _)), (9, .c (.int _ _)), (10, .c (.bool _)), (25, .c (.bool _)), (36, .c (.bool _)), (43, .c (.bool _))]) rfl ?_
          refine e_kw ?_
          refine w_cond _ rfl (fun hb19 => ?_) (fun hb19 => ?_)
          · skip
            have h19 := cond_t (b := (decide (p2c.Kind = (3 : Int)))) hb19 h14
            refine w_seqw ?_
            refine w_region ?_
            refine o_p rfl (p_move (v := .box 0 0) rfl) ?_
            refine o_p rfl (p_fa tf56x1 rfl) ?_
            refine o_p rfl (p_load (v := .c (.int _ _)) tv3 rfl rfl rfl) ?_
            obtain ⟨x20, hx20, h21⟩ := bind_s h19
            refine o_call (v := _) (σ' := [[.c (PV.ls _ _ _), .c (.int _ _), .c (.int _ _), .c (.bool _)], [.c (.bool _), .c (PV.ls _ _ _), .c (.int _ _)], [.c (.int _ _), .c (.int _ _), .c (.int _ _)]]) [0] rfl (w_wire_Reader_Fail hx20) rfl rfl ⟨(AV.le_refl _), (AV.le_refl _), trivial⟩ (st_c ⟨rfl, rfl, rfl, rfl, trivial⟩ st_nil) rfl rfl rfl ?_
            refine o_end (fr' := [(0, .box 0 0), (1, .box 1 0), (2, .agg [.c (.int _ _), .c (.int _ _), .c (.int _ _)]), (5, .box 2 0), (6, .c (.bool _)), (7, .c (.bool _)), (9, .c (.int _ _)), (10, .c (.bool _)), (25, .c (.bool _)), (36, .c (.bool _)), (43, .c (.bool _))]) rfl ?_
            refine e_kw ?_
            refine w_region ?_
            refine o_p rfl (p_move (v := .box 1 0) rfl) ?_
            refine o_p rfl (p_fa tf56x1 rfl) ?_
            refine o_p rfl (p_load (v := .c (.int _ _)) tv3 rfl rfl rfl) ?_
            obtain ⟨x22, hx22, h23⟩ := bind_s h21
            refine o_call (v := _) (σ' := [[.c (PV.ls _ _ _), .c (.int _ _), .c (.int _ _), .c (.bool _)], [.c (.bool _), .c (PV.ls _ _ _), .c (.int _ _)], [.c (.int _ _), .c (.int _ _), .c (.int _ _)]]) [1] rfl (w_ref01xReader_Fail hx22) rfl rfl ⟨(AV.le_refl _), (AV.le_refl _), trivial⟩ (st_c ⟨rfl, rfl, rfl, trivial⟩ st_nil) rfl rfl rfl ?_
            refine o_end (fr' := [(0, .box 0 0), (1, .box 1 0), (2, .agg [.c (.int _ _), .c (.int _ _), .c (.int _ _)]), (5, .box 2 0), (6, .c (.bool _)), (7, .c (.bool _)), (9, .c (.int _ _)), (10, .c (.bool _)), (25, .c (.bool _)), (36, .c (.bool _)), (43, .c (.bool _))]) rfl ?_
            refine e_blk_n ?_
            exact e_j _ (Option.some.inj h23).symm (w_weak [] 3 rfl rfl rfl rfl ⟨(AV.le_refl _), (AV.le_refl _), (AV.le_refl _), trivial⟩ (st_r rfl (st_r rfl (st_r rfl st_nil))))
          · skip
            have h19 := cond_f (b := (decide (p2c.Kind = (3 : Int)))) hb19 h14
            refine w_skip ?_
            refine e_blk_n ?_
            exact e_j _ (Option.some.inj h19).symm (w_weak [] 3 rfl rfl rfl rfl ⟨(AV.le_refl _), (AV.le_refl _), (AV.le_refl _), trivial⟩ (st_r rfl (st_r rfl (st_r rfl st_nil))))
  · skip
    intro j3 hj24
    subst hj24
    refine w_seqw ?_
    refine w_region ?_
    refine o_p rfl (p_move (v := .c (.bool _)) rfl) ?_
    refine o_p rfl (p_move (v := .c (.bool _)) rfl) ?_
    rcases Bool.eq_false_or_eq_true x1.1 with hb25 | hb25
    · skip
      have h25 := cond_t hb25 h2
      refine o_yes rfl rfl hb25 ?_
      refine o_p rfl (p_move (v := .box 0 0) rfl) ?_
      refine o_yes rfl rfl hb25 ?_
      obtain ⟨x26, hx26, h27⟩ := bind_s h25
      refine o_call (v := .c (.int _ _)) (σ' := [[.c (PV.ls _ _ _), .c (.int _ _), .c (.int _ _), .c (.bool _)], [.c (.bool _), .c (PV.ls _ _ _), .c (.int _ _)], [.c (.int _ _), .c (.int _ _), .c (.int _ _)]]) [0] rfl (w_wire_Reader_Err hx26) rfl rfl ⟨(AV.le_refl _), trivial⟩ (st_c ⟨rfl, rfl, rfl, rfl, trivial⟩ st_nil) rfl rfl rfl ?_
      refine o_yes rfl rfl hb25 ?_
      refine o_p rfl (p_move (v := .box 1 0) rfl) ?_
      refine o_yes rfl rfl hb25 ?_
      obtain ⟨x28, hx28, h29⟩ := bind_s h27
      refine o_call (v := .c (.int _ _)) (σ' := [[.c (PV.ls _ _ _), .c (.int _ _), .c (.int _ _), .c (.bool _)], [.c (.bool _), .c (PV.ls _ _ _), .c (.int _ _)], [.c (.int _ _), .c (.int _ _), .c (.int _ _)]]) [1] rfl (w_ref01xReader_Err hx28) rfl rfl ⟨(AV.le_refl _), trivial⟩ (st_c ⟨rfl, rfl, rfl, trivial⟩ st_nil) rfl rfl rfl ?_
      refine o_yes rfl rfl hb25 ?_
      refine o_p rfl (p_eql rfl rfl) ?_
      refine o_p rfl (p_pick_t rfl hb25 rfl) ?_
      refine o_p rfl (p_move (v := .c (.bool _)) rfl) ?_
      rcases Bool.eq_false_or_eq_true (decide (x26 = x28)) with hb30 | hb30
      · skip
        have h30 := cond_t hb30 h29
        refine o_yes rfl rfl hb30 ?_
        refine o_p rfl (p_move (v := .box 0 0) rfl) ?_
        refine o_yes rfl rfl hb30 ?_
        obtain ⟨x31, hx31, h32⟩ := bind_s h30
        refine o_call (v := .c (.int _ _)) (σ' := [[.c (PV.ls _ _ _), .c (.int _ _), .c (.int _ _), .c (.bool _)], [.c (.bool _), .c (PV.ls _ _ _), .c (.int _ _)], [.c (.int _ _), .c (.int _ _), .c (.int _ _)]]) [0] rfl (w_wire_Reader_End hx31) rfl rfl ⟨(AV.le_refl _), trivial⟩ (st_c ⟨rfl, rfl, rfl, rfl, trivial⟩ st_nil) rfl rfl rfl ?_
        refine o_yes rfl rfl hb30 ?_
        refine o_p rfl (p_move (v := .box 1 0) rfl) ?_
        refine o_yes rfl rfl hb30 ?_
        obtain ⟨x33, hx33, h34⟩ := bind_s h32
        refine o_call (v := .c (.int _ _)) (σ' := [[.c (PV.ls _ _ _), .c (.int _ _), .c (.int _ _), .c (.bool _)], [.c (.bool _), .c (PV.ls _ _ _), .c (.int _ _)], [.c (.int _ _), .c (.int _ _), .c (.int _ _)]]) [1] rfl (w_ref01xReader_End hx33) rfl rfl ⟨(AV.le_refl _), trivial⟩ (st_c ⟨rfl, rfl, rfl, trivial⟩ st_nil) rfl rfl rfl ?_
        refine o_yes rfl rfl hb30 ?_
        refine o_p rfl (p_eql rfl rfl) ?_
        refine o_p rfl (p_pick_t rfl hb30 rfl) ?_
        refine o_p rfl (p_move (v := .c (.bool _)) rfl) ?_
        rcases Bool.eq_false_or_eq_true (decide (x31 = x33)) with hb35 | hb35
        · skip
          have h35 := cond_t hb35 h34
          refine o_yes rfl rfl hb35 ?_
          refine o_p rfl (p_move (v := .box 0 0) rfl) ?_
          refine o_yes rfl rfl hb35 ?_
          obtain ⟨x36, hx36, h37⟩ := bind_s h35
          refine o_call (v := .c (.int _ _)) (σ' := [[.c (PV.ls _ _ _), .c (.int _ _), .c (.int _ _), .c (.bool _)], [.c (.bool _), .c (PV.ls _ _ _), .c (.int _ _)], [.c (.int _ _), .c (.int _ _), .c (.int _ _)]]) [0] rfl (w_wire_Reader_Left hx36) rfl rfl ⟨(AV.le_refl _), trivial⟩ (st_c ⟨rfl, rfl, rfl, rfl, trivial⟩ st_nil) rfl rfl rfl ?_
          refine o_yes rfl rfl hb35 ?_
          refine o_p rfl (p_move (v := .box 1 0) rfl) ?_
          refine o_yes rfl rfl hb35 ?_
          obtain ⟨x38, hx38, h39⟩ := bind_s h37
          refine o_call (v := .c (.int _ _)) (σ' := [[.c (PV.ls _ _ _), .c (.int _ _), .c (.int _ _), .c (.bool _)], [.c (.bool _), .c (PV.ls _ _ _), .c (.int _ _)], [.c (.int _ _), .c (.int _ _), .c (.int _ _)]]) [1] rfl (w_ref01xReader_Left hx38) rfl rfl ⟨(AV.le_refl _), trivial⟩ (st_c ⟨rfl, rfl, rfl, trivial⟩ st_nil) rfl rfl rfl ?_
          refine o_yes rfl rfl hb35 ?_
          refine o_p rfl (p_eql rfl rfl) ?_
          refine o_p rfl (p_pick_t rfl hb35 rfl) ?_
          refine o_p rfl (p_assign (v := .c (.bool _)) rfl) ?_
          refine o_end (fr' := [(0, .box 0 0), (1, .box 1 0), (2, .any), (5, .any), (6, .c (.bool _)), (7, .c (.bool _)), (9, .any), (10, .any), (25, .any), (36, .any), (43, .any)]) rfl ?_
          refine e_kw ?_
          refine w_ret ?_
          have he40 := Option.some.inj h39
          subst he40
          refine e_ret (rs' := [.tmp 6]) rfl ?_
          refine r_tmp (v := .c (.bool _)) rfl ?_
          refine r_nil ?_
          exact fin_gen [] rfl rfl rfl (AV.le_refl _) (st_c ⟨rfl, rfl, rfl, rfl, trivial⟩ (st_c ⟨rfl, rfl, rfl, trivial⟩ st_nil))
        · skip
          have h35 := cond_f hb35 h34
          refine o_no rfl rfl hb35 ?_
          refine o_no rfl rfl hb35 ?_
          refine o_no rfl rfl hb35 ?_
          refine o_no rfl rfl hb35 ?_
          refine o_no rfl rfl hb35 ?_
          refine o_p rfl (p_pick_f rfl hb35 rfl) ?_
          refine o_p rfl (p_assign (v := .c (.bool _)) rfl) ?_
          refine o_end (fr' := [(0, .box 0 0), (1, .box 1 0), (2, .any), (5, .any), (6, .c (.bool _)), (7, .c (.bool _)), (9, .any), (10, .any), (25, .any), (36, .any), (43, .any)]) rfl ?_
          refine e_kw ?_
          refine w_ret ?_
          have he41 := Option.some.inj h35
          subst he41
          refine e_ret (rs' := [.tmp 6]) rfl ?_
          refine r_tmp (v := .c (.bool _)) rfl ?_
          refine r_nil ?_
          exact fin_gen [] rfl rfl rfl (AV.le_refl _) (st_c ⟨rfl, rfl, rfl, rfl, trivial⟩ (st_c ⟨rfl, rfl, rfl, trivial⟩ st_nil))
      · skip
        have h30 := cond_f hb30 h29
        refine o_no rfl rfl hb30 ?_
        refine o_no rfl rfl hb30 ?_
        refine o_no rfl rfl hb30 ?_
        refine o_no rfl rfl hb30 ?_
        refine o_no rfl rfl hb30 ?_
        refine o_p rfl (p_pick_f rfl hb30 rfl) ?_
        refine o_p rfl (p_move (v := .c (.bool _)) rfl) ?_
        refine o_no rfl rfl rfl ?_
        refine o_no rfl rfl rfl ?_
        refine o_no rfl rfl rfl ?_
        refine o_no rfl rfl rfl ?_
        refine o_no rfl rfl rfl ?_
        refine o_p rfl (p_pick_f rfl rfl rfl) ?_
        refine o_p rfl (p_assign (v := .c (.bool _)) rfl) ?_
        refine o_end (fr' := [(0, .box 0 0), (1, .box 1 0), (2, .any), (5, .any), (6, .c (.bool _)), (7, .c (.bool _)), (9, .any), (10, .any), (25, .any), (36, .any), (43, .any)]) rfl ?_
        refine e_kw ?_
        refine w_ret ?_
        have he42 := Option.some.inj h30
        subst he42
        refine e_ret (rs' := [.tmp 6]) rfl ?_
        refine r_tmp (v := .c (.bool _)) rfl ?_
        refine r_nil ?_
        exact fin_gen [] rfl rfl rfl (AV.le_refl _) (st_c ⟨rfl, rfl, rfl, rfl, trivial⟩ (st_c ⟨rfl, rfl, rfl, trivial⟩ st_nil))
    · skip
      have h25 := cond_f hb25 h2
      refine o_no rfl rfl hb25 ?_
      refine o_no rfl rfl hb25 ?_
      refine o_no rfl rfl hb25 ?_
      refine o_no rfl rfl hb25 ?_
      refine o_no rfl rfl hb25 ?_
      refine o_p rfl (p_pick_f rfl hb25 rfl) ?_
      refine o_p rfl (p_move (v := .c (.bool _)) rfl) ?_
      refine o_no rfl rfl rfl ?_
      refine o_no rfl rfl rfl ?_
      refine o_no rfl rfl rfl ?_
      refine o_no rfl rfl rfl ?_
      refine o_no rfl rfl rfl ?_
      refine o_p rfl (p_pick_f rfl rfl rfl) ?_
      refine o_p rfl (p_move (v := .c (.bool _)) rfl) ?_
      refine o_no rfl rfl rfl ?_
      refine o_no rfl rfl rfl ?_
      refine o_no rfl rfl rfl ?_
      refine o_no rfl rfl rfl ?_
      refine o_no rfl rfl rfl ?_
      refine o_p rfl (p_pick_f rfl rfl rfl) ?_
      refine o_p rfl (p_assign (v := .c (.bool _)) rfl) ?_
      refine o_end (fr' := [(0, .box 0 0), (1, .box 1 0), (2, .any), (5, .any), (6, .c (.bool _)), (7, .c (.bool _)), (9, .any), (10, .any), (25, .any), (36, .any), (43, .any)]) rfl ?_
      refine e_kw ?_
      refine w_ret ?_
      have he43 := Option.some.inj h25
      subst he43
      refine e_ret (rs' := [.tmp 6]) rfl ?_
      refine r_tmp (v := .c (.bool _)) rfl ?_
      refine r_nil ?_
      exact fin_gen [] rfl rfl rfl (AV.le_refl _) (st_c ⟨rfl, rfl, rfl, rfl, trivial⟩ (st_c ⟨rfl, rfl, rfl, trivial⟩ st_nil))
end Go.Proofs.Ytnhchphmmdgphaa

import Derived.Test.YtnhchphmmdgphaaGATy
import Derived.Test.YtnhchphmmdgphaaGAF1
import Derived.Test.YtnhchphmmdgphaaGAF2
namespace Go.Proofs.Ytnhchphmmdgphaa
open Go Abs
set_option maxRecDepth 100000
set_option linter.unusedVariables false
set_option linter.unusedSimpArgs false
noncomputable def ref02xDepth_l1 (rec_ref02xDepth : ApiValue → Option Int) (p0v : ApiValue) (s4 : (Int × Int)) : Option (Step (Int × Int) Int) :=
 cond (decide (s4.2 < ((p0v.Items).length : Int))) ((idx p0v.Items s4.2).bind fun (x6 : ApiValue) => (rec_ref02xDepth x6).bind fun (x8 : Int) => cond (decide (s4.1 < x8)) (some (Step.next (x8, (IntKind.wrap .i64 (s4.2 + (1 : Int)))))) (some (Step.next (s4.1, (IntKind.wrap .i64 (s4.2 + (1 : Int))))))) (some (Step.out s4.1))
noncomputable def ref02xDepthF : Nat → ApiValue → Option Int
 | 0, _ => none
 | n + 1, p0v =>
  ((loopO (ref02xDepth_l1 (ref02xDepthF n) p0v) (((0 : Int), (0 : Int)))) : Option Int).bind fun (x1 : Int) => (some (IntKind.wrap .i64 (x1 + (1 : Int))))
theorem wF_ref02xDepth : ∀ n : Nat, (∀ {p0v : ApiValue} {res : Int}, ref02xDepthF n p0v = some res → ACalls Try.prog 99 [.agg (AV.cs (exApiValue p0v))] [] (.c (.int .i64 res)) []) := by
 intro n
 induction n with
 | zero => exact fun {p0v res} h => absurd h (by simp [ref02xDepthF])
 | succ n ih =>
  have ih_ref02xDepth := @ih
  intro p0v res h
  rw [ref02xDepthF] at h
  refine acalls (fn := Try.f99) [0, 1, 2, 3, 4, 5, 10, 21] (by kernel_rfl) Try.func99 rfl (by kernel_rfl) (by kernel_rfl) ?_
  refine w_seqw ?_
  refine w_region ?_
  refine o_box (v := .agg [aI, aI, aS, aL, aL]) (n := 0) (cs := [aI, aI, aS, aL, aL]) (σ' := [[aI, aI, aS, aL, aL]]) rfl rfl rfl rfl rfl ?_
  refine o_p rfl (p_assign (v := aI) rfl) ?_
  refine o_end (fr' := [(0, .agg [aI, aI, aS, aL, aL]), (1, .box 0 0), (2, aI)]) rfl ?_
  refine e_kw ?_
  refine w_seqw ?_
  refine w_region ?_
  refine o_p rfl (p_assign (v := aI) rfl) ?_
  refine o_end (fr' := [(0, .agg [aI, aI, aS, aL, aL]), (1, .box 0 0), (2, aI), (3, aI)]) rfl ?_
  refine e_kw ?_
  refine w_seqw ?_
  refine w_seqw ?_
  refine w_region ?_
  refine o_p rfl (p_assign (v := aI) rfl) ?_
  refine o_end (fr' := [(0, .agg [aI, aI, aS, aL, aL]), (1, .box 0 0), (2, aI), (3, aI), (4, aI)]) rfl ?_
  refine e_kw ?_
  obtain ⟨x1, hx1, h2⟩ := bind_s h
  refine w_jtail cl_kw (fun j3 => x1 = j3) (fun (j3 : Int) => ([(3, .c (.int .i64 j3))] : Fr)) (fun (j3 : Int) => ([[.c (.int .i64 p0v.Kind), .c (.int .i64 p0v.Int), .c (.str p0v.Text), .c (PV.ls 5 rowApiValue p0v.Items), .c (PV.ls 1 rowS p0v.Keys)]] : St)) ?_ ?_
  ·
   refine w_block ?_
   refine w_loopo _ (fun (s4 : (Int × Int)) => ([(1, .box 0 0), (3, .c (.int .i64 s4.1)), (4, .c (.int .i64 s4.2))] : Fr)) (fun (s4 : (Int × Int)) => ([[.c (.int .i64 p0v.Kind), .c (.int .i64 p0v.Int), .c (.str p0v.Text), .c (PV.ls 5 rowApiValue p0v.Items), .c (PV.ls 1 rowS p0v.Keys)]] : St)) hx1 (w_weak [] 1 rfl rfl rfl rfl ⟨(AV.le_refl _), (AV.le_refl _), (AV.le_refl _), trivial⟩ (st_r rfl st_nil)) ?_
   intro s4 st4 hs4 ho4
   unfold ref02xDepth_l1 at hs4
   refine w_seqw ?_
   refine w_seqw ?_
   refine w_region ?_
   refine o_p rfl (p_move (v := aI) rfl) ?_
   refine o_p rfl (p_fa tf40x3 rfl) ?_
   refine o_p rfl (p_load (v := aL) tv37 rfl rfl rfl) ?_
   refine o_p rfl (p_len ti37 (isl_c rfl)) ?_
   refine o_p rfl (p_lss rfl rfl) ?_
   refine o_end (fr' := [(1, .box 0 0), (3, aI), (4, aI), (10, aB)]) rfl ?_
   refine e_kw ?_
   refine w_cond _ rfl (fun hb5 => ?_) (fun hb5 => ?_)
   ·
    have h5 := cond_t (b := (decide (s4.2 < ((p0v.Items).length : Int)))) hb5 hs4
    refine w_skip ?_
    refine e_kw ?_
    refine w_seqw ?_
    refine w_block ?_
    refine w_seqw ?_
    refine w_region ?_
    refine o_p rfl (p_fa tf40x3 rfl) ?_
    refine o_p rfl (p_load (v := aL) tv37 rfl rfl rfl) ?_
    refine o_p rfl (p_move (v := aI) rfl) ?_
    obtain ⟨x6, hx6, h7⟩ := bind_s h5
    refine o_p rfl (p_ia (cs := [.int _ _, .int _ _, .str _, PV.ls _ _ _, PV.ls _ _ _]) ts37 (isl_c rfl) rfl hx6 (rowApiValue_eq _)) ?_
    refine o_p rfl (p_loades (us := [.int _ _, .int _ _, .str _, PV.ls _ _ _, PV.ls _ _ _]) tv40 rfl rfl rfl) ?_
    obtain ⟨x8, hx8, h9⟩ := bind_s h7
    refine o_v (ov_call (v := aI) rfl (ih_ref02xDepth hx8) ⟨(le_aggc rfl ⟨rfl, rfl, rfl, rfl, rfl, trivial⟩), trivial⟩ rfl rfl rfl) ?_
    refine o_p rfl (p_assign (v := aI) rfl) ?_
    refine o_end (fr' := [(1, .box 0 0), (3, aI), (4, aI), (5, aI), (10, aB)]) rfl ?_
    refine e_kw ?_
    refine w_seqw ?_
    refine w_region ?_
    refine o_p rfl (p_move (v := aI) rfl) ?_
    refine o_p rfl (p_move (v := aI) rfl) ?_
    refine o_p rfl (p_gtr rfl rfl) ?_
    refine o_end (fr' := [(1, .box 0 0), (3, aI), (4, aI), (5, aI), (10, aB), (21, aB)]) rfl ?_
    refine e_kw ?_
    refine w_cond _ rfl (fun hb10 => ?_) (fun hb10 => ?_)
    ·
     have h10 := cond_t (b := (decide (s4.1 < x8))) hb10 h9
     refine w_region ?_
     refine o_p rfl (p_move (v := aI) rfl) ?_
     refine o_p rfl (p_assign (v := aI) rfl) ?_
     refine o_end (fr' := [(1, .box 0 0), (3, aI), (4, aI), (5, aI), (10, aB), (21, aB)]) rfl ?_
     refine e_blk_n ?_
     refine e_kw ?_
     refine w_region ?_
     refine o_p rfl (p_move (v := aI) rfl) ?_
     refine o_p rfl (p_add rfl rfl) ?_
     refine o_p rfl (p_assign (v := aI) rfl) ?_
     refine o_end (fr' := [(1, .box 0 0), (3, aI), (4, aI), (5, aI), (10, aB), (21, aB)]) rfl ?_
     exact e_l _ (Option.some.inj h10).symm (w_weak [] 1 rfl rfl rfl rfl ⟨(AV.le_refl _), (AV.le_refl _), (AV.le_refl _), trivial⟩ (st_r rfl st_nil))
    ·
     have h10 := cond_f (b := (decide (s4.1 < x8))) hb10 h9
     refine w_skip ?_
     refine e_blk_n ?_
     refine e_kw ?_
     refine w_region ?_
     refine o_p rfl (p_move (v := aI) rfl) ?_
     refine o_p rfl (p_add rfl rfl) ?_
     refine o_p rfl (p_assign (v := aI) rfl) ?_
     refine o_end (fr' := [(1, .box 0 0), (3, aI), (4, aI), (5, aI), (10, aB), (21, aB)]) rfl ?_
     exact e_l _ (Option.some.inj h10).symm (w_weak [] 1 rfl rfl rfl rfl ⟨(AV.le_refl _), (AV.le_refl _), (AV.le_refl _), trivial⟩ (st_r rfl st_nil))
   ·
    have h5 := cond_f (b := (decide (s4.2 < ((p0v.Items).length : Int)))) hb5 hs4
    refine w_exit ?_
    refine e_seq_x ?_
    refine e_seq_x ?_
    refine e_blk_h ?_
    have h11 := un_out h5 ho4
    exact e_j _ (Option.some.inj h11).symm (w_weak [] 1 rfl rfl rfl rfl ⟨(AV.le_refl _), trivial⟩ (st_r rfl st_nil))
  ·
   intro j3 hj12
   subst hj12
   refine e_kw ?_
   refine w_seqw ?_
   refine w_region ?_
   refine o_p rfl (p_move (v := aI) rfl) ?_
   refine o_p rfl (p_add rfl rfl) ?_
   refine o_p rfl (p_assign (v := aI) rfl) ?_
   refine o_end (fr' := [(2, aI), (3, aI)]) rfl ?_
   refine e_kw ?_
   refine w_ret ?_
   have he13 := Option.some.inj h2
   subst he13
   refine e_ret (rs' := [.tmp 2]) rfl ?_
   refine r_tmp (v := aI) rfl ?_
   refine r_nil ?_
   exact fin_gen [] rfl rfl rfl (AV.le_refl _) st_nil
noncomputable def ref02xDepth (p0v : ApiValue) : Option Int := lim fun n => ref02xDepthF n p0v
theorem w_ref02xDepth {p0v : ApiValue} {res : Int} (h : ref02xDepth p0v = some res) : ACalls Try.prog 99 [.agg (AV.cs (exApiValue p0v))] [] (.c (.int .i64 res)) [] := by
 obtain ⟨n, hn⟩ := lim_some h
 exact (wF_ref02xDepth n) hn
noncomputable def ref02xWithin (p0v : ApiValue) : Option Bool :=
 (ref02xShort p0v).bind fun (x1 : Bool) => (gd (x1 == true) (ref02xDepth p0v)).bind fun (x3 : Int) => (gd ((cond x1 (decide (x3 ≤ (16 : Int))) false) == true) (ref02xSize p0v)).bind fun (x5 : Int) => some (cond (cond x1 (decide (x3 ≤ (16 : Int))) false) (decide (x5 ≤ (1000 : Int))) false)
theorem w_ref02xWithin {p0v : ApiValue} {res : Bool} (h : ref02xWithin p0v = some res) : ACalls Try.prog 86 [.agg (AV.cs (exApiValue p0v))] [] (.c (.bool res)) [] := by
 unfold ref02xWithin at h
 refine acalls (fn := Try.f86) [0, 1, 2] (by kernel_rfl) Try.func86 rfl (by kernel_rfl) (by kernel_rfl) ?_
 refine w_seqw ?_
 refine w_region ?_
 refine o_box (v := .agg [aI, aI, aS, aL, aL]) (n := 0) (cs := [aI, aI, aS, aL, aL]) (σ' := [[aI, aI, aS, aL, aL]]) rfl rfl rfl rfl rfl ?_
 refine o_p rfl (p_assign (v := aB) rfl) ?_
 refine o_end (fr' := [(0, .agg [aI, aI, aS, aL, aL]), (1, .box 0 0), (2, aB)]) rfl ?_
 refine e_kw ?_
 refine w_seqw ?_
 refine w_region ?_
 refine o_p rfl (p_loads (us := [aI, aI, aS, aL, aL]) tv40 rfl rfl rfl rfl) ?_
 obtain ⟨x1, hx1, h2⟩ := bind_s h
 refine o_v (ov_call (v := aB) rfl (w_ref02xShort hx1) ⟨(le_aggc rfl ⟨rfl, rfl, rfl, rfl, rfl, trivial⟩), trivial⟩ rfl rfl rfl) ?_
 refine o_p rfl (p_move (v := aB) rfl) ?_
 refine o_g rfl rfl (fun hc => ov_p rfl (p_loads (us := [aI, aI, aS, aL, aL]) tv40 rfl rfl rfl rfl)) ?_
 obtain ⟨x3, hx3, h4⟩ := bind_s h2
 refine o_g rfl rfl (fun hc => ov_call (v := aI) rfl (w_ref02xDepth (gd_some hx3 hc)) ⟨(le_gv (gx rfl hc) (le_aggc rfl ⟨rfl, rfl, rfl, rfl, rfl, trivial⟩)), trivial⟩ (ok_eq (by repeat (first | exact ok_nil | refine ok_cons rfl ?_ | refine ok_cons (dgv rfl) ?_))) rfl rfl) ?_
 refine o_g rfl rfl (fun hc => ov_p rfl (p_leq (gx rfl hc) rfl)) ?_
 refine o_p rfl (p_picky rfl rfl rfl (fun e => keq e)) ?_
 refine o_p rfl (p_move (v := aB) rfl) ?_
 refine o_g rfl rfl (fun hc => ov_p rfl (p_loads (us := [aI, aI, aS, aL, aL]) tv40 rfl rfl rfl rfl)) ?_
 obtain ⟨x5, hx5, h6⟩ := bind_s h4
 refine o_g rfl rfl (fun hc => ov_call (v := aI) rfl (w_ref02xSize (gd_some hx5 hc)) ⟨(le_gv (gx rfl hc) (le_aggc rfl ⟨rfl, rfl, rfl, rfl, rfl, trivial⟩)), trivial⟩ (ok_eq (by repeat (first | exact ok_nil | refine ok_cons rfl ?_ | refine ok_cons (dgv rfl) ?_))) rfl rfl) ?_
 refine o_g rfl rfl (fun hc => ov_p rfl (p_leq (gx rfl hc) rfl)) ?_
 refine o_p rfl (p_picky rfl rfl rfl (fun e => keq e)) ?_
 refine o_p rfl (p_assign (v := aB) rfl) ?_
 refine o_end (fr' := [(0, .agg [aI, aI, aS, aL, aL]), (1, .box 0 0), (2, aB)]) rfl ?_
 refine e_kw ?_
 refine w_ret ?_
 have he7 := Option.some.inj h6
 subst he7
 refine e_ret (rs' := [.tmp 2]) rfl ?_
 refine r_tmp (v := aB) rfl ?_
 refine r_nil ?_
 exact fin_gen [] rfl rfl rfl (AV.le_refl _) st_nil
noncomputable def ref02xFuture_l1 (rec_ref02xFuture : ApiValue → Option Bool) (p0v : ApiValue) (s4 : Int) : Option (Step Int (Fl Bool Unit)) :=
 cond (decide (s4 < ((p0v.Items).length : Int))) ((idx p0v.Items s4).bind fun (x6 : ApiValue) => (rec_ref02xFuture x6).bind fun (x8 : Bool) => cond x8 (some (Step.out (Fl.done true))) (some (Step.next (IntKind.wrap .i64 (s4 + (1 : Int)))))) (some (Step.out (Fl.go ())))
noncomputable def ref02xFutureF : Nat → ApiValue → Option Bool
 | 0, _ => none
 | n + 1, p0v =>
  ((loopO (ref02xFuture_l1 (ref02xFutureF n) p0v) ((0 : Int))) : Option (Fl Bool Unit)).bind fun (x1 : (Fl Bool Unit)) => Fl.next x1 (fun (j3 : Unit) => (some (decide (p0v.Kind = (6 : Int)))))
theorem wF_ref02xFuture : ∀ n : Nat, (∀ {p0v : ApiValue} {res : Bool}, ref02xFutureF n p0v = some res → ACalls Try.prog 87 [.agg (AV.cs (exApiValue p0v))] [] (.c (.bool res)) []) := by
 intro n
 induction n with
 | zero => exact fun {p0v res} h => absurd h (by simp [ref02xFutureF])
 | succ n ih =>
  have ih_ref02xFuture := @ih
  intro p0v res h
  rw [ref02xFutureF] at h
  refine acalls (fn := Try.f87) [0, 1, 2, 3, 8, 16] (by kernel_rfl) Try.func87 rfl (by kernel_rfl) (by kernel_rfl) ?_
  refine w_seqw ?_
  refine w_region ?_
  refine o_box (v := .agg [aI, aI, aS, aL, aL]) (n := 0) (cs := [aI, aI, aS, aL, aL]) (σ' := [[aI, aI, aS, aL, aL]]) rfl rfl rfl rfl rfl ?_
  refine o_p rfl (p_assign (v := aB) rfl) ?_
  refine o_end (fr' := [(0, .agg [aI, aI, aS, aL, aL]), (1, .box 0 0), (2, aB)]) rfl ?_
  refine e_kw ?_
  refine w_seqw ?_
  refine w_seqw ?_
  refine w_region ?_
  refine o_p rfl (p_assign (v := aI) rfl) ?_
  refine o_end (fr' := [(0, .agg [aI, aI, aS, aL, aL]), (1, .box 0 0), (2, aB), (3, aI)]) rfl ?_
  refine e_kw ?_
  obtain ⟨x1, hx1, h2⟩ := bind_s h
  refine w_jtail cl_kw (fun j3 => x1 = Fl.go j3) (fun (j3 : Unit) => ([(1, .box 0 0)] : Fr)) (fun (j3 : Unit) => ([[.c (.int .i64 p0v.Kind), .c (.int .i64 p0v.Int), .c (.str p0v.Text), .c (PV.ls 5 rowApiValue p0v.Items), .c (PV.ls 1 rowS p0v.Keys)]] : St)) ?_ ?_
  ·
   refine w_block ?_
   refine w_loopo _ (fun (s4 : Int) => ([(1, .box 0 0), (3, .c (.int .i64 s4))] : Fr)) (fun (s4 : Int) => ([[.c (.int .i64 p0v.Kind), .c (.int .i64 p0v.Int), .c (.str p0v.Text), .c (PV.ls 5 rowApiValue p0v.Items), .c (PV.ls 1 rowS p0v.Keys)]] : St)) hx1 (w_weak [] 1 rfl rfl rfl rfl ⟨(AV.le_refl _), (AV.le_refl _), trivial⟩ (st_r rfl st_nil)) ?_
   intro s4 st4 hs4 ho4
   unfold ref02xFuture_l1 at hs4
   refine w_seqw ?_
   refine w_seqw ?_
   refine w_region ?_
   refine o_p rfl (p_move (v := aI) rfl) ?_
   refine o_p rfl (p_fa tf40x3 rfl) ?_
   refine o_p rfl (p_load (v := aL) tv37 rfl rfl rfl) ?_
   refine o_p rfl (p_len ti37 (isl_c rfl)) ?_
   refine o_p rfl (p_lss rfl rfl) ?_
   refine o_end (fr' := [(1, .box 0 0), (3, aI), (8, aB)]) rfl ?_
   refine e_kw ?_
   refine w_cond _ rfl (fun hb5 => ?_) (fun hb5 => ?_)
   ·
    have h5 := cond_t (b := (decide (s4 < ((p0v.Items).length : Int)))) hb5 hs4
    refine w_skip ?_
    refine e_kw ?_
    refine w_seqw ?_
    refine w_block ?_
    refine w_seqw ?_
    refine w_region ?_
    refine o_p rfl (p_fa tf40x3 rfl) ?_
    refine o_p rfl (p_load (v := aL) tv37 rfl rfl rfl) ?_
    refine o_p rfl (p_move (v := aI) rfl) ?_
    obtain ⟨x6, hx6, h7⟩ := bind_s h5
    refine o_p rfl (p_ia (cs := [.int _ _, .int _ _, .str _, PV.ls _ _ _, PV.ls _ _ _]) ts37 (isl_c rfl) rfl hx6 (rowApiValue_eq _)) ?_
    refine o_p rfl (p_loades (us := [.int _ _, .int _ _, .str _, PV.ls _ _ _, PV.ls _ _ _]) tv40 rfl rfl rfl) ?_
    obtain ⟨x8, hx8, h9⟩ := bind_s h7
    refine o_v (ov_call (v := aB) rfl (ih_ref02xFuture hx8) ⟨(le_aggc rfl ⟨rfl, rfl, rfl, rfl, rfl, trivial⟩), trivial⟩ rfl rfl rfl) ?_
    refine o_end (fr' := [(1, .box 0 0), (3, aI), (8, aB), (16, aB)]) rfl ?_
    refine e_kw ?_
    refine w_cond _ rfl (fun hb10 => ?_) (fun hb10 => ?_)
    ·
     have h10 := cond_t (b := x8) hb10 h9
     refine w_seqw ?_
     refine w_region ?_
     refine o_p rfl (p_assign (v := aB) rfl) ?_
     refine o_end (fr' := [(1, .box 0 0), (2, aB), (3, aI), (8, aB), (16, aB)]) rfl ?_
     refine e_kw ?_
     refine w_ret ?_
     refine e_blk_r ?_
     refine e_seq_r ?_
     refine e_seq_r ?_
     refine e_blk_r ?_
     refine e_seq_r ?_
     refine e_seq_r ?_
     have h11 := un_out h10 ho4
     have h12 := un_done h11 h2
     have he13 := Option.some.inj h12
     subst he13
     refine e_ret (rs' := [.tmp 2]) rfl ?_
     refine r_tmp (v := aB) rfl ?_
     refine r_nil ?_
     exact fin_gen [] rfl rfl rfl (AV.le_refl _) st_nil
    ·
     have h10 := cond_f (b := x8) hb10 h9
     refine w_skip ?_
     refine e_blk_n ?_
     refine e_kw ?_
     refine w_region ?_
     refine o_p rfl (p_move (v := aI) rfl) ?_
     refine o_p rfl (p_add rfl rfl) ?_
     refine o_p rfl (p_assign (v := aI) rfl) ?_
     refine o_end (fr' := [(1, .box 0 0), (3, aI), (8, aB), (16, aB)]) rfl ?_
     exact e_l _ (Option.some.inj h10).symm (w_weak [] 1 rfl rfl rfl rfl ⟨(AV.le_refl _), (AV.le_refl _), trivial⟩ (st_r rfl st_nil))
   ·
    have h5 := cond_f (b := (decide (s4 < ((p0v.Items).length : Int)))) hb5 hs4
    refine w_exit ?_
    refine e_seq_x ?_
    refine e_seq_x ?_
    refine e_blk_h ?_
    have h14 := un_out h5 ho4
    exact e_j _ (Option.some.inj h14).symm (w_weak [] 1 rfl rfl rfl rfl ⟨(AV.le_refl _), trivial⟩ (st_r rfl st_nil))
  ·
   intro j3 hj15
   have h15 := un_go hj15 h2
   refine e_kw ?_
   refine w_seqw ?_
   refine w_region ?_
   refine o_p rfl (p_fa tf40x0 rfl) ?_
   refine o_p rfl (p_load (v := aI) tv3 rfl rfl rfl) ?_
   refine o_p rfl (p_eql rfl rfl) ?_
   refine o_p rfl (p_assign (v := aB) rfl) ?_
   refine o_end (fr' := [(1, .box 0 0), (2, aB)]) rfl ?_
   refine e_kw ?_
   refine w_ret ?_
   have he16 := Option.some.inj h15
   subst he16
   refine e_ret (rs' := [.tmp 2]) rfl ?_
   refine r_tmp (v := aB) rfl ?_
   refine r_nil ?_
   exact fin_gen [] rfl rfl rfl (AV.le_refl _) st_nil
noncomputable def ref02xFuture (p0v : ApiValue) : Option Bool := lim fun n => ref02xFutureF n p0v
theorem w_ref02xFuture {p0v : ApiValue} {res : Bool} (h : ref02xFuture p0v = some res) : ACalls Try.prog 87 [.agg (AV.cs (exApiValue p0v))] [] (.c (.bool res)) [] := by
 obtain ⟨n, hn⟩ := lim_some h
 exact (wF_ref02xFuture n) hn
noncomputable def ref02xRight (p0v : ApiValue) : Option Bool :=
 (ref02xWellFormed p0v).bind fun (x1 : Bool) => (gd (x1 == true) (ref02xWithin p0v)).bind fun (x3 : Bool) => (gd ((cond x1 x3 false) == true) (ref02xFuture p0v)).bind fun (x5 : Bool) => some (cond (cond x1 x3 false) (!x5) false)
theorem w_ref02xRight {p0v : ApiValue} {res : Bool} (h : ref02xRight p0v = some res) : ACalls Try.prog 68 [.agg (AV.cs (exApiValue p0v))] [] (.c (.bool res)) [] := by
 unfold ref02xRight at h
 refine acalls (fn := Try.f68) [0, 1, 2] (by kernel_rfl) Try.func68 rfl (by kernel_rfl) (by kernel_rfl) ?_
 refine w_seqw ?_
 refine w_region ?_
 refine o_box (v := .agg [aI, aI, aS, aL, aL]) (n := 0) (cs := [aI, aI, aS, aL, aL]) (σ' := [[aI, aI, aS, aL, aL]]) rfl rfl rfl rfl rfl ?_
 refine o_p rfl (p_assign (v := aB) rfl) ?_
 refine o_end (fr' := [(0, .agg [aI, aI, aS, aL, aL]), (1, .box 0 0), (2, aB)]) rfl ?_
 refine e_kw ?_
 refine w_seqw ?_
 refine w_region ?_
 refine o_p rfl (p_loads (us := [aI, aI, aS, aL, aL]) tv40 rfl rfl rfl rfl) ?_
 obtain ⟨x1, hx1, h2⟩ := bind_s h
 refine o_v (ov_call (v := aB) rfl (w_ref02xWellFormed hx1) ⟨(le_aggc rfl ⟨rfl, rfl, rfl, rfl, rfl, trivial⟩), trivial⟩ rfl rfl rfl) ?_
 refine o_p rfl (p_move (v := aB) rfl) ?_
 refine o_g rfl rfl (fun hc => ov_p rfl (p_loads (us := [aI, aI, aS, aL, aL]) tv40 rfl rfl rfl rfl)) ?_
 obtain ⟨x3, hx3, h4⟩ := bind_s h2
 refine o_g rfl rfl (fun hc => ov_call (v := aB) rfl (w_ref02xWithin (gd_some hx3 hc)) ⟨(le_gv (gx rfl hc) (le_aggc rfl ⟨rfl, rfl, rfl, rfl, rfl, trivial⟩)), trivial⟩ (ok_eq (by repeat (first | exact ok_nil | refine ok_cons rfl ?_ | refine ok_cons (dgv rfl) ?_))) rfl rfl) ?_
 refine o_p rfl (p_picky rfl rfl rfl (fun e => keq e)) ?_
 refine o_p rfl (p_move (v := aB) rfl) ?_
 refine o_g rfl rfl (fun hc => ov_p rfl (p_loads (us := [aI, aI, aS, aL, aL]) tv40 rfl rfl rfl rfl)) ?_
 obtain ⟨x5, hx5, h6⟩ := bind_s h4
 refine o_g rfl rfl (fun hc => ov_call (v := aB) rfl (w_ref02xFuture (gd_some hx5 hc)) ⟨(le_gv (gx rfl hc) (le_aggc rfl ⟨rfl, rfl, rfl, rfl, rfl, trivial⟩)), trivial⟩ (ok_eq (by repeat (first | exact ok_nil | refine ok_cons rfl ?_ | refine ok_cons (dgv rfl) ?_))) rfl rfl) ?_
 refine o_g rfl rfl (fun hc => ov_p rfl (p_not (gx rfl hc))) ?_
 refine o_p rfl (p_picky rfl rfl rfl (fun e => keq e)) ?_
 refine o_p rfl (p_assign (v := aB) rfl) ?_
 refine o_end (fr' := [(0, .agg [aI, aI, aS, aL, aL]), (1, .box 0 0), (2, aB)]) rfl ?_
 refine e_kw ?_
 refine w_ret ?_
 have he7 := Option.some.inj h6
 subst he7
 refine e_ret (rs' := [.tmp 2]) rfl ?_
 refine r_tmp (v := aB) rfl ?_
 refine r_nil ?_
 exact fin_gen [] rfl rfl rfl (AV.le_refl _) st_nil
noncomputable def ref06xletter (p0c : Int) : Option Bool :=
 some (cond (cond (cond (cond (decide ((97 : Int) ≤ p0c)) (decide (p0c ≤ (122 : Int))) false) true (cond (decide ((65 : Int) ≤ p0c)) (decide (p0c ≤ (90 : Int))) false)) true (cond (decide ((48 : Int) ≤ p0c)) (decide (p0c ≤ (57 : Int))) false)) true (decide (p0c = (95 : Int))))
theorem w_ref06xletter {p0c : Int} {res : Bool} (h : ref06xletter p0c = some res) : ACalls Try.prog 88 [.c (.int .u8 p0c)] [] (.c (.bool res)) [] := by
 unfold ref06xletter at h
 refine acalls (fn := Try.f88) [0, 2] (by kernel_rfl) Try.func88 rfl (by kernel_rfl) (by kernel_rfl) ?_
 refine w_seqw ?_
 refine w_region ?_
 refine o_p rfl (p_assign (v := aB) rfl) ?_
 refine o_end (fr' := [(0, aI), (2, aB)]) rfl ?_
 refine e_kw ?_
 refine w_seqw ?_
 refine w_region ?_
 refine o_p rfl (p_move (v := aI) rfl) ?_
 refine o_p rfl (p_geq rfl rfl) ?_
 refine o_p rfl (p_move (v := aB) rfl) ?_
 refine o_g rfl rfl (fun hc => ov_p rfl (p_move (v := aI) rfl)) ?_
 refine o_g rfl rfl (fun hc => ov_p rfl (p_leq (gx rfl hc) rfl)) ?_
 refine o_p rfl (p_picky rfl rfl rfl (fun e => keq e)) ?_
 refine o_p rfl (p_move (v := aB) rfl) ?_
 refine o_g rfl rfl (fun hc => ov_p rfl (p_move (v := aI) rfl)) ?_
 refine o_g rfl rfl (fun hc => ov_p rfl (p_geq (gx rfl hc) rfl)) ?_
 refine o_g rfl rfl (fun hc => ov_p rfl (p_move (v := aB) (gx rfl hc))) ?_
 refine o_gg rfl rfl (fun hc => ov_p rfl (p_move (v := aI) rfl)) ?_
 refine o_gg rfl rfl (fun hc => ov_p rfl (p_leq (gx rfl hc) rfl)) ?_
 refine o_g rfl rfl (fun hc => ov_p rfl (p_picky (gx rfl hc) rfl rfl (fun e => band hc (keq e)))) ?_
 refine o_p rfl (p_pickz rfl rfl rfl (fun e => keq e)) ?_
 refine o_p rfl (p_move (v := aB) rfl) ?_
 refine o_g rfl rfl (fun hc => ov_p rfl (p_move (v := aI) rfl)) ?_
 refine o_g rfl rfl (fun hc => ov_p rfl (p_geq (gx rfl hc) rfl)) ?_
 refine o_g rfl rfl (fun hc => ov_p rfl (p_move (v := aB) (gx rfl hc))) ?_
 refine o_gg rfl rfl (fun hc => ov_p rfl (p_move (v := aI) rfl)) ?_
 refine o_gg rfl rfl (fun hc => ov_p rfl (p_leq (gx rfl hc) rfl)) ?_
 refine o_g rfl rfl (fun hc => ov_p rfl (p_picky (gx rfl hc) rfl rfl (fun e => band hc (keq e)))) ?_
 refine o_p rfl (p_pickz rfl rfl rfl (fun e => keq e)) ?_
 refine o_p rfl (p_move (v := aB) rfl) ?_
 refine o_g rfl rfl (fun hc => ov_p rfl (p_move (v := aI) rfl)) ?_
 refine o_g rfl rfl (fun hc => ov_p rfl (p_eql (gx rfl hc) rfl)) ?_
 refine o_p rfl (p_pickz rfl rfl rfl (fun e => keq e)) ?_
 refine o_p rfl (p_assign (v := aB) rfl) ?_
 refine o_end (fr' := [(0, aI), (2, aB)]) rfl ?_
 refine e_kw ?_
 refine w_ret ?_
 have he1 := Option.some.inj h
 subst he1
 refine e_ret (rs' := [.tmp 2]) rfl ?_
 refine r_tmp (v := aB) rfl ?_
 refine r_nil ?_
 exact fin_gen [] rfl rfl rfl (AV.le_refl _) st_nil
noncomputable def ref06xRight_l1 (p0s : (List UInt8)) (s10 : Int) : Option (Step Int (Fl Bool Unit)) :=
 cond (decide (s10 < ((p0s).length : Int))) ((idx p0s s10).bind fun (x12 : UInt8) => (ref06xletter ((x12).toNat : Int)).bind fun (x14 : Bool) => cond (!x14) (some (Step.out (Fl.done false))) (some (Step.next (IntKind.wrap .i64 (s10 + (1 : Int)))))) (some (Step.out (Fl.go ())))
noncomputable def ref06xRight (p0s : (List UInt8)) : Option Bool :=
 (gd ((cond (decide (((p0s).length : Int) < (1 : Int))) true (decide ((64 : Int) < ((p0s).length : Int)))) == false) (idx p0s (0 : Int))).bind fun (x1 : UInt8) => (gd (((cond (decide (((p0s).length : Int) < (1 : Int))) true (decide ((64 : Int) < ((p0s).length : Int)))) == false) && ((decide ((48 : Int) ≤ ((x1).toNat : Int))) == true)) (idx p0s (0 : Int))).bind fun (x3 : UInt8) => cond (cond (cond (decide (((p0s).length : Int) < (1 : Int))) true (decide ((64 : Int) < ((p0s).length : Int)))) true (cond (decide ((48 : Int) ≤ ((x1).toNat : Int))) (decide (((x3).toNat : Int) ≤ (57 : Int))) false)) (some false) (((loopO (ref06xRight_l1 p0s) ((0 : Int))) : Option (Fl Bool Unit)).bind fun (x7 : (Fl Bool Unit)) => Fl.next x7 (fun (j9 : Unit) => (some true)))
theorem w_ref06xRight {p0s : (List UInt8)} {res : Bool} (h : ref06xRight p0s = some res) : ACalls Try.prog 69 [.c (.str p0s)] [] (.c (.bool res)) [] := by
 unfold ref06xRight at h
 refine acalls (fn := Try.f69) [0, 2, 3, 21, 25, 32] (by kernel_rfl) Try.func69 rfl (by kernel_rfl) (by kernel_rfl) ?_
 refine w_seqw ?_
 refine w_region ?_
 refine o_p rfl (p_assign (v := aB) rfl) ?_
 refine o_end (fr' := [(0, aS), (2, aB)]) rfl ?_
 refine e_kw ?_
 refine w_seqw ?_
 refine w_seqw ?_
 refine w_region ?_
 refine o_p rfl (p_move (v := aS) rfl) ?_
 refine o_p rfl (p_lens ti9 rfl) ?_
 refine o_p rfl (p_lss rfl rfl) ?_
 refine o_p rfl (p_move (v := aB) rfl) ?_
 refine o_g rfl rfl (fun hc => ov_p rfl (p_move (v := aS) rfl)) ?_
 refine o_g rfl rfl (fun hc => ov_p rfl (p_lens ti9 (gx rfl hc))) ?_
 refine o_g rfl rfl (fun hc => ov_p rfl (p_gtr (gx rfl hc) rfl)) ?_
 refine o_p rfl (p_pickz rfl rfl rfl (fun e => keq e)) ?_
 refine o_p rfl (p_move (v := aB) rfl) ?_
 refine o_g rfl rfl (fun hc => ov_p rfl (p_move (v := aS) rfl)) ?_
 obtain ⟨x1, hx1, h2⟩ := bind_s h
 refine o_g rfl rfl (fun hc => ov_p rfl (p_is ti9 (gx rfl hc) rfl (gd_some hx1 hc))) ?_
 refine o_g rfl rfl (fun hc => ov_p rfl (p_geq (gx rfl hc) rfl)) ?_
 refine o_g rfl rfl (fun hc => ov_p rfl (p_move (v := aB) (gx rfl hc))) ?_
 refine o_gg rfl rfl (fun hc => ov_p rfl (p_move (v := aS) rfl)) ?_
 obtain ⟨x3, hx3, h4⟩ := bind_s h2
 refine o_gg rfl rfl (fun hc => ov_p rfl (p_is ti9 (gx rfl hc) rfl (gd_some hx3 hc))) ?_
 refine o_gg rfl rfl (fun hc => ov_p rfl (p_leq (gx rfl hc) rfl)) ?_
 refine o_g rfl rfl (fun hc => ov_p rfl (p_picky (gx rfl hc) rfl rfl (fun e => band hc (keq e)))) ?_
 refine o_p rfl (p_pickz rfl rfl rfl (fun e => keq e)) ?_
 refine o_end (fr' := [(0, aS), (2, aB), (21, aB)]) rfl ?_
 refine e_kw ?_
 refine w_cond _ rfl (fun hb5 => ?_) (fun hb5 => ?_)
 ·
  have h5 := cond_t (b := (cond (cond (decide (((p0s).length : Int) < (1 : Int))) true (decide ((64 : Int) < ((p0s).length : Int)))) true (cond (decide ((48 : Int) ≤ ((x1).toNat : Int))) (decide (((x3).toNat : Int) ≤ (57 : Int))) false))) hb5 h4
  refine w_seqw ?_
  refine w_region ?_
  refine o_p rfl (p_assign (v := aB) rfl) ?_
  refine o_end (fr' := [(0, aS), (2, aB), (21, aB)]) rfl ?_
  refine e_kw ?_
  refine w_ret ?_
  refine e_seq_r ?_
  have he6 := Option.some.inj h5
  subst he6
  refine e_ret (rs' := [.tmp 2]) rfl ?_
  refine r_tmp (v := aB) rfl ?_
  refine r_nil ?_
  exact fin_gen [] rfl rfl rfl (AV.le_refl _) st_nil
 ·
  have h5 := cond_f (b := (cond (cond (decide (((p0s).length : Int) < (1 : Int))) true (decide ((64 : Int) < ((p0s).length : Int)))) true (cond (decide ((48 : Int) ≤ ((x1).toNat : Int))) (decide (((x3).toNat : Int) ≤ (57 : Int))) false))) hb5 h4
  refine w_skip ?_
  refine e_kw ?_
  refine w_seqw ?_
  refine w_seqw ?_
  refine w_region ?_
  refine o_p rfl (p_assign (v := aI) rfl) ?_
  refine o_end (fr' := [(0, aS), (2, aB), (3, aI), (21, aB)]) rfl ?_
  refine e_kw ?_
  obtain ⟨x7, hx7, h8⟩ := bind_s h5
  refine w_jtail cl_kw (fun j9 => x7 = Fl.go j9) (fun (j9 : Unit) => ([] : Fr)) (fun (j9 : Unit) => ([] : St)) ?_ ?_
  ·
   refine w_block ?_
   refine w_loopo _ (fun (s10 : Int) => ([(0, .c (.str p0s)), (3, .c (.int .i64 s10))] : Fr)) (fun (s10 : Int) => ([] : St)) hx7 (w_weak [] 0 rfl rfl rfl rfl ⟨(AV.le_refl _), (AV.le_refl _), trivial⟩ st_nil) ?_
   intro s10 st10 hs10 ho10
   unfold ref06xRight_l1 at hs10
   refine w_seqw ?_
   refine w_seqw ?_
   refine w_region ?_
   refine o_p rfl (p_move (v := aI) rfl) ?_
   refine o_p rfl (p_move (v := aS) rfl) ?_
   refine o_p rfl (p_lens ti9 rfl) ?_
   refine o_p rfl (p_lss rfl rfl) ?_
   refine o_end (fr' := [(0, aS), (3, aI), (25, aB)]) rfl ?_
   refine e_kw ?_
   refine w_cond _ rfl (fun hb11 => ?_) (fun hb11 => ?_)
   ·
    have h11 := cond_t (b := (decide (s10 < ((p0s).length : Int)))) hb11 hs10
    refine w_skip ?_
    refine e_kw ?_
    refine w_seqw ?_
    refine w_block ?_
    refine w_seqw ?_
    refine w_region ?_
    refine o_p rfl (p_move (v := aS) rfl) ?_
    refine o_p rfl (p_move (v := aI) rfl) ?_
    obtain ⟨x12, hx12, h13⟩ := bind_s h11
    refine o_p rfl (p_is ti9 rfl rfl hx12) ?_
    obtain ⟨x14, hx14, h15⟩ := bind_s h13
    refine o_v (ov_call (v := aB) rfl (w_ref06xletter hx14) ⟨(AV.le_refl _), trivial⟩ rfl rfl rfl) ?_
    refine o_p rfl (p_not rfl) ?_
    refine o_end (fr' := [(0, aS), (3, aI), (25, aB), (32, aB)]) rfl ?_
    refine e_kw ?_
    refine w_cond _ rfl (fun hb16 => ?_) (fun hb16 => ?_)
    ·
     have h16 := cond_t (b := (!x14)) hb16 h15
     refine w_seqw ?_
     refine w_region ?_
     refine o_p rfl (p_assign (v := aB) rfl) ?_
     refine o_end (fr' := [(0, aS), (2, aB), (3, aI), (25, aB), (32, aB)]) rfl ?_
     refine e_kw ?_
     refine w_ret ?_
     refine e_blk_r ?_
     refine e_seq_r ?_
     refine e_seq_r ?_
     refine e_blk_r ?_
     refine e_seq_r ?_
     refine e_seq_r ?_
     have h17 := un_out h16 ho10
     have h18 := un_done h17 h8
     have he19 := Option.some.inj h18
     subst he19
     refine e_ret (rs' := [.tmp 2]) rfl ?_
     refine r_tmp (v := aB) rfl ?_
     refine r_nil ?_
     exact fin_gen [] rfl rfl rfl (AV.le_refl _) st_nil
    ·
     have h16 := cond_f (b := (!x14)) hb16 h15
     refine w_skip ?_
     refine e_blk_n ?_
     refine e_kw ?_
     refine w_region ?_
     refine o_p rfl (p_move (v := aI) rfl) ?_
     refine o_p rfl (p_add rfl rfl) ?_
     refine o_p rfl (p_assign (v := aI) rfl) ?_
     refine o_end (fr' := [(0, aS), (3, aI), (25, aB), (32, aB)]) rfl ?_
     exact e_l _ (Option.some.inj h16).symm (w_weak [] 0 rfl rfl rfl rfl ⟨(AV.le_refl _), (AV.le_refl _), trivial⟩ st_nil)
   ·
    have h11 := cond_f (b := (decide (s10 < ((p0s).length : Int)))) hb11 hs10
    refine w_exit ?_
    refine e_seq_x ?_
    refine e_seq_x ?_
    refine e_blk_h ?_
    have h20 := un_out h11 ho10
    exact e_j _ (Option.some.inj h20).symm (w_weak [] 0 rfl rfl rfl rfl trivial st_nil)
  ·
   intro j9 hj21
   have h21 := un_go hj21 h8
   refine e_kw ?_
   refine w_seqw ?_
   refine w_region ?_
   refine o_p rfl (p_assign (v := aB) rfl) ?_
   refine o_end (fr' := [(2, aB)]) rfl ?_
   refine e_kw ?_
   refine w_ret ?_
   have he22 := Option.some.inj h21
   subst he22
   refine e_ret (rs' := [.tmp 2]) rfl ?_
   refine r_tmp (v := aB) rfl ?_
   refine r_nil ?_
   exact fin_gen [] rfl rfl rfl (AV.le_refl _) st_nil
noncomputable def ref20xIdent_l1 (p0s : (List UInt8)) (s6 : Int) : Option (Step Int (Fl Bool Unit)) :=
 cond (decide (s6 < ((p0s).length : Int))) ((idx p0s s6).bind fun (x8 : UInt8) => (gd ((decide (((x8).toNat : Int) < (33 : Int))) == false) (idx p0s s6)).bind fun (x10 : UInt8) => (gd ((cond (decide (((x8).toNat : Int) < (33 : Int))) true (decide ((126 : Int) < ((x10).toNat : Int)))) == false) (idx p0s s6)).bind fun (x12 : UInt8) => (gd ((cond (cond (decide (((x8).toNat : Int) < (33 : Int))) true (decide ((126 : Int) < ((x10).toNat : Int)))) true (decide (((x12).toNat : Int) = (47 : Int)))) == false) (idx p0s s6)).bind fun (x14 : UInt8) => cond (cond (cond (cond (decide (((x8).toNat : Int) < (33 : Int))) true (decide ((126 : Int) < ((x10).toNat : Int)))) true (decide (((x12).toNat : Int) = (47 : Int)))) true (decide (((x14).toNat : Int) = (34 : Int)))) (some (Step.out (Fl.done false))) (some (Step.next (IntKind.wrap .i64 (s6 + (1 : Int)))))) (some (Step.out (Fl.go ())))
noncomputable def ref20xIdent (p0s : (List UInt8)) : Option Bool :=
 cond (cond (decide (((p0s).length : Int) < (1 : Int))) true (decide ((64 : Int) < ((p0s).length : Int)))) (some false) (((loopO (ref20xIdent_l1 p0s) ((0 : Int))) : Option (Fl Bool Unit)).bind fun (x3 : (Fl Bool Unit)) => Fl.next x3 (fun (j5 : Unit) => (some true)))
theorem w_ref20xIdent {p0s : (List UInt8)} {res : Bool} (h : ref20xIdent p0s = some res) : ACalls Try.prog 70 [.c (.str p0s)] [] (.c (.bool res)) [] := by
 unfold ref20xIdent at h
 refine acalls (fn := Try.f70) [0, 2, 3, 11, 15, 39] (by kernel_rfl) Try.func70 rfl (by kernel_rfl) (by kernel_rfl) ?_
 refine w_seqw ?_
 refine w_region ?_
 refine o_p rfl (p_assign (v := aB) rfl) ?_
 refine o_end (fr' := [(0, aS), (2, aB)]) rfl ?_
 refine e_kw ?_
 refine w_seqw ?_
 refine w_seqw ?_
 refine w_region ?_
 refine o_p rfl (p_move (v := aS) rfl) ?_
 refine o_p rfl (p_lens ti9 rfl) ?_
 refine o_p rfl (p_lss rfl rfl) ?_
 refine o_p rfl (p_move (v := aB) rfl) ?_
 refine o_g rfl rfl (fun hc => ov_p rfl (p_move (v := aS) rfl)) ?_
 refine o_g rfl rfl (fun hc => ov_p rfl (p_lens ti9 (gx rfl hc))) ?_
 refine o_g rfl rfl (fun hc => ov_p rfl (p_gtr (gx rfl hc) rfl)) ?_
 refine o_p rfl (p_pickz rfl rfl rfl (fun e => keq e)) ?_
 refine o_end (fr' := [(0, aS), (2, aB), (11, aB)]) rfl ?_
 refine e_kw ?_
 refine w_cond _ rfl (fun hb1 => ?_) (fun hb1 => ?_)
 ·
  have h1 := cond_t (b := (cond (decide (((p0s).length : Int) < (1 : Int))) true (decide ((64 : Int) < ((p0s).length : Int))))) hb1 h
  refine w_seqw ?_
  refine w_region ?_
  refine o_p rfl (p_assign (v := aB) rfl) ?_
  refine o_end (fr' := [(0, aS), (2, aB), (11, aB)]) rfl ?_
  refine e_kw ?_
  refine w_ret ?_
  refine e_seq_r ?_
  have he2 := Option.some.inj h1
  subst he2
  refine e_ret (rs' := [.tmp 2]) rfl ?_
  refine r_tmp (v := aB) rfl ?_
  refine r_nil ?_
  exact fin_gen [] rfl rfl rfl (AV.le_refl _) st_nil
 ·
  have h1 := cond_f (b := (cond (decide (((p0s).length : Int) < (1 : Int))) true (decide ((64 : Int) < ((p0s).length : Int))))) hb1 h
  refine w_skip ?_
  refine e_kw ?_
  refine w_seqw ?_
  refine w_seqw ?_
  refine w_region ?_
  refine o_p rfl (p_assign (v := aI) rfl) ?_
  refine o_end (fr' := [(0, aS), (2, aB), (3, aI), (11, aB)]) rfl ?_
  refine e_kw ?_
  obtain ⟨x3, hx3, h4⟩ := bind_s h1
  refine w_jtail cl_kw (fun j5 => x3 = Fl.go j5) (fun (j5 : Unit) => ([] : Fr)) (fun (j5 : Unit) => ([] : St)) ?_ ?_
  ·
   refine w_block ?_
   refine w_loopo _ (fun (s6 : Int) => ([(0, .c (.str p0s)), (3, .c (.int .i64 s6))] : Fr)) (fun (s6 : Int) => ([] : St)) hx3 (w_weak [] 0 rfl rfl rfl rfl ⟨(AV.le_refl _), (AV.le_refl _), trivial⟩ st_nil) ?_
   intro s6 st6 hs6 ho6
   unfold ref20xIdent_l1 at hs6
   refine w_seqw ?_
   refine w_seqw ?_
   refine w_region ?_
   refine o_p rfl (p_move (v := aI) rfl) ?_
   refine o_p rfl (p_move (v := aS) rfl) ?_
   refine o_p rfl (p_lens ti9 rfl) ?_
   refine o_p rfl (p_lss rfl rfl) ?_
   refine o_end (fr' := [(0, aS), (3, aI), (15, aB)]) rfl ?_
   refine e_kw ?_
   refine w_cond _ rfl (fun hb7 => ?_) (fun hb7 => ?_)
   ·
    have h7 := cond_t (b := (decide (s6 < ((p0s).length : Int)))) hb7 hs6
    refine w_skip ?_
    refine e_kw ?_
    refine w_seqw ?_
    refine w_block ?_
    refine w_seqw ?_
    refine w_region ?_
    refine o_p rfl (p_move (v := aS) rfl) ?_
    refine o_p rfl (p_move (v := aI) rfl) ?_
    obtain ⟨x8, hx8, h9⟩ := bind_s h7
    refine o_p rfl (p_is ti9 rfl rfl hx8) ?_
    refine o_p rfl (p_lss rfl rfl) ?_
    refine o_p rfl (p_move (v := aB) rfl) ?_
    refine o_g rfl rfl (fun hc => ov_p rfl (p_move (v := aS) rfl)) ?_
    refine o_g rfl rfl (fun hc => ov_p rfl (p_move (v := aI) rfl)) ?_
    obtain ⟨x10, hx10, h11⟩ := bind_s h9
    refine o_g rfl rfl (fun hc => ov_p rfl (p_is ti9 (gx rfl hc) (gx rfl hc) (gd_some hx10 hc))) ?_
    refine o_g rfl rfl (fun hc => ov_p rfl (p_gtr (gx rfl hc) rfl)) ?_
    refine o_p rfl (p_pickz rfl rfl rfl (fun e => keq e)) ?_
    refine o_p rfl (p_move (v := aB) rfl) ?_
    refine o_g rfl rfl (fun hc => ov_p rfl (p_move (v := aS) rfl)) ?_
    refine o_g rfl rfl (fun hc => ov_p rfl (p_move (v := aI) rfl)) ?_
    obtain ⟨x12, hx12, h13⟩ := bind_s h11
    refine o_g rfl rfl (fun hc => ov_p rfl (p_is ti9 (gx rfl hc) (gx rfl hc) (gd_some hx12 hc))) ?_
    refine o_g rfl rfl (fun hc => ov_p rfl (p_eql (gx rfl hc) rfl)) ?_
    refine o_p rfl (p_pickz rfl rfl rfl (fun e => keq e)) ?_
    refine o_p rfl (p_move (v := aB) rfl) ?_
    refine o_g rfl rfl (fun hc => ov_p rfl (p_move (v := aS) rfl)) ?_
    refine o_g rfl rfl (fun hc => ov_p rfl (p_move (v := aI) rfl)) ?_
    obtain ⟨x14, hx14, h15⟩ := bind_s h13
    refine o_g rfl rfl (fun hc => ov_p rfl (p_is ti9 (gx rfl hc) (gx rfl hc) (gd_some hx14 hc))) ?_
    refine o_g rfl rfl (fun hc => ov_p rfl (p_eql (gx rfl hc) rfl)) ?_
    refine o_p rfl (p_pickz rfl rfl rfl (fun e => keq e)) ?_
    refine o_end (fr' := [(0, aS), (3, aI), (15, aB), (39, aB)]) rfl ?_
    refine e_kw ?_
    refine w_cond _ rfl (fun hb16 => ?_) (fun hb16 => ?_)
    ·
     have h16 := cond_t (b := (cond (cond (cond (decide (((x8).toNat : Int) < (33 : Int))) true (decide ((126 : Int) < ((x10).toNat : Int)))) true (decide (((x12).toNat : Int) = (47 : Int)))) true (decide (((x14).toNat : Int) = (34 : Int))))) hb16 h15
     refine w_seqw ?_
     refine w_region ?_
     refine o_p rfl (p_assign (v := aB) rfl) ?_
     refine o_end (fr' := [(0, aS), (2, aB), (3, aI), (15, aB), (39, aB)]) rfl ?_
     refine e_kw ?_
     refine w_ret ?_
     refine e_blk_r ?_
     refine e_seq_r ?_
     refine e_seq_r ?_
     refine e_blk_r ?_
     refine e_seq_r ?_
     refine e_seq_r ?_
     have h17 := un_out h16 ho6
     have h18 := un_done h17 h4
     have he19 := Option.some.inj h18
     subst he19
     refine e_ret (rs' := [.tmp 2]) rfl ?_
     refine r_tmp (v := aB) rfl ?_
     refine r_nil ?_
     exact fin_gen [] rfl rfl rfl (AV.le_refl _) st_nil
    ·
     have h16 := cond_f (b := (cond (cond (cond (decide (((x8).toNat : Int) < (33 : Int))) true (decide ((126 : Int) < ((x10).toNat : Int)))) true (decide (((x12).toNat : Int) = (47 : Int)))) true (decide (((x14).toNat : Int) = (34 : Int))))) hb16 h15
     refine w_skip ?_
     refine e_blk_n ?_
     refine e_kw ?_
     refine w_region ?_
     refine o_p rfl (p_move (v := aI) rfl) ?_
     refine o_p rfl (p_add rfl rfl) ?_
     refine o_p rfl (p_assign (v := aI) rfl) ?_
     refine o_end (fr' := [(0, aS), (3, aI), (15, aB), (39, aB)]) rfl ?_
     exact e_l _ (Option.some.inj h16).symm (w_weak [] 0 rfl rfl rfl rfl ⟨(AV.le_refl _), (AV.le_refl _), trivial⟩ st_nil)
   ·
    have h7 := cond_f (b := (decide (s6 < ((p0s).length : Int)))) hb7 hs6
    refine w_exit ?_
    refine e_seq_x ?_
    refine e_seq_x ?_
    refine e_blk_h ?_
    have h20 := un_out h7 ho6
    exact e_j _ (Option.some.inj h20).symm (w_weak [] 0 rfl rfl rfl rfl trivial st_nil)
  ·
   intro j5 hj21
   have h21 := un_go hj21 h4
   refine e_kw ?_
   refine w_seqw ?_
   refine w_region ?_
   refine o_p rfl (p_assign (v := aB) rfl) ?_
   refine o_end (fr' := [(2, aB)]) rfl ?_
   refine e_kw ?_
   refine w_ret ?_
   have he22 := Option.some.inj h21
   subst he22
   refine e_ret (rs' := [.tmp 2]) rfl ?_
   refine r_tmp (v := aB) rfl ?_
   refine r_nil ?_
   exact fin_gen [] rfl rfl rfl (AV.le_refl _) st_nil
noncomputable def ref20xRightPolicy_l1 (p0o : ApiPolicy) (s4 : Int) : Option (Step Int (Fl Bool Unit)) :=
 cond (decide (s4 < ((([p0o.ToStart, p0o.ToClose, p0o.Total, p0o.Beat, p0o.First, p0o.Most] : List Int)).length : Int))) ((idx ([p0o.ToStart, p0o.ToClose, p0o.Total, p0o.Beat, p0o.First, p0o.Most] : List Int) s4).bind fun (x6 : Int) => (ref20xin x6 (0 : Int) (1099511627776 : Int)).bind fun (x8 : Bool) => cond (!x8) (some (Step.out (Fl.done false))) (some (Step.next (IntKind.wrap .i64 (s4 + (1 : Int)))))) (some (Step.out (Fl.go ())))
noncomputable def ref20xRightPolicy_l2 (p0o : ApiPolicy) (s19 : Int) : Option (Step Int (Fl Bool Unit)) :=
 cond (decide (s19 < ((p0o.Fatal).length : Int))) ((idx p0o.Fatal s19).bind fun (x21 : (List UInt8)) => cond (decide ((4096 : Int) < ((x21).length : Int))) (some (Step.out (Fl.done false))) (some (Step.next (IntKind.wrap .i64 (s19 + (1 : Int)))))) (some (Step.out (Fl.go ())))
noncomputable def ref20xRightPolicy (p0o : ApiPolicy) : Option Bool :=
 ((loopO (ref20xRightPolicy_l1 p0o) ((0 : Int))) : Option (Fl Bool Unit)).bind fun (x1 : (Fl Bool Unit)) => Fl.next x1 (fun (j3 : Unit) => (((loopO (ref20xRightPolicy_l2 p0o) ((0 : Int))) : Option (Fl Bool Unit)).bind fun (x16 : (Fl Bool Unit)) => Fl.next x16 (fun (j18 : Unit) => ((gd ((decide (p0o.Queue = ([] : List UInt8))) == false) (ref06xRight p0o.Queue)).bind fun (x29 : Bool) => (gd ((cond (decide (p0o.Queue = ([] : List UInt8))) true x29) == true) (ref20xin p0o.Coef (0 : Int) (10000 : Int))).bind fun (x31 : Bool) => (gd ((cond (cond (decide (p0o.Queue = ([] : List UInt8))) true x29) x31 false) == true) (ref20xin p0o.Attempts (0 : Int) (1000 : Int))).bind fun (x33 : Bool) => some (cond (cond (cond (cond (decide (p0o.Queue = ([] : List UInt8))) true x29) x31 false) x33 false) (decide (((p0o.Fatal).length : Int) ≤ (64 : Int))) false)))))
theorem w_ref20xRightPolicy {p0o : ApiPolicy} {res : Bool} (h : ref20xRightPolicy p0o = some res) : ACalls Try.prog 71 [.agg (AV.cs (rowApiPolicy p0o))] [] (.c (.bool res)) [] := by
 unfold ref20xRightPolicy at h
 refine acalls (fn := Try.f71) [0, 1, 2, 3, 4, 5, 22, 30, 35, 44] (by kernel_rfl) Try.func71 rfl (by kernel_rfl) (by kernel_rfl) ?_
 refine w_seqw ?_
 refine w_region ?_
 refine o_box (v := .agg [aS, aI, aI, aI, aI, aI, aI, aI, aI, aL]) (n := 0) (cs := [aS, aI, aI, aI, aI, aI, aI, aI, aI, aL]) (σ' := [[aS, aI, aI, aI, aI, aI, aI, aI, aI, aL]]) rfl rfl rfl rfl rfl ?_
 refine o_p rfl (p_assign (v := aB) rfl) ?_
 refine o_end (fr' := [(0, .agg [aS, aI, aI, aI, aI, aI, aI, aI, aI, aL]), (1, .box 0 0), (2, aB)]) rfl ?_
 refine e_kw ?_
 refine w_seqw ?_
 refine w_region ?_
 refine o_p rfl (p_fa tf42x1 rfl) ?_
 refine o_p rfl (p_load (v := aI) tv3 rfl rfl rfl) ?_
 refine o_p rfl (p_fa tf42x2 rfl) ?_
 refine o_p rfl (p_load (v := aI) tv3 rfl rfl rfl) ?_
 refine o_p rfl (p_fa tf42x3 rfl) ?_
 refine o_p rfl (p_load (v := aI) tv3 rfl rfl rfl) ?_
 refine o_p rfl (p_fa tf42x4 rfl) ?_
 refine o_p rfl (p_load (v := aI) tv3 rfl rfl rfl) ?_
 refine o_p rfl (p_fa tf42x5 rfl) ?_
 refine o_p rfl (p_load (v := aI) tv3 rfl rfl rfl) ?_
 refine o_p rfl (p_fa tf42x7 rfl) ?_
 refine o_p rfl (p_load (v := aI) tv3 rfl rfl rfl) ?_
 refine o_rows (row := (rowI .i64)) (xs := ([p0o.ToStart, p0o.ToClose, p0o.Total, p0o.Beat, p0o.First, p0o.Most] : List Int)) (rows := [[_], [_], [_], [_], [_], [_]]) (σ' := [[aS, aI, aI, aI, aI, aI, aI, aI, aI, aL]]) [0] ts105 rfl rfl rfl (arow_cons rfl (arow_cons rfl (arow_cons rfl (arow_cons rfl (arow_cons rfl (arow_cons rfl arow_nil)))))) rfl rfl ?_
 refine o_p rfl (p_assign (v := aO) rfl) ?_
 refine o_end (fr' := [(0, .agg [aS, aI, aI, aI, aI, aI, aI, aI, aI, aL]), (1, .box 0 0), (2, aB), (3, aO)]) rfl ?_
 refine e_kw ?_
 refine w_seqw ?_
 refine w_seqw ?_
 refine w_region ?_
 refine o_p rfl (p_assign (v := aI) rfl) ?_
 refine o_end (fr' := [(0, .agg [aS, aI, aI, aI, aI, aI, aI, aI, aI, aL]), (1, .box 0 0), (2, aB), (3, aO), (4, aI)]) rfl ?_
 refine e_kw ?_
 obtain ⟨x1, hx1, h2⟩ := bind_s h
 refine w_jtail cl_kw (fun j3 => x1 = Fl.go j3) (fun (j3 : Unit) => ([(1, .box 0 0)] : Fr)) (fun (j3 : Unit) => ([[.c (.str p0o.Queue), .c (.int .i64 p0o.ToStart), .c (.int .i64 p0o.ToClose), .c (.int .i64 p0o.Total), .c (.int .i64 p0o.Beat), .c (.int .i64 p0o.First), .c (.int .i64 p0o.Coef), .c (.int .i64 p0o.Most), .c (.int .i64 p0o.Attempts), .c (PV.ls 1 rowS p0o.Fatal)]] : St)) ?_ ?_
 ·
  refine w_block ?_
  refine w_loopo _ (fun (s4 : Int) => ([(1, .box 0 0), (3, AV.os 0 1 (rowI .i64) ([p0o.ToStart, p0o.ToClose, p0o.Total, p0o.Beat, p0o.First, p0o.Most] : List Int)), (4, .c (.int .i64 s4))] : Fr)) (fun (s4 : Int) => ([[.c (.str p0o.Queue), .c (.int .i64 p0o.ToStart), .c (.int .i64 p0o.ToClose), .c (.int .i64 p0o.Total), .c (.int .i64 p0o.Beat), .c (.int .i64 p0o.First), .c (.int .i64 p0o.Coef), .c (.int .i64 p0o.Most), .c (.int .i64 p0o.Attempts), .c (PV.ls 1 rowS p0o.Fatal)]] : St)) hx1 (w_weak [288] 1 rfl rfl rfl rfl ⟨(AV.le_refl _), (AV.le_refl _), (AV.le_refl _), trivial⟩ (st_r rfl st_nil)) ?_
  intro s4 st4 hs4 ho4
  unfold ref20xRightPolicy_l1 at hs4
  refine w_seqw ?_
  refine w_seqw ?_
  refine w_region ?_
  refine o_p rfl (p_move (v := aI) rfl) ?_
  refine o_p rfl (p_move (v := aO) rfl) ?_
  refine o_p rfl (p_len ti105 (isl_o rfl)) ?_
  refine o_p rfl (p_lss rfl rfl) ?_
  refine o_end (fr' := [(1, .box 0 0), (3, aO), (4, aI), (22, aB)]) rfl ?_
  refine e_kw ?_
  refine w_cond _ rfl (fun hb5 => ?_) (fun hb5 => ?_)
  ·
   have h5 := cond_t (b := (decide (s4 < ((([p0o.ToStart, p0o.ToClose, p0o.Total, p0o.Beat, p0o.First, p0o.Most] : List Int)).length : Int)))) hb5 hs4
   refine w_skip ?_
   refine e_kw ?_
   refine w_seqw ?_
   refine w_block ?_
   refine w_seqw ?_
   refine w_region ?_
   refine o_p rfl (p_move (v := aO) rfl) ?_
   refine o_p rfl (p_move (v := aI) rfl) ?_
   obtain ⟨x6, hx6, h7⟩ := bind_s h5
   refine o_p rfl (p_ia (cs := [.int _ _]) ts105 (isl_o rfl) rfl hx6 rfl) ?_
   refine o_p rfl (p_loade (p := .int _ _) tv3 rfl rfl) ?_
   obtain ⟨x8, hx8, h9⟩ := bind_s h7
   refine o_v (ov_call (v := aB) rfl (w_ref20xin hx8) ⟨(AV.le_refl _), (AV.le_refl _), (AV.le_refl _), trivial⟩ rfl rfl rfl) ?_
   refine o_p rfl (p_not rfl) ?_
   refine o_end (fr' := [(1, .box 0 0), (3, aO), (4, aI), (22, aB), (30, aB)]) rfl ?_
   refine e_kw ?_
   refine w_cond _ rfl (fun hb10 => ?_) (fun hb10 => ?_)
   ·
    have h10 := cond_t (b := (!x8)) hb10 h9
    refine w_seqw ?_
    refine w_region ?_
    refine o_p rfl (p_assign (v := aB) rfl) ?_
    refine o_end (fr' := [(1, .box 0 0), (2, aB), (3, aO), (4, aI), (22, aB), (30, aB)]) rfl ?_
    refine e_kw ?_
    refine w_ret ?_
    refine e_blk_r ?_
    refine e_seq_r ?_
    refine e_seq_r ?_
    refine e_blk_r ?_
    refine e_seq_r ?_
    refine e_seq_r ?_
    have h11 := un_out h10 ho4
    have h12 := un_done h11 h2
    have he13 := Option.some.inj h12
    subst he13
    refine e_ret (rs' := [.tmp 2]) rfl ?_
    refine r_tmp (v := aB) rfl ?_
    refine r_nil ?_
    exact fin_gen [] rfl rfl rfl (AV.le_refl _) st_nil
   ·
    have h10 := cond_f (b := (!x8)) hb10 h9
    refine w_skip ?_
    refine e_blk_n ?_
    refine e_kw ?_
    refine w_region ?_
    refine o_p rfl (p_move (v := aI) rfl) ?_
    refine o_p rfl (p_add rfl rfl) ?_
    refine o_p rfl (p_assign (v := aI) rfl) ?_
    refine o_end (fr' := [(1, .box 0 0), (3, aO), (4, aI), (22, aB), (30, aB)]) rfl ?_
    exact e_l _ (Option.some.inj h10).symm (w_weak [0] 1 rfl rfl rfl rfl ⟨(AV.le_refl _), (AV.le_refl _), (AV.le_refl _), trivial⟩ (st_r rfl st_nil))
  ·
   have h5 := cond_f (b := (decide (s4 < ((([p0o.ToStart, p0o.ToClose, p0o.Total, p0o.Beat, p0o.First, p0o.Most] : List Int)).length : Int)))) hb5 hs4
   refine w_exit ?_
   refine e_seq_x ?_
   refine e_seq_x ?_
   refine e_blk_h ?_
   have h14 := un_out h5 ho4
   exact e_j _ (Option.some.inj h14).symm (w_weak [] 1 rfl rfl rfl rfl ⟨(AV.le_refl _), trivial⟩ (st_r rfl st_nil))
 ·
  intro j3 hj15
  have h15 := un_go hj15 h2
  refine e_kw ?_
  refine w_seqw ?_
  refine w_seqw ?_
  refine w_region ?_
  refine o_p rfl (p_assign (v := aI) rfl) ?_
  refine o_end (fr' := [(1, .box 0 0), (5, aI)]) rfl ?_
  refine e_kw ?_
  obtain ⟨x16, hx16, h17⟩ := bind_s h15
  refine w_jtail cl_kw (fun j18 => x16 = Fl.go j18) (fun (j18 : Unit) => ([(1, .box 0 0)] : Fr)) (fun (j18 : Unit) => ([[.c (.str p0o.Queue), .c (.int .i64 p0o.ToStart), .c (.int .i64 p0o.ToClose), .c (.int .i64 p0o.Total), .c (.int .i64 p0o.Beat), .c (.int .i64 p0o.First), .c (.int .i64 p0o.Coef), .c (.int .i64 p0o.Most), .c (.int .i64 p0o.Attempts), .c (PV.ls 1 rowS p0o.Fatal)]] : St)) ?_ ?_
  ·
   refine w_block ?_
   refine w_loopo _ (fun (s19 : Int) => ([(1, .box 0 0), (5, .c (.int .i64 s19))] : Fr)) (fun (s19 : Int) => ([[.c (.str p0o.Queue), .c (.int .i64 p0o.ToStart), .c (.int .i64 p0o.ToClose), .c (.int .i64 p0o.Total), .c (.int .i64 p0o.Beat), .c (.int .i64 p0o.First), .c (.int .i64 p0o.Coef), .c (.int .i64 p0o.Most), .c (.int .i64 p0o.Attempts), .c (PV.ls 1 rowS p0o.Fatal)]] : St)) hx16 (w_weak [] 1 rfl rfl rfl rfl ⟨(AV.le_refl _), (AV.le_refl _), trivial⟩ (st_r rfl st_nil)) ?_
   intro s19 st19 hs19 ho19
   unfold ref20xRightPolicy_l2 at hs19
   refine w_seqw ?_
   refine w_seqw ?_
   refine w_region ?_
   refine o_p rfl (p_move (v := aI) rfl) ?_
   refine o_p rfl (p_fa tf42x9 rfl) ?_
   refine o_p rfl (p_load (v := aL) tv38 rfl rfl rfl) ?_
   refine o_p rfl (p_len ti38 (isl_c rfl)) ?_
   refine o_p rfl (p_lss rfl rfl) ?_
   refine o_end (fr' := [(1, .box 0 0), (5, aI), (35, aB)]) rfl ?_
   refine e_kw ?_
   refine w_cond _ rfl (fun hb20 => ?_) (fun hb20 => ?_)
   ·
    have h20 := cond_t (b := (decide (s19 < ((p0o.Fatal).length : Int)))) hb20 hs19
    refine w_skip ?_
    refine e_kw ?_
    refine w_seqw ?_
    refine w_block ?_
    refine w_seqw ?_
    refine w_region ?_
    refine o_p rfl (p_fa tf42x9 rfl) ?_
    refine o_p rfl (p_load (v := aL) tv38 rfl rfl rfl) ?_
    refine o_p rfl (p_move (v := aI) rfl) ?_
    obtain ⟨x21, hx21, h22⟩ := bind_s h20
    refine o_p rfl (p_ia (cs := [.str _]) ts38 (isl_c rfl) rfl hx21 rfl) ?_
    refine o_p rfl (p_loade (p := .str _) tv9 rfl rfl) ?_
    refine o_p rfl (p_lens ti9 rfl) ?_
    refine o_p rfl (p_gtr rfl rfl) ?_
    refine o_end (fr' := [(1, .box 0 0), (5, aI), (35, aB), (44, aB)]) rfl ?_
    refine e_kw ?_
    refine w_cond _ rfl (fun hb23 => ?_) (fun hb23 => ?_)
    ·
     have h23 := cond_t (b := (decide ((4096 : Int) < ((x21).length : Int)))) hb23 h22
     refine w_seqw ?_
     refine w_region ?_
     refine o_p rfl (p_assign (v := aB) rfl) ?_
     refine o_end (fr' := [(1, .box 0 0), (2, aB), (5, aI), (35, aB), (44, aB)]) rfl ?_
     refine e_kw ?_
     refine w_ret ?_
     refine e_blk_r ?_
     refine e_seq_r ?_
     refine e_seq_r ?_
     refine e_blk_r ?_
     refine e_seq_r ?_
     refine e_seq_r ?_
     have h24 := un_out h23 ho19
     have h25 := un_done h24 h17
     have he26 := Option.some.inj h25
     subst he26
     refine e_ret (rs' := [.tmp 2]) rfl ?_
     refine r_tmp (v := aB) rfl ?_
     refine r_nil ?_
     exact fin_gen [] rfl rfl rfl (AV.le_refl _) st_nil
    ·
     have h23 := cond_f (b := (decide ((4096 : Int) < ((x21).length : Int)))) hb23 h22
     refine w_skip ?_
     refine e_blk_n ?_
     refine e_kw ?_
     refine w_region ?_
     refine o_p rfl (p_move (v := aI) rfl) ?_
     refine o_p rfl (p_add rfl rfl) ?_
     refine o_p rfl (p_assign (v := aI) rfl) ?_
     refine o_end (fr' := [(1, .box 0 0), (5, aI), (35, aB), (44, aB)]) rfl ?_
     exact e_l _ (Option.some.inj h23).symm (w_weak [] 1 rfl rfl rfl rfl ⟨(AV.le_refl _), (AV.le_refl _), trivial⟩ (st_r rfl st_nil))
   ·
    have h20 := cond_f (b := (decide (s19 < ((p0o.Fatal).length : Int)))) hb20 hs19
    refine w_exit ?_
    refine e_seq_x ?_
    refine e_seq_x ?_
    refine e_blk_h ?_
    have h27 := un_out h20 ho19
    exact e_j _ (Option.some.inj h27).symm (w_weak [] 1 rfl rfl rfl rfl ⟨(AV.le_refl _), trivial⟩ (st_r rfl st_nil))
  ·
   intro j18 hj28
   have h28 := un_go hj28 h17
   refine e_kw ?_
   refine w_seqw ?_
   refine w_region ?_
   refine o_p rfl (p_fa tf42x0 rfl) ?_
   refine o_p rfl (p_load (v := aS) tv9 rfl rfl rfl) ?_
   refine o_p rfl (p_seql rfl rfl) ?_
   refine o_p rfl (p_move (v := aB) rfl) ?_
   refine o_g rfl rfl (fun hc => ov_p rfl (p_fa tf42x0 rfl)) ?_
   refine o_g rfl rfl (fun hc => ov_p rfl (p_load (v := aS) tv9 (gx rfl hc) rfl rfl)) ?_
   obtain ⟨x29, hx29, h30⟩ := bind_s h28
   refine o_g rfl rfl (fun hc => ov_call (v := aB) rfl (w_ref06xRight (gd_some hx29 hc)) ⟨(le_gv (gx rfl hc) (AV.le_refl _)), trivial⟩ (ok_eq (by repeat (first | exact ok_nil | refine ok_cons rfl ?_ | refine ok_cons (dgv rfl) ?_))) rfl rfl) ?_
   refine o_p rfl (p_pickz rfl rfl rfl (fun e => keq e)) ?_
   refine o_p rfl (p_move (v := aB) rfl) ?_
   refine o_g rfl rfl (fun hc => ov_p rfl (p_fa tf42x6 rfl)) ?_
   refine o_g rfl rfl (fun hc => ov_p rfl (p_load (v := aI) tv3 (gx rfl hc) rfl rfl)) ?_
   obtain ⟨x31, hx31, h32⟩ := bind_s h30
   refine o_g rfl rfl (fun hc => ov_call (v := aB) rfl (w_ref20xin (gd_some hx31 hc)) ⟨(le_gv (gx rfl hc) (AV.le_refl _)), (AV.le_refl _), (AV.le_refl _), trivial⟩ (ok_eq (by repeat (first | exact ok_nil | refine ok_cons rfl ?_ | refine ok_cons (dgv rfl) ?_))) rfl rfl) ?_
   refine o_p rfl (p_picky rfl rfl rfl (fun e => keq e)) ?_
   refine o_p rfl (p_move (v := aB) rfl) ?_
   refine o_g rfl rfl (fun hc => ov_p rfl (p_fa tf42x8 rfl)) ?_
   refine o_g rfl rfl (fun hc => ov_p rfl (p_load (v := aI) tv3 (gx rfl hc) rfl rfl)) ?_
   obtain ⟨x33, hx33, h34⟩ := bind_s h32
   refine o_g rfl rfl (fun hc => ov_call (v := aB) rfl (w_ref20xin (gd_some hx33 hc)) ⟨(le_gv (gx rfl hc) (AV.le_refl _)), (AV.le_refl _), (AV.le_refl _), trivial⟩ (ok_eq (by repeat (first | exact ok_nil | refine ok_cons rfl ?_ | refine ok_cons (dgv rfl) ?_))) rfl rfl) ?_
   refine o_p rfl (p_picky rfl rfl rfl (fun e => keq e)) ?_
   refine o_p rfl (p_move (v := aB) rfl) ?_
   refine o_g rfl rfl (fun hc => ov_p rfl (p_fa tf42x9 rfl)) ?_
   refine o_g rfl rfl (fun hc => ov_p rfl (p_load (v := aL) tv38 (gx rfl hc) rfl rfl)) ?_
   refine o_g rfl rfl (fun hc => ov_p rfl (p_len ti38 (isl_c (gx rfl hc)))) ?_
   refine o_g rfl rfl (fun hc => ov_p rfl (p_leq (gx rfl hc) rfl)) ?_
   refine o_p rfl (p_picky rfl rfl rfl (fun e => keq e)) ?_
   refine o_p rfl (p_assign (v := aB) rfl) ?_
   refine o_end (fr' := [(1, .box 0 0), (2, aB)]) rfl ?_
   refine e_kw ?_
   refine w_ret ?_
   have he35 := Option.some.inj h34
   subst he35
   refine e_ret (rs' := [.tmp 2]) rfl ?_
   refine r_tmp (v := aB) rfl ?_
   refine r_nil ?_
   exact fin_gen [] rfl rfl rfl (AV.le_refl _) st_nil
noncomputable def ref20xInput_l1 (p0v : ApiValue) (s8 : Int) : Option (Step Int (Fl Bool Unit)) :=
 (idx p0v.Items (1 : Int)).bind fun (x9 : ApiValue) => cond (decide (s8 < ((x9.Items).length : Int))) ((idx p0v.Items (1 : Int)).bind fun (x12 : ApiValue) => (idx x12.Items s8).bind fun (x14 : ApiValue) => (gd ((cond (!decide (x14.Kind = (4 : Int))) true (!decide (((x14.Items).length : Int) = (2 : Int)))) == false) (idx x14.Items (0 : Int))).bind fun (x16 : ApiValue) => (gd ((cond (cond (!decide (x14.Kind = (4 : Int))) true (!decide (((x14.Items).length : Int) = (2 : Int)))) true (!decide (x16.Kind = (3 : Int)))) == false) (idx x14.Items (0 : Int))).bind fun (x18 : ApiValue) => (gd ((cond (cond (!decide (x14.Kind = (4 : Int))) true (!decide (((x14.Items).length : Int) = (2 : Int)))) true (!decide (x16.Kind = (3 : Int)))) == false) (ref06xRight x18.Text)).bind fun (x20 : Bool) => cond (cond (cond (cond (!decide (x14.Kind = (4 : Int))) true (!decide (((x14.Items).length : Int) = (2 : Int)))) true (!decide (x16.Kind = (3 : Int)))) true (!x20)) (some (Step.out (Fl.done false))) (some (Step.next (IntKind.wrap .i64 (s8 + (1 : Int)))))) (some (Step.out (Fl.go ())))
noncomputable def ref20xInput (p0v : ApiValue) : Option Bool :=
 (gd ((cond (!decide (p0v.Kind = (4 : Int))) true (!decide (((p0v.Items).length : Int) = (2 : Int)))) == false) (idx p0v.Items (1 : Int))).bind fun (x1 : ApiValue) => cond (cond (cond (!decide (p0v.Kind = (4 : Int))) true (!decide (((p0v.Items).length : Int) = (2 : Int)))) true (!decide (x1.Kind = (4 : Int)))) (some false) (((loopO (ref20xInput_l1 p0v) ((0 : Int))) : Option (Fl Bool Unit)).bind fun (x5 : (Fl Bool Unit)) => Fl.next x5 (fun (j7 : Unit) => (some true)))
theorem w_ref20xInput {p0v : ApiValue} {res : Bool} (h : ref20xInput p0v = some res) : ACalls Try.prog 72 [.agg (AV.cs (exApiValue p0v))] [] (.c (.bool res)) [] := by
 unfold ref20xInput at h
 refine acalls (fn := Try.f72) [0, 1, 2, 3, 4, 21, 29, 65] (by kernel_rfl) Try.func72 rfl (by kernel_rfl) (by kernel_rfl) ?_
 refine w_seqw ?_
 refine w_region ?_
 refine o_box (v := .agg [aI, aI, aS, aL, aL]) (n := 0) (cs := [aI, aI, aS, aL, aL]) (σ' := [[aI, aI, aS, aL, aL]]) rfl rfl rfl rfl rfl ?_
 refine o_p rfl (p_assign (v := aB) rfl) ?_
 refine o_end (fr' := [(0, .agg [aI, aI, aS, aL, aL]), (1, .box 0 0), (2, aB)]) rfl ?_
 refine e_kw ?_
 refine w_seqw ?_
 refine w_seqw ?_
 refine w_region ?_
 refine o_p rfl (p_fa tf40x0 rfl) ?_
 refine o_p rfl (p_load (v := aI) tv3 rfl rfl rfl) ?_
 refine o_p rfl (p_neq rfl rfl) ?_
 refine o_p rfl (p_move (v := aB) rfl) ?_
 refine o_g rfl rfl (fun hc => ov_p rfl (p_fa tf40x3 rfl)) ?_
 refine o_g rfl rfl (fun hc => ov_p rfl (p_load (v := aL) tv37 (gx rfl hc) rfl rfl)) ?_
 refine o_g rfl rfl (fun hc => ov_p rfl (p_len ti37 (isl_c (gx rfl hc)))) ?_
 refine o_g rfl rfl (fun hc => ov_p rfl (p_neq (gx rfl hc) rfl)) ?_
 refine o_p rfl (p_pickz rfl rfl rfl (fun e => keq e)) ?_
 refine o_p rfl (p_move (v := aB) rfl) ?_
 refine o_g rfl rfl (fun hc => ov_p rfl (p_fa tf40x3 rfl)) ?_
 refine o_g rfl rfl (fun hc => ov_p rfl (p_load (v := aL) tv37 (gx rfl hc) rfl rfl)) ?_
 obtain ⟨x1, hx1, h2⟩ := bind_s h
 refine o_g rfl rfl (fun hc => ov_p rfl (p_ia (cs := [.int _ _, .int _ _, .str _, PV.ls _ _ _, PV.ls _ _ _]) ts37 (isl_c (gx rfl hc)) rfl (gd_some hx1 hc) (rowApiValue_eq _))) ?_
 refine o_g rfl rfl (fun hc => ov_p rfl (p_fae tf40x0 (gx rfl hc))) ?_
 refine o_g rfl rfl (fun hc => ov_p rfl (p_loade (p := .int _ _) tv3 (gx rfl hc) rfl)) ?_
 refine o_g rfl rfl (fun hc => ov_p rfl (p_neq (gx rfl hc) rfl)) ?_
 refine o_p rfl (p_pickz rfl rfl rfl (fun e => keq e)) ?_
 refine o_end (fr' := [(0, .agg [aI, aI, aS, aL, aL]), (1, .box 0 0), (2, aB), (21, aB)]) rfl ?_
 refine e_kw ?_
 refine w_cond _ rfl (fun hb3 => ?_) (fun hb3 => ?_)
 ·
  have h3 := cond_t (b := (cond (cond (!decide (p0v.Kind = (4 : Int))) true (!decide (((p0v.Items).length : Int) = (2 : Int)))) true (!decide (x1.Kind = (4 : Int))))) hb3 h2
  refine w_seqw ?_
  refine w_region ?_
  refine o_p rfl (p_assign (v := aB) rfl) ?_
  refine o_end (fr' := [(0, .agg [aI, aI, aS, aL, aL]), (1, .box 0 0), (2, aB), (21, aB)]) rfl ?_
  refine e_kw ?_
  refine w_ret ?_
  refine e_seq_r ?_
  have he4 := Option.some.inj h3
  subst he4
  refine e_ret (rs' := [.tmp 2]) rfl ?_
  refine r_tmp (v := aB) rfl ?_
  refine r_nil ?_
  exact fin_gen [] rfl rfl rfl (AV.le_refl _) st_nil
 ·
  have h3 := cond_f (b := (cond (cond (!decide (p0v.Kind = (4 : Int))) true (!decide (((p0v.Items).length : Int) = (2 : Int)))) true (!decide (x1.Kind = (4 : Int))))) hb3 h2
  refine w_skip ?_
  refine e_kw ?_
  refine w_seqw ?_
  refine w_seqw ?_
  refine w_region ?_
  refine o_p rfl (p_assign (v := aI) rfl) ?_
  refine o_end (fr' := [(0, .agg [aI, aI, aS, aL, aL]), (1, .box 0 0), (2, aB), (3, aI), (21, aB)]) rfl ?_
  refine e_kw ?_
  obtain ⟨x5, hx5, h6⟩ := bind_s h3
  refine w_jtail cl_kw (fun j7 => x5 = Fl.go j7) (fun (j7 : Unit) => ([] : Fr)) (fun (j7 : Unit) => ([[.c (.int .i64 p0v.Kind), .c (.int .i64 p0v.Int), .c (.str p0v.Text), .c (PV.ls 5 rowApiValue p0v.Items), .c (PV.ls 1 rowS p0v.Keys)]] : St)) ?_ ?_
  ·
   refine w_block ?_
   refine w_loopo _ (fun (s8 : Int) => ([(1, .box 0 0), (3, .c (.int .i64 s8))] : Fr)) (fun (s8 : Int) => ([[.c (.int .i64 p0v.Kind), .c (.int .i64 p0v.Int), .c (.str p0v.Text), .c (PV.ls 5 rowApiValue p0v.Items), .c (PV.ls 1 rowS p0v.Keys)]] : St)) hx5 (w_weak [] 1 rfl rfl rfl rfl ⟨(AV.le_refl _), (AV.le_refl _), trivial⟩ (st_r rfl st_nil)) ?_
   intro s8 st8 hs8 ho8
   unfold ref20xInput_l1 at hs8
   refine w_seqw ?_
   refine w_seqw ?_
   refine w_region ?_
   refine o_p rfl (p_move (v := aI) rfl) ?_
   refine o_p rfl (p_fa tf40x3 rfl) ?_
   refine o_p rfl (p_load (v := aL) tv37 rfl rfl rfl) ?_
   obtain ⟨x9, hx9, h10⟩ := bind_s hs8
   refine o_p rfl (p_ia (cs := [.int _ _, .int _ _, .str _, PV.ls _ _ _, PV.ls _ _ _]) ts37 (isl_c rfl) rfl hx9 (rowApiValue_eq _)) ?_
   refine o_p rfl (p_fae tf40x3 rfl) ?_
   refine o_p rfl (p_loade (p := PV.ls _ _ _) tv37 rfl rfl) ?_
   refine o_p rfl (p_len ti37 (isl_c rfl)) ?_
   refine o_p rfl (p_lss rfl rfl) ?_
   refine o_end (fr' := [(1, .box 0 0), (3, aI), (29, aB)]) rfl ?_
   refine e_kw ?_
   refine w_cond _ rfl (fun hb11 => ?_) (fun hb11 => ?_)
   ·
    have h11 := cond_t (b := (decide (s8 < ((x9.Items).length : Int)))) hb11 h10
    refine w_skip ?_
    refine e_kw ?_
    refine w_seqw ?_
    refine w_block ?_
    refine w_seqw ?_
    refine w_region ?_
    refine o_p rfl (p_fa tf40x3 rfl) ?_
    refine o_p rfl (p_load (v := aL) tv37 rfl rfl rfl) ?_
    obtain ⟨x12, hx12, h13⟩ := bind_s h11
    refine o_p rfl (p_ia (cs := [.int _ _, .int _ _, .str _, PV.ls _ _ _, PV.ls _ _ _]) ts37 (isl_c rfl) rfl hx12 (rowApiValue_eq _)) ?_
    refine o_p rfl (p_fae tf40x3 rfl) ?_
    refine o_p rfl (p_loade (p := PV.ls _ _ _) tv37 rfl rfl) ?_
    refine o_p rfl (p_move (v := aI) rfl) ?_
    obtain ⟨x14, hx14, h15⟩ := bind_s h13
    refine o_p rfl (p_ia (cs := [.int _ _, .int _ _, .str _, PV.ls _ _ _, PV.ls _ _ _]) ts37 (isl_c rfl) rfl hx14 (rowApiValue_eq _)) ?_
    refine o_p rfl (p_loades (us := [.int _ _, .int _ _, .str _, PV.ls _ _ _, PV.ls _ _ _]) tv40 rfl rfl rfl) ?_
    refine o_alloc (n := 1) (cs := [aI, aI, aS, .nil, .nil]) (σ' := [[aI, aI, aS, aL, aL], [aI, aI, aS, .nil, .nil]]) tz40 rfl rfl rfl ?_
    refine o_store (v := .agg [aI, aI, aS, aL, aL]) (us := [aI, aI, aS, aL, aL]) (cs := [aI, aI, aS, .nil, .nil]) (σ' := [[aI, aI, aS, aL, aL], [aI, aI, aS, aL, aL]]) rfl tv40 rfl rfl rfl rfl rfl rfl rfl rfl ?_
    refine o_end (fr' := [(1, .box 0 0), (3, aI), (4, .box 1 0), (29, aB)]) rfl ?_
    refine e_kw ?_
    refine w_seqw ?_
    refine w_region ?_
    refine o_p rfl (p_fa tf40x0 rfl) ?_
    refine o_p rfl (p_load (v := aI) tv3 rfl rfl rfl) ?_
    refine o_p rfl (p_neq rfl rfl) ?_
    refine o_p rfl (p_move (v := aB) rfl) ?_
    refine o_g rfl rfl (fun hc => ov_p rfl (p_fa tf40x3 rfl)) ?_
    refine o_g rfl rfl (fun hc => ov_p rfl (p_load (v := aL) tv37 (gx rfl hc) rfl rfl)) ?_
    refine o_g rfl rfl (fun hc => ov_p rfl (p_len ti37 (isl_c (gx rfl hc)))) ?_
    refine o_g rfl rfl (fun hc => ov_p rfl (p_neq (gx rfl hc) rfl)) ?_
    refine o_p rfl (p_pickz rfl rfl rfl (fun e => keq e)) ?_
    refine o_p rfl (p_move (v := aB) rfl) ?_
    refine o_g rfl rfl (fun hc => ov_p rfl (p_fa tf40x3 rfl)) ?_
    refine o_g rfl rfl (fun hc => ov_p rfl (p_load (v := aL) tv37 (gx rfl hc) rfl rfl)) ?_
    obtain ⟨x16, hx16, h17⟩ := bind_s h15
    refine o_g rfl rfl (fun hc => ov_p rfl (p_ia (cs := [.int _ _, .int _ _, .str _, PV.ls _ _ _, PV.ls _ _ _]) ts37 (isl_c (gx rfl hc)) rfl (gd_some hx16 hc) (rowApiValue_eq _))) ?_
    refine o_g rfl rfl (fun hc => ov_p rfl (p_fae tf40x0 (gx rfl hc))) ?_
    refine o_g rfl rfl (fun hc => ov_p rfl (p_loade (p := .int _ _) tv3 (gx rfl hc) rfl)) ?_
    refine o_g rfl rfl (fun hc => ov_p rfl (p_neq (gx rfl hc) rfl)) ?_
    refine o_p rfl (p_pickz rfl rfl rfl (fun e => keq e)) ?_
    refine o_p rfl (p_move (v := aB) rfl) ?_
    refine o_g rfl rfl (fun hc => ov_p rfl (p_fa tf40x3 rfl)) ?_
    refine o_g rfl rfl (fun hc => ov_p rfl (p_load (v := aL) tv37 (gx rfl hc) rfl rfl)) ?_
    obtain ⟨x18, hx18, h19⟩ := bind_s h17
    refine o_g rfl rfl (fun hc => ov_p rfl (p_ia (cs := [.int _ _, .int _ _, .str _, PV.ls _ _ _, PV.ls _ _ _]) ts37 (isl_c (gx rfl hc)) rfl (gd_some hx18 hc) (rowApiValue_eq _))) ?_
    refine o_g rfl rfl (fun hc => ov_p rfl (p_fae tf40x2 (gx rfl hc))) ?_
    refine o_g rfl rfl (fun hc => ov_p rfl (p_loade (p := .str _) tv9 (gx rfl hc) rfl)) ?_
    obtain ⟨x20, hx20, h21⟩ := bind_s h19
    refine o_g rfl rfl (fun hc => ov_call (v := aB) rfl (w_ref06xRight (gd_some hx20 hc)) ⟨(le_gv (gx rfl hc) (AV.le_refl _)), trivial⟩ (ok_eq (by repeat (first | exact ok_nil | refine ok_cons rfl ?_ | refine ok_cons (dgv rfl) ?_))) rfl rfl) ?_
    refine o_g rfl rfl (fun hc => ov_p rfl (p_not (gx rfl hc))) ?_
    refine o_p rfl (p_pickz rfl rfl rfl (fun e => keq e)) ?_
    refine o_end (fr' := [(1, .box 0 0), (3, aI), (4, .box 1 0), (29, aB), (65, aB)]) rfl ?_
    refine e_kw ?_
    refine w_cond _ rfl (fun hb22 => ?_) (fun hb22 => ?_)
    ·
     have h22 := cond_t (b := (cond (cond (cond (!decide (x14.Kind = (4 : Int))) true (!decide (((x14.Items).length : Int) = (2 : Int)))) true (!decide (x16.Kind = (3 : Int)))) true (!x20))) hb22 h21
     refine w_seqw ?_
     refine w_region ?_
     refine o_p rfl (p_assign (v := aB) rfl) ?_
     refine o_end (fr' := [(1, .box 0 0), (2, aB), (3, aI), (4, .box 1 0), (29, aB), (65, aB)]) rfl ?_
     refine e_kw ?_
     refine w_ret ?_
     refine e_blk_r ?_
     refine e_seq_r ?_
     refine e_seq_r ?_
     refine e_blk_r ?_
     refine e_seq_r ?_
     refine e_seq_r ?_
     have h23 := un_out h22 ho8
     have h24 := un_done h23 h6
     have he25 := Option.some.inj h24
     subst he25
     refine e_ret (rs' := [.tmp 2]) rfl ?_
     refine r_tmp (v := aB) rfl ?_
     refine r_nil ?_
     exact fin_gen [] rfl rfl rfl (AV.le_refl _) st_nil
    ·
     have h22 := cond_f (b := (cond (cond (cond (!decide (x14.Kind = (4 : Int))) true (!decide (((x14.Items).length : Int) = (2 : Int)))) true (!decide (x16.Kind = (3 : Int)))) true (!x20))) hb22 h21
     refine w_skip ?_
     refine e_blk_n ?_
     refine e_kw ?_
     refine w_region ?_
     refine o_p rfl (p_move (v := aI) rfl) ?_
     refine o_p rfl (p_add rfl rfl) ?_
     refine o_p rfl (p_assign (v := aI) rfl) ?_
     refine o_end (fr' := [(1, .box 0 0), (3, aI), (4, .box 1 0), (29, aB), (65, aB)]) rfl ?_
     exact e_l _ (Option.some.inj h22).symm (w_weak [] 1 rfl rfl rfl rfl ⟨(AV.le_refl _), (AV.le_refl _), trivial⟩ (st_r rfl st_nil))
   ·
    have h11 := cond_f (b := (decide (s8 < ((x9.Items).length : Int)))) hb11 h10
    refine w_exit ?_
    refine e_seq_x ?_
    refine e_seq_x ?_
    refine e_blk_h ?_
    have h26 := un_out h11 ho8
    exact e_j _ (Option.some.inj h26).symm (w_weak [] 1 rfl rfl rfl rfl trivial (st_r rfl st_nil))
  ·
   intro j7 hj27
   have h27 := un_go hj27 h6
   refine e_kw ?_
   refine w_seqw ?_
   refine w_region ?_
   refine o_p rfl (p_assign (v := aB) rfl) ?_
   refine o_end (fr' := [(2, aB)]) rfl ?_
   refine e_kw ?_
   refine w_ret ?_
   have he28 := Option.some.inj h27
   subst he28
   refine e_ret (rs' := [.tmp 2]) rfl ?_
   refine r_tmp (v := aB) rfl ?_
   refine r_nil ?_
   exact fin_gen [] rfl rfl rfl (AV.le_refl _) st_nil
end Go.Proofs.Ytnhchphmmdgphaa

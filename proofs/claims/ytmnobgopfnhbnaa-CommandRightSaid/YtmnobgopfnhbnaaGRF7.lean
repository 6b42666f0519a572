import Derived.Test.YtmnobgopfnhbnaaGRTy
import Derived.Test.YtmnobgopfnhbnaaGRF0
import Derived.Test.YtmnobgopfnhbnaaGRF2
import Derived.Test.YtmnobgopfnhbnaaGRF3
import Derived.Test.YtmnobgopfnhbnaaGRF5
import Derived.Test.YtmnobgopfnhbnaaGRF6
namespace Go.Proofs.Ytmnobgopfnhbnaa
open Go Abs
set_option maxRecDepth 100000
set_option linter.unusedVariables false
set_option linter.unusedSimpArgs false
noncomputable def ref02xWithin (p0v : ApiValue) : Option Bool :=
 (ref02xShort p0v).bind fun (x1 : Bool) => (gd (x1 == true) (ref02xDepth p0v)).bind fun (x3 : Int) => (gd ((cond x1 (decide (x3 ≤ (16 : Int))) false) == true) (ref02xSize p0v)).bind fun (x5 : Int) => some (cond (cond x1 (decide (x3 ≤ (16 : Int))) false) (decide (x5 ≤ (1000 : Int))) false)
theorem w_ref02xWithin {p0v : ApiValue} {res : Bool} (h : ref02xWithin p0v = some res) : ACalls Try.prog 86 [.agg (AV.cs (exApiValue p0v))] [] (.c (.bool res)) [] := by
 unfold ref02xWithin at h
 refine acalls (fn := Try.f86) [0, 1, 2] (by kernel_rfl) Try.func86 rfl (by kernel_rfl) (by kernel_rfl) <| w_sr <| o_box (v := .agg aIISLL) (n := 0) (cs := aIISLL) (σ' := [aIISLL]) rfl rfl rfl rfl rfl <| sB rfl <| o_ek (fr' := [(1, .box 0 0)]) rfl rfl <| w_sr <| o_p rfl (p_loads (us := aIISLL) tv25 rfl rfl rfl rfl) ?_
 obtain ⟨x1, hx1, h2⟩ := bind_s h
 refine o_v (ov_call (v := aB) rfl (w_ref02xShort hx1) ⟨(le_aggc rfl ⟨rfl, rfl, rfl, rfl, rfl, trivial⟩), trivial⟩ rfl rfl rfl) <| mB rfl <| og rfl rfl rfl (fun hc => (p_loads (us := aIISLL) tv25 rfl rfl rfl rfl)) ?_
 obtain ⟨x3, hx3, h4⟩ := bind_s h2
 refine o_g rfl rfl (fun hc => ov_call (v := aI) rfl (w_ref02xDepth (gd_some hx3 hc)) ⟨(le_gv (gx rfl hc) (le_aggc rfl ⟨rfl, rfl, rfl, rfl, rfl, trivial⟩)), trivial⟩ (ok_eq (by repeat (first | exact ok_nil | refine ok_cons rfl ?_ | refine ok_cons (dgv rfl) ?_))) rfl rfl) ?_
 refine og rfl rfl rfl (fun hc => (p_leq (gx rfl hc) rfl)) <| o_p rfl (p_picky rfl rfl rfl (fun e => keq e)) <| mB rfl <| og rfl rfl rfl (fun hc => (p_loads (us := aIISLL) tv25 rfl rfl rfl rfl)) ?_
 obtain ⟨x5, hx5, h6⟩ := bind_s h4
 refine o_g rfl rfl (fun hc => ov_call (v := aI) rfl (w_ref02xSize (gd_some hx5 hc)) ⟨(le_gv (gx rfl hc) (le_aggc rfl ⟨rfl, rfl, rfl, rfl, rfl, trivial⟩)), trivial⟩ (ok_eq (by repeat (first | exact ok_nil | refine ok_cons rfl ?_ | refine ok_cons (dgv rfl) ?_))) rfl rfl) ?_
 refine og rfl rfl rfl (fun hc => (p_leq (gx rfl hc) rfl)) <| o_p rfl (p_picky rfl rfl rfl (fun e => keq e)) <| sB rfl <| o_ek (fr' := [(2, aB)]) rfl rfl <| w_ret ?_
 obtain rfl := sy h6
 exact e_ret (rs' := [.tmp 2]) rfl <| r_tmp (v := aB) rfl <| r_nil <| fin_gen [] rfl rfl rfl lr st_nil
noncomputable def ref02xFuture_l1 (rec_ref02xFuture : ApiValue → Option Bool) (p0v : ApiValue) (s4 : Int) : Option (Step Int (Fl Bool Unit)) :=
 cond (decide (s4 < ((p0v.Items).length : Int))) ((idx p0v.Items s4).bind fun (x6 : ApiValue) => (rec_ref02xFuture x6).bind fun (x8 : Bool) => cond x8 (some (Step.out (Fl.done true))) (some (Step.next (IntKind.wrap .i64 (s4 + (1 : Int)))))) (some (Step.out (Fl.go ())))
noncomputable def ref02xFutureF : Nat → ApiValue → Option Bool
 | 0, _ => none
 | n + 1, p0v =>
  ((loopO (ref02xFuture_l1 (ref02xFutureF n) p0v) ((0 : Int))) : Option (Fl Bool Unit)).bind fun (x1 : (Fl Bool Unit)) => Fl.next x1 (fun (j3 : Unit) => (some (decide (p0v.Kind = (6 : Int)))))
theorem wF_ref02xFuture : ∀ n : Nat, (∀ {p0v : ApiValue} {res : Bool}, ref02xFutureF n p0v = some res → ACalls Try.prog 87 [.agg (AV.cs (exApiValue p0v))] [] (.c (.bool res)) []) := by
 intro n
 induction n with
 | zero => exact fun {p0v res} h => absurd h (by simp [ref02xFutureF])
 | succ n ih =>
  have ih_ref02xFuture := @ih
  intro p0v res h
  rw [ref02xFutureF] at h
  refine acalls (fn := Try.f87) [0, 1, 2, 3, 8, 16] (by kernel_rfl) Try.func87 rfl (by kernel_rfl) (by kernel_rfl) <| w_sr <| o_box (v := .agg aIISLL) (n := 0) (cs := aIISLL) (σ' := [aIISLL]) rfl rfl rfl rfl rfl <| sB rfl <| o_ek (fr' := [(1, .box 0 0)]) rfl rfl <| w_seqw <| w_sr <| sI rfl <| o_ek (fr' := [(1, .box 0 0), (3, aI)]) rfl rfl ?_
  obtain ⟨x1, hx1, h2⟩ := bind_s h
  refine w_jtail cl_kw (fun j3 => x1 = Fl.go j3) (fun (j3 : Unit) => ([(1, .box 0 0)] : Fr)) (fun (j3 : Unit) => ([[.c (.int .i64 p0v.Kind), .c (.int .i64 p0v.Int), .c (.str p0v.Text), .c (PV.ls 5 rowApiValue p0v.Items), .c (PV.ls 1 rowS p0v.Keys)]] : St)) ?_ ?_
  ·
   refine w_block <| w_loopo _ (fun (s4 : Int) => ([(1, .box 0 0), (3, .c (.int .i64 s4))] : Fr)) (fun (s4 : Int) => ([[.c (.int .i64 p0v.Kind), .c (.int .i64 p0v.Int), .c (.str p0v.Text), .c (PV.ls 5 rowApiValue p0v.Items), .c (PV.ls 1 rowS p0v.Keys)]] : St)) hx1 (w_weak [] 1 rfl rfl rfl rfl ⟨lr, lr, trivial⟩ (st_r rfl st_nil)) ?_
   intro s4 st4 hs4 ho4
   unfold ref02xFuture_l1 at hs4
   refine w_seqw <| w_sr <| mI rfl <| o_p rfl (p_fa tf25x3 rfl) <| o_p rfl (p_load (v := aL) tv22 rfl rfl rfl) <| o_p rfl (p_len ti22 (isl_c rfl)) <| o_p rfl (p_lss rfl rfl) <| o_ek (fr' := [(1, .box 0 0), (3, aI), (8, aB)]) rfl rfl <| w_ch hs4 rfl (fun hb5 h5 => ?_) (fun hb5 h5 => ?_)
   ·
    refine w_skip <| e_kw <| w_seqw <| w_block <| w_sr <| o_p rfl (p_fa tf25x3 rfl) <| o_p rfl (p_load (v := aL) tv22 rfl rfl rfl) <| mI rfl ?_
    obtain ⟨x6, hx6, h7⟩ := bind_s h5
    refine o_p rfl (p_ia (cs := [.int _ _, .int _ _, .str _, PV.ls _ _ _, PV.ls _ _ _]) ts22 (isl_c rfl) rfl hx6 (rowApiValue_eq _)) <| o_p rfl (p_loades (us := [.int _ _, .int _ _, .str _, PV.ls _ _ _, PV.ls _ _ _]) tv25 rfl rfl rfl) ?_
    obtain ⟨x8, hx8, h9⟩ := bind_s h7
    refine o_v (ov_call (v := aB) rfl (ih_ref02xFuture hx8) ⟨(le_aggc rfl ⟨rfl, rfl, rfl, rfl, rfl, trivial⟩), trivial⟩ rfl rfl rfl) <| o_ek (fr' := [(1, .box 0 0), (3, aI), (16, aB)]) rfl rfl <| w_ch h9 rfl (fun hb10 h10 => ?_) (fun hb10 h10 => ?_)
    ·
     refine w_sr <| sB rfl <| o_ek (fr' := [(2, aB)]) rfl rfl <| w_ret <| e_blk_r <| e_seq_r <| e_seq_r <| e_blk_r <| e_seq_r <| e_seq_r ?_
     have h11 := un_out h10 ho4
     have h12 := un_done h11 h2
     obtain rfl := sy h12
     exact e_ret (rs' := [.tmp 2]) rfl <| r_tmp (v := aB) rfl <| r_nil <| fin_gen [] rfl rfl rfl lr st_nil
    ·
     exact w_skip <| e_blk_n <| e_kw <| w_region <| mI rfl <| o_p rfl (p_add rfl rfl) <| sI rfl <| o_end (fr' := [(1, .box 0 0), (3, aI), (16, aB)]) rfl <| e_l _ (sy h10) (w_weak [] 1 rfl rfl rfl rfl ⟨lr, lr, trivial⟩ (st_r rfl st_nil))
   ·
    refine w_exit <| e_seq_x <| e_seq_x <| e_blk_h ?_
    have h14 := un_out h5 ho4
    exact e_j _ (sy h14) (w_weak [] 1 rfl rfl rfl rfl ⟨lr, trivial⟩ (st_r rfl st_nil))
  ·
   intro j3 hj15
   have h15 := un_go hj15 h2
   refine e_kw <| w_sr <| o_p rfl (p_fa tf25x0 rfl) <| o_p rfl (p_load (v := aI) tv3 rfl rfl rfl) <| o_p rfl (p_eql rfl rfl) <| sB rfl <| o_ek (fr' := [(2, aB)]) rfl rfl <| w_ret ?_
   obtain rfl := sy h15
   exact e_ret (rs' := [.tmp 2]) rfl <| r_tmp (v := aB) rfl <| r_nil <| fin_gen [] rfl rfl rfl lr st_nil
noncomputable def ref02xFuture (p0v : ApiValue) : Option Bool := lim fun n => ref02xFutureF n p0v
theorem w_ref02xFuture {p0v : ApiValue} {res : Bool} (h : ref02xFuture p0v = some res) : ACalls Try.prog 87 [.agg (AV.cs (exApiValue p0v))] [] (.c (.bool res)) [] := by
 obtain ⟨n, hn⟩ := lim_some h
 exact (wF_ref02xFuture n) hn
noncomputable def ref02xRight (p0v : ApiValue) : Option Bool :=
 (ref02xWellFormed p0v).bind fun (x1 : Bool) => (gd (x1 == true) (ref02xWithin p0v)).bind fun (x3 : Bool) => (gd ((cond x1 x3 false) == true) (ref02xFuture p0v)).bind fun (x5 : Bool) => some (cond (cond x1 x3 false) (!x5) false)
theorem w_ref02xRight {p0v : ApiValue} {res : Bool} (h : ref02xRight p0v = some res) : ACalls Try.prog 50 [.agg (AV.cs (exApiValue p0v))] [] (.c (.bool res)) [] := by
 unfold ref02xRight at h
 refine acalls (fn := Try.f50) [0, 1, 2] (by kernel_rfl) Try.func50 rfl (by kernel_rfl) (by kernel_rfl) <| w_sr <| o_box (v := .agg aIISLL) (n := 0) (cs := aIISLL) (σ' := [aIISLL]) rfl rfl rfl rfl rfl <| sB rfl <| o_ek (fr' := [(1, .box 0 0)]) rfl rfl <| w_sr <| o_p rfl (p_loads (us := aIISLL) tv25 rfl rfl rfl rfl) ?_
 obtain ⟨x1, hx1, h2⟩ := bind_s h
 refine o_v (ov_call (v := aB) rfl (w_ref02xWellFormed hx1) ⟨(le_aggc rfl ⟨rfl, rfl, rfl, rfl, rfl, trivial⟩), trivial⟩ rfl rfl rfl) <| mB rfl <| og rfl rfl rfl (fun hc => (p_loads (us := aIISLL) tv25 rfl rfl rfl rfl)) ?_
 obtain ⟨x3, hx3, h4⟩ := bind_s h2
 refine o_g rfl rfl (fun hc => ov_call (v := aB) rfl (w_ref02xWithin (gd_some hx3 hc)) ⟨(le_gv (gx rfl hc) (le_aggc rfl ⟨rfl, rfl, rfl, rfl, rfl, trivial⟩)), trivial⟩ (ok_eq (by repeat (first | exact ok_nil | refine ok_cons rfl ?_ | refine ok_cons (dgv rfl) ?_))) rfl rfl) ?_
 refine o_p rfl (p_picky rfl rfl rfl (fun e => keq e)) <| mB rfl <| og rfl rfl rfl (fun hc => (p_loads (us := aIISLL) tv25 rfl rfl rfl rfl)) ?_
 obtain ⟨x5, hx5, h6⟩ := bind_s h4
 refine o_g rfl rfl (fun hc => ov_call (v := aB) rfl (w_ref02xFuture (gd_some hx5 hc)) ⟨(le_gv (gx rfl hc) (le_aggc rfl ⟨rfl, rfl, rfl, rfl, rfl, trivial⟩)), trivial⟩ (ok_eq (by repeat (first | exact ok_nil | refine ok_cons rfl ?_ | refine ok_cons (dgv rfl) ?_))) rfl rfl) ?_
 refine og rfl rfl rfl (fun hc => (p_not (gx rfl hc))) <| o_p rfl (p_picky rfl rfl rfl (fun e => keq e)) <| sB rfl <| o_ek (fr' := [(2, aB)]) rfl rfl <| w_ret ?_
 obtain rfl := sy h6
 exact e_ret (rs' := [.tmp 2]) rfl <| r_tmp (v := aB) rfl <| r_nil <| fin_gen [] rfl rfl rfl lr st_nil
noncomputable def ref20xIdent_l1 (p0s : (List UInt8)) (s6 : Int) : Option (Step Int (Fl Bool Unit)) :=
 cond (decide (s6 < ((p0s).length : Int))) ((idx p0s s6).bind fun (x8 : UInt8) => (gd ((decide (((x8).toNat : Int) < (33 : Int))) == false) (idx p0s s6)).bind fun (x10 : UInt8) => (gd ((cond (decide (((x8).toNat : Int) < (33 : Int))) true (decide ((126 : Int) < ((x10).toNat : Int)))) == false) (idx p0s s6)).bind fun (x12 : UInt8) => (gd ((cond (cond (decide (((x8).toNat : Int) < (33 : Int))) true (decide ((126 : Int) < ((x10).toNat : Int)))) true (decide (((x12).toNat : Int) = (47 : Int)))) == false) (idx p0s s6)).bind fun (x14 : UInt8) => cond (cond (cond (cond (decide (((x8).toNat : Int) < (33 : Int))) true (decide ((126 : Int) < ((x10).toNat : Int)))) true (decide (((x12).toNat : Int) = (47 : Int)))) true (decide (((x14).toNat : Int) = (34 : Int)))) (some (Step.out (Fl.done false))) (some (Step.next (IntKind.wrap .i64 (s6 + (1 : Int)))))) (some (Step.out (Fl.go ())))
noncomputable def ref20xIdent (p0s : (List UInt8)) : Option Bool :=
 cond (cond (decide (((p0s).length : Int) < (1 : Int))) true (decide ((64 : Int) < ((p0s).length : Int)))) (some false) (((loopO (ref20xIdent_l1 p0s) ((0 : Int))) : Option (Fl Bool Unit)).bind fun (x3 : (Fl Bool Unit)) => Fl.next x3 (fun (j5 : Unit) => (some true)))
theorem w_ref20xIdent {p0s : (List UInt8)} {res : Bool} (h : ref20xIdent p0s = some res) : ACalls Try.prog 52 [.c (.str p0s)] [] (.c (.bool res)) [] := by
 unfold ref20xIdent at h
 refine acalls (fn := Try.f52) [0, 2, 3, 11, 15, 39] (by kernel_rfl) Try.func52 rfl (by kernel_rfl) (by kernel_rfl) <| w_sr <| sB rfl <| o_ek (fr' := [(0, aS)]) rfl rfl <| w_seqw <| w_sr <| mS rfl <| o_p rfl (p_lens ti9 rfl) <| o_p rfl (p_lss rfl rfl) <| mB rfl <| og rfl rfl rfl (fun hc => (p_move (v := aS) rfl)) ?_
 refine og rfl rfl rfl (fun hc => (p_lens ti9 (gx rfl hc))) <| og rfl rfl rfl (fun hc => (p_gtr (gx rfl hc) rfl)) <| o_p rfl (p_pickz rfl rfl rfl (fun e => keq e)) <| o_ek (fr' := [(0, aS), (11, aB)]) rfl rfl <| w_ch h rfl (fun hb1 h1 => ?_) (fun hb1 h1 => ?_)
 ·
  refine w_sr <| sB rfl <| o_ek (fr' := [(2, aB)]) rfl rfl <| w_ret <| e_seq_r ?_
  obtain rfl := sy h1
  exact e_ret (rs' := [.tmp 2]) rfl <| r_tmp (v := aB) rfl <| r_nil <| fin_gen [] rfl rfl rfl lr st_nil
 ·
  refine w_skip <| e_kw <| w_seqw <| w_sr <| sI rfl <| o_ek (fr' := [(0, aS), (3, aI)]) rfl rfl ?_
  obtain ⟨x3, hx3, h4⟩ := bind_s h1
  refine w_jtail cl_kw (fun j5 => x3 = Fl.go j5) (fun (j5 : Unit) => ([] : Fr)) (fun (j5 : Unit) => ([] : St)) ?_ ?_
  ·
   refine w_block <| w_loopo _ (fun (s6 : Int) => ([(0, .c (.str p0s)), (3, .c (.int .i64 s6))] : Fr)) (fun (s6 : Int) => ([] : St)) hx3 (w_weak [] 0 rfl rfl rfl rfl ⟨lr, lr, trivial⟩ st_nil) ?_
   intro s6 st6 hs6 ho6
   unfold ref20xIdent_l1 at hs6
   refine w_seqw <| w_sr <| mI rfl <| mS rfl <| o_p rfl (p_lens ti9 rfl) <| o_p rfl (p_lss rfl rfl) <| o_ek (fr' := [(0, aS), (3, aI), (15, aB)]) rfl rfl <| w_ch hs6 rfl (fun hb7 h7 => ?_) (fun hb7 h7 => ?_)
   ·
    refine w_skip <| e_kw <| w_seqw <| w_block <| w_sr <| mS rfl <| mI rfl ?_
    obtain ⟨x8, hx8, h9⟩ := bind_s h7
    refine o_p rfl (p_is ti9 rfl rfl hx8) <| o_p rfl (p_lss rfl rfl) <| mB rfl <| og rfl rfl rfl (fun hc => (p_move (v := aS) rfl)) <| og rfl rfl rfl (fun hc => (p_move (v := aI) rfl)) ?_
    obtain ⟨x10, hx10, h11⟩ := bind_s h9
    refine og rfl rfl rfl (fun hc => (p_is ti9 (gx rfl hc) (gx rfl hc) (gd_some hx10 hc))) <| og rfl rfl rfl (fun hc => (p_gtr (gx rfl hc) rfl)) <| o_p rfl (p_pickz rfl rfl rfl (fun e => keq e)) <| mB rfl <| og rfl rfl rfl (fun hc => (p_move (v := aS) rfl)) <| og rfl rfl rfl (fun hc => (p_move (v := aI) rfl)) ?_
    obtain ⟨x12, hx12, h13⟩ := bind_s h11
    refine og rfl rfl rfl (fun hc => (p_is ti9 (gx rfl hc) (gx rfl hc) (gd_some hx12 hc))) <| og rfl rfl rfl (fun hc => (p_eql (gx rfl hc) rfl)) <| o_p rfl (p_pickz rfl rfl rfl (fun e => keq e)) <| mB rfl <| og rfl rfl rfl (fun hc => (p_move (v := aS) rfl)) <| og rfl rfl rfl (fun hc => (p_move (v := aI) rfl)) ?_
    obtain ⟨x14, hx14, h15⟩ := bind_s h13
    refine og rfl rfl rfl (fun hc => (p_is ti9 (gx rfl hc) (gx rfl hc) (gd_some hx14 hc))) <| og rfl rfl rfl (fun hc => (p_eql (gx rfl hc) rfl)) <| o_p rfl (p_pickz rfl rfl rfl (fun e => keq e)) <| o_ek (fr' := [(0, aS), (3, aI), (39, aB)]) rfl rfl <| w_ch h15 rfl (fun hb16 h16 => ?_) (fun hb16 h16 => ?_)
    ·
     refine w_sr <| sB rfl <| o_ek (fr' := [(2, aB)]) rfl rfl <| w_ret <| e_blk_r <| e_seq_r <| e_seq_r <| e_blk_r <| e_seq_r <| e_seq_r ?_
     have h17 := un_out h16 ho6
     have h18 := un_done h17 h4
     obtain rfl := sy h18
     exact e_ret (rs' := [.tmp 2]) rfl <| r_tmp (v := aB) rfl <| r_nil <| fin_gen [] rfl rfl rfl lr st_nil
    ·
     exact w_skip <| e_blk_n <| e_kw <| w_region <| mI rfl <| o_p rfl (p_add rfl rfl) <| sI rfl <| o_end (fr' := [(0, aS), (3, aI), (39, aB)]) rfl <| e_l _ (sy h16) (w_weak [] 0 rfl rfl rfl rfl ⟨lr, lr, trivial⟩ st_nil)
   ·
    refine w_exit <| e_seq_x <| e_seq_x <| e_blk_h ?_
    have h20 := un_out h7 ho6
    exact e_j _ (sy h20) (w_weak [] 0 rfl rfl rfl rfl trivial st_nil)
  ·
   intro j5 hj21
   have h21 := un_go hj21 h4
   refine e_kw <| w_sr <| sB rfl <| o_ek (fr' := [(2, aB)]) rfl rfl <| w_ret ?_
   obtain rfl := sy h21
   exact e_ret (rs' := [.tmp 2]) rfl <| r_tmp (v := aB) rfl <| r_nil <| fin_gen [] rfl rfl rfl lr st_nil
noncomputable def ref20xInput_l1 (p0v : ApiValue) (s8 : Int) : Option (Step Int (Fl Bool Unit)) :=
 (idx p0v.Items (1 : Int)).bind fun (x9 : ApiValue) => cond (decide (s8 < ((x9.Items).length : Int))) ((idx p0v.Items (1 : Int)).bind fun (x12 : ApiValue) => (idx x12.Items s8).bind fun (x14 : ApiValue) => (gd ((cond (!decide (x14.Kind = (4 : Int))) true (!decide (((x14.Items).length : Int) = (2 : Int)))) == false) (idx x14.Items (0 : Int))).bind fun (x16 : ApiValue) => (gd ((cond (cond (!decide (x14.Kind = (4 : Int))) true (!decide (((x14.Items).length : Int) = (2 : Int)))) true (!decide (x16.Kind = (3 : Int)))) == false) (idx x14.Items (0 : Int))).bind fun (x18 : ApiValue) => (gd ((cond (cond (!decide (x14.Kind = (4 : Int))) true (!decide (((x14.Items).length : Int) = (2 : Int)))) true (!decide (x16.Kind = (3 : Int)))) == false) (ref06xRight x18.Text)).bind fun (x20 : Bool) => cond (cond (cond (cond (!decide (x14.Kind = (4 : Int))) true (!decide (((x14.Items).length : Int) = (2 : Int)))) true (!decide (x16.Kind = (3 : Int)))) true (!x20)) (some (Step.out (Fl.done false))) (some (Step.next (IntKind.wrap .i64 (s8 + (1 : Int)))))) (some (Step.out (Fl.go ())))
noncomputable def ref20xInput (p0v : ApiValue) : Option Bool :=
 (gd ((cond (!decide (p0v.Kind = (4 : Int))) true (!decide (((p0v.Items).length : Int) = (2 : Int)))) == false) (idx p0v.Items (1 : Int))).bind fun (x1 : ApiValue) => cond (cond (cond (!decide (p0v.Kind = (4 : Int))) true (!decide (((p0v.Items).length : Int) = (2 : Int)))) true (!decide (x1.Kind = (4 : Int)))) (some false) (((loopO (ref20xInput_l1 p0v) ((0 : Int))) : Option (Fl Bool Unit)).bind fun (x5 : (Fl Bool Unit)) => Fl.next x5 (fun (j7 : Unit) => (some true)))
theorem w_ref20xInput {p0v : ApiValue} {res : Bool} (h : ref20xInput p0v = some res) : ACalls Try.prog 53 [.agg (AV.cs (exApiValue p0v))] [] (.c (.bool res)) [] := by
 unfold ref20xInput at h
 refine acalls (fn := Try.f53) [0, 1, 2, 3, 4, 21, 29, 65] (by kernel_rfl) Try.func53 rfl (by kernel_rfl) (by kernel_rfl) <| w_sr <| o_box (v := .agg aIISLL) (n := 0) (cs := aIISLL) (σ' := [aIISLL]) rfl rfl rfl rfl rfl <| sB rfl <| o_ek (fr' := [(1, .box 0 0)]) rfl rfl <| w_seqw <| w_sr <| o_p rfl (p_fa tf25x0 rfl) <| o_p rfl (p_load (v := aI) tv3 rfl rfl rfl) <| o_p rfl (p_neq rfl rfl) <| mB rfl ?_
 refine og rfl rfl rfl (fun hc => (p_fa tf25x3 rfl)) <| og rfl rfl rfl (fun hc => (p_load (v := aL) tv22 (gx rfl hc) rfl rfl)) <| og rfl rfl rfl (fun hc => (p_len ti22 (isl_c (gx rfl hc)))) <| og rfl rfl rfl (fun hc => (p_neq (gx rfl hc) rfl)) <| o_p rfl (p_pickz rfl rfl rfl (fun e => keq e)) <| mB rfl <| og rfl rfl rfl (fun hc => (p_fa tf25x3 rfl)) <| og rfl rfl rfl (fun hc => (p_load (v := aL) tv22 (gx rfl hc) rfl rfl)) ?_
 obtain ⟨x1, hx1, h2⟩ := bind_s h
 refine og rfl rfl rfl (fun hc => (p_ia (cs := [.int _ _, .int _ _, .str _, PV.ls _ _ _, PV.ls _ _ _]) ts22 (isl_c (gx rfl hc)) rfl (gd_some hx1 hc) (rowApiValue_eq _))) <| og rfl rfl rfl (fun hc => (p_fae tf25x0 (gx rfl hc))) <| og rfl rfl rfl (fun hc => (p_loade (p := .int _ _) tv3 (gx rfl hc) rfl)) <| og rfl rfl rfl (fun hc => (p_neq (gx rfl hc) rfl)) <| o_p rfl (p_pickz rfl rfl rfl (fun e => keq e)) <| o_ek (fr' := [(1, .box 0 0), (21, aB)]) rfl rfl <| w_ch h2 rfl (fun hb3 h3 => ?_) (fun hb3 h3 => ?_)
 ·
  refine w_sr <| sB rfl <| o_ek (fr' := [(2, aB)]) rfl rfl <| w_ret <| e_seq_r ?_
  obtain rfl := sy h3
  exact e_ret (rs' := [.tmp 2]) rfl <| r_tmp (v := aB) rfl <| r_nil <| fin_gen [] rfl rfl rfl lr st_nil
 ·
  refine w_skip <| e_kw <| w_seqw <| w_sr <| sI rfl <| o_ek (fr' := [(1, .box 0 0), (3, aI)]) rfl rfl ?_
  obtain ⟨x5, hx5, h6⟩ := bind_s h3
  refine w_jtail cl_kw (fun j7 => x5 = Fl.go j7) (fun (j7 : Unit) => ([] : Fr)) (fun (j7 : Unit) => ([[.c (.int .i64 p0v.Kind), .c (.int .i64 p0v.Int), .c (.str p0v.Text), .c (PV.ls 5 rowApiValue p0v.Items), .c (PV.ls 1 rowS p0v.Keys)]] : St)) ?_ ?_
  ·
   refine w_block <| w_loopo _ (fun (s8 : Int) => ([(1, .box 0 0), (3, .c (.int .i64 s8))] : Fr)) (fun (s8 : Int) => ([[.c (.int .i64 p0v.Kind), .c (.int .i64 p0v.Int), .c (.str p0v.Text), .c (PV.ls 5 rowApiValue p0v.Items), .c (PV.ls 1 rowS p0v.Keys)]] : St)) hx5 (w_weak [] 1 rfl rfl rfl rfl ⟨lr, lr, trivial⟩ (st_r rfl st_nil)) ?_
   intro s8 st8 hs8 ho8
   unfold ref20xInput_l1 at hs8
   refine w_seqw <| w_sr <| mI rfl <| o_p rfl (p_fa tf25x3 rfl) <| o_p rfl (p_load (v := aL) tv22 rfl rfl rfl) ?_
   obtain ⟨x9, hx9, h10⟩ := bind_s hs8
   refine o_p rfl (p_ia (cs := [.int _ _, .int _ _, .str _, PV.ls _ _ _, PV.ls _ _ _]) ts22 (isl_c rfl) rfl hx9 (rowApiValue_eq _)) <| o_p rfl (p_fae tf25x3 rfl) <| o_p rfl (p_loade (p := PV.ls _ _ _) tv22 rfl rfl) <| o_p rfl (p_len ti22 (isl_c rfl)) <| o_p rfl (p_lss rfl rfl) <| o_ek (fr' := [(1, .box 0 0), (3, aI), (29, aB)]) rfl rfl <| w_ch h10 rfl (fun hb11 h11 => ?_) (fun hb11 h11 => ?_)
   ·
    refine w_skip <| e_kw <| w_seqw <| w_block <| w_sr <| o_p rfl (p_fa tf25x3 rfl) <| o_p rfl (p_load (v := aL) tv22 rfl rfl rfl) ?_
    obtain ⟨x12, hx12, h13⟩ := bind_s h11
    refine o_p rfl (p_ia (cs := [.int _ _, .int _ _, .str _, PV.ls _ _ _, PV.ls _ _ _]) ts22 (isl_c rfl) rfl hx12 (rowApiValue_eq _)) <| o_p rfl (p_fae tf25x3 rfl) <| o_p rfl (p_loade (p := PV.ls _ _ _) tv22 rfl rfl) <| mI rfl ?_
    obtain ⟨x14, hx14, h15⟩ := bind_s h13
    refine o_p rfl (p_ia (cs := [.int _ _, .int _ _, .str _, PV.ls _ _ _, PV.ls _ _ _]) ts22 (isl_c rfl) rfl hx14 (rowApiValue_eq _)) <| o_p rfl (p_loades (us := [.int _ _, .int _ _, .str _, PV.ls _ _ _, PV.ls _ _ _]) tv25 rfl rfl rfl) <| o_alloc (n := 1) (cs := [aI, aI, aS, .nil, .nil]) (σ' := [aIISLL, [aI, aI, aS, .nil, .nil]]) tz25 rfl rfl rfl <| o_store (v := .agg aIISLL) (us := aIISLL) (cs := [aI, aI, aS, .nil, .nil]) (σ' := [aIISLL, aIISLL]) rfl tv25 rfl rfl rfl rfl rfl rfl rfl rfl <| o_ek (fr' := [(1, .box 0 0), (3, aI), (4, .box 1 0)]) rfl rfl <| w_sr <| o_p rfl (p_fa tf25x0 rfl) <| o_p rfl (p_load (v := aI) tv3 rfl rfl rfl) <| o_p rfl (p_neq rfl rfl) <| mB rfl <| og rfl rfl rfl (fun hc => (p_fa tf25x3 rfl)) <| og rfl rfl rfl (fun hc => (p_load (v := aL) tv22 (gx rfl hc) rfl rfl)) ?_
    refine og rfl rfl rfl (fun hc => (p_len ti22 (isl_c (gx rfl hc)))) <| og rfl rfl rfl (fun hc => (p_neq (gx rfl hc) rfl)) <| o_p rfl (p_pickz rfl rfl rfl (fun e => keq e)) <| mB rfl <| og rfl rfl rfl (fun hc => (p_fa tf25x3 rfl)) <| og rfl rfl rfl (fun hc => (p_load (v := aL) tv22 (gx rfl hc) rfl rfl)) ?_
    obtain ⟨x16, hx16, h17⟩ := bind_s h15
    refine og rfl rfl rfl (fun hc => (p_ia (cs := [.int _ _, .int _ _, .str _, PV.ls _ _ _, PV.ls _ _ _]) ts22 (isl_c (gx rfl hc)) rfl (gd_some hx16 hc) (rowApiValue_eq _))) <| og rfl rfl rfl (fun hc => (p_fae tf25x0 (gx rfl hc))) <| og rfl rfl rfl (fun hc => (p_loade (p := .int _ _) tv3 (gx rfl hc) rfl)) <| og rfl rfl rfl (fun hc => (p_neq (gx rfl hc) rfl)) <| o_p rfl (p_pickz rfl rfl rfl (fun e => keq e)) <| mB rfl <| og rfl rfl rfl (fun hc => (p_fa tf25x3 rfl)) <| og rfl rfl rfl (fun hc => (p_load (v := aL) tv22 (gx rfl hc) rfl rfl)) ?_
    obtain ⟨x18, hx18, h19⟩ := bind_s h17
    refine og rfl rfl rfl (fun hc => (p_ia (cs := [.int _ _, .int _ _, .str _, PV.ls _ _ _, PV.ls _ _ _]) ts22 (isl_c (gx rfl hc)) rfl (gd_some hx18 hc) (rowApiValue_eq _))) <| og rfl rfl rfl (fun hc => (p_fae tf25x2 (gx rfl hc))) <| og rfl rfl rfl (fun hc => (p_loade (p := .str _) tv9 (gx rfl hc) rfl)) ?_
    obtain ⟨x20, hx20, h21⟩ := bind_s h19
    refine o_g rfl rfl (fun hc => ov_call (v := aB) rfl (w_ref06xRight (gd_some hx20 hc)) ⟨(le_gv (gx rfl hc) lr), trivial⟩ (ok_eq (by repeat (first | exact ok_nil | refine ok_cons rfl ?_ | refine ok_cons (dgv rfl) ?_))) rfl rfl) ?_
    refine og rfl rfl rfl (fun hc => (p_not (gx rfl hc))) <| o_p rfl (p_pickz rfl rfl rfl (fun e => keq e)) <| o_ek (fr' := [(1, .box 0 0), (3, aI), (65, aB)]) rfl rfl <| w_ch h21 rfl (fun hb22 h22 => ?_) (fun hb22 h22 => ?_)
    ·
     refine w_sr <| sB rfl <| o_ek (fr' := [(2, aB)]) rfl rfl <| w_ret <| e_blk_r <| e_seq_r <| e_seq_r <| e_blk_r <| e_seq_r <| e_seq_r ?_
     have h23 := un_out h22 ho8
     have h24 := un_done h23 h6
     obtain rfl := sy h24
     exact e_ret (rs' := [.tmp 2]) rfl <| r_tmp (v := aB) rfl <| r_nil <| fin_gen [] rfl rfl rfl lr st_nil
    ·
     exact w_skip <| e_blk_n <| e_kw <| w_region <| mI rfl <| o_p rfl (p_add rfl rfl) <| sI rfl <| o_end (fr' := [(1, .box 0 0), (3, aI), (65, aB)]) rfl <| e_l _ (sy h22) (w_weak [] 1 rfl rfl rfl rfl ⟨lr, lr, trivial⟩ (st_r rfl st_nil))
   ·
    refine w_exit <| e_seq_x <| e_seq_x <| e_blk_h ?_
    have h26 := un_out h11 ho8
    exact e_j _ (sy h26) (w_weak [] 1 rfl rfl rfl rfl trivial (st_r rfl st_nil))
  ·
   intro j7 hj27
   have h27 := un_go hj27 h6
   refine e_kw <| w_sr <| sB rfl <| o_ek (fr' := [(2, aB)]) rfl rfl <| w_ret ?_
   obtain rfl := sy h27
   exact e_ret (rs' := [.tmp 2]) rfl <| r_tmp (v := aB) rfl <| r_nil <| fin_gen [] rfl rfl rfl lr st_nil
noncomputable def ref20xRight (p0C : ApiCommand) : Option Bool :=
 (ref20xin p0C.Kind (1 : Int) (14 : Int)).bind fun (x1 : Bool) => (gd ((!x1) == false) (ref20xbare p0C)).bind fun (x3 : ApiCommand) => (gd ((!x1) == false) (ref20xSame x3 (ApiCommand.mk p0C.Kind (0 : Int) ([] : List UInt8) ([] : List UInt8) (0 : Int) (ApiValue.mk (0 : Int) (0 : Int) ([] : List UInt8) ([] : (List ApiValue)) ([] : (List (List UInt8)))) (ApiPolicy.mk ([] : List UInt8) (0 : Int) (0 : Int) (0 : Int) (0 : Int) (0 : Int) (0 : Int) (0 : Int) (0 : Int) ([] : (List (List UInt8))))))).bind fun (x5 : Bool) => (gd ((cond (!x1) true (!x5)) == false) (ref02xRight p0C.Data)).bind fun (x7 : Bool) => cond (cond (cond (!x1) true (!x5)) true (!x7)) (some false) ((ref20xin p0C.Seq (1 : Int) (2000 : Int)).bind fun (x11 : Bool) => (ref06xRight p0C.Name).bind fun (x13 : Bool) => (ref20xIdent p0C.Key).bind fun (x15 : Bool) => cond (decide (p0C.Kind = (1 : Int))) ((gd ((cond x11 x13 false) == true) (ref20xRightPolicy p0C.Opts)).bind fun (x18 : Bool) => some (cond (cond x11 x13 false) x18 false)) (((cond (decide (p0C.Kind = (2 : Int))) (some (decide (p0C.Kind = (2 : Int)))) (some (decide (p0C.Kind = (4 : Int))))) : Option Bool).bind fun (x21 : Bool) => (cond x21 (some x11) (cond (decide (p0C.Kind = (3 : Int))) ((gd (x11 == true) (ref20xin p0C.N (1 : Int) (1099511627776 : Int))).bind fun (x29 : Bool) => some (cond x11 x29 false)) (cond (decide (p0C.Kind = (5 : Int))) ((gd ((cond (cond x11 x13 false) x15 false) == true) (ref20xin p0C.N (0 : Int) (2 : Int))).bind fun (x33 : Bool) => some (cond (cond (cond x11 x13 false) x15 false) x33 false)) (cond (decide (p0C.Kind = (6 : Int))) (some (cond (cond x11 x13 false) x15 false)) (cond (decide (p0C.Kind = (7 : Int))) ((gd ((x13 == true) && ((decide (p0C.N = (-1 : Int))) == false)) (ref20xin p0C.N (0 : Int) (2147483647 : Int))).bind fun (x39 : Bool) => some (cond x13 (cond (decide (p0C.N = (-1 : Int))) true (cond x39 (decide (p0C.Data.Kind = (0 : Int))) false)) false)) (cond (decide (p0C.Kind = (8 : Int))) (some (cond x15 x13 false)) (cond (decide (p0C.Kind = (9 : Int))) ((gd (x15 == true) (ref20xin p0C.N (0 : Int) (1 : Int))).bind fun (x45 : Bool) => some (cond x15 x45 false)) (cond (decide (p0C.Kind = (10 : Int))) (some (decide (p0C.Data.Kind = (5 : Int)))) (cond (decide (p0C.Kind = (12 : Int))) (some (decide (((p0C.Name).length : Int) ≤ (4096 : Int)))) (cond (decide (p0C.Kind = (14 : Int))) ((ref20xInput p0C.Data).bind fun (x53 : Bool) => some x53) (some true)))))))))))))
theorem w_ref20xRight {p0C : ApiCommand} {res : Bool} (h : ref20xRight p0C = some res) : ACalls Try.prog 13 [.agg (AV.cs (rowApiCommand p0C))] [] (.c (.bool res)) [] := by
 unfold ref20xRight at h
 refine acalls (fn := Try.f13) [0, 1, 2, 3, 4, 5, 24, 35, 36, 47, 51, 59, 73, 82, 101, 107, 115, 121, 127] (by kernel_rfl) Try.func13 rfl (by kernel_rfl) (by kernel_rfl) <| w_sr <| o_box (v := .agg aIISSIIISLLSIIIIIIIIL) (n := 0) (cs := aIISSIIISLLSIIIIIIIIL) (σ' := [aIISSIIISLLSIIIIIIIIL]) rfl rfl rfl rfl rfl <| sB rfl <| o_ek (fr' := [(1, .box 0 0)]) rfl rfl <| w_seqw <| w_seqw <| w_planT [.q 0, .q 1, .q 2, .q 3, .q 4, .q 5, .q 6, .q 7, .q 8, .q 9, .q 10, .q 11, .q 12, .q 13, .q 14, .q 15, .q 16, .q 17, .q 18] [(some 6, [1]), (some 7, [6]), (some 8, [7]), (some 9, [8]), (some 10, [9]), (some 11, [1, 10]), (some 12, [11, 10]), (some 13, [1, 10]), (some 14, [13, 10]), (some 15, [14, 10]), (some 16, [12, 15, 10]), (some 17, [16, 10]), (some 18, [10, 17]), (some 19, [18]), (some 20, [1, 19]), (some 21, [20, 19]), (some 22, [21, 19]), (some 23, [22, 19]), (some 24, [19, 23])] [0, 1, 3, 7, 15, 31, 63, 31, 159, 415, 1023, 2047, 4095, 8191, 16383, 32767, 65535, 131071, 262143] (by kernel_rfl) <| dq rfl rfl (p_fa tf29x0 rfl) <| dq rfl rfl (p_load (v := aI) tv3 rfl rfl rfl) ?_
 obtain ⟨x1, hx1, h2⟩ := bind_s h
 refine d_q rfl (qv_call (v := aB) rfl (w_ref20xin hx1) ⟨lr, lr, lr, trivial⟩ rfl) <| dq rfl rfl (p_not rfl) <| dq rfl rfl (p_move (v := aB) rfl) <| d_g rfl rfl rfl (fun hc => qv_p rfl (p_loads (us := aIISSIIISLLSIIIIIIIIL) tv29 rfl rfl rfl rfl)) ?_
 obtain ⟨x3, hx3, h4⟩ := bind_s h2
 refine d_g rfl rfl rfl (fun hc => qv_call (v := .agg aIISSIIISLLSIIIIIIIIL) rfl (w_ref20xbare (gd_some hx3 hc)) ⟨(le_gv (gx rfl hc) (le_aggc rfl ⟨rfl, rfl, rfl, rfl, rfl, rfl, rfl, rfl, rfl, rfl, rfl, rfl, rfl, rfl, rfl, rfl, rfl, rfl, rfl, rfl, trivial⟩)), trivial⟩ rfl) <| d_g rfl rfl rfl (fun hc => qv_p rfl (p_fa tf29x0 rfl)) <| d_g rfl rfl rfl (fun hc => qv_p rfl (p_load (v := aI) tv3 (gx rfl hc) rfl rfl)) <| d_g rfl rfl rfl (fun hc => qv_p rfl (p_buildc (c0 := [aI, aI, aS, aS, aI, aI, aI, aS, .nil, .nil, aS, aI, aI, aI, aI, aI, aI, aI, aI, .nil]) (cs := [aI, aI, aS, aS, aI, aI, aI, aS, .nil, .nil, aS, aI, aI, aI, aI, aI, aI, aI, aI, .nil]) tb29 rfl (fill_cons (v := aI) (us := [_]) (cs' := u20) rfl (gx rfl hc) rfl rfl rfl rfl fill_nil))) ?_
 obtain ⟨x5, hx5, h6⟩ := bind_s h4
 refine d_g rfl rfl rfl (fun hc => qv_call (v := aB) rfl (w_ref20xSame (gd_some hx5 hc)) ⟨(le_gv (gx rfl hc) (le_aggc rfl ⟨rfl, rfl, rfl, rfl, rfl, rfl, rfl, rfl, rfl, rfl, rfl, rfl, rfl, rfl, rfl, rfl, rfl, rfl, rfl, rfl, trivial⟩)), (le_gv (gx rfl hc) (le_aggc rfl ⟨rfl, rfl, rfl, rfl, rfl, rfl, rfl, rfl, ⟨_, rfl⟩, ⟨_, rfl⟩, rfl, rfl, rfl, rfl, rfl, rfl, rfl, rfl, rfl, ⟨_, rfl⟩, trivial⟩)), trivial⟩ rfl) <| d_g rfl rfl rfl (fun hc => qv_p rfl (p_not (gx rfl hc))) <| dq rfl rfl (p_pickz rfl rfl rfl (fun e => keq e)) <| dq rfl rfl (p_move (v := aB) rfl) <| d_g rfl rfl rfl (fun hc => qv_p rfl (p_fa tf29x5 rfl)) <| d_g rfl rfl rfl (fun hc => qv_p rfl (p_loads (us := aIISLL) tv25 (gx rfl hc) rfl rfl rfl)) ?_
 obtain ⟨x7, hx7, h8⟩ := bind_s h6
 refine d_g rfl rfl rfl (fun hc => qv_call (v := aB) rfl (w_ref02xRight (gd_some hx7 hc)) ⟨(le_gv (gx rfl hc) (le_aggc rfl ⟨rfl, rfl, rfl, rfl, rfl, trivial⟩)), trivial⟩ rfl) <| d_g rfl rfl rfl (fun hc => qv_p rfl (p_not (gx rfl hc))) <| dq rfl rfl (p_pickz rfl rfl rfl (fun e => keq e)) <| d_ek (fr' := [(1, .box 0 0), (24, aB)]) rfl rfl <| w_ch h8 rfl (fun hb9 h9 => ?_) (fun hb9 h9 => ?_)
 ·
  refine w_sr <| sB rfl <| o_ek (fr' := [(2, aB)]) rfl rfl <| w_ret <| e_seq_r ?_
  obtain rfl := sy h9
  exact e_ret (rs' := [.tmp 2]) rfl <| r_tmp (v := aB) rfl <| r_nil <| fin_gen [] rfl rfl rfl lr st_nil
 ·
  refine w_skip <| e_kw <| w_sr <| o_p rfl (p_fa tf29x1 rfl) <| o_p rfl (p_load (v := aI) tv3 rfl rfl rfl) ?_
  obtain ⟨x11, hx11, h12⟩ := bind_s h9
  refine o_v (ov_call (v := aB) rfl (w_ref20xin hx11) ⟨lr, lr, lr, trivial⟩ rfl rfl rfl) <| sB rfl <| o_ek (fr' := [(1, .box 0 0), (3, aB)]) rfl rfl <| w_sr <| o_p rfl (p_fa tf29x2 rfl) <| o_p rfl (p_load (v := aS) tv9 rfl rfl rfl) ?_
  obtain ⟨x13, hx13, h14⟩ := bind_s h12
  refine o_v (ov_call (v := aB) rfl (w_ref06xRight hx13) ⟨lr, trivial⟩ rfl rfl rfl) <| sB rfl <| o_ek (fr' := [(1, .box 0 0), (3, aB), (4, aB)]) rfl rfl <| w_sr <| o_p rfl (p_fa tf29x3 rfl) <| o_p rfl (p_load (v := aS) tv9 rfl rfl rfl) ?_
  obtain ⟨x15, hx15, h16⟩ := bind_s h14
  refine o_v (ov_call (v := aB) rfl (w_ref20xIdent hx15) ⟨lr, trivial⟩ rfl rfl rfl) <| sB rfl <| o_ek (fr' := [(1, .box 0 0), (3, aB), (4, aB), (5, aB)]) rfl rfl <| w_seqw <| w_sr <| o_p rfl (p_fa tf29x0 rfl) <| o_p rfl (p_load (v := aI) tv3 rfl rfl rfl) <| o_ek (fr' := [(1, .box 0 0), (3, aB), (4, aB), (5, aB), (35, aI)]) rfl rfl <| w_block <| w_sr <| o_p rfl (p_eql rfl rfl) ?_
  refine sB rfl <| o_ek (fr' := [(1, .box 0 0), (3, aB), (4, aB), (5, aB), (35, aI), (36, aB)]) rfl rfl <| w_ch h16 rfl (fun hb17 h17 => ?_) (fun hb17 h17 => ?_)
  ·
   refine w_sr <| mB rfl <| mB rfl <| og rfl rfl rfl (fun hc => (p_move (v := aB) rfl)) <| o_p rfl (p_picky rfl rfl rfl (fun e => keq e)) <| mB rfl <| og rfl rfl rfl (fun hc => (p_fa tf29x6 rfl)) <| og rfl rfl rfl (fun hc => (p_loads (us := aSIIIIIIIIL) tv27 (gx rfl hc) rfl rfl rfl)) ?_
   obtain ⟨x18, hx18, h19⟩ := bind_s h17
   refine o_g rfl rfl (fun hc => ov_call (v := aB) rfl (w_ref20xRightPolicy (gd_some hx18 hc)) ⟨(le_gv (gx rfl hc) (le_aggc rfl ⟨rfl, rfl, rfl, rfl, rfl, rfl, rfl, rfl, rfl, rfl, trivial⟩)), trivial⟩ (ok_eq (by repeat (first | exact ok_nil | refine ok_cons rfl ?_ | refine ok_cons (dgv rfl) ?_))) rfl rfl) ?_
   refine o_p rfl (p_picky rfl rfl rfl (fun e => keq e)) <| sB rfl <| o_ek (fr' := [(2, aB)]) rfl rfl <| w_ret <| e_blk_r <| e_seq_r ?_
   obtain rfl := sy h19
   exact e_ret (rs' := [.tmp 2]) rfl <| r_tmp (v := aB) rfl <| r_nil <| fin_gen [] rfl rfl rfl lr st_nil
  ·
   obtain ⟨x21, hx21, h22⟩ := bind_s h17
   refine w_join (fun j23 => x21 = j23) (fun (j23 : Bool) => ([(1, .box 0 0), (3, .c (.bool x11)), (4, .c (.bool x13)), (5, .c (.bool x15)), (35, .c (.int .i64 p0C.Kind)), (47, .c (.bool j23))] : Fr)) (fun (j23 : Bool) => ([[.c (.int .i64 p0C.Kind), .c (.int .i64 p0C.Seq), .c (.str p0C.Name), .c (.str p0C.Key), .c (.int .i64 p0C.N), .c (.int .i64 p0C.Data.Kind), .c (.int .i64 p0C.Data.Int), .c (.str p0C.Data.Text), .c (PV.ls 5 rowApiValue p0C.Data.Items), .c (PV.ls 1 rowS p0C.Data.Keys), .c (.str p0C.Opts.Queue), .c (.int .i64 p0C.Opts.ToStart), .c (.int .i64 p0C.Opts.ToClose), .c (.int .i64 p0C.Opts.Total), .c (.int .i64 p0C.Opts.Beat), .c (.int .i64 p0C.Opts.First), .c (.int .i64 p0C.Opts.Coef), .c (.int .i64 p0C.Opts.Most), .c (.int .i64 p0C.Opts.Attempts), .c (PV.ls 1 rowS p0C.Opts.Fatal)]] : St)) ?_ ?_
   ·
    refine w_sr <| o_p rfl (p_eql rfl rfl) <| sB rfl <| o_ek (fr' := [(1, .box 0 0), (3, aB), (4, aB), (5, aB), (35, aI), (47, aB)]) rfl rfl <| w_ch hx21 rfl (fun hb24 h24 => ?_) (fun hb24 h24 => ?_)
    ·
     exact w_skip <| e_j _ (sy h24) (w_weak [] 1 rfl rfl rfl rfl ⟨lr, lr, lr, lr, lr, lr, trivial⟩ (st_r rfl st_nil))
    ·
     exact w_region <| o_p rfl (p_eql rfl rfl) <| sB rfl <| o_end (fr' := [(1, .box 0 0), (3, aB), (4, aB), (5, aB), (35, aI), (47, aB)]) rfl <| e_j _ (sy h24) (w_weak [] 1 rfl rfl rfl rfl ⟨lr, lr, lr, lr, lr, lr, trivial⟩ (st_r rfl st_nil))
   ·
    intro j23 hj25
    subst hj25
    refine w_ch h22 rfl (fun hb26 h26 => ?_) (fun hb26 h26 => ?_)
    ·
     refine w_sr <| mB rfl <| sB rfl <| o_ek (fr' := [(2, aB)]) rfl rfl <| w_ret <| e_blk_r <| e_seq_r ?_
     obtain rfl := sy h26
     exact e_ret (rs' := [.tmp 2]) rfl <| r_tmp (v := aB) rfl <| r_nil <| fin_gen [] rfl rfl rfl lr st_nil
    ·
     refine w_sr <| o_p rfl (p_eql rfl rfl) <| sB rfl <| o_ek (fr' := [(1, .box 0 0), (3, aB), (4, aB), (5, aB), (35, aI), (51, aB)]) rfl rfl <| w_ch h26 rfl (fun hb28 h28 => ?_) (fun hb28 h28 => ?_)
     ·
      refine w_sr <| mB rfl <| mB rfl <| og rfl rfl rfl (fun hc => (p_fa tf29x4 rfl)) <| og rfl rfl rfl (fun hc => (p_load (v := aI) tv3 (gx rfl hc) rfl rfl)) ?_
      obtain ⟨x29, hx29, h30⟩ := bind_s h28
      refine o_g rfl rfl (fun hc => ov_call (v := aB) rfl (w_ref20xin (gd_some hx29 hc)) ⟨(le_gv (gx rfl hc) lr), lr, lr, trivial⟩ (ok_eq (by repeat (first | exact ok_nil | refine ok_cons rfl ?_ | refine ok_cons (dgv rfl) ?_))) rfl rfl) ?_
      refine o_p rfl (p_picky rfl rfl rfl (fun e => keq e)) <| sB rfl <| o_ek (fr' := [(2, aB)]) rfl rfl <| w_ret <| e_blk_r <| e_seq_r ?_
      obtain rfl := sy h30
      exact e_ret (rs' := [.tmp 2]) rfl <| r_tmp (v := aB) rfl <| r_nil <| fin_gen [] rfl rfl rfl lr st_nil
     ·
      refine w_sr <| o_p rfl (p_eql rfl rfl) <| sB rfl <| o_ek (fr' := [(1, .box 0 0), (3, aB), (4, aB), (5, aB), (35, aI), (59, aB)]) rfl rfl <| w_ch h28 rfl (fun hb32 h32 => ?_) (fun hb32 h32 => ?_)
      ·
       refine w_sr <| mB rfl <| mB rfl <| og rfl rfl rfl (fun hc => (p_move (v := aB) rfl)) <| o_p rfl (p_picky rfl rfl rfl (fun e => keq e)) <| mB rfl <| og rfl rfl rfl (fun hc => (p_move (v := aB) rfl)) <| o_p rfl (p_picky rfl rfl rfl (fun e => keq e)) <| mB rfl <| og rfl rfl rfl (fun hc => (p_fa tf29x4 rfl)) <| og rfl rfl rfl (fun hc => (p_load (v := aI) tv3 (gx rfl hc) rfl rfl)) ?_
       obtain ⟨x33, hx33, h34⟩ := bind_s h32
       refine o_g rfl rfl (fun hc => ov_call (v := aB) rfl (w_ref20xin (gd_some hx33 hc)) ⟨(le_gv (gx rfl hc) lr), lr, lr, trivial⟩ (ok_eq (by repeat (first | exact ok_nil | refine ok_cons rfl ?_ | refine ok_cons (dgv rfl) ?_))) rfl rfl) ?_
       refine o_p rfl (p_picky rfl rfl rfl (fun e => keq e)) <| sB rfl <| o_ek (fr' := [(2, aB)]) rfl rfl <| w_ret <| e_blk_r <| e_seq_r ?_
       obtain rfl := sy h34
       exact e_ret (rs' := [.tmp 2]) rfl <| r_tmp (v := aB) rfl <| r_nil <| fin_gen [] rfl rfl rfl lr st_nil
      ·
       refine w_sr <| o_p rfl (p_eql rfl rfl) <| sB rfl <| o_ek (fr' := [(1, .box 0 0), (3, aB), (4, aB), (5, aB), (35, aI), (73, aB)]) rfl rfl <| w_ch h32 rfl (fun hb36 h36 => ?_) (fun hb36 h36 => ?_)
       ·
        refine w_sr <| mB rfl <| mB rfl <| og rfl rfl rfl (fun hc => (p_move (v := aB) rfl)) <| o_p rfl (p_picky rfl rfl rfl (fun e => keq e)) <| mB rfl <| og rfl rfl rfl (fun hc => (p_move (v := aB) rfl)) <| o_p rfl (p_picky rfl rfl rfl (fun e => keq e)) <| sB rfl <| o_ek (fr' := [(2, aB)]) rfl rfl <| w_ret <| e_blk_r ?_
        refine e_seq_r ?_
        obtain rfl := sy h36
        exact e_ret (rs' := [.tmp 2]) rfl <| r_tmp (v := aB) rfl <| r_nil <| fin_gen [] rfl rfl rfl lr st_nil
       ·
        refine w_sr <| o_p rfl (p_eql rfl rfl) <| sB rfl <| o_ek (fr' := [(1, .box 0 0), (4, aB), (5, aB), (35, aI), (82, aB)]) rfl rfl <| w_ch h36 rfl (fun hb38 h38 => ?_) (fun hb38 h38 => ?_)
        ·
         refine w_sr <| mB rfl <| mB rfl <| og rfl rfl rfl (fun hc => (p_fa tf29x4 rfl)) <| og rfl rfl rfl (fun hc => (p_load (v := aI) tv3 (gx rfl hc) rfl rfl)) <| og rfl rfl rfl (fun hc => (p_eql (gx rfl hc) rfl)) <| og rfl rfl rfl (fun hc => (p_move (v := aB) (gx rfl hc))) <| o_gg rfl rfl (fun hc => ov_p rfl (p_fa tf29x4 rfl)) <| o_gg rfl rfl (fun hc => ov_p rfl (p_load (v := aI) tv3 (gx rfl hc) rfl rfl)) ?_
         obtain ⟨x39, hx39, h40⟩ := bind_s h38
         refine o_gg rfl rfl (fun hc => ov_call (v := aB) rfl (w_ref20xin (gd_some hx39 hc)) ⟨(le_gv (gx rfl hc) lr), lr, lr, trivial⟩ (ok_eq (by repeat (first | exact ok_nil | refine ok_cons rfl ?_ | refine ok_cons (dgv rfl) ?_))) rfl rfl) ?_
         refine o_gg rfl rfl (fun hc => ov_p rfl (p_move (v := aB) (gx rfl hc))) <| o_gg rfl rfl (fun hc => ov_p rfl (p_fa tf29x5 rfl)) <| o_gg rfl rfl (fun hc => ov_p rfl (p_fa tf25x0 (gx rfl hc))) <| o_gg rfl rfl (fun hc => ov_p rfl (p_load (v := aI) tv3 (gx rfl hc) rfl rfl)) <| o_gg rfl rfl (fun hc => ov_p rfl (p_eql (gx rfl hc) rfl)) <| o_gg rfl rfl (fun hc => ov_p rfl (p_picky (gx rfl hc) rfl rfl (fun e => band hc (keq e)))) <| og rfl rfl rfl (fun hc => (p_pickz (gx rfl hc) rfl rfl (fun e => band hc (keq e)))) <| o_p rfl (p_picky rfl rfl rfl (fun e => keq e)) <| sB rfl <| o_ek (fr' := [(2, aB)]) rfl rfl <| w_ret <| e_blk_r <| e_seq_r ?_
         obtain rfl := sy h40
         exact e_ret (rs' := [.tmp 2]) rfl <| r_tmp (v := aB) rfl <| r_nil <| fin_gen [] rfl rfl rfl lr st_nil
        ·
         refine w_sr <| o_p rfl (p_eql rfl rfl) <| sB rfl <| o_ek (fr' := [(1, .box 0 0), (4, aB), (5, aB), (35, aI), (101, aB)]) rfl rfl <| w_ch h38 rfl (fun hb42 h42 => ?_) (fun hb42 h42 => ?_)
         ·
          refine w_sr <| mB rfl <| mB rfl <| og rfl rfl rfl (fun hc => (p_move (v := aB) rfl)) <| o_p rfl (p_picky rfl rfl rfl (fun e => keq e)) <| sB rfl <| o_ek (fr' := [(2, aB)]) rfl rfl <| w_ret <| e_blk_r <| e_seq_r ?_
          obtain rfl := sy h42
          exact e_ret (rs' := [.tmp 2]) rfl <| r_tmp (v := aB) rfl <| r_nil <| fin_gen [] rfl rfl rfl lr st_nil
         ·
          refine w_sr <| o_p rfl (p_eql rfl rfl) <| sB rfl <| o_ek (fr' := [(1, .box 0 0), (5, aB), (35, aI), (107, aB)]) rfl rfl <| w_ch h42 rfl (fun hb44 h44 => ?_) (fun hb44 h44 => ?_)
          ·
           refine w_sr <| mB rfl <| mB rfl <| og rfl rfl rfl (fun hc => (p_fa tf29x4 rfl)) <| og rfl rfl rfl (fun hc => (p_load (v := aI) tv3 (gx rfl hc) rfl rfl)) ?_
           obtain ⟨x45, hx45, h46⟩ := bind_s h44
           refine o_g rfl rfl (fun hc => ov_call (v := aB) rfl (w_ref20xin (gd_some hx45 hc)) ⟨(le_gv (gx rfl hc) lr), lr, lr, trivial⟩ (ok_eq (by repeat (first | exact ok_nil | refine ok_cons rfl ?_ | refine ok_cons (dgv rfl) ?_))) rfl rfl) ?_
           refine o_p rfl (p_picky rfl rfl rfl (fun e => keq e)) <| sB rfl <| o_ek (fr' := [(2, aB)]) rfl rfl <| w_ret <| e_blk_r <| e_seq_r ?_
           obtain rfl := sy h46
           exact e_ret (rs' := [.tmp 2]) rfl <| r_tmp (v := aB) rfl <| r_nil <| fin_gen [] rfl rfl rfl lr st_nil
          ·
           refine w_sr <| o_p rfl (p_eql rfl rfl) <| sB rfl <| o_ek (fr' := [(1, .box 0 0), (35, aI), (115, aB)]) rfl rfl <| w_ch h44 rfl (fun hb48 h48 => ?_) (fun hb48 h48 => ?_)
           ·
            refine w_sr <| o_p rfl (p_fa tf29x5 rfl) <| o_p rfl (p_fa tf25x0 rfl) <| o_p rfl (p_load (v := aI) tv3 rfl rfl rfl) <| o_p rfl (p_eql rfl rfl) <| sB rfl <| o_ek (fr' := [(2, aB)]) rfl rfl <| w_ret <| e_blk_r <| e_seq_r ?_
            obtain rfl := sy h48
            exact e_ret (rs' := [.tmp 2]) rfl <| r_tmp (v := aB) rfl <| r_nil <| fin_gen [] rfl rfl rfl lr st_nil
           ·
            refine w_sr <| o_p rfl (p_eql rfl rfl) <| sB rfl <| o_ek (fr' := [(1, .box 0 0), (35, aI), (121, aB)]) rfl rfl <| w_ch h48 rfl (fun hb50 h50 => ?_) (fun hb50 h50 => ?_)
            ·
             refine w_sr <| o_p rfl (p_fa tf29x2 rfl) <| o_p rfl (p_load (v := aS) tv9 rfl rfl rfl) <| o_p rfl (p_lens ti9 rfl) <| o_p rfl (p_leq rfl rfl) <| sB rfl <| o_ek (fr' := [(2, aB)]) rfl rfl <| w_ret <| e_blk_r <| e_seq_r ?_
             obtain rfl := sy h50
             exact e_ret (rs' := [.tmp 2]) rfl <| r_tmp (v := aB) rfl <| r_nil <| fin_gen [] rfl rfl rfl lr st_nil
            ·
             refine w_sr <| o_p rfl (p_eql rfl rfl) <| sB rfl <| o_ek (fr' := [(1, .box 0 0), (127, aB)]) rfl rfl <| w_ch h50 rfl (fun hb52 h52 => ?_) (fun hb52 h52 => ?_)
             ·
              refine w_sr <| o_p rfl (p_fa tf29x5 rfl) <| o_p rfl (p_loads (us := aIISLL) tv25 rfl rfl rfl rfl) ?_
              obtain ⟨x53, hx53, h54⟩ := bind_s h52
              refine o_v (ov_call (v := aB) rfl (w_ref20xInput hx53) ⟨(le_aggc rfl ⟨rfl, rfl, rfl, rfl, rfl, trivial⟩), trivial⟩ rfl rfl rfl) <| sB rfl <| o_ek (fr' := [(2, aB)]) rfl rfl <| w_ret <| e_blk_r <| e_seq_r ?_
              obtain rfl := sy h54
              exact e_ret (rs' := [.tmp 2]) rfl <| r_tmp (v := aB) rfl <| r_nil <| fin_gen [] rfl rfl rfl lr st_nil
             ·
              refine w_skip <| e_blk_n <| e_kw <| w_sr <| sB rfl <| o_ek (fr' := [(2, aB)]) rfl rfl <| w_ret ?_
              obtain rfl := sy h52
              exact e_ret (rs' := [.tmp 2]) rfl <| r_tmp (v := aB) rfl <| r_nil <| fin_gen [] rfl rfl rfl lr st_nil
noncomputable def law20xCommandRight (p0c : ApiCommand) : Option Bool :=
 (ref20xSmall p0c).bind fun (x1 : Bool) => cond (!x1) ((law20xworks).bind fun (x4 : Bool) => some x4) ((command_Right p0c).bind fun (x7 : Bool) => (ref20xRight p0c).bind fun (x9 : Bool) => (gd ((x7 == x9) == true) (command_RightPolicy p0c.Opts)).bind fun (x11 : Bool) => (gd ((x7 == x9) == true) (ref20xRightPolicy p0c.Opts)).bind fun (x13 : Bool) => (gd ((cond (x7 == x9) (x11 == x13) false) == true) (law20xworks)).bind fun (x15 : Bool) => some (cond (cond (x7 == x9) (x11 == x13) false) x15 false))
theorem w_law20xCommandRight {p0c : ApiCommand} {res : Bool} (h : law20xCommandRight p0c = some res) : ACalls Try.prog 3 [.agg (AV.cs (rowApiCommand p0c))] [] (.c (.bool res)) [] := by
 unfold law20xCommandRight at h
 refine acalls (fn := Try.f3) [0, 1, 2, 5] (by kernel_rfl) Try.func3 rfl (by kernel_rfl) (by kernel_rfl) <| w_sr <| o_box (v := .agg aIISSIIISLLSIIIIIIIIL) (n := 0) (cs := aIISSIIISLLSIIIIIIIIL) (σ' := [aIISSIIISLLSIIIIIIIIL]) rfl rfl rfl rfl rfl <| sB rfl <| o_ek (fr' := [(1, .box 0 0)]) rfl rfl <| w_seqw <| w_sr <| o_p rfl (p_loads (us := aIISSIIISLLSIIIIIIIIL) tv29 rfl rfl rfl rfl) ?_
 obtain ⟨x1, hx1, h2⟩ := bind_s h
 refine o_v (ov_call (v := aB) rfl (w_ref20xSmall hx1) ⟨(le_aggc rfl ⟨rfl, rfl, rfl, rfl, rfl, rfl, rfl, rfl, rfl, rfl, rfl, rfl, rfl, rfl, rfl, rfl, rfl, rfl, rfl, rfl, trivial⟩), trivial⟩ rfl rfl rfl) <| o_p rfl (p_not rfl) <| o_ek (fr' := [(1, .box 0 0), (5, aB)]) rfl rfl <| w_ch h2 rfl (fun hb3 h3 => ?_) (fun hb3 h3 => ?_)
 ·
  refine w_seqw <| w_region ?_
  obtain ⟨x4, hx4, h5⟩ := bind_s h3
  refine o_v (ov_call (v := aB) rfl (w_law20xworks hx4) trivial rfl rfl rfl) <| sB rfl <| o_ek (fr' := [(2, aB)]) rfl rfl <| w_ret <| e_seq_r ?_
  obtain rfl := sy h5
  exact e_ret (rs' := [.tmp 2]) rfl <| r_tmp (v := aB) rfl <| r_nil <| fin_gen [] rfl rfl rfl lr st_nil
 ·
  refine w_skip <| e_kw <| w_seqw <| w_planT [.q 0, .q 1, .q 2, .q 3, .q 4, .q 5, .q 6, .q 7, .q 8, .q 9, .q 10, .q 11, .q 12, .q 13, .q 14, .q 15, .q 16, .n 17 []] [(some 7, [1]), (some 8, [7]), (some 9, [1]), (some 10, [9]), (some 11, [8, 10]), (some 12, [11]), (some 13, [1, 12]), (some 14, [13, 12]), (some 15, [14, 12]), (some 16, [1, 12]), (some 17, [16, 12]), (some 18, [17, 12]), (some 19, [15, 18, 12]), (some 20, [12, 19]), (some 21, [20]), (some 22, [21]), (some 23, [21, 22]), (some 2, [23])] [0, 1, 0, 7, 15, 31, 63, 127, 255, 63, 575, 2047, 4095, 8191, 16383, 32767, 65535, 131071] (by kernel_rfl) <| dq rfl rfl (p_loads (us := aIISSIIISLLSIIIIIIIIL) tv29 rfl rfl rfl rfl) ?_
  obtain ⟨x7, hx7, h8⟩ := bind_s h3
  refine d_q rfl (qv_call (v := aB) rfl (w_command_Right hx7) ⟨(le_aggc rfl ⟨rfl, rfl, rfl, rfl, rfl, rfl, rfl, rfl, rfl, rfl, rfl, rfl, rfl, rfl, rfl, rfl, rfl, rfl, rfl, rfl, trivial⟩), trivial⟩ rfl) <| dq rfl rfl (p_loads (us := aIISSIIISLLSIIIIIIIIL) tv29 rfl rfl rfl rfl) ?_
  obtain ⟨x9, hx9, h10⟩ := bind_s h8
  refine d_q rfl (qv_call (v := aB) rfl (w_ref20xRight hx9) ⟨(le_aggc rfl ⟨rfl, rfl, rfl, rfl, rfl, rfl, rfl, rfl, rfl, rfl, rfl, rfl, rfl, rfl, rfl, rfl, rfl, rfl, rfl, rfl, trivial⟩), trivial⟩ rfl) <| dq rfl rfl (p_beql ti4 rfl rfl) <| dq rfl rfl (p_move (v := aB) rfl) <| d_g rfl rfl rfl (fun hc => qv_p rfl (p_fa tf29x6 rfl)) <| d_g rfl rfl rfl (fun hc => qv_p rfl (p_loads (us := aSIIIIIIIIL) tv27 (gx rfl hc) rfl rfl rfl)) ?_
  obtain ⟨x11, hx11, h12⟩ := bind_s h10
  refine d_g rfl rfl rfl (fun hc => qv_call (v := aB) rfl (w_command_RightPolicy (gd_some hx11 hc)) ⟨(le_gv (gx rfl hc) (le_aggc rfl ⟨rfl, rfl, rfl, rfl, rfl, rfl, rfl, rfl, rfl, rfl, trivial⟩)), trivial⟩ rfl) <| d_g rfl rfl rfl (fun hc => qv_p rfl (p_fa tf29x6 rfl)) <| d_g rfl rfl rfl (fun hc => qv_p rfl (p_loads (us := aSIIIIIIIIL) tv27 (gx rfl hc) rfl rfl rfl)) ?_
  obtain ⟨x13, hx13, h14⟩ := bind_s h12
  refine d_g rfl rfl rfl (fun hc => qv_call (v := aB) rfl (w_ref20xRightPolicy (gd_some hx13 hc)) ⟨(le_gv (gx rfl hc) (le_aggc rfl ⟨rfl, rfl, rfl, rfl, rfl, rfl, rfl, rfl, rfl, rfl, trivial⟩)), trivial⟩ rfl) <| d_g rfl rfl rfl (fun hc => qv_p rfl (p_beql ti4 (gx rfl hc) (gx rfl hc))) <| dq rfl rfl (p_picky rfl rfl rfl (fun e => keq e)) <| dq rfl rfl (p_move (v := aB) rfl) ?_
  obtain ⟨x15, hx15, h16⟩ := bind_s h14
  refine d_g rfl rfl rfl (fun hc => qv_call (v := aB) rfl (w_law20xworks (gd_some hx15 hc)) trivial rfl) <| dq rfl rfl (p_picky rfl rfl rfl (fun e => keq e)) <| d_n rfl ?_ rfl
  refine sB rfl <| o_rc <| ⟨rc_nil, ?_⟩
  refine d_ek (fr' := [(2, aB)]) rfl rfl <| w_ret ?_
  obtain rfl := sy h16
  exact e_ret (rs' := [.tmp 2]) rfl <| r_tmp (v := aB) rfl <| r_nil <| fin_gen [] rfl rfl rfl lr st_nil
end Go.Proofs.Ytmnobgopfnhbnaa

import Derived.Test.YtopijeegnhighaaDoorGBTy
import Derived.Test.YtopijeegnhighaaDoorGBF0
import Derived.Test.YtopijeegnhighaaDoorGBF1
namespace Go.Proofs.YtopijeegnhighaaDoor
open Go Abs
set_option maxRecDepth 100000
set_option linter.unusedVariables false
set_option linter.unusedSimpArgs false
noncomputable def ref03xdigitsF : Nat → Int → Option (List UInt8)
 | 0, _ => none
 | n + 1, p0n =>
  (byteOf (IntKind.wrap .u8 (IntKind.wrap .i64 ((48 : Int) + (IntKind.wrap .i64 (0 - (Int.tmod p0n (10 : Int)))))))).bind fun (x1 : UInt8) => cond (decide ((-10 : Int) < p0n)) (some ([x1] : List UInt8)) (((ref03xdigitsF n) (IntKind.wrap .i64 (Int.tdiv p0n (10 : Int)))).bind fun (x5 : (List UInt8)) => (cat x5 ([x1] : List UInt8)).bind fun (x7 : (List UInt8)) => some (x5 ++ ([x1] : List UInt8)))
theorem wF_ref03xdigits : ∀ n : Nat, (∀ {p0n : Int} {res : (List UInt8)}, ref03xdigitsF n p0n = some res → ACalls Tryd.prog 104 [.c (.int .i64 p0n)] [] (.c (.str res)) []) := by
 intro n
 induction n with
 | zero => exact fun {p0n res} h => absurd h (by simp [ref03xdigitsF])
 | succ n ih =>
  have ih_ref03xdigits := @ih
  intro p0n res h
  rw [ref03xdigitsF] at h
  refine acalls (fn := Tryd.f104) [0, 2, 3, 4, 14] (by kernel_rfl) Tryd.func104 rfl (by kernel_rfl) (by kernel_rfl) <| w_sr <| sS rfl <| o_ek (fr' := [(0, aI)]) rfl rfl <| w_sr <| mI rfl <| o_p rfl (p_rem rfl rfl (by decide)) <| o_p rfl (p_neg rfl) <| sI rfl <| o_ek (fr' := [(0, aI), (3, aI)]) rfl rfl <| w_seqw ?_
  refine w_region <| mI rfl <| o_p rfl (p_add rfl rfl) <| o_p rfl (p_conv tk3 tk5 rfl) ?_
  obtain ⟨x1, hx1, h2⟩ := bind_s h
  refine o_rows (row := brow) (xs := ([x1] : List UInt8)) (rows := [[_]]) (σ' := []) [0] ts122 rfl rfl rfl (arow_cons (brow_of hx1) arow_nil) rfl rfl <| o_p rfl (p_convbs tby122 ti9 (isl_o rfl)) <| sS rfl <| o_ek (fr' := [(0, aI), (4, aS)]) rfl rfl <| w_seqw <| w_sr <| mI rfl <| o_p rfl (p_gtr rfl rfl) <| o_ek (fr' := [(0, aI), (4, aS), (14, aB)]) rfl rfl <| w_ch h2 rfl (fun hb3 h3 => ?_) (fun hb3 h3 => ?_)
  ·
   refine w_sr <| mS rfl <| sS rfl <| o_ek (fr' := [(2, aS)]) rfl rfl <| w_ret <| e_seq_r ?_
   obtain rfl := sy h3
   exact e_ret (rs' := [.tmp 2]) rfl <| r_tmp (v := aS) rfl <| r_nil <| fin_gen [] rfl rfl rfl lr st_nil
  ·
   refine w_skip <| e_kw <| w_sr <| mI rfl <| o_p rfl (p_quo rfl rfl (by decide)) ?_
   obtain ⟨x5, hx5, h6⟩ := bind_s h3
   refine o_v (ov_call (v := aS) rfl (ih_ref03xdigits hx5) ⟨lr, trivial⟩ rfl rfl rfl) <| mS rfl ?_
   obtain ⟨x7, hx7, h8⟩ := bind_s h6
   refine o_p rfl (p_sadd rfl rfl (cat_some hx7).1) <| sS rfl <| o_ek (fr' := [(2, aS)]) rfl rfl <| w_ret ?_
   obtain rfl := sy h8
   exact e_ret (rs' := [.tmp 2]) rfl <| r_tmp (v := aS) rfl <| r_nil <| fin_gen [] rfl rfl rfl lr st_nil
noncomputable def ref03xdigits (p0n : Int) : Option (List UInt8) := lim fun n => ref03xdigitsF n p0n
theorem w_ref03xdigits {p0n : Int} {res : (List UInt8)} (h : ref03xdigits p0n = some res) : ACalls Tryd.prog 104 [.c (.int .i64 p0n)] [] (.c (.str res)) [] := by
 obtain ⟨n, hn⟩ := lim_some h
 exact (wF_ref03xdigits n) hn
noncomputable def ref03xDecimal (p0n : Int) : Option (List UInt8) :=
 cond (decide (p0n < (0 : Int))) ((ref03xdigits p0n).bind fun (x2 : (List UInt8)) => (cat ([45] : List UInt8) x2).bind fun (x4 : (List UInt8)) => some (([45] : List UInt8) ++ x2)) ((ref03xdigits (IntKind.wrap .i64 (0 - p0n))).bind fun (x7 : (List UInt8)) => some x7)
theorem w_ref03xDecimal {p0n : Int} {res : (List UInt8)} (h : ref03xDecimal p0n = some res) : ACalls Tryd.prog 93 [.c (.int .i64 p0n)] [] (.c (.str res)) [] := by
 unfold ref03xDecimal at h
 refine acalls (fn := Tryd.f93) [0, 2, 4] (by kernel_rfl) Tryd.func93 rfl (by kernel_rfl) (by kernel_rfl) <| w_sr <| sS rfl <| o_ek (fr' := [(0, aI)]) rfl rfl <| w_seqw <| w_sr <| mI rfl <| o_p rfl (p_lss rfl rfl) <| o_ek (fr' := [(0, aI), (4, aB)]) rfl rfl <| w_ch h rfl (fun hb1 h1 => ?_) (fun hb1 h1 => ?_)
 ·
  refine w_sr <| mI rfl ?_
  obtain ⟨x2, hx2, h3⟩ := bind_s h1
  refine o_v (ov_call (v := aS) rfl (w_ref03xdigits hx2) ⟨lr, trivial⟩ rfl rfl rfl) ?_
  obtain ⟨x4, hx4, h5⟩ := bind_s h3
  refine o_p rfl (p_sadd rfl rfl (cat_some hx4).1) <| sS rfl <| o_ek (fr' := [(2, aS)]) rfl rfl <| w_ret <| e_seq_r ?_
  obtain rfl := sy h5
  exact e_ret (rs' := [.tmp 2]) rfl <| r_tmp (v := aS) rfl <| r_nil <| fin_gen [] rfl rfl rfl lr st_nil
 ·
  refine w_skip <| e_kw <| w_sr <| mI rfl <| o_p rfl (p_neg rfl) ?_
  obtain ⟨x7, hx7, h8⟩ := bind_s h1
  refine o_v (ov_call (v := aS) rfl (w_ref03xdigits hx7) ⟨lr, trivial⟩ rfl rfl rfl) <| sS rfl <| o_ek (fr' := [(2, aS)]) rfl rfl <| w_ret ?_
  obtain rfl := sy h8
  exact e_ret (rs' := [.tmp 2]) rfl <| r_tmp (v := aS) rfl <| r_nil <| fin_gen [] rfl rfl rfl lr st_nil
noncomputable def ref06xRun (p0n : Int) : Option (List UInt8) :=
 cond (decide (p0n < (1 : Int))) (some ([] : List UInt8)) ((ref03xDecimal p0n).bind fun (x3 : (List UInt8)) => (cat ([114] : List UInt8) x3).bind fun (x5 : (List UInt8)) => some (([114] : List UInt8) ++ x3))
theorem w_ref06xRun {p0n : Int} {res : (List UInt8)} (h : ref06xRun p0n = some res) : ACalls Tryd.prog 70 [.c (.int .i64 p0n)] [] (.c (.str res)) [] := by
 unfold ref06xRun at h
 refine acalls (fn := Tryd.f70) [0, 2, 4] (by kernel_rfl) Tryd.func70 rfl (by kernel_rfl) (by kernel_rfl) <| w_sr <| sS rfl <| o_ek (fr' := [(0, aI)]) rfl rfl <| w_seqw <| w_sr <| mI rfl <| o_p rfl (p_lss rfl rfl) <| o_ek (fr' := [(0, aI), (4, aB)]) rfl rfl <| w_ch h rfl (fun hb1 h1 => ?_) (fun hb1 h1 => ?_)
 ·
  refine w_sr <| sS rfl <| o_ek (fr' := [(2, aS)]) rfl rfl <| w_ret <| e_seq_r ?_
  obtain rfl := sy h1
  exact e_ret (rs' := [.tmp 2]) rfl <| r_tmp (v := aS) rfl <| r_nil <| fin_gen [] rfl rfl rfl lr st_nil
 ·
  refine w_skip <| e_kw <| w_sr <| mI rfl ?_
  obtain ⟨x3, hx3, h4⟩ := bind_s h1
  refine o_v (ov_call (v := aS) rfl (w_ref03xDecimal hx3) ⟨lr, trivial⟩ rfl rfl rfl) ?_
  obtain ⟨x5, hx5, h6⟩ := bind_s h4
  refine o_p rfl (p_sadd rfl rfl (cat_some hx5).1) <| sS rfl <| o_ek (fr' := [(2, aS)]) rfl rfl <| w_ret ?_
  obtain rfl := sy h6
  exact e_ret (rs' := [.tmp 2]) rfl <| r_tmp (v := aS) rfl <| r_nil <| fin_gen [] rfl rfl rfl lr st_nil
noncomputable def ref06xNumber_l1 (p0run : (List UInt8)) (s4 : (Int × Int)) : Option (Step (Int × Int) Int) :=
 cond (cond (decide (s4.2 < ((p0run).length : Int))) (decide (((p0run).length : Int) ≤ (20 : Int))) false) ((idx p0run s4.2).bind fun (x6 : UInt8) => some (Step.next ((IntKind.wrap .i64 ((IntKind.wrap .i64 ((IntKind.wrap .i64 ((10 : Int) * s4.1)) + (IntKind.wrap .i64 ((x6).toNat : Int)))) - (48 : Int))), (IntKind.wrap .i64 (s4.2 + (1 : Int)))))) (some (Step.out s4.1))
noncomputable def ref06xNumber (p0run : (List UInt8)) : Option (Int × Bool) :=
 ((loopO (ref06xNumber_l1 p0run) (((0 : Int), (1 : Int)))) : Option Int).bind fun (x1 : Int) => ((gd ((decide (x1 < (1 : Int))) == false) (ref06xRun x1)).bind fun (x10 : (List UInt8)) => cond (cond (decide (x1 < (1 : Int))) true (!decide (x10 = p0run))) (some ((0 : Int), false)) (some (x1, true)))
theorem w_ref06xNumber {p0run : (List UInt8)} {res : (Int × Bool)} (h : ref06xNumber p0run = some res) : ACalls Tryd.prog 47 [.c (.str p0run)] [] (.tup [.c (.int .i64 res.1), .c (.bool res.2)]) [] := by
 unfold ref06xNumber at h
 refine acalls (fn := Tryd.f47) [0, 2, 3, 4, 5, 14, 32] (by kernel_rfl) Tryd.func47 rfl (by kernel_rfl) (by kernel_rfl) <| w_sr <| sI rfl <| sB rfl <| o_ek (fr' := [(0, aS)]) rfl rfl <| w_sr <| sI rfl <| o_ek (fr' := [(0, aS), (4, aI)]) rfl rfl <| w_seqw <| w_seqw <| w_region ?_
 refine sI rfl <| o_ek (fr' := [(0, aS), (4, aI), (5, aI)]) rfl rfl ?_
 obtain ⟨x1, hx1, h2⟩ := bind_s h
 refine w_jtail cl_kw (fun j3 => x1 = j3) (fun (j3 : Int) => ([(0, .c (.str p0run)), (4, .c (.int .i64 j3))] : Fr)) (fun (j3 : Int) => ([] : St)) ?_ ?_
 ·
  refine w_block <| w_loopo _ (fun (s4 : (Int × Int)) => ([(0, .c (.str p0run)), (4, .c (.int .i64 s4.1)), (5, .c (.int .i64 s4.2))] : Fr)) (fun (s4 : (Int × Int)) => ([] : St)) hx1 (w_weak [] 0 rfl rfl rfl rfl ⟨lr, lr, lr, trivial⟩ st_nil) ?_
  intro s4 st4 hs4 ho4
  unfold ref06xNumber_l1 at hs4
  refine w_seqw <| w_sr <| mI rfl <| mS rfl <| o_p rfl (p_lens ti9 rfl) <| o_p rfl (p_lss rfl rfl) <| mB rfl <| og rfl rfl rfl (fun hc => (p_move (v := aS) rfl)) <| og rfl rfl rfl (fun hc => (p_lens ti9 (gx rfl hc))) <| og rfl rfl rfl (fun hc => (p_leq (gx rfl hc) rfl)) <| o_p rfl (p_picky rfl rfl rfl (fun e => keq e)) <| o_ek (fr' := [(0, aS), (4, aI), (5, aI), (14, aB)]) rfl rfl ?_
  refine w_ch hs4 rfl (fun hb5 h5 => ?_) (fun hb5 h5 => ?_)
  ·
   refine w_skip <| e_kw <| w_seqw <| w_block <| w_region <| mI rfl <| o_p rfl (p_mul rfl rfl) <| mS rfl <| mI rfl ?_
   obtain ⟨x6, hx6, h7⟩ := bind_s h5
   refine o_p rfl (p_is ti9 rfl rfl hx6) <| o_p rfl (p_conv tk5 tk3 rfl) <| o_p rfl (p_add rfl rfl) <| o_p rfl (p_sub rfl rfl) <| sI rfl <| o_end (fr' := [(0, aS), (4, aI), (5, aI), (14, aB)]) rfl <| e_blk_n <| e_kw <| w_region <| mI rfl <| o_p rfl (p_add rfl rfl) <| sI rfl <| o_end (fr' := [(0, aS), (4, aI), (5, aI), (14, aB)]) rfl ?_
   exact e_l _ (sy h7) (w_weak [] 0 rfl rfl rfl rfl ⟨lr, lr, lr, trivial⟩ st_nil)
  ·
   refine w_exit <| e_seq_x <| e_seq_x <| e_blk_h ?_
   have h8 := un_out h5 ho4
   exact e_j _ (sy h8) (w_weak [] 0 rfl rfl rfl rfl ⟨lr, lr, trivial⟩ st_nil)
 ·
  intro j3 hj9
  subst hj9
  refine e_kw <| w_seqw <| w_sr <| mI rfl <| o_p rfl (p_lss rfl rfl) <| mB rfl <| og rfl rfl rfl (fun hc => (p_move (v := aI) rfl)) ?_
  obtain ⟨x10, hx10, h11⟩ := bind_s h2
  refine o_g rfl rfl (fun hc => ov_call (v := aS) rfl (w_ref06xRun (gd_some hx10 hc)) ⟨(le_gv (gx rfl hc) lr), trivial⟩ (ok_eq (by repeat (first | exact ok_nil | refine ok_cons rfl ?_ | refine ok_cons (dgv rfl) ?_))) rfl rfl) ?_
  refine og rfl rfl rfl (fun hc => (p_move (v := aS) rfl)) <| og rfl rfl rfl (fun hc => (p_sneq (gx rfl hc) (gx rfl hc))) <| o_p rfl (p_pickz rfl rfl rfl (fun e => keq e)) <| o_ek (fr' := [(4, aI), (32, aB)]) rfl rfl <| w_ch h11 rfl (fun hb12 h12 => ?_) (fun hb12 h12 => ?_)
  ·
   refine w_sr <| sI rfl <| sB rfl <| o_ek (fr' := [(2, aI), (3, aB)]) rfl rfl <| w_ret <| e_seq_r ?_
   obtain rfl := sy h12
   exact e_ret (rs' := [.tmp 2, .tmp 3]) rfl <| r_tmp (v := aI) rfl <| r_tmp (v := aB) rfl <| r_nil <| fin_gen [] rfl rfl rfl (le_tupp rfl ⟨lr, lr, trivial⟩) st_nil
  ·
   refine w_skip <| e_kw <| w_sr <| mI rfl <| sI rfl <| sB rfl <| o_ek (fr' := [(2, aI), (3, aB)]) rfl rfl <| w_ret ?_
   obtain rfl := sy h12
   exact e_ret (rs' := [.tmp 2, .tmp 3]) rfl <| r_tmp (v := aI) rfl <| r_tmp (v := aB) rfl <| r_nil <| fin_gen [] rfl rfl rfl (le_tupp rfl ⟨lr, lr, trivial⟩) st_nil
noncomputable def ref44xnumber (p0r : ApiRun) (p1workflow : (List UInt8)) : Option Int :=
 (ref06xNumber p0r.ID).bind fun (x1 : (Int × Bool)) => cond (cond (!decide (p0r.Workflow = p1workflow)) true (!x1.2)) (some (0 : Int)) (some x1.1)
theorem w_ref44xnumber {p0r : ApiRun} {p1workflow : (List UInt8)} {res : Int} (h : ref44xnumber p0r p1workflow = some res) : ACalls Tryd.prog 68 [.agg (AV.cs (rowApiRun p0r)), .c (.str p1workflow)] [] (.c (.int .i64 res)) [] := by
 unfold ref44xnumber at h
 refine acalls (fn := Tryd.f68) [0, 1, 2, 4, 5, 6, 20] (by kernel_rfl) Tryd.func68 rfl (by kernel_rfl) (by kernel_rfl) <| w_sr <| o_box (v := .agg aSSSILIIIIIISIISLLIISLLBLLLLLLLLLII) (n := 0) (cs := aSSSILIIIIIISIISLLIISLLBLLLLLLLLLII) (σ' := [aSSSILIIIIIISIISLLIISLLBLLLLLLLLLII]) rfl rfl rfl rfl rfl <| sI rfl <| o_ek (fr' := [(1, aS), (2, .box 0 0)]) rfl rfl <| w_sr <| o_p rfl (p_fa tf37x1 rfl) <| o_p rfl (p_load (v := aS) tv9 rfl rfl rfl) ?_
 obtain ⟨x1, hx1, h2⟩ := bind_s h
 refine o_v (ov_call (v := .tup [aI, aB]) rfl (w_ref06xNumber hx1) ⟨lr, trivial⟩ rfl rfl rfl) <| mV (v := .tup [aI, aB]) rfl <| o_p rfl (p_ex (v := aI) rfl rfl) <| o_p rfl (p_ex (v := aB) rfl rfl) <| sI rfl <| sB rfl <| o_ek (fr' := [(1, aS), (2, .box 0 0), (5, aI), (6, aB)]) rfl rfl <| w_seqw <| w_sr <| o_p rfl (p_fa tf37x0 rfl) <| o_p rfl (p_load (v := aS) tv9 rfl rfl rfl) <| mS rfl ?_
 refine o_p rfl (p_sneq rfl rfl) <| mB rfl <| og rfl rfl rfl (fun hc => (p_move (v := aB) rfl)) <| og rfl rfl rfl (fun hc => (p_not (gx rfl hc))) <| o_p rfl (p_pickz rfl rfl rfl (fun e => keq e)) <| o_ek (fr' := [(5, aI), (20, aB)]) rfl rfl <| w_ch h2 rfl (fun hb3 h3 => ?_) (fun hb3 h3 => ?_)
 ·
  refine w_sr <| sI rfl <| o_ek (fr' := [(4, aI)]) rfl rfl <| w_ret <| e_seq_r ?_
  obtain rfl := sy h3
  exact e_ret (rs' := [.tmp 4]) rfl <| r_tmp (v := aI) rfl <| r_nil <| fin_gen [] rfl rfl rfl lr st_nil
 ·
  refine w_skip <| e_kw <| w_sr <| mI rfl <| sI rfl <| o_ek (fr' := [(4, aI)]) rfl rfl <| w_ret ?_
  obtain rfl := sy h3
  exact e_ret (rs' := [.tmp 4]) rfl <| r_tmp (v := aI) rfl <| r_nil <| fin_gen [] rfl rfl rfl lr st_nil
noncomputable def ref44xLatest_l1 (p0l : (List ApiRun)) (p1workflow : (List UInt8)) (s4 : (Int × Int × Int)) : Option (Step (Int × Int × Int) (Int × Int)) :=
 cond (decide (s4.2.2 < ((p0l).length : Int))) ((idx p0l s4.2.2).bind fun (x6 : ApiRun) => (ref44xnumber x6 p1workflow).bind fun (x8 : Int) => cond (decide (s4.2.1 < x8)) (some (Step.next (s4.2.2, x8, (IntKind.wrap .i64 (s4.2.2 + (1 : Int)))))) (some (Step.next (s4.1, s4.2.1, (IntKind.wrap .i64 (s4.2.2 + (1 : Int))))))) (some (Step.out (s4.1, s4.2.1)))
noncomputable def ref44xLatest (p0l : (List ApiRun)) (p1workflow : (List UInt8)) : Option (Int × Bool) :=
 ((loopO (ref44xLatest_l1 p0l p1workflow) (((0 : Int), (0 : Int), (0 : Int)))) : Option (Int × Int)).bind fun (x1 : (Int × Int)) => (some (x1.1, (decide ((0 : Int) < x1.2))))
theorem w_ref44xLatest {p0l : (List ApiRun)} {p1workflow : (List UInt8)} {res : (Int × Bool)} (h : ref44xLatest p0l p1workflow = some res) : ACalls Tryd.prog 33 [.c (PV.ls 34 rowApiRun p0l), .c (.str p1workflow)] [] (.tup [.c (.int .i64 res.1), .c (.bool res.2)]) [] := by
 unfold ref44xLatest at h
 refine acalls (fn := Tryd.f33) [0, 1, 4, 5, 6, 7, 8, 9, 10, 11, 12, 13, 14, 23] (by kernel_rfl) Tryd.func33 rfl (by kernel_rfl) (by kernel_rfl) <| w_sr <| sI rfl <| sB rfl <| o_ek (fr' := [(0, aL), (1, aS)]) rfl rfl <| w_sr <| sI rfl <| sI rfl <| o_ek (fr' := [(0, aL), (1, aS), (6, aI), (7, aI)]) rfl rfl <| w_seqw <| w_seqw ?_
 refine w_region <| mL rfl <| o_p rfl (p_len ti62 (isl_c rfl)) <| mI rfl <| o_ek (fr' := [(1, aS), (6, aI), (7, aI), (11, aL), (12, aI), (13, aI)]) rfl rfl ?_
 obtain ⟨x1, hx1, h2⟩ := bind_s h
 refine w_jtail cl_kw (fun j3 => x1 = j3) (fun (j3 : (Int × Int)) => ([(6, .c (.int .i64 j3.1)), (7, .c (.int .i64 j3.2))] : Fr)) (fun (j3 : (Int × Int)) => ([] : St)) ?_ ?_
 ·
  refine w_block <| w_loopo _ (fun (s4 : (Int × Int × Int)) => ([(1, .c (.str p1workflow)), (6, .c (.int .i64 s4.1)), (7, .c (.int .i64 s4.2.1)), (11, .c (PV.ls 34 rowApiRun p0l)), (12, .c (.int .i64 ((p0l).length : Int))), (13, .c (.int .i64 s4.2.2))] : Fr)) (fun (s4 : (Int × Int × Int)) => ([] : St)) hx1 (w_weak [] 0 rfl rfl rfl rfl ⟨lr, lr, lr, lr, lr, lr, trivial⟩ st_nil) ?_
  intro s4 st4 hs4 ho4
  unfold ref44xLatest_l1 at hs4
  refine w_sr <| o_p rfl (p_lss rfl rfl) <| o_ek (fr' := [(1, aS), (6, aI), (7, aI), (11, aL), (12, aI), (13, aI), (14, aB)]) rfl rfl <| w_seqw <| w_ch hs4 rfl (fun hb5 h5 => ?_) (fun hb5 h5 => ?_)
  ·
   refine w_skip <| e_kw <| w_seqw <| w_block <| w_sr <| mI rfl ?_
   obtain ⟨x6, hx6, h7⟩ := bind_s h5
   refine o_p rfl (p_ia (cs := [PV.str _, PV.str _, PV.str _, PV.int _ _, PV.ls _ _ _, PV.int _ _, PV.int _ _, PV.int _ _, PV.int _ _, PV.int _ _, PV.int _ _, PV.str _, PV.int _ _, PV.int _ _, PV.str _, PV.ls _ _ _, PV.ls _ _ _, PV.int _ _, PV.int _ _, PV.str _, PV.ls _ _ _, PV.ls _ _ _, PV.bool _, PV.ls _ _ _, PV.ls _ _ _, PV.ls _ _ _, PV.ls _ _ _, PV.ls _ _ _, PV.ls _ _ _, PV.ls _ _ _, PV.ls _ _ _, PV.ls _ _ _, PV.int _ _, PV.int _ _]) ts62 (isl_c rfl) rfl hx6 rfl) <| o_p rfl (p_loades (us := [PV.str _, PV.str _, PV.str _, PV.int _ _, PV.ls _ _ _, PV.int _ _, PV.int _ _, PV.int _ _, PV.int _ _, PV.int _ _, PV.int _ _, PV.str _, PV.int _ _, PV.int _ _, PV.str _, PV.ls _ _ _, PV.ls _ _ _, PV.int _ _, PV.int _ _, PV.str _, PV.ls _ _ _, PV.ls _ _ _, PV.bool _, PV.ls _ _ _, PV.ls _ _ _, PV.ls _ _ _, PV.ls _ _ _, PV.ls _ _ _, PV.ls _ _ _, PV.ls _ _ _, PV.ls _ _ _, PV.ls _ _ _, PV.int _ _, PV.int _ _]) tv37 rfl rfl rfl) <| o_alloc (n := 0) (cs := [aS, aS, aS, aI, AV.nil, aI, aI, aI, aI, aI, aI, aS, aI, aI, aS, AV.nil, AV.nil, aI, aI, aS, AV.nil, AV.nil, aB, AV.nil, AV.nil, AV.nil, AV.nil, AV.nil, AV.nil, AV.nil, AV.nil, AV.nil, aI, aI]) (σ' := [[aS, aS, aS, aI, AV.nil, aI, aI, aI, aI, aI, aI, aS, aI, aI, aS, AV.nil, AV.nil, aI, aI, aS, AV.nil, AV.nil, aB, AV.nil, AV.nil, AV.nil, AV.nil, AV.nil, AV.nil, AV.nil, AV.nil, AV.nil, aI, aI]]) tz37 rfl rfl rfl <| sI rfl <| o_store (v := .agg aSSSILIIIIIISIISLLIISLLBLLLLLLLLLII) (us := aSSSILIIIIIISIISLLIISLLBLLLLLLLLLII) (cs := [aS, aS, aS, aI, AV.nil, aI, aI, aI, aI, aI, aI, aS, aI, aI, aS, AV.nil, AV.nil, aI, aI, aS, AV.nil, AV.nil, aB, AV.nil, AV.nil, AV.nil, AV.nil, AV.nil, AV.nil, AV.nil, AV.nil, AV.nil, aI, aI]) (σ' := [aSSSILIIIIIISIISLLIISLLBLLLLLLLLLII]) rfl tv37 rfl rfl rfl rfl rfl rfl rfl rfl <| o_ek (fr' := [(1, aS), (6, aI), (7, aI), (8, aI), (9, .box 0 0), (11, aL), (12, aI), (13, aI)]) rfl rfl <| w_sr <| o_p rfl (p_loads (us := aSSSILIIIIIISIISLLIISLLBLLLLLLLLLII) tv37 rfl rfl rfl rfl) <| mS rfl ?_
   obtain ⟨x8, hx8, h9⟩ := bind_s h7
   refine o_v (ov_call (v := aI) rfl (w_ref44xnumber hx8) ⟨(le_aggc rfl ⟨rfl, rfl, rfl, rfl, rfl, rfl, rfl, rfl, rfl, rfl, rfl, rfl, rfl, rfl, rfl, rfl, rfl, rfl, rfl, rfl, rfl, rfl, rfl, rfl, rfl, rfl, rfl, rfl, rfl, rfl, rfl, rfl, rfl, rfl, trivial⟩), lr, trivial⟩ rfl rfl rfl) <| sI rfl <| o_ek (fr' := [(1, aS), (6, aI), (7, aI), (8, aI), (10, aI), (11, aL), (12, aI), (13, aI)]) rfl rfl <| w_sr <| mI rfl <| mI rfl <| o_p rfl (p_gtr rfl rfl) <| o_ek (fr' := [(1, aS), (6, aI), (7, aI), (8, aI), (10, aI), (11, aL), (12, aI), (13, aI), (23, aB)]) rfl rfl <| w_ch h9 rfl (fun hb10 h10 => ?_) (fun hb10 h10 => ?_)
   ·
    exact w_region <| mI rfl <| mI rfl <| sI rfl <| sI rfl <| o_end (fr' := [(1, aS), (6, aI), (7, aI), (8, aI), (10, aI), (11, aL), (12, aI), (13, aI), (23, aB)]) rfl <| e_blk_n <| e_kw <| w_region <| o_p rfl (p_add rfl rfl) <| mI rfl <| o_end (fr' := [(1, aS), (6, aI), (7, aI), (8, aI), (10, aI), (11, aL), (12, aI), (13, aI), (23, aB)]) rfl <| e_l _ (sy h10) (w_weak [] 0 rfl rfl rfl rfl ⟨lr, lr, lr, lr, lr, lr, trivial⟩ st_nil)
   ·
    exact w_skip <| e_blk_n <| e_kw <| w_region <| o_p rfl (p_add rfl rfl) <| mI rfl <| o_end (fr' := [(1, aS), (6, aI), (7, aI), (8, aI), (10, aI), (11, aL), (12, aI), (13, aI), (23, aB)]) rfl <| e_l _ (sy h10) (w_weak [] 0 rfl rfl rfl rfl ⟨lr, lr, lr, lr, lr, lr, trivial⟩ st_nil)
  ·
   refine w_exit <| e_seq_x <| e_seq_x <| e_blk_h ?_
   have h11 := un_out h5 ho4
   exact e_j _ (sy h11) (w_weak [] 0 rfl rfl rfl rfl ⟨lr, lr, trivial⟩ st_nil)
 ·
  intro j3 hj12
  subst hj12
  refine e_kw <| w_sr <| mI rfl <| mI rfl <| o_p rfl (p_gtr rfl rfl) <| sI rfl <| sB rfl <| o_ek (fr' := [(4, aI), (5, aB)]) rfl rfl <| w_ret ?_
  obtain rfl := sy h2
  exact e_ret (rs' := [.tmp 4, .tmp 5]) rfl <| r_tmp (v := aI) rfl <| r_tmp (v := aB) rfl <| r_nil <| fin_gen [] rfl rfl rfl (le_tupp rfl ⟨lr, lr, trivial⟩) st_nil
noncomputable def ref44xFind_l1 (p0l : (List ApiRun)) (p2run : (List UInt8)) (p1workflow : (List UInt8)) (s8 : Int) : Option (Step Int (Fl (Int × Bool) Unit)) :=
 cond (decide (s8 < ((p0l).length : Int))) ((idx p0l s8).bind fun (x10 : ApiRun) => cond (cond (decide (x10.Workflow = p1workflow)) (decide (x10.ID = p2run)) false) (some (Step.out (Fl.done (s8, true)))) (some (Step.next (IntKind.wrap .i64 (s8 + (1 : Int)))))) (some (Step.out (Fl.go ())))
noncomputable def ref44xFind (p0l : (List ApiRun)) (p1workflow : (List UInt8)) (p2run : (List UInt8)) : Option (Int × Bool) :=
 cond (decide (p2run = ([] : List UInt8))) ((ref44xLatest p0l p1workflow).bind fun (x2 : (Int × Bool)) => some (x2.1, x2.2)) (((loopO (ref44xFind_l1 p0l p2run p1workflow) ((0 : Int))) : Option (Fl (Int × Bool) Unit)).bind fun (x5 : (Fl (Int × Bool) Unit)) => Fl.next x5 (fun (j7 : Unit) => (some ((0 : Int), false))))
theorem w_ref44xFind {p0l : (List ApiRun)} {p1workflow : (List UInt8)} {p2run : (List UInt8)} {res : (Int × Bool)} (h : ref44xFind p0l p1workflow p2run = some res) : ACalls Tryd.prog 35 [.c (PV.ls 34 rowApiRun p0l), .c (.str p1workflow), .c (.str p2run)] [] (.tup [.c (.int .i64 res.1), .c (.bool res.2)]) [] := by
 unfold ref44xFind at h
 refine acalls (fn := Tryd.f35) [0, 1, 2, 6, 7, 8, 9, 11, 17, 18, 19, 20, 33] (by kernel_rfl) Tryd.func35 rfl (by kernel_rfl) (by kernel_rfl) <| w_sr <| sI rfl <| sB rfl <| o_ek (fr' := [(0, aL), (1, aS), (2, aS)]) rfl rfl <| w_seqw <| w_sr <| mS rfl <| o_p rfl (p_seql rfl rfl) <| o_ek (fr' := [(0, aL), (1, aS), (2, aS), (11, aB)]) rfl rfl <| w_ch h rfl (fun hb1 h1 => ?_) (fun hb1 h1 => ?_)
 ·
  refine w_sr <| mL rfl <| mS rfl ?_
  obtain ⟨x2, hx2, h3⟩ := bind_s h1
  refine o_v (ov_call (v := .tup [aI, aB]) rfl (w_ref44xLatest hx2) ⟨lr, lr, trivial⟩ rfl rfl rfl) <| o_p rfl (p_ex (v := aI) rfl rfl) <| o_p rfl (p_ex (v := aB) rfl rfl) <| sI rfl <| sB rfl <| o_ek (fr' := [(6, aI), (7, aB)]) rfl rfl <| w_ret <| e_seq_r ?_
  obtain rfl := sy h3
  exact e_ret (rs' := [.tmp 6, .tmp 7]) rfl <| r_tmp (v := aI) rfl <| r_tmp (v := aB) rfl <| r_nil <| fin_gen [] rfl rfl rfl (le_tupp rfl ⟨lr, lr, trivial⟩) st_nil
 ·
  refine w_skip <| e_kw <| w_seqw <| w_sr <| mL rfl <| o_p rfl (p_len ti62 (isl_c rfl)) <| mI rfl <| o_ek (fr' := [(1, aS), (2, aS), (17, aL), (18, aI), (19, aI)]) rfl rfl ?_
  obtain ⟨x5, hx5, h6⟩ := bind_s h1
  refine w_jtail cl_kw (fun j7 => x5 = Fl.go j7) (fun (j7 : Unit) => ([] : Fr)) (fun (j7 : Unit) => ([] : St)) ?_ ?_
  ·
   refine w_block <| w_loopo _ (fun (s8 : Int) => ([(1, .c (.str p1workflow)), (2, .c (.str p2run)), (17, .c (PV.ls 34 rowApiRun p0l)), (18, .c (.int .i64 ((p0l).length : Int))), (19, .c (.int .i64 s8))] : Fr)) (fun (s8 : Int) => ([] : St)) hx5 (w_weak [] 0 rfl rfl rfl rfl ⟨lr, lr, lr, lr, lr, trivial⟩ st_nil) ?_
   intro s8 st8 hs8 ho8
   unfold ref44xFind_l1 at hs8
   refine w_sr <| o_p rfl (p_lss rfl rfl) <| o_ek (fr' := [(1, aS), (2, aS), (17, aL), (18, aI), (19, aI), (20, aB)]) rfl rfl <| w_seqw <| w_ch hs8 rfl (fun hb9 h9 => ?_) (fun hb9 h9 => ?_)
   ·
    refine w_skip <| e_kw <| w_seqw <| w_block <| w_sr <| mI rfl ?_
    obtain ⟨x10, hx10, h11⟩ := bind_s h9
    refine o_p rfl (p_ia (cs := [PV.str _, PV.str _, PV.str _, PV.int _ _, PV.ls _ _ _, PV.int _ _, PV.int _ _, PV.int _ _, PV.int _ _, PV.int _ _, PV.int _ _, PV.str _, PV.int _ _, PV.int _ _, PV.str _, PV.ls _ _ _, PV.ls _ _ _, PV.int _ _, PV.int _ _, PV.str _, PV.ls _ _ _, PV.ls _ _ _, PV.bool _, PV.ls _ _ _, PV.ls _ _ _, PV.ls _ _ _, PV.ls _ _ _, PV.ls _ _ _, PV.ls _ _ _, PV.ls _ _ _, PV.ls _ _ _, PV.ls _ _ _, PV.int _ _, PV.int _ _]) ts62 (isl_c rfl) rfl hx10 rfl) <| o_p rfl (p_loades (us := [PV.str _, PV.str _, PV.str _, PV.int _ _, PV.ls _ _ _, PV.int _ _, PV.int _ _, PV.int _ _, PV.int _ _, PV.int _ _, PV.int _ _, PV.str _, PV.int _ _, PV.int _ _, PV.str _, PV.ls _ _ _, PV.ls _ _ _, PV.int _ _, PV.int _ _, PV.str _, PV.ls _ _ _, PV.ls _ _ _, PV.bool _, PV.ls _ _ _, PV.ls _ _ _, PV.ls _ _ _, PV.ls _ _ _, PV.ls _ _ _, PV.ls _ _ _, PV.ls _ _ _, PV.ls _ _ _, PV.ls _ _ _, PV.int _ _, PV.int _ _]) tv37 rfl rfl rfl) <| o_alloc (n := 0) (cs := [aS, aS, aS, aI, AV.nil, aI, aI, aI, aI, aI, aI, aS, aI, aI, aS, AV.nil, AV.nil, aI, aI, aS, AV.nil, AV.nil, aB, AV.nil, AV.nil, AV.nil, AV.nil, AV.nil, AV.nil, AV.nil, AV.nil, AV.nil, aI, aI]) (σ' := [[aS, aS, aS, aI, AV.nil, aI, aI, aI, aI, aI, aI, aS, aI, aI, aS, AV.nil, AV.nil, aI, aI, aS, AV.nil, AV.nil, aB, AV.nil, AV.nil, AV.nil, AV.nil, AV.nil, AV.nil, AV.nil, AV.nil, AV.nil, aI, aI]]) tz37 rfl rfl rfl <| sI rfl <| o_store (v := .agg aSSSILIIIIIISIISLLIISLLBLLLLLLLLLII) (us := aSSSILIIIIIISIISLLIISLLBLLLLLLLLLII) (cs := [aS, aS, aS, aI, AV.nil, aI, aI, aI, aI, aI, aI, aS, aI, aI, aS, AV.nil, AV.nil, aI, aI, aS, AV.nil, AV.nil, aB, AV.nil, AV.nil, AV.nil, AV.nil, AV.nil, AV.nil, AV.nil, AV.nil, AV.nil, aI, aI]) (σ' := [aSSSILIIIIIISIISLLIISLLBLLLLLLLLLII]) rfl tv37 rfl rfl rfl rfl rfl rfl rfl rfl <| o_ek (fr' := [(1, aS), (2, aS), (8, aI), (9, .box 0 0), (17, aL), (18, aI), (19, aI)]) rfl rfl <| w_sr <| o_p rfl (p_fa tf37x0 rfl) <| o_p rfl (p_load (v := aS) tv9 rfl rfl rfl) <| mS rfl <| o_p rfl (p_seql rfl rfl) <| mB rfl ?_
    refine og rfl rfl rfl (fun hc => (p_fa tf37x1 rfl)) <| og rfl rfl rfl (fun hc => (p_load (v := aS) tv9 (gx rfl hc) rfl rfl)) <| og rfl rfl rfl (fun hc => (p_move (v := aS) rfl)) <| og rfl rfl rfl (fun hc => (p_seql (gx rfl hc) (gx rfl hc))) <| o_p rfl (p_picky rfl rfl rfl (fun e => keq e)) <| o_ek (fr' := [(1, aS), (2, aS), (8, aI), (17, aL), (18, aI), (19, aI), (33, aB)]) rfl rfl <| w_ch h11 rfl (fun hb12 h12 => ?_) (fun hb12 h12 => ?_)
    ·
     refine w_sr <| mI rfl <| sI rfl <| sB rfl <| o_ek (fr' := [(6, aI), (7, aB)]) rfl rfl <| w_ret <| e_blk_r <| e_seq_r <| e_seq_r <| e_blk_r <| e_seq_r <| e_seq_r ?_
     have h13 := un_out h12 ho8
     have h14 := un_done h13 h6
     obtain rfl := sy h14
     exact e_ret (rs' := [.tmp 6, .tmp 7]) rfl <| r_tmp (v := aI) rfl <| r_tmp (v := aB) rfl <| r_nil <| fin_gen [] rfl rfl rfl (le_tupp rfl ⟨lr, lr, trivial⟩) st_nil
    ·
     exact w_skip <| e_blk_n <| e_kw <| w_region <| o_p rfl (p_add rfl rfl) <| mI rfl <| o_end (fr' := [(1, aS), (2, aS), (8, aI), (17, aL), (18, aI), (19, aI), (33, aB)]) rfl <| e_l _ (sy h12) (w_weak [] 0 rfl rfl rfl rfl ⟨lr, lr, lr, lr, lr, trivial⟩ st_nil)
   ·
    refine w_exit <| e_seq_x <| e_seq_x <| e_blk_h ?_
    have h16 := un_out h9 ho8
    exact e_j _ (sy h16) (w_weak [] 0 rfl rfl rfl rfl trivial st_nil)
  ·
   intro j7 hj17
   have h17 := un_go hj17 h6
   refine e_kw <| w_sr <| sI rfl <| sB rfl <| o_ek (fr' := [(6, aI), (7, aB)]) rfl rfl <| w_ret ?_
   obtain rfl := sy h17
   exact e_ret (rs' := [.tmp 6, .tmp 7]) rfl <| r_tmp (v := aI) rfl <| r_tmp (v := aB) rfl <| r_nil <| fin_gen [] rfl rfl rfl (le_tupp rfl ⟨lr, lr, trivial⟩) st_nil
noncomputable def ref44xNext (p0l : (List ApiRun)) (p1workflow : (List UInt8)) : Option (List UInt8) :=
 (ref44xLatest p0l p1workflow).bind fun (x1 : (Int × Bool)) => cond (!x1.2) ((ref06xRun (1 : Int)).bind fun (x4 : (List UInt8)) => some x4) ((idx p0l x1.1).bind fun (x7 : ApiRun) => (ref44xnumber x7 p1workflow).bind fun (x9 : Int) => (ref06xRun (IntKind.wrap .i64 (x9 + (1 : Int)))).bind fun (x11 : (List UInt8)) => some x11)
theorem w_ref44xNext {p0l : (List ApiRun)} {p1workflow : (List UInt8)} {res : (List UInt8)} (h : ref44xNext p0l p1workflow = some res) : ACalls Tryd.prog 37 [.c (PV.ls 34 rowApiRun p0l), .c (.str p1workflow)] [] (.c (.str res)) [] := by
 unfold ref44xNext at h
 refine acalls (fn := Tryd.f37) [0, 1, 4, 5, 6, 14] (by kernel_rfl) Tryd.func37 rfl (by kernel_rfl) (by kernel_rfl) <| w_sr <| sS rfl <| o_ek (fr' := [(0, aL), (1, aS)]) rfl rfl <| w_sr <| mL rfl <| mS rfl ?_
 obtain ⟨x1, hx1, h2⟩ := bind_s h
 refine o_v (ov_call (v := .tup [aI, aB]) rfl (w_ref44xLatest hx1) ⟨lr, lr, trivial⟩ rfl rfl rfl) <| mV (v := .tup [aI, aB]) rfl <| o_p rfl (p_ex (v := aI) rfl rfl) <| o_p rfl (p_ex (v := aB) rfl rfl) <| sI rfl <| sB rfl <| o_ek (fr' := [(0, aL), (1, aS), (5, aI), (6, aB)]) rfl rfl <| w_seqw <| w_sr <| mB rfl <| o_p rfl (p_not rfl) <| o_ek (fr' := [(0, aL), (1, aS), (5, aI), (14, aB)]) rfl rfl ?_
 refine w_ch h2 rfl (fun hb3 h3 => ?_) (fun hb3 h3 => ?_)
 ·
  refine w_seqw <| w_region ?_
  obtain ⟨x4, hx4, h5⟩ := bind_s h3
  refine o_v (ov_call (v := aS) rfl (w_ref06xRun hx4) ⟨lr, trivial⟩ rfl rfl rfl) <| sS rfl <| o_ek (fr' := [(4, aS)]) rfl rfl <| w_ret <| e_seq_r ?_
  obtain rfl := sy h5
  exact e_ret (rs' := [.tmp 4]) rfl <| r_tmp (v := aS) rfl <| r_nil <| fin_gen [] rfl rfl rfl lr st_nil
 ·
  refine w_skip <| e_kw <| w_sr <| mL rfl <| mI rfl ?_
  obtain ⟨x7, hx7, h8⟩ := bind_s h3
  refine o_p rfl (p_ia (cs := [PV.str _, PV.str _, PV.str _, PV.int _ _, PV.ls _ _ _, PV.int _ _, PV.int _ _, PV.int _ _, PV.int _ _, PV.int _ _, PV.int _ _, PV.str _, PV.int _ _, PV.int _ _, PV.str _, PV.ls _ _ _, PV.ls _ _ _, PV.int _ _, PV.int _ _, PV.str _, PV.ls _ _ _, PV.ls _ _ _, PV.bool _, PV.ls _ _ _, PV.ls _ _ _, PV.ls _ _ _, PV.ls _ _ _, PV.ls _ _ _, PV.ls _ _ _, PV.ls _ _ _, PV.ls _ _ _, PV.ls _ _ _, PV.int _ _, PV.int _ _]) ts62 (isl_c rfl) rfl hx7 rfl) <| o_p rfl (p_loades (us := [PV.str _, PV.str _, PV.str _, PV.int _ _, PV.ls _ _ _, PV.int _ _, PV.int _ _, PV.int _ _, PV.int _ _, PV.int _ _, PV.int _ _, PV.str _, PV.int _ _, PV.int _ _, PV.str _, PV.ls _ _ _, PV.ls _ _ _, PV.int _ _, PV.int _ _, PV.str _, PV.ls _ _ _, PV.ls _ _ _, PV.bool _, PV.ls _ _ _, PV.ls _ _ _, PV.ls _ _ _, PV.ls _ _ _, PV.ls _ _ _, PV.ls _ _ _, PV.ls _ _ _, PV.ls _ _ _, PV.ls _ _ _, PV.int _ _, PV.int _ _]) tv37 rfl rfl rfl) <| mS rfl ?_
  obtain ⟨x9, hx9, h10⟩ := bind_s h8
  refine o_v (ov_call (v := aI) rfl (w_ref44xnumber hx9) ⟨(le_aggc rfl ⟨rfl, rfl, rfl, rfl, rfl, rfl, rfl, rfl, rfl, rfl, rfl, rfl, rfl, rfl, rfl, rfl, rfl, rfl, rfl, rfl, rfl, rfl, rfl, rfl, rfl, rfl, rfl, rfl, rfl, rfl, rfl, rfl, rfl, rfl, trivial⟩), lr, trivial⟩ rfl rfl rfl) <| o_p rfl (p_add rfl rfl) ?_
  obtain ⟨x11, hx11, h12⟩ := bind_s h10
  refine o_v (ov_call (v := aS) rfl (w_ref06xRun hx11) ⟨lr, trivial⟩ rfl rfl rfl) <| sS rfl <| o_ek (fr' := [(4, aS)]) rfl rfl <| w_ret ?_
  obtain rfl := sy h12
  exact e_ret (rs' := [.tmp 4]) rfl <| r_tmp (v := aS) rfl <| r_nil <| fin_gen [] rfl rfl rfl lr st_nil
noncomputable def law44xChainFind (p0l : (List ApiRun)) (p1workflow : (List UInt8)) (p2id : (List UInt8)) : Option Bool :=
 (law44xlarge p0l).bind fun (x1 : Bool) => cond x1 ((law44xworks).bind fun (x4 : Bool) => some x4) ((chain_Latest p0l p1workflow).bind fun (x7 : (Int × Bool)) => (ref44xLatest p0l p1workflow).bind fun (x9 : (Int × Bool)) => (chain_Find p0l p1workflow p2id).bind fun (x11 : (Int × Bool)) => (ref44xFind p0l p1workflow p2id).bind fun (x13 : (Int × Bool)) => (gd ((cond (cond (cond (decide (x7.1 = x9.1)) (x7.2 == x9.2) false) (decide (x11.1 = x13.1)) false) (x11.2 == x13.2) false) == true) (chain_Next p0l p1workflow)).bind fun (x15 : (List UInt8)) => (gd ((cond (cond (cond (decide (x7.1 = x9.1)) (x7.2 == x9.2) false) (decide (x11.1 = x13.1)) false) (x11.2 == x13.2) false) == true) (ref44xNext p0l p1workflow)).bind fun (x17 : (List UInt8)) => (gd ((cond (cond (cond (cond (decide (x7.1 = x9.1)) (x7.2 == x9.2) false) (decide (x11.1 = x13.1)) false) (x11.2 == x13.2) false) (decide (x15 = x17)) false) == true) (law44xworks)).bind fun (x19 : Bool) => some (cond (cond (cond (cond (cond (decide (x7.1 = x9.1)) (x7.2 == x9.2) false) (decide (x11.1 = x13.1)) false) (x11.2 == x13.2) false) (decide (x15 = x17)) false) x19 false))
theorem w_law44xChainFind {p0l : (List ApiRun)} {p1workflow : (List UInt8)} {p2id : (List UInt8)} {res : Bool} (h : law44xChainFind p0l p1workflow p2id = some res) : ACalls Tryd.prog 7 [.c (PV.ls 34 rowApiRun p0l), .c (.str p1workflow), .c (.str p2id)] [] (.c (.bool res)) [] := by
 unfold law44xChainFind at h
 refine acalls (fn := Tryd.f7) [0, 1, 2, 6, 7, 8, 9, 10, 11, 12, 13, 14, 16] (by kernel_rfl) Tryd.func7 rfl (by kernel_rfl) (by kernel_rfl) <| w_sr <| sB rfl <| o_ek (fr' := [(0, aL), (1, aS), (2, aS)]) rfl rfl <| w_seqw <| w_sr <| mL rfl ?_
 obtain ⟨x1, hx1, h2⟩ := bind_s h
 refine o_v (ov_call (v := aB) rfl (w_law44xlarge hx1) ⟨lr, trivial⟩ rfl rfl rfl) <| o_ek (fr' := [(0, aL), (1, aS), (2, aS), (16, aB)]) rfl rfl <| w_ch h2 rfl (fun hb3 h3 => ?_) (fun hb3 h3 => ?_)
 ·
  refine w_seqw <| w_region ?_
  obtain ⟨x4, hx4, h5⟩ := bind_s h3
  refine o_v (ov_call (v := aB) rfl (w_law44xworks hx4) trivial rfl rfl rfl) <| sB rfl <| o_ek (fr' := [(6, aB)]) rfl rfl <| w_ret <| e_seq_r ?_
  obtain rfl := sy h5
  exact e_ret (rs' := [.tmp 6]) rfl <| r_tmp (v := aB) rfl <| r_nil <| fin_gen [] rfl rfl rfl lr st_nil
 ·
  refine w_skip <| e_kw <| w_sr <| mL rfl <| mS rfl ?_
  obtain ⟨x7, hx7, h8⟩ := bind_s h3
  refine o_v (ov_call (v := .tup [aI, aB]) rfl (w_chain_Latest hx7) ⟨lr, lr, trivial⟩ rfl rfl rfl) <| mV (v := .tup [aI, aB]) rfl <| o_p rfl (p_ex (v := aI) rfl rfl) <| o_p rfl (p_ex (v := aB) rfl rfl) <| sI rfl <| sB rfl <| o_ek (fr' := [(0, aL), (1, aS), (2, aS), (7, aI), (8, aB)]) rfl rfl <| w_sr <| mL rfl <| mS rfl ?_
  obtain ⟨x9, hx9, h10⟩ := bind_s h8
  refine o_v (ov_call (v := .tup [aI, aB]) rfl (w_ref44xLatest hx9) ⟨lr, lr, trivial⟩ rfl rfl rfl) <| mV (v := .tup [aI, aB]) rfl <| o_p rfl (p_ex (v := aI) rfl rfl) <| o_p rfl (p_ex (v := aB) rfl rfl) <| sI rfl <| sB rfl <| o_ek (fr' := [(0, aL), (1, aS), (2, aS), (7, aI), (8, aB), (9, aI), (10, aB)]) rfl rfl <| w_sr <| mL rfl <| mS rfl <| mS rfl ?_
  obtain ⟨x11, hx11, h12⟩ := bind_s h10
  refine o_v (ov_call (v := .tup [aI, aB]) rfl (w_chain_Find hx11) ⟨lr, lr, lr, trivial⟩ rfl rfl rfl) <| mV (v := .tup [aI, aB]) rfl <| o_p rfl (p_ex (v := aI) rfl rfl) <| o_p rfl (p_ex (v := aB) rfl rfl) <| sI rfl <| sB rfl <| o_ek (fr' := [(0, aL), (1, aS), (2, aS), (7, aI), (8, aB), (9, aI), (10, aB), (11, aI), (12, aB)]) rfl rfl <| w_sr <| mL rfl <| mS rfl <| mS rfl ?_
  obtain ⟨x13, hx13, h14⟩ := bind_s h12
  refine o_v (ov_call (v := .tup [aI, aB]) rfl (w_ref44xFind hx13) ⟨lr, lr, lr, trivial⟩ rfl rfl rfl) <| mV (v := .tup [aI, aB]) rfl <| o_p rfl (p_ex (v := aI) rfl rfl) <| o_p rfl (p_ex (v := aB) rfl rfl) <| sI rfl <| sB rfl <| o_ek (fr' := [(0, aL), (1, aS), (7, aI), (8, aB), (9, aI), (10, aB), (11, aI), (12, aB), (13, aI), (14, aB)]) rfl rfl <| w_sr <| mI rfl <| mI rfl <| o_p rfl (p_eql rfl rfl) <| mB rfl ?_
  refine og rfl rfl rfl (fun hc => (p_move (v := aB) rfl)) <| og rfl rfl rfl (fun hc => (p_move (v := aB) rfl)) <| og rfl rfl rfl (fun hc => (p_beql ti4 (gx rfl hc) (gx rfl hc))) <| o_p rfl (p_picky rfl rfl rfl (fun e => keq e)) <| mB rfl <| og rfl rfl rfl (fun hc => (p_move (v := aI) rfl)) <| og rfl rfl rfl (fun hc => (p_move (v := aI) rfl)) <| og rfl rfl rfl (fun hc => (p_eql (gx rfl hc) (gx rfl hc))) <| o_p rfl (p_picky rfl rfl rfl (fun e => keq e)) <| mB rfl <| og rfl rfl rfl (fun hc => (p_move (v := aB) rfl)) <| og rfl rfl rfl (fun hc => (p_move (v := aB) rfl)) <| og rfl rfl rfl (fun hc => (p_beql ti4 (gx rfl hc) (gx rfl hc))) ?_
  refine o_p rfl (p_picky rfl rfl rfl (fun e => keq e)) <| mB rfl <| og rfl rfl rfl (fun hc => (p_move (v := aL) rfl)) <| og rfl rfl rfl (fun hc => (p_move (v := aS) rfl)) ?_
  obtain ⟨x15, hx15, h16⟩ := bind_s h14
  refine o_g rfl rfl (fun hc => ov_call (v := aS) rfl (w_chain_Next (gd_some hx15 hc)) ⟨(le_gv (gx rfl hc) lr), (le_gv (gx rfl hc) lr), trivial⟩ (ok_eq (by repeat (first | exact ok_nil | refine ok_cons rfl ?_ | refine ok_cons (dgv rfl) ?_))) rfl rfl) ?_
  refine og rfl rfl rfl (fun hc => (p_move (v := aL) rfl)) <| og rfl rfl rfl (fun hc => (p_move (v := aS) rfl)) ?_
  obtain ⟨x17, hx17, h18⟩ := bind_s h16
  refine o_g rfl rfl (fun hc => ov_call (v := aS) rfl (w_ref44xNext (gd_some hx17 hc)) ⟨(le_gv (gx rfl hc) lr), (le_gv (gx rfl hc) lr), trivial⟩ (ok_eq (by repeat (first | exact ok_nil | refine ok_cons rfl ?_ | refine ok_cons (dgv rfl) ?_))) rfl rfl) ?_
  refine og rfl rfl rfl (fun hc => (p_seql (gx rfl hc) (gx rfl hc))) <| o_p rfl (p_picky rfl rfl rfl (fun e => keq e)) <| mB rfl ?_
  obtain ⟨x19, hx19, h20⟩ := bind_s h18
  refine o_g rfl rfl (fun hc => ov_call (v := aB) rfl (w_law44xworks (gd_some hx19 hc)) trivial (ok_eq (by repeat (first | exact ok_nil | refine ok_cons rfl ?_ | refine ok_cons (dgv rfl) ?_))) rfl rfl) ?_
  refine o_p rfl (p_picky rfl rfl rfl (fun e => keq e)) <| sB rfl <| o_ek (fr' := [(6, aB)]) rfl rfl <| w_ret ?_
  obtain rfl := sy h20
  exact e_ret (rs' := [.tmp 6]) rfl <| r_tmp (v := aB) rfl <| r_nil <| fin_gen [] rfl rfl rfl lr st_nil
noncomputable def ref44xstarted (p0r : ApiRun) : Option (ApiEvent × Bool) :=
 (gd ((decide (((p0r.History).length : Int) = (0 : Int))) == false) (idx p0r.History (0 : Int))).bind fun (x1 : ApiEvent) => cond (cond (decide (((p0r.History).length : Int) = (0 : Int))) true (!decide (x1.Kind = (1 : Int)))) (some ((ApiEvent.mk (0 : Int) (0 : Int) (0 : Int) (0 : Int) (0 : Int) (0 : Int) (0 : Int) ([] : List UInt8) ([] : List UInt8) (ApiValue.mk (0 : Int) (0 : Int) ([] : List UInt8) ([] : (List ApiValue)) ([] : (List (List UInt8)))) (ApiPolicy.mk ([] : List UInt8) (0 : Int) (0 : Int) (0 : Int) (0 : Int) (0 : Int) (0 : Int) (0 : Int) (0 : Int) ([] : (List (List UInt8))))), false)) ((idx p0r.History (0 : Int)).bind fun (x5 : ApiEvent) => some (x5, true))
theorem w_ref44xstarted {p0r : ApiRun} {res : (ApiEvent × Bool)} (h : ref44xstarted p0r = some res) : ACalls Tryd.prog 72 [.agg (AV.cs (rowApiRun p0r))] [] (.tup [.agg (AV.cs (rowApiEvent res.1)), .c (.bool res.2)]) [] := by
 unfold ref44xstarted at h
 refine acalls (fn := Tryd.f72) [0, 1, 2, 3, 15] (by kernel_rfl) Tryd.func72 rfl (by kernel_rfl) (by kernel_rfl) <| w_sr <| o_box (v := .agg aSSSILIIIIIISIISLLIISLLBLLLLLLLLLII) (n := 0) (cs := aSSSILIIIIIISIISLLIISLLBLLLLLLLLLII) (σ' := [aSSSILIIIIIISIISLLIISLLBLLLLLLLLLII]) rfl rfl rfl rfl rfl <| o_alloc (n := 1) (cs := [aI, aI, aI, aI, aI, aI, aI, aS, aS, aI, aI, aS, AV.nil, AV.nil, aS, aI, aI, aI, aI, aI, aI, aI, aI, AV.nil]) (σ' := [aSSSILIIIIIISIISLLIISLLBLLLLLLLLLII, [aI, aI, aI, aI, aI, aI, aI, aS, aS, aI, aI, aS, AV.nil, AV.nil, aS, aI, aI, aI, aI, aI, aI, aI, aI, AV.nil]]) tz80 rfl rfl rfl <| sB rfl <| o_ek (fr' := [(1, .box 0 0), (2, .box 1 0)]) rfl rfl <| w_seqw <| w_sr <| o_p rfl (p_fa tf37x4 rfl) <| o_p rfl (p_load (v := aL) tv22 rfl rfl rfl) <| o_p rfl (p_len ti22 (isl_c rfl)) ?_
 refine o_p rfl (p_eql rfl rfl) <| mB rfl <| og rfl rfl rfl (fun hc => (p_fa tf37x4 rfl)) <| og rfl rfl rfl (fun hc => (p_load (v := aL) tv22 (gx rfl hc) rfl rfl)) ?_
 obtain ⟨x1, hx1, h2⟩ := bind_s h
 refine og rfl rfl rfl (fun hc => (p_ia (cs := [PV.int _ _, PV.int _ _, PV.int _ _, PV.int _ _, PV.int _ _, PV.int _ _, PV.int _ _, PV.str _, PV.str _, PV.int _ _, PV.int _ _, PV.str _, PV.ls _ _ _, PV.ls _ _ _, PV.str _, PV.int _ _, PV.int _ _, PV.int _ _, PV.int _ _, PV.int _ _, PV.int _ _, PV.int _ _, PV.int _ _, PV.ls _ _ _]) ts22 (isl_c (gx rfl hc)) rfl (gd_some hx1 hc) rfl)) <| og rfl rfl rfl (fun hc => (p_fae tf80x1 (gx rfl hc))) <| og rfl rfl rfl (fun hc => (p_loade (p := PV.int _ _) tv3 (gx rfl hc) rfl)) <| og rfl rfl rfl (fun hc => (p_neq (gx rfl hc) rfl)) <| o_p rfl (p_pickz rfl rfl rfl (fun e => keq e)) <| o_ek (fr' := [(1, .box 0 0), (2, .box 1 0), (15, aB)]) rfl rfl <| w_ch h2 rfl (fun hb3 h3 => ?_) (fun hb3 h3 => ?_)
 ·
  refine w_sr <| o_p rfl (p_buildc (c0 := [aI, aI, aI, aI, aI, aI, aI, aS, aS, aI, aI, aS, AV.nil, AV.nil, aS, aI, aI, aI, aI, aI, aI, aI, aI, AV.nil]) (cs := [aI, aI, aI, aI, aI, aI, aI, aS, aS, aI, aI, aS, AV.nil, AV.nil, aS, aI, aI, aI, aI, aI, aI, aI, aI, AV.nil]) tb80 rfl fill_nil) <| o_store (v := .agg [aI, aI, aI, aI, aI, aI, aI, aS, aS, aI, aI, aS, AV.nil, AV.nil, aS, aI, aI, aI, aI, aI, aI, aI, aI, AV.nil]) (us := [aI, aI, aI, aI, aI, aI, aI, aS, aS, aI, aI, aS, AV.nil, AV.nil, aS, aI, aI, aI, aI, aI, aI, aI, aI, AV.nil]) (cs := [aI, aI, aI, aI, aI, aI, aI, aS, aS, aI, aI, aS, AV.nil, AV.nil, aS, aI, aI, aI, aI, aI, aI, aI, aI, AV.nil]) (σ' := [aSSSILIIIIIISIISLLIISLLBLLLLLLLLLII, [aI, aI, aI, aI, aI, aI, aI, aS, aS, aI, aI, aS, AV.nil, AV.nil, aS, aI, aI, aI, aI, aI, aI, aI, aI, AV.nil]]) rfl tv80 rfl rfl rfl rfl rfl rfl rfl rfl <| sB rfl <| o_ek (fr' := [(2, .box 1 0), (3, aB)]) rfl rfl <| w_ret <| e_seq_r ?_
  obtain rfl := sy h3
  exact e_ret (rs' := [.cell 2 80, .tmp 3]) rfl <| r_cells (us := [aI, aI, aI, aI, aI, aI, aI, aS, aS, aI, aI, aS, AV.nil, AV.nil, aS, aI, aI, aI, aI, aI, aI, aI, aI, AV.nil]) (cs := [aI, aI, aI, aI, aI, aI, aI, aS, aS, aI, aI, aS, AV.nil, AV.nil, aS, aI, aI, aI, aI, aI, aI, aI, aI, AV.nil]) tv80 rfl rfl rfl rfl <| r_tmp (v := aB) rfl <| r_nil <| fin_gen [] rfl rfl rfl (le_tupp rfl ⟨(le_aggc rfl ⟨rfl, rfl, rfl, rfl, rfl, rfl, rfl, rfl, rfl, rfl, rfl, rfl, ⟨_, rfl⟩, ⟨_, rfl⟩, rfl, rfl, rfl, rfl, rfl, rfl, rfl, rfl, rfl, ⟨_, rfl⟩, trivial⟩), lr, trivial⟩) st_nil
 ·
  refine w_skip <| e_kw <| w_sr <| o_p rfl (p_fa tf37x4 rfl) <| o_p rfl (p_load (v := aL) tv22 rfl rfl rfl) ?_
  obtain ⟨x5, hx5, h6⟩ := bind_s h3
  refine o_p rfl (p_ia (cs := [PV.int _ _, PV.int _ _, PV.int _ _, PV.int _ _, PV.int _ _, PV.int _ _, PV.int _ _, PV.str _, PV.str _, PV.int _ _, PV.int _ _, PV.str _, PV.ls _ _ _, PV.ls _ _ _, PV.str _, PV.int _ _, PV.int _ _, PV.int _ _, PV.int _ _, PV.int _ _, PV.int _ _, PV.int _ _, PV.int _ _, PV.ls _ _ _]) ts22 (isl_c rfl) rfl hx5 rfl) <| o_p rfl (p_loades (us := [PV.int _ _, PV.int _ _, PV.int _ _, PV.int _ _, PV.int _ _, PV.int _ _, PV.int _ _, PV.str _, PV.str _, PV.int _ _, PV.int _ _, PV.str _, PV.ls _ _ _, PV.ls _ _ _, PV.str _, PV.int _ _, PV.int _ _, PV.int _ _, PV.int _ _, PV.int _ _, PV.int _ _, PV.int _ _, PV.int _ _, PV.ls _ _ _]) tv80 rfl rfl rfl) <| o_store (v := .agg aIIIIIIISSIISLLSIIIIIIIIL) (us := aIIIIIIISSIISLLSIIIIIIIIL) (cs := [aI, aI, aI, aI, aI, aI, aI, aS, aS, aI, aI, aS, AV.nil, AV.nil, aS, aI, aI, aI, aI, aI, aI, aI, aI, AV.nil]) (σ' := [aSSSILIIIIIISIISLLIISLLBLLLLLLLLLII, aIIIIIIISSIISLLSIIIIIIIIL]) rfl tv80 rfl rfl rfl rfl rfl rfl rfl rfl <| sB rfl <| o_ek (fr' := [(2, .box 1 0), (3, aB)]) rfl rfl <| w_ret ?_
  obtain rfl := sy h6
  exact e_ret (rs' := [.cell 2 80, .tmp 3]) rfl <| r_cells (us := aIIIIIIISSIISLLSIIIIIIIIL) (cs := aIIIIIIISSIISLLSIIIIIIIIL) tv80 rfl rfl rfl rfl <| r_tmp (v := aB) rfl <| r_nil <| fin_gen [] rfl rfl rfl (le_tupp rfl ⟨(le_aggc rfl ⟨rfl, rfl, rfl, rfl, rfl, rfl, rfl, rfl, rfl, rfl, rfl, rfl, rfl, rfl, rfl, rfl, rfl, rfl, rfl, rfl, rfl, rfl, rfl, rfl, trivial⟩), lr, trivial⟩) st_nil
noncomputable def ref22xStatus (p0kind : Int) : Option (Int × Bool) :=
 cond (decide (p0kind = (30 : Int))) (some ((1 : Int), true)) (cond (decide (p0kind = (31 : Int))) (some ((2 : Int), true)) (cond (decide (p0kind = (32 : Int))) (some ((3 : Int), true)) (cond (decide (p0kind = (33 : Int))) (some ((4 : Int), true)) (cond (decide (p0kind = (34 : Int))) (some ((5 : Int), true)) (cond (decide (p0kind = (35 : Int))) (some ((6 : Int), true)) (some ((0 : Int), false)))))))
theorem w_ref22xStatus {p0kind : Int} {res : (Int × Bool)} (h : ref22xStatus p0kind = some res) : ACalls Tryd.prog 82 [.c (.int .i64 p0kind)] [] (.tup [.c (.int .i64 res.1), .c (.bool res.2)]) [] := by
 unfold ref22xStatus at h
 refine acalls (fn := Tryd.f82) [0, 2, 3, 4, 5, 7, 9, 11, 13, 15] (by kernel_rfl) Tryd.func82 rfl (by kernel_rfl) (by kernel_rfl) <| w_sr <| sI rfl <| sB rfl <| o_ek (fr' := [(0, aI)]) rfl rfl <| w_seqw <| w_sr <| mI rfl <| o_ek (fr' := [(4, aI)]) rfl rfl <| w_block <| w_seqw ?_
 refine w_region <| o_p rfl (p_eql rfl rfl) <| sB rfl <| o_ek (fr' := [(4, aI), (5, aB)]) rfl rfl <| w_ch h rfl (fun hb1 h1 => ?_) (fun hb1 h1 => ?_)
 ·
  refine w_sr <| sI rfl <| sB rfl <| o_ek (fr' := [(2, aI), (3, aB)]) rfl rfl <| w_ret <| e_blk_r <| e_seq_r ?_
  obtain rfl := sy h1
  exact e_ret (rs' := [.tmp 2, .tmp 3]) rfl <| r_tmp (v := aI) rfl <| r_tmp (v := aB) rfl <| r_nil <| fin_gen [] rfl rfl rfl (le_tupp rfl ⟨lr, lr, trivial⟩) st_nil
 ·
  refine w_sr <| o_p rfl (p_eql rfl rfl) <| sB rfl <| o_ek (fr' := [(4, aI), (7, aB)]) rfl rfl <| w_ch h1 rfl (fun hb3 h3 => ?_) (fun hb3 h3 => ?_)
  ·
   refine w_sr <| sI rfl <| sB rfl <| o_ek (fr' := [(2, aI), (3, aB)]) rfl rfl <| w_ret <| e_blk_r <| e_seq_r ?_
   obtain rfl := sy h3
   exact e_ret (rs' := [.tmp 2, .tmp 3]) rfl <| r_tmp (v := aI) rfl <| r_tmp (v := aB) rfl <| r_nil <| fin_gen [] rfl rfl rfl (le_tupp rfl ⟨lr, lr, trivial⟩) st_nil
  ·
   refine w_sr <| o_p rfl (p_eql rfl rfl) <| sB rfl <| o_ek (fr' := [(4, aI), (9, aB)]) rfl rfl <| w_ch h3 rfl (fun hb5 h5 => ?_) (fun hb5 h5 => ?_)
   ·
    refine w_sr <| sI rfl <| sB rfl <| o_ek (fr' := [(2, aI), (3, aB)]) rfl rfl <| w_ret <| e_blk_r <| e_seq_r ?_
    obtain rfl := sy h5
    exact e_ret (rs' := [.tmp 2, .tmp 3]) rfl <| r_tmp (v := aI) rfl <| r_tmp (v := aB) rfl <| r_nil <| fin_gen [] rfl rfl rfl (le_tupp rfl ⟨lr, lr, trivial⟩) st_nil
   ·
    refine w_sr <| o_p rfl (p_eql rfl rfl) <| sB rfl <| o_ek (fr' := [(4, aI), (11, aB)]) rfl rfl <| w_ch h5 rfl (fun hb7 h7 => ?_) (fun hb7 h7 => ?_)
    ·
     refine w_sr <| sI rfl <| sB rfl <| o_ek (fr' := [(2, aI), (3, aB)]) rfl rfl <| w_ret <| e_blk_r <| e_seq_r ?_
     obtain rfl := sy h7
     exact e_ret (rs' := [.tmp 2, .tmp 3]) rfl <| r_tmp (v := aI) rfl <| r_tmp (v := aB) rfl <| r_nil <| fin_gen [] rfl rfl rfl (le_tupp rfl ⟨lr, lr, trivial⟩) st_nil
    ·
     refine w_sr <| o_p rfl (p_eql rfl rfl) <| sB rfl <| o_ek (fr' := [(4, aI), (13, aB)]) rfl rfl <| w_ch h7 rfl (fun hb9 h9 => ?_) (fun hb9 h9 => ?_)
     ·
      refine w_sr <| sI rfl <| sB rfl <| o_ek (fr' := [(2, aI), (3, aB)]) rfl rfl <| w_ret <| e_blk_r <| e_seq_r ?_
      obtain rfl := sy h9
      exact e_ret (rs' := [.tmp 2, .tmp 3]) rfl <| r_tmp (v := aI) rfl <| r_tmp (v := aB) rfl <| r_nil <| fin_gen [] rfl rfl rfl (le_tupp rfl ⟨lr, lr, trivial⟩) st_nil
     ·
      refine w_sr <| o_p rfl (p_eql rfl rfl) <| sB rfl <| o_ek (fr' := [(15, aB)]) rfl rfl <| w_ch h9 rfl (fun hb11 h11 => ?_) (fun hb11 h11 => ?_)
      ·
       refine w_sr <| sI rfl <| sB rfl <| o_ek (fr' := [(2, aI), (3, aB)]) rfl rfl <| w_ret <| e_blk_r <| e_seq_r ?_
       obtain rfl := sy h11
       exact e_ret (rs' := [.tmp 2, .tmp 3]) rfl <| r_tmp (v := aI) rfl <| r_tmp (v := aB) rfl <| r_nil <| fin_gen [] rfl rfl rfl (le_tupp rfl ⟨lr, lr, trivial⟩) st_nil
      ·
       refine w_skip <| e_blk_n <| e_kw <| w_sr <| sI rfl <| sB rfl <| o_ek (fr' := [(2, aI), (3, aB)]) rfl rfl <| w_ret ?_
       obtain rfl := sy h11
       exact e_ret (rs' := [.tmp 2, .tmp 3]) rfl <| r_tmp (v := aI) rfl <| r_tmp (v := aB) rfl <| r_nil <| fin_gen [] rfl rfl rfl (le_tupp rfl ⟨lr, lr, trivial⟩) st_nil
noncomputable def ref24xStatus_l1 (p0l : (List ApiEvent)) (s4 : Int) : Option (Step Int (Fl (Int × Int) Unit)) :=
 cond (decide (s4 < ((p0l).length : Int))) ((idx p0l s4).bind fun (x6 : ApiEvent) => (ref22xStatus x6.Kind).bind fun (x8 : (Int × Bool)) => cond x8.2 (some (Step.out (Fl.done (x8.1, s4)))) (some (Step.next (IntKind.wrap .i64 (s4 + (1 : Int)))))) (some (Step.out (Fl.go ())))
noncomputable def ref24xStatus (p0l : (List ApiEvent)) : Option (Int × Int) :=
 ((loopO (ref24xStatus_l1 p0l) ((0 : Int))) : Option (Fl (Int × Int) Unit)).bind fun (x1 : (Fl (Int × Int) Unit)) => Fl.next x1 (fun (j3 : Unit) => (some ((0 : Int), (-1 : Int))))
theorem w_ref24xStatus {p0l : (List ApiEvent)} {res : (Int × Int)} (h : ref24xStatus p0l = some res) : ACalls Tryd.prog 51 [.c (PV.ls 24 rowApiEvent p0l)] [] (.tup [.c (.int .i64 res.1), .c (.int .i64 res.2)]) [] := by
 unfold ref24xStatus at h
 refine acalls (fn := Tryd.f51) [0, 2, 3, 4, 5, 6, 10, 22] (by kernel_rfl) Tryd.func51 rfl (by kernel_rfl) (by kernel_rfl) <| w_sr <| sI rfl <| sI rfl <| o_ek (fr' := [(0, aL)]) rfl rfl <| w_seqw <| w_sr <| sI rfl <| o_ek (fr' := [(0, aL), (4, aI)]) rfl rfl ?_
 obtain ⟨x1, hx1, h2⟩ := bind_s h
 refine w_jtail cl_kw (fun j3 => x1 = Fl.go j3) (fun (j3 : Unit) => ([] : Fr)) (fun (j3 : Unit) => ([] : St)) ?_ ?_
 ·
  refine w_block <| w_loopo _ (fun (s4 : Int) => ([(0, .c (PV.ls 24 rowApiEvent p0l)), (4, .c (.int .i64 s4))] : Fr)) (fun (s4 : Int) => ([] : St)) hx1 (w_weak [] 0 rfl rfl rfl rfl ⟨lr, lr, trivial⟩ st_nil) ?_
  intro s4 st4 hs4 ho4
  unfold ref24xStatus_l1 at hs4
  refine w_seqw <| w_sr <| mI rfl <| mL rfl <| o_p rfl (p_len ti22 (isl_c rfl)) <| o_p rfl (p_lss rfl rfl) <| o_ek (fr' := [(0, aL), (4, aI), (10, aB)]) rfl rfl <| w_ch hs4 rfl (fun hb5 h5 => ?_) (fun hb5 h5 => ?_)
  ·
   refine w_skip <| e_kw <| w_seqw <| w_block <| w_sr <| mL rfl <| mI rfl ?_
   obtain ⟨x6, hx6, h7⟩ := bind_s h5
   refine o_p rfl (p_ia (cs := [PV.int _ _, PV.int _ _, PV.int _ _, PV.int _ _, PV.int _ _, PV.int _ _, PV.int _ _, PV.str _, PV.str _, PV.int _ _, PV.int _ _, PV.str _, PV.ls _ _ _, PV.ls _ _ _, PV.str _, PV.int _ _, PV.int _ _, PV.int _ _, PV.int _ _, PV.int _ _, PV.int _ _, PV.int _ _, PV.int _ _, PV.ls _ _ _]) ts22 (isl_c rfl) rfl hx6 rfl) <| o_p rfl (p_fae tf80x1 rfl) <| o_p rfl (p_loade (p := PV.int _ _) tv3 rfl rfl) ?_
   obtain ⟨x8, hx8, h9⟩ := bind_s h7
   refine o_v (ov_call (v := .tup [aI, aB]) rfl (w_ref22xStatus hx8) ⟨lr, trivial⟩ rfl rfl rfl) <| mV (v := .tup [aI, aB]) rfl <| o_p rfl (p_ex (v := aI) rfl rfl) <| o_p rfl (p_ex (v := aB) rfl rfl) <| sI rfl <| sB rfl <| o_ek (fr' := [(0, aL), (4, aI), (5, aI), (6, aB)]) rfl rfl <| w_sr <| mB rfl <| o_ek (fr' := [(0, aL), (4, aI), (5, aI), (22, aB)]) rfl rfl <| w_ch h9 rfl (fun hb10 h10 => ?_) (fun hb10 h10 => ?_)
   ·
    refine w_sr <| mI rfl <| mI rfl <| sI rfl <| sI rfl <| o_ek (fr' := [(2, aI), (3, aI)]) rfl rfl <| w_ret <| e_blk_r <| e_seq_r <| e_seq_r <| e_blk_r <| e_seq_r ?_
    refine e_seq_r ?_
    have h11 := un_out h10 ho4
    have h12 := un_done h11 h2
    obtain rfl := sy h12
    exact e_ret (rs' := [.tmp 2, .tmp 3]) rfl <| r_tmp (v := aI) rfl <| r_tmp (v := aI) rfl <| r_nil <| fin_gen [] rfl rfl rfl (le_tupp rfl ⟨lr, lr, trivial⟩) st_nil
   ·
    exact w_skip <| e_blk_n <| e_kw <| w_region <| mI rfl <| o_p rfl (p_add rfl rfl) <| sI rfl <| o_end (fr' := [(0, aL), (4, aI), (5, aI), (22, aB)]) rfl <| e_l _ (sy h10) (w_weak [] 0 rfl rfl rfl rfl ⟨lr, lr, trivial⟩ st_nil)
  ·
   refine w_exit <| e_seq_x <| e_seq_x <| e_blk_h ?_
   have h14 := un_out h5 ho4
   exact e_j _ (sy h14) (w_weak [] 0 rfl rfl rfl rfl trivial st_nil)
 ·
  intro j3 hj15
  have h15 := un_go hj15 h2
  refine e_kw <| w_sr <| sI rfl <| sI rfl <| o_ek (fr' := [(2, aI), (3, aI)]) rfl rfl <| w_ret ?_
  obtain rfl := sy h15
  exact e_ret (rs' := [.tmp 2, .tmp 3]) rfl <| r_tmp (v := aI) rfl <| r_tmp (v := aI) rfl <| r_nil <| fin_gen [] rfl rfl rfl (le_tupp rfl ⟨lr, lr, trivial⟩) st_nil
noncomputable def ref44xstatus (p0r : ApiRun) : Option (Int × ApiEvent) :=
 (ref24xStatus p0r.History).bind fun (x1 : (Int × Int)) => cond (cond (cond (decide (x1.2 < (0 : Int))) true (decide (((p0r.History).length : Int) ≤ x1.2))) true (decide (x1.1 = (0 : Int)))) (some (x1.1, (ApiEvent.mk (0 : Int) (0 : Int) (0 : Int) (0 : Int) (0 : Int) (0 : Int) (0 : Int) ([] : List UInt8) ([] : List UInt8) (ApiValue.mk (0 : Int) (0 : Int) ([] : List UInt8) ([] : (List ApiValue)) ([] : (List (List UInt8)))) (ApiPolicy.mk ([] : List UInt8) (0 : Int) (0 : Int) (0 : Int) (0 : Int) (0 : Int) (0 : Int) (0 : Int) (0 : Int) ([] : (List (List UInt8))))))) ((idx p0r.History x1.2).bind fun (x5 : ApiEvent) => some (x1.1, x5))
theorem w_ref44xstatus {p0r : ApiRun} {res : (Int × ApiEvent)} (h : ref44xstatus p0r = some res) : ACalls Tryd.prog 73 [.agg (AV.cs (rowApiRun p0r))] [] (.tup [.c (.int .i64 res.1), .agg (AV.cs (rowApiEvent res.2))]) [] := by
 unfold ref44xstatus at h
 refine acalls (fn := Tryd.f73) [0, 1, 2, 3, 4, 5, 24] (by kernel_rfl) Tryd.func73 rfl (by kernel_rfl) (by kernel_rfl) <| w_sr <| o_box (v := .agg aSSSILIIIIIISIISLLIISLLBLLLLLLLLLII) (n := 0) (cs := aSSSILIIIIIISIISLLIISLLBLLLLLLLLLII) (σ' := [aSSSILIIIIIISIISLLIISLLBLLLLLLLLLII]) rfl rfl rfl rfl rfl <| sI rfl <| o_alloc (n := 1) (cs := [aI, aI, aI, aI, aI, aI, aI, aS, aS, aI, aI, aS, AV.nil, AV.nil, aS, aI, aI, aI, aI, aI, aI, aI, aI, AV.nil]) (σ' := [aSSSILIIIIIISIISLLIISLLBLLLLLLLLLII, [aI, aI, aI, aI, aI, aI, aI, aS, aS, aI, aI, aS, AV.nil, AV.nil, aS, aI, aI, aI, aI, aI, aI, aI, aI, AV.nil]]) tz80 rfl rfl rfl <| o_ek (fr' := [(1, .box 0 0), (3, .box 1 0)]) rfl rfl <| w_sr <| o_p rfl (p_fa tf37x4 rfl) <| o_p rfl (p_load (v := aL) tv22 rfl rfl rfl) ?_
 obtain ⟨x1, hx1, h2⟩ := bind_s h
 refine o_v (ov_call (v := .tup [aI, aI]) rfl (w_ref24xStatus hx1) ⟨lr, trivial⟩ rfl rfl rfl) <| mV (v := .tup [aI, aI]) rfl <| o_p rfl (p_ex (v := aI) rfl rfl) <| o_p rfl (p_ex (v := aI) rfl rfl) <| sI rfl <| sI rfl <| o_ek (fr' := [(1, .box 0 0), (3, .box 1 0), (4, aI), (5, aI)]) rfl rfl <| w_seqw <| w_sr <| mI rfl <| o_p rfl (p_lss rfl rfl) <| mB rfl ?_
 refine og rfl rfl rfl (fun hc => (p_move (v := aI) rfl)) <| og rfl rfl rfl (fun hc => (p_fa tf37x4 rfl)) <| og rfl rfl rfl (fun hc => (p_load (v := aL) tv22 (gx rfl hc) rfl rfl)) <| og rfl rfl rfl (fun hc => (p_len ti22 (isl_c (gx rfl hc)))) <| og rfl rfl rfl (fun hc => (p_geq (gx rfl hc) (gx rfl hc))) <| o_p rfl (p_pickz rfl rfl rfl (fun e => keq e)) <| mB rfl <| og rfl rfl rfl (fun hc => (p_move (v := aI) rfl)) <| og rfl rfl rfl (fun hc => (p_eql (gx rfl hc) rfl)) <| o_p rfl (p_pickz rfl rfl rfl (fun e => keq e)) <| o_ek (fr' := [(1, .box 0 0), (3, .box 1 0), (4, aI), (5, aI), (24, aB)]) rfl rfl <| w_ch h2 rfl (fun hb3 h3 => ?_) (fun hb3 h3 => ?_)
 ·
  refine w_sr <| mI rfl <| o_p rfl (p_buildc (c0 := [aI, aI, aI, aI, aI, aI, aI, aS, aS, aI, aI, aS, AV.nil, AV.nil, aS, aI, aI, aI, aI, aI, aI, aI, aI, AV.nil]) (cs := [aI, aI, aI, aI, aI, aI, aI, aS, aS, aI, aI, aS, AV.nil, AV.nil, aS, aI, aI, aI, aI, aI, aI, aI, aI, AV.nil]) tb80 rfl fill_nil) <| sI rfl <| o_store (v := .agg [aI, aI, aI, aI, aI, aI, aI, aS, aS, aI, aI, aS, AV.nil, AV.nil, aS, aI, aI, aI, aI, aI, aI, aI, aI, AV.nil]) (us := [aI, aI, aI, aI, aI, aI, aI, aS, aS, aI, aI, aS, AV.nil, AV.nil, aS, aI, aI, aI, aI, aI, aI, aI, aI, AV.nil]) (cs := [aI, aI, aI, aI, aI, aI, aI, aS, aS, aI, aI, aS, AV.nil, AV.nil, aS, aI, aI, aI, aI, aI, aI, aI, aI, AV.nil]) (σ' := [aSSSILIIIIIISIISLLIISLLBLLLLLLLLLII, [aI, aI, aI, aI, aI, aI, aI, aS, aS, aI, aI, aS, AV.nil, AV.nil, aS, aI, aI, aI, aI, aI, aI, aI, aI, AV.nil]]) rfl tv80 rfl rfl rfl rfl rfl rfl rfl rfl <| o_ek (fr' := [(2, aI), (3, .box 1 0)]) rfl rfl <| w_ret <| e_seq_r ?_
  obtain rfl := sy h3
  exact e_ret (rs' := [.tmp 2, .cell 3 80]) rfl <| r_tmp (v := aI) rfl <| r_cells (us := [aI, aI, aI, aI, aI, aI, aI, aS, aS, aI, aI, aS, AV.nil, AV.nil, aS, aI, aI, aI, aI, aI, aI, aI, aI, AV.nil]) (cs := [aI, aI, aI, aI, aI, aI, aI, aS, aS, aI, aI, aS, AV.nil, AV.nil, aS, aI, aI, aI, aI, aI, aI, aI, aI, AV.nil]) tv80 rfl rfl rfl rfl <| r_nil <| fin_gen [] rfl rfl rfl (le_tupp rfl ⟨lr, (le_aggc rfl ⟨rfl, rfl, rfl, rfl, rfl, rfl, rfl, rfl, rfl, rfl, rfl, rfl, ⟨_, rfl⟩, ⟨_, rfl⟩, rfl, rfl, rfl, rfl, rfl, rfl, rfl, rfl, rfl, ⟨_, rfl⟩, trivial⟩), trivial⟩) st_nil
 ·
  refine w_skip <| e_kw <| w_seqw <| w_planT [.q 0, .q 1, .q 2, .q 3, .q 4, .q 5, .n 6 [1, 2, 3, 4, 5], .n 7 []] [(some 27, [4]), (some 28, [1]), (some 29, [28]), (some 30, [5]), (some 31, [29, 30]), (some 32, [31]), (some 2, [27]), (none, [3, 32])] [0, 0, 2, 0, 14, 30, 1, 127] (by kernel_rfl) <| dq rfl rfl (p_move (v := aI) rfl) <| dq rfl rfl (p_fa tf37x4 rfl) <| dq rfl rfl (p_load (v := aL) tv22 rfl rfl rfl) <| dq rfl rfl (p_move (v := aI) rfl) ?_
  obtain ⟨x5, hx5, h6⟩ := bind_s h3
  refine dq rfl rfl (p_ia (cs := [PV.int _ _, PV.int _ _, PV.int _ _, PV.int _ _, PV.int _ _, PV.int _ _, PV.int _ _, PV.str _, PV.str _, PV.int _ _, PV.int _ _, PV.str _, PV.ls _ _ _, PV.ls _ _ _, PV.str _, PV.int _ _, PV.int _ _, PV.int _ _, PV.int _ _, PV.int _ _, PV.int _ _, PV.int _ _, PV.int _ _, PV.ls _ _ _]) ts22 (isl_c rfl) rfl hx5 rfl) <| dq rfl rfl (p_loades (us := [PV.int _ _, PV.int _ _, PV.int _ _, PV.int _ _, PV.int _ _, PV.int _ _, PV.int _ _, PV.str _, PV.str _, PV.int _ _, PV.int _ _, PV.str _, PV.ls _ _ _, PV.ls _ _ _, PV.str _, PV.int _ _, PV.int _ _, PV.int _ _, PV.int _ _, PV.int _ _, PV.int _ _, PV.int _ _, PV.int _ _, PV.ls _ _ _]) tv80 rfl rfl rfl) <| d_n rfl ?_ rfl
  refine sI rfl <| o_rc <| ⟨(rc_q (v := .box 0 4) rfl rfl (qv_p rfl (p_fa tf37x4 rfl)) (rc_q (v := aL) rfl rfl (qv_p rfl (p_load (v := aL) tv22 rfl rfl rfl)) (rc_q (v := aI) rfl rfl (qv_p rfl (p_move (v := aI) rfl)) (rc_q (v := .eptr [_, _, _, _, _, _, _, _, _, _, _, _, _, _, _, _, _, _, _, _, _, _, _, _] _) rfl rfl (qv_p rfl (p_ia (cs := [PV.int _ _, PV.int _ _, PV.int _ _, PV.int _ _, PV.int _ _, PV.int _ _, PV.int _ _, PV.str _, PV.str _, PV.int _ _, PV.int _ _, PV.str _, PV.ls _ _ _, PV.ls _ _ _, PV.str _, PV.int _ _, PV.int _ _, PV.int _ _, PV.int _ _, PV.int _ _, PV.int _ _, PV.int _ _, PV.int _ _, PV.ls _ _ _]) ts22 (isl_c rfl) rfl hx5 rfl)) (rc_q (v := .agg aIIIIIIISSIISLLSIIIIIIIIL) rfl rfl (qv_p rfl (p_loades (us := [PV.int _ _, PV.int _ _, PV.int _ _, PV.int _ _, PV.int _ _, PV.int _ _, PV.int _ _, PV.str _, PV.str _, PV.int _ _, PV.int _ _, PV.str _, PV.ls _ _ _, PV.ls _ _ _, PV.str _, PV.int _ _, PV.int _ _, PV.int _ _, PV.int _ _, PV.int _ _, PV.int _ _, PV.int _ _, PV.int _ _, PV.ls _ _ _]) tv80 rfl rfl rfl)) rc_nil))))), ?_⟩
  refine d_n rfl ?_ rfl
  refine o_store (v := .agg aIIIIIIISSIISLLSIIIIIIIIL) (us := aIIIIIIISSIISLLSIIIIIIIIL) (cs := [aI, aI, aI, aI, aI, aI, aI, aS, aS, aI, aI, aS, AV.nil, AV.nil, aS, aI, aI, aI, aI, aI, aI, aI, aI, AV.nil]) (σ' := [aSSSILIIIIIISIISLLIISLLBLLLLLLLLLII, aIIIIIIISSIISLLSIIIIIIIIL]) rfl tv80 rfl rfl rfl rfl rfl rfl rfl rfl <| o_rc <| ⟨rc_nil, ?_⟩
  refine d_ek (fr' := [(2, aI), (3, .box 1 0)]) rfl rfl <| w_ret ?_
  obtain rfl := sy h6
  exact e_ret (rs' := [.tmp 2, .cell 3 80]) rfl <| r_tmp (v := aI) rfl <| r_cells (us := aIIIIIIISSIISLLSIIIIIIIIL) (cs := aIIIIIIISSIISLLSIIIIIIIIL) tv80 rfl rfl rfl rfl <| r_nil <| fin_gen [] rfl rfl rfl (le_tupp rfl ⟨lr, (le_aggc rfl ⟨rfl, rfl, rfl, rfl, rfl, rfl, rfl, rfl, rfl, rfl, rfl, rfl, rfl, rfl, rfl, rfl, rfl, rfl, rfl, rfl, rfl, rfl, rfl, rfl, trivial⟩), trivial⟩) st_nil
noncomputable def ref44xDecide (p0l : (List ApiRun)) (p1q : ApiRequest) : Option Int :=
 (ref44xLatest p0l p1q.Workflow).bind fun (x1 : (Int × Bool)) => cond (!x1.2) (some (1 : Int)) ((idx p0l x1.1).bind fun (x5 : ApiRun) => (ref44xstarted x5).bind fun (x7 : (ApiEvent × Bool)) => cond (cond x7.2 (decide (x7.1.Key = p1q.ID)) false) (some (2 : Int)) ((idx p0l x1.1).bind fun (x11 : ApiRun) => (ref44xstatus x11).bind fun (x13 : (Int × ApiEvent)) => cond (decide (x13.1 = (0 : Int))) (some (3 : Int)) (cond (cond (!decide (p1q.N = (0 : Int))) (!decide (p1q.N = (1 : Int))) false) (some (3 : Int)) (cond (cond (decide (p1q.N = (1 : Int))) (decide (x13.1 = (1 : Int))) false) (some (3 : Int)) (some (1 : Int))))))
theorem w_ref44xDecide {p0l : (List ApiRun)} {p1q : ApiRequest} {res : Int} (h : ref44xDecide p0l p1q = some res) : ACalls Tryd.prog 39 [.c (PV.ls 34 rowApiRun p0l), .agg (AV.cs (rowApiRequest p1q))] [] (.c (.int .i64 res)) [] := by
 unfold ref44xDecide at h
 refine acalls (fn := Tryd.f39) [0, 1, 3, 4, 5, 6, 7, 8, 9, 19, 35, 44, 47, 56] (by kernel_rfl) Tryd.func39 rfl (by kernel_rfl) (by kernel_rfl) <| w_sr <| o_box (v := .agg aIISSSSIIIIIISLLSIIIIIIIILLS) (n := 0) (cs := aIISSSSIIIIIISLLSIIIIIIIILLS) (σ' := [aIISSSSIIIIIISLLSIIIIIIIILLS]) rfl rfl rfl rfl rfl <| sI rfl <| o_ek (fr' := [(0, aL), (3, .box 0 0)]) rfl rfl <| w_sr <| mL rfl <| o_p rfl (p_fa tf44x2 rfl) <| o_p rfl (p_load (v := aS) tv9 rfl rfl rfl) ?_
 obtain ⟨x1, hx1, h2⟩ := bind_s h
 refine o_v (ov_call (v := .tup [aI, aB]) rfl (w_ref44xLatest hx1) ⟨lr, lr, trivial⟩ rfl rfl rfl) <| mV (v := .tup [aI, aB]) rfl <| o_p rfl (p_ex (v := aI) rfl rfl) <| o_p rfl (p_ex (v := aB) rfl rfl) <| sI rfl <| sB rfl <| o_ek (fr' := [(0, aL), (3, .box 0 0), (5, aI), (6, aB)]) rfl rfl <| w_seqw <| w_sr <| mB rfl <| o_p rfl (p_not rfl) <| o_ek (fr' := [(0, aL), (3, .box 0 0), (5, aI), (19, aB)]) rfl rfl ?_
 refine w_ch h2 rfl (fun hb3 h3 => ?_) (fun hb3 h3 => ?_)
 ·
  refine w_sr <| sI rfl <| o_ek (fr' := [(4, aI)]) rfl rfl <| w_ret <| e_seq_r ?_
  obtain rfl := sy h3
  exact e_ret (rs' := [.tmp 4]) rfl <| r_tmp (v := aI) rfl <| r_nil <| fin_gen [] rfl rfl rfl lr st_nil
 ·
  refine w_skip <| e_kw <| w_seqw <| w_sr <| mL rfl <| mI rfl ?_
  obtain ⟨x5, hx5, h6⟩ := bind_s h3
  refine o_p rfl (p_ia (cs := [PV.str _, PV.str _, PV.str _, PV.int _ _, PV.ls _ _ _, PV.int _ _, PV.int _ _, PV.int _ _, PV.int _ _, PV.int _ _, PV.int _ _, PV.str _, PV.int _ _, PV.int _ _, PV.str _, PV.ls _ _ _, PV.ls _ _ _, PV.int _ _, PV.int _ _, PV.str _, PV.ls _ _ _, PV.ls _ _ _, PV.bool _, PV.ls _ _ _, PV.ls _ _ _, PV.ls _ _ _, PV.ls _ _ _, PV.ls _ _ _, PV.ls _ _ _, PV.ls _ _ _, PV.ls _ _ _, PV.ls _ _ _, PV.int _ _, PV.int _ _]) ts62 (isl_c rfl) rfl hx5 rfl) <| o_p rfl (p_loades (us := [PV.str _, PV.str _, PV.str _, PV.int _ _, PV.ls _ _ _, PV.int _ _, PV.int _ _, PV.int _ _, PV.int _ _, PV.int _ _, PV.int _ _, PV.str _, PV.int _ _, PV.int _ _, PV.str _, PV.ls _ _ _, PV.ls _ _ _, PV.int _ _, PV.int _ _, PV.str _, PV.ls _ _ _, PV.ls _ _ _, PV.bool _, PV.ls _ _ _, PV.ls _ _ _, PV.ls _ _ _, PV.ls _ _ _, PV.ls _ _ _, PV.ls _ _ _, PV.ls _ _ _, PV.ls _ _ _, PV.ls _ _ _, PV.int _ _, PV.int _ _]) tv37 rfl rfl rfl) ?_
  obtain ⟨x7, hx7, h8⟩ := bind_s h6
  refine o_v (ov_call (v := .tup [.agg aIIIIIIISSIISLLSIIIIIIIIL, aB]) rfl (w_ref44xstarted hx7) ⟨(le_aggc rfl ⟨rfl, rfl, rfl, rfl, rfl, rfl, rfl, rfl, rfl, rfl, rfl, rfl, rfl, rfl, rfl, rfl, rfl, rfl, rfl, rfl, rfl, rfl, rfl, rfl, rfl, rfl, rfl, rfl, rfl, rfl, rfl, rfl, rfl, rfl, trivial⟩), trivial⟩ rfl rfl rfl) <| mV (v := .tup [.agg aIIIIIIISSIISLLSIIIIIIIIL, aB]) rfl <| o_p rfl (p_ex (v := .agg aIIIIIIISSIISLLSIIIIIIIIL) rfl rfl) <| o_p rfl (p_ex (v := aB) rfl rfl) <| o_alloc (n := 1) (cs := [aI, aI, aI, aI, aI, aI, aI, aS, aS, aI, aI, aS, AV.nil, AV.nil, aS, aI, aI, aI, aI, aI, aI, aI, aI, AV.nil]) (σ' := [aIISSSSIIIIIISLLSIIIIIIIILLS, [aI, aI, aI, aI, aI, aI, aI, aS, aS, aI, aI, aS, AV.nil, AV.nil, aS, aI, aI, aI, aI, aI, aI, aI, aI, AV.nil]]) tz80 rfl rfl rfl <| o_store (v := .agg aIIIIIIISSIISLLSIIIIIIIIL) (us := aIIIIIIISSIISLLSIIIIIIIIL) (cs := [aI, aI, aI, aI, aI, aI, aI, aS, aS, aI, aI, aS, AV.nil, AV.nil, aS, aI, aI, aI, aI, aI, aI, aI, aI, AV.nil]) (σ' := [aIISSSSIIIIIISLLSIIIIIIIILLS, aIIIIIIISSIISLLSIIIIIIIIL]) rfl tv80 rfl rfl rfl rfl rfl rfl rfl rfl <| sB rfl <| o_ek (fr' := [(0, aL), (3, .box 0 0), (5, aI), (7, .box 1 0), (8, aB)]) rfl rfl <| w_sr <| mB rfl <| mB rfl <| og rfl rfl rfl (fun hc => (p_fa tf80x8 rfl)) ?_
  refine og rfl rfl rfl (fun hc => (p_load (v := aS) tv9 (gx rfl hc) rfl rfl)) <| og rfl rfl rfl (fun hc => (p_fa tf44x4 rfl)) <| og rfl rfl rfl (fun hc => (p_load (v := aS) tv9 (gx rfl hc) rfl rfl)) <| og rfl rfl rfl (fun hc => (p_seql (gx rfl hc) (gx rfl hc))) <| o_p rfl (p_picky rfl rfl rfl (fun e => keq e)) <| o_ek (fr' := [(0, aL), (3, .box 0 0), (5, aI), (35, aB)]) rfl rfl <| w_ch h8 rfl (fun hb9 h9 => ?_) (fun hb9 h9 => ?_)
  ·
   refine w_sr <| sI rfl <| o_ek (fr' := [(4, aI)]) rfl rfl <| w_ret <| e_seq_r ?_
   obtain rfl := sy h9
   exact e_ret (rs' := [.tmp 4]) rfl <| r_tmp (v := aI) rfl <| r_nil <| fin_gen [] rfl rfl rfl lr st_nil
  ·
   refine w_skip <| e_kw <| w_sr <| mL rfl <| mI rfl ?_
   obtain ⟨x11, hx11, h12⟩ := bind_s h9
   refine o_p rfl (p_ia (cs := [PV.str _, PV.str _, PV.str _, PV.int _ _, PV.ls _ _ _, PV.int _ _, PV.int _ _, PV.int _ _, PV.int _ _, PV.int _ _, PV.int _ _, PV.str _, PV.int _ _, PV.int _ _, PV.str _, PV.ls _ _ _, PV.ls _ _ _, PV.int _ _, PV.int _ _, PV.str _, PV.ls _ _ _, PV.ls _ _ _, PV.bool _, PV.ls _ _ _, PV.ls _ _ _, PV.ls _ _ _, PV.ls _ _ _, PV.ls _ _ _, PV.ls _ _ _, PV.ls _ _ _, PV.ls _ _ _, PV.ls _ _ _, PV.int _ _, PV.int _ _]) ts62 (isl_c rfl) rfl hx11 rfl) <| o_p rfl (p_loades (us := [PV.str _, PV.str _, PV.str _, PV.int _ _, PV.ls _ _ _, PV.int _ _, PV.int _ _, PV.int _ _, PV.int _ _, PV.int _ _, PV.int _ _, PV.str _, PV.int _ _, PV.int _ _, PV.str _, PV.ls _ _ _, PV.ls _ _ _, PV.int _ _, PV.int _ _, PV.str _, PV.ls _ _ _, PV.ls _ _ _, PV.bool _, PV.ls _ _ _, PV.ls _ _ _, PV.ls _ _ _, PV.ls _ _ _, PV.ls _ _ _, PV.ls _ _ _, PV.ls _ _ _, PV.ls _ _ _, PV.ls _ _ _, PV.int _ _, PV.int _ _]) tv37 rfl rfl rfl) ?_
   obtain ⟨x13, hx13, h14⟩ := bind_s h12
   refine o_v (ov_call (v := .tup [aI, .agg aIIIIIIISSIISLLSIIIIIIIIL]) rfl (w_ref44xstatus hx13) ⟨(le_aggc rfl ⟨rfl, rfl, rfl, rfl, rfl, rfl, rfl, rfl, rfl, rfl, rfl, rfl, rfl, rfl, rfl, rfl, rfl, rfl, rfl, rfl, rfl, rfl, rfl, rfl, rfl, rfl, rfl, rfl, rfl, rfl, rfl, rfl, rfl, rfl, trivial⟩), trivial⟩ rfl rfl rfl) <| mV (v := .tup [aI, .agg aIIIIIIISSIISLLSIIIIIIIIL]) rfl <| o_p rfl (p_ex (v := aI) rfl rfl) <| o_p rfl (p_ex (v := .agg aIIIIIIISSIISLLSIIIIIIIIL) rfl rfl) <| o_alloc (n := 2) (cs := [aI, aI, aI, aI, aI, aI, aI, aS, aS, aI, aI, aS, AV.nil, AV.nil, aS, aI, aI, aI, aI, aI, aI, aI, aI, AV.nil]) (σ' := [aIISSSSIIIIIISLLSIIIIIIIILLS, aIIIIIIISSIISLLSIIIIIIIIL, [aI, aI, aI, aI, aI, aI, aI, aS, aS, aI, aI, aS, AV.nil, AV.nil, aS, aI, aI, aI, aI, aI, aI, aI, aI, AV.nil]]) tz80 rfl rfl rfl <| sI rfl <| o_store (v := .agg aIIIIIIISSIISLLSIIIIIIIIL) (us := aIIIIIIISSIISLLSIIIIIIIIL) (cs := [aI, aI, aI, aI, aI, aI, aI, aS, aS, aI, aI, aS, AV.nil, AV.nil, aS, aI, aI, aI, aI, aI, aI, aI, aI, AV.nil]) (σ' := [aIISSSSIIIIIISLLSIIIIIIIILLS, aIIIIIIISSIISLLSIIIIIIIIL, aIIIIIIISSIISLLSIIIIIIIIL]) rfl tv80 rfl rfl rfl rfl rfl rfl rfl rfl <| o_ek (fr' := [(3, .box 0 0), (9, aI)]) rfl rfl <| w_seqw <| w_block <| w_sr <| mI rfl ?_
   refine o_p rfl (p_eql rfl rfl) <| sB rfl <| o_ek (fr' := [(3, .box 0 0), (9, aI), (44, aB)]) rfl rfl <| w_ch h14 rfl (fun hb15 h15 => ?_) (fun hb15 h15 => ?_)
   ·
    refine w_sr <| sI rfl <| o_ek (fr' := [(4, aI)]) rfl rfl <| w_ret <| e_blk_r <| e_seq_r ?_
    obtain rfl := sy h15
    exact e_ret (rs' := [.tmp 4]) rfl <| r_tmp (v := aI) rfl <| r_nil <| fin_gen [] rfl rfl rfl lr st_nil
   ·
    refine w_sr <| o_p rfl (p_fa tf44x9 rfl) <| o_p rfl (p_load (v := aI) tv3 rfl rfl rfl) <| o_p rfl (p_neq rfl rfl) <| mB rfl <| og rfl rfl rfl (fun hc => (p_fa tf44x9 rfl)) <| og rfl rfl rfl (fun hc => (p_load (v := aI) tv3 (gx rfl hc) rfl rfl)) <| og rfl rfl rfl (fun hc => (p_neq (gx rfl hc) rfl)) <| o_p rfl (p_picky rfl rfl rfl (fun e => keq e)) <| sB rfl <| o_ek (fr' := [(3, .box 0 0), (9, aI), (47, aB)]) rfl rfl <| w_ch h15 rfl (fun hb17 h17 => ?_) (fun hb17 h17 => ?_)
    ·
     refine w_sr <| sI rfl <| o_ek (fr' := [(4, aI)]) rfl rfl <| w_ret <| e_blk_r <| e_seq_r ?_
     obtain rfl := sy h17
     exact e_ret (rs' := [.tmp 4]) rfl <| r_tmp (v := aI) rfl <| r_nil <| fin_gen [] rfl rfl rfl lr st_nil
    ·
     refine w_sr <| o_p rfl (p_fa tf44x9 rfl) <| o_p rfl (p_load (v := aI) tv3 rfl rfl rfl) <| o_p rfl (p_eql rfl rfl) <| mB rfl <| og rfl rfl rfl (fun hc => (p_move (v := aI) rfl)) <| og rfl rfl rfl (fun hc => (p_eql (gx rfl hc) rfl)) <| o_p rfl (p_picky rfl rfl rfl (fun e => keq e)) <| sB rfl <| o_ek (fr' := [(56, aB)]) rfl rfl <| w_ch h17 rfl (fun hb19 h19 => ?_) (fun hb19 h19 => ?_)
     ·
      refine w_sr <| sI rfl <| o_ek (fr' := [(4, aI)]) rfl rfl <| w_ret <| e_blk_r <| e_seq_r ?_
      obtain rfl := sy h19
      exact e_ret (rs' := [.tmp 4]) rfl <| r_tmp (v := aI) rfl <| r_nil <| fin_gen [] rfl rfl rfl lr st_nil
     ·
      refine w_skip <| e_blk_n <| e_kw <| w_sr <| sI rfl <| o_ek (fr' := [(4, aI)]) rfl rfl <| w_ret ?_
      obtain rfl := sy h19
      exact e_ret (rs' := [.tmp 4]) rfl <| r_tmp (v := aI) rfl <| r_nil <| fin_gen [] rfl rfl rfl lr st_nil
noncomputable def law44xChainDecide (p0l : (List ApiRun)) (p1q : ApiRequest) : Option Bool :=
 (law44xlarge p0l).bind fun (x1 : Bool) => cond x1 ((law44xworks).bind fun (x4 : Bool) => some x4) ((chain_Decide p0l p1q).bind fun (x7 : Int) => (ref44xDecide p0l p1q).bind fun (x9 : Int) => (gd ((decide (x7 = x9)) == true) (law44xworks)).bind fun (x11 : Bool) => some (cond (decide (x7 = x9)) x11 false))
theorem w_law44xChainDecide {p0l : (List ApiRun)} {p1q : ApiRequest} {res : Bool} (h : law44xChainDecide p0l p1q = some res) : ACalls Tryd.prog 8 [.c (PV.ls 34 rowApiRun p0l), .agg (AV.cs (rowApiRequest p1q))] [] (.c (.bool res)) [] := by
 unfold law44xChainDecide at h
 refine acalls (fn := Tryd.f8) [0, 1, 3, 4, 6] (by kernel_rfl) Tryd.func8 rfl (by kernel_rfl) (by kernel_rfl) <| w_sr <| o_box (v := .agg aIISSSSIIIIIISLLSIIIIIIIILLS) (n := 0) (cs := aIISSSSIIIIIISLLSIIIIIIIILLS) (σ' := [aIISSSSIIIIIISLLSIIIIIIIILLS]) rfl rfl rfl rfl rfl <| sB rfl <| o_ek (fr' := [(0, aL), (3, .box 0 0)]) rfl rfl <| w_seqw <| w_sr <| mL rfl ?_
 obtain ⟨x1, hx1, h2⟩ := bind_s h
 refine o_v (ov_call (v := aB) rfl (w_law44xlarge hx1) ⟨lr, trivial⟩ rfl rfl rfl) <| o_ek (fr' := [(0, aL), (3, .box 0 0), (6, aB)]) rfl rfl <| w_ch h2 rfl (fun hb3 h3 => ?_) (fun hb3 h3 => ?_)
 ·
  refine w_seqw <| w_region ?_
  obtain ⟨x4, hx4, h5⟩ := bind_s h3
  refine o_v (ov_call (v := aB) rfl (w_law44xworks hx4) trivial rfl rfl rfl) <| sB rfl <| o_ek (fr' := [(4, aB)]) rfl rfl <| w_ret <| e_seq_r ?_
  obtain rfl := sy h5
  exact e_ret (rs' := [.tmp 4]) rfl <| r_tmp (v := aB) rfl <| r_nil <| fin_gen [] rfl rfl rfl lr st_nil
 ·
  refine w_skip <| e_kw <| w_seqw <| w_planT [.q 0, .q 1, .q 2, .q 3, .q 4, .q 5, .q 6, .q 7, .q 8, .q 9, .n 10 []] [(some 8, [0]), (some 9, [3]), (some 10, [8, 9]), (some 11, [0]), (some 12, [3]), (some 13, [11, 12]), (some 14, [10, 13]), (some 15, [14]), (some 16, [15]), (some 17, [15, 16]), (some 4, [17])] [0, 0, 3, 0, 0, 31, 63, 127, 255, 511, 1023] (by kernel_rfl) <| dq rfl rfl (p_move (v := aL) rfl) <| dq rfl rfl (p_loads (us := aIISSSSIIIIIISLLSIIIIIIIILLS) tv44 rfl rfl rfl rfl) ?_
  obtain ⟨x7, hx7, h8⟩ := bind_s h3
  refine d_q rfl (qv_call (v := aI) rfl (w_chain_Decide hx7) ⟨lr, (le_aggc rfl ⟨rfl, rfl, rfl, rfl, rfl, rfl, rfl, rfl, rfl, rfl, rfl, rfl, rfl, rfl, rfl, rfl, rfl, rfl, rfl, rfl, rfl, rfl, rfl, rfl, rfl, rfl, rfl, trivial⟩), trivial⟩ rfl) <| dq rfl rfl (p_move (v := aL) rfl) <| dq rfl rfl (p_loads (us := aIISSSSIIIIIISLLSIIIIIIIILLS) tv44 rfl rfl rfl rfl) ?_
  obtain ⟨x9, hx9, h10⟩ := bind_s h8
  refine d_q rfl (qv_call (v := aI) rfl (w_ref44xDecide hx9) ⟨lr, (le_aggc rfl ⟨rfl, rfl, rfl, rfl, rfl, rfl, rfl, rfl, rfl, rfl, rfl, rfl, rfl, rfl, rfl, rfl, rfl, rfl, rfl, rfl, rfl, rfl, rfl, rfl, rfl, rfl, rfl, trivial⟩), trivial⟩ rfl) <| dq rfl rfl (p_eql rfl rfl) <| dq rfl rfl (p_move (v := aB) rfl) ?_
  obtain ⟨x11, hx11, h12⟩ := bind_s h10
  refine d_g rfl rfl rfl (fun hc => qv_call (v := aB) rfl (w_law44xworks (gd_some hx11 hc)) trivial rfl) <| dq rfl rfl (p_picky rfl rfl rfl (fun e => keq e)) <| d_n rfl ?_ rfl
  refine sB rfl <| o_rc <| ⟨rc_nil, ?_⟩
  refine d_ek (fr' := [(4, aB)]) rfl rfl <| w_ret ?_
  obtain rfl := sy h12
  exact e_ret (rs' := [.tmp 4]) rfl <| r_tmp (v := aB) rfl <| r_nil <| fin_gen [] rfl rfl rfl lr st_nil
end Go.Proofs.YtopijeegnhighaaDoor

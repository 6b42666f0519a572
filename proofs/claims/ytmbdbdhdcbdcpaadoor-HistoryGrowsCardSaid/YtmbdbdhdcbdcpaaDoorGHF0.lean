import Derived.Test.YtmbdbdhdcbdcpaaDoorGHTy
namespace Go.Proofs.YtmbdbdhdcbdcpaaDoor
open Go Abs
set_option maxRecDepth 100000
set_option linter.unusedVariables false
set_option linter.unusedSimpArgs false
noncomputable def event_within (p0n : Int) (p1low : Int) (p2high : Int) : Option Bool :=
 some (cond (decide (p1low ≤ p0n)) (decide (p0n ≤ p2high)) false)
theorem w_event_within {p0n : Int} {p1low : Int} {p2high : Int} {res : Bool} (h : event_within p0n p1low p2high = some res) : ACalls Tryd.prog 111 [.c (.int .i64 p0n), .c (.int .i64 p1low), .c (.int .i64 p2high)] [] (.c (.bool res)) [] := by
 unfold event_within at h
 refine acalls (fn := Tryd.f111) [0, 1, 2, 6] (by kernel_rfl) Tryd.func111 rfl (by kernel_rfl) (by kernel_rfl) <| w_sr <| sB rfl <| o_ek (fr' := [(0, aI), (1, aI), (2, aI)]) rfl rfl <| w_sr <| mI rfl <| mI rfl <| o_p rfl (p_geq rfl rfl) <| mB rfl <| og rfl rfl rfl (fun hc => (p_move (v := aI) rfl)) <| og rfl rfl rfl (fun hc => (p_move (v := aI) rfl)) ?_
 refine og rfl rfl rfl (fun hc => (p_leq (gx rfl hc) (gx rfl hc))) <| o_p rfl (p_picky rfl rfl rfl (fun e => keq e)) <| sB rfl <| o_ek (fr' := [(6, aB)]) rfl rfl <| w_ret ?_
 obtain rfl := sy h
 exact e_ret (rs' := [.tmp 6]) rfl <| r_tmp (v := aB) rfl <| r_nil <| fin_gen [] rfl rfl rfl lr st_nil
noncomputable def value_Depth_l1 (rec_value_Depth : ApiValue → Option Int) (p0v : ApiValue) (s4 : (Int × Int)) : Option (Step (Int × Int) Int) :=
 cond (decide (s4.2 < ((p0v.Items).length : Int))) ((idx p0v.Items s4.2).bind fun (x6 : ApiValue) => (rec_value_Depth x6).bind fun (x8 : Int) => some (Step.next ((if x8 > s4.1 then x8 else s4.1), (IntKind.wrap .i64 (s4.2 + (1 : Int)))))) (some (Step.out s4.1))
noncomputable def value_DepthF : Nat → ApiValue → Option Int
 | 0, _ => none
 | n + 1, p0v =>
  ((loopO (value_Depth_l1 (value_DepthF n) p0v) (((0 : Int), (0 : Int)))) : Option Int).bind fun (x1 : Int) => (some (IntKind.wrap .i64 (x1 + (1 : Int))))
theorem wF_value_Depth : ∀ n : Nat, (∀ {p0v : ApiValue} {res : Int}, value_DepthF n p0v = some res → ACalls Tryd.prog 149 [.agg (AV.cs (exApiValue p0v))] [] (.c (.int .i64 res)) []) := by
 intro n
 induction n with
 | zero => exact fun {p0v res} h => absurd h (by simp [value_DepthF])
 | succ n ih =>
  have ih_value_Depth := @ih
  intro p0v res h
  rw [value_DepthF] at h
  refine acalls (fn := Tryd.f149) [0, 1, 2, 3, 5, 7, 8, 9, 10] (by kernel_rfl) Tryd.func149 rfl (by kernel_rfl) (by kernel_rfl) <| w_sr <| o_box (v := .agg aIISLL) (n := 0) (cs := aIISLL) (σ' := [aIISLL]) rfl rfl rfl rfl rfl <| sI rfl <| o_ek (fr' := [(1, .box 0 0)]) rfl rfl <| w_sr <| sI rfl <| o_ek (fr' := [(1, .box 0 0), (3, aI)]) rfl rfl <| w_seqw <| w_seqw <| w_region ?_
  refine o_p rfl (p_fa tf112x3 rfl) <| o_p rfl (p_load (v := aL) tv109 rfl rfl rfl) <| o_p rfl (p_len ti109 (isl_c rfl)) <| mI rfl <| o_ek (fr' := [(3, aI), (7, aL), (8, aI), (9, aI)]) rfl rfl ?_
  obtain ⟨x1, hx1, h2⟩ := bind_s h
  refine w_jtail cl_kw (fun j3 => x1 = j3) (fun (j3 : Int) => ([(3, .c (.int .i64 j3))] : Fr)) (fun (j3 : Int) => ([[.c (.int .i64 p0v.Kind), .c (.int .i64 p0v.Int), .c (.str p0v.Text), .c (PV.ls 5 rowApiValue p0v.Items), .c (PV.ls 1 rowS p0v.Keys)]] : St)) ?_ ?_
  ·
   refine w_block <| w_loopo _ (fun (s4 : (Int × Int)) => ([(3, .c (.int .i64 s4.1)), (7, .c (PV.ls 5 rowApiValue p0v.Items)), (8, .c (.int .i64 ((p0v.Items).length : Int))), (9, .c (.int .i64 s4.2))] : Fr)) (fun (s4 : (Int × Int)) => ([[.c (.int .i64 p0v.Kind), .c (.int .i64 p0v.Int), .c (.str p0v.Text), .c (PV.ls 5 rowApiValue p0v.Items), .c (PV.ls 1 rowS p0v.Keys)]] : St)) hx1 (w_weak [] 1 rfl rfl rfl rfl ⟨lr, lr, lr, lr, trivial⟩ (st_r rfl st_nil)) ?_
   intro s4 st4 hs4 ho4
   unfold value_Depth_l1 at hs4
   refine w_sr <| o_p rfl (p_lss rfl rfl) <| o_ek (fr' := [(3, aI), (7, aL), (8, aI), (9, aI), (10, aB)]) rfl rfl <| w_seqw <| w_ch hs4 rfl (fun hb5 h5 => ?_) (fun hb5 h5 => ?_)
   ·
    refine w_skip <| e_kw <| w_seqw <| w_block <| w_seqw <| w_region ?_
    obtain ⟨x6, hx6, h7⟩ := bind_s h5
    refine o_p rfl (p_ia (cs := [PV.int _ _, PV.int _ _, PV.str _, PV.ls _ _ _, PV.ls _ _ _]) ts109 (isl_c rfl) rfl hx6 (rowApiValue_eq _)) <| o_p rfl (p_loades (us := [PV.int _ _, PV.int _ _, PV.str _, PV.ls _ _ _, PV.ls _ _ _]) tv112 rfl rfl rfl) <| o_alloc (n := 1) (cs := [aI, aI, aS, AV.nil, AV.nil]) (σ' := [aIISLL, [aI, aI, aS, AV.nil, AV.nil]]) tz112 rfl rfl rfl <| o_store (v := .agg aIISLL) (us := aIISLL) (cs := [aI, aI, aS, AV.nil, AV.nil]) (σ' := [aIISLL, aIISLL]) rfl tv112 rfl rfl rfl rfl rfl rfl rfl rfl <| o_ek (fr' := [(3, aI), (5, .box 1 0), (7, aL), (8, aI), (9, aI)]) rfl rfl <| w_region <| mI rfl <| o_p rfl (p_loads (us := aIISLL) tv112 rfl rfl rfl rfl) ?_
    obtain ⟨x8, hx8, h9⟩ := bind_s h7
    exact o_v (ov_call (v := aI) rfl (ih_value_Depth hx8) ⟨(le_aggc rfl ⟨rfl, rfl, rfl, rfl, rfl, trivial⟩), trivial⟩ rfl rfl rfl) <| o_p rfl (p_max rfl rfl) <| sI rfl <| o_end (fr' := [(3, aI), (5, .box 1 0), (7, aL), (8, aI), (9, aI)]) rfl <| e_blk_n <| e_kw <| w_region <| o_p rfl (p_add rfl rfl) <| mI rfl <| o_end (fr' := [(3, aI), (5, .box 1 0), (7, aL), (8, aI), (9, aI)]) rfl <| e_l _ (sy h9) (w_weak [] 1 rfl rfl rfl rfl ⟨lr, lr, lr, lr, trivial⟩ (st_r rfl st_nil))
   ·
    refine w_exit <| e_seq_x <| e_seq_x <| e_blk_h ?_
    have h10 := un_out h5 ho4
    exact e_j _ (sy h10) (w_weak [] 1 rfl rfl rfl rfl ⟨lr, trivial⟩ (st_r rfl st_nil))
  ·
   intro j3 hj11
   subst hj11
   refine e_kw <| w_sr <| mI rfl <| o_p rfl (p_add rfl rfl) <| sI rfl <| o_ek (fr' := [(2, aI)]) rfl rfl <| w_ret ?_
   obtain rfl := sy h2
   exact e_ret (rs' := [.tmp 2]) rfl <| r_tmp (v := aI) rfl <| r_nil <| fin_gen [] rfl rfl rfl lr st_nil
noncomputable def value_Depth (p0v : ApiValue) : Option Int := lim fun n => value_DepthF n p0v
theorem w_value_Depth {p0v : ApiValue} {res : Int} (h : value_Depth p0v = some res) : ACalls Tryd.prog 149 [.agg (AV.cs (exApiValue p0v))] [] (.c (.int .i64 res)) [] := by
 obtain ⟨n, hn⟩ := lim_some h
 exact (wF_value_Depth n) hn
noncomputable def value_Size_l1 (rec_value_Size : ApiValue → Option Int) (p0v : ApiValue) (s4 : (Int × Int)) : Option (Step (Int × Int) Int) :=
 cond (decide (s4.2 < ((p0v.Items).length : Int))) ((idx p0v.Items s4.2).bind fun (x6 : ApiValue) => (rec_value_Size x6).bind fun (x8 : Int) => some (Step.next ((IntKind.wrap .i64 (s4.1 + x8)), (IntKind.wrap .i64 (s4.2 + (1 : Int)))))) (some (Step.out s4.1))
noncomputable def value_SizeF : Nat → ApiValue → Option Int
 | 0, _ => none
 | n + 1, p0v =>
  ((loopO (value_Size_l1 (value_SizeF n) p0v) (((1 : Int), (0 : Int)))) : Option Int).bind fun (x1 : Int) => (some x1)
theorem wF_value_Size : ∀ n : Nat, (∀ {p0v : ApiValue} {res : Int}, value_SizeF n p0v = some res → ACalls Tryd.prog 150 [.agg (AV.cs (exApiValue p0v))] [] (.c (.int .i64 res)) []) := by
 intro n
 induction n with
 | zero => exact fun {p0v res} h => absurd h (by simp [value_SizeF])
 | succ n ih =>
  have ih_value_Size := @ih
  intro p0v res h
  rw [value_SizeF] at h
  refine acalls (fn := Tryd.f150) [0, 1, 2, 3, 5, 7, 8, 9, 10] (by kernel_rfl) Tryd.func150 rfl (by kernel_rfl) (by kernel_rfl) <| w_sr <| o_box (v := .agg aIISLL) (n := 0) (cs := aIISLL) (σ' := [aIISLL]) rfl rfl rfl rfl rfl <| sI rfl <| o_ek (fr' := [(1, .box 0 0)]) rfl rfl <| w_sr <| sI rfl <| o_ek (fr' := [(1, .box 0 0), (3, aI)]) rfl rfl <| w_seqw <| w_seqw <| w_region ?_
  refine o_p rfl (p_fa tf112x3 rfl) <| o_p rfl (p_load (v := aL) tv109 rfl rfl rfl) <| o_p rfl (p_len ti109 (isl_c rfl)) <| mI rfl <| o_ek (fr' := [(3, aI), (7, aL), (8, aI), (9, aI)]) rfl rfl ?_
  obtain ⟨x1, hx1, h2⟩ := bind_s h
  refine w_jtail cl_kw (fun j3 => x1 = j3) (fun (j3 : Int) => ([(3, .c (.int .i64 j3))] : Fr)) (fun (j3 : Int) => ([[.c (.int .i64 p0v.Kind), .c (.int .i64 p0v.Int), .c (.str p0v.Text), .c (PV.ls 5 rowApiValue p0v.Items), .c (PV.ls 1 rowS p0v.Keys)]] : St)) ?_ ?_
  ·
   refine w_block <| w_loopo _ (fun (s4 : (Int × Int)) => ([(3, .c (.int .i64 s4.1)), (7, .c (PV.ls 5 rowApiValue p0v.Items)), (8, .c (.int .i64 ((p0v.Items).length : Int))), (9, .c (.int .i64 s4.2))] : Fr)) (fun (s4 : (Int × Int)) => ([[.c (.int .i64 p0v.Kind), .c (.int .i64 p0v.Int), .c (.str p0v.Text), .c (PV.ls 5 rowApiValue p0v.Items), .c (PV.ls 1 rowS p0v.Keys)]] : St)) hx1 (w_weak [] 1 rfl rfl rfl rfl ⟨lr, lr, lr, lr, trivial⟩ (st_r rfl st_nil)) ?_
   intro s4 st4 hs4 ho4
   unfold value_Size_l1 at hs4
   refine w_sr <| o_p rfl (p_lss rfl rfl) <| o_ek (fr' := [(3, aI), (7, aL), (8, aI), (9, aI), (10, aB)]) rfl rfl <| w_seqw <| w_ch hs4 rfl (fun hb5 h5 => ?_) (fun hb5 h5 => ?_)
   ·
    refine w_skip <| e_kw <| w_seqw <| w_block <| w_seqw <| w_region ?_
    obtain ⟨x6, hx6, h7⟩ := bind_s h5
    refine o_p rfl (p_ia (cs := [PV.int _ _, PV.int _ _, PV.str _, PV.ls _ _ _, PV.ls _ _ _]) ts109 (isl_c rfl) rfl hx6 (rowApiValue_eq _)) <| o_p rfl (p_loades (us := [PV.int _ _, PV.int _ _, PV.str _, PV.ls _ _ _, PV.ls _ _ _]) tv112 rfl rfl rfl) <| o_alloc (n := 1) (cs := [aI, aI, aS, AV.nil, AV.nil]) (σ' := [aIISLL, [aI, aI, aS, AV.nil, AV.nil]]) tz112 rfl rfl rfl <| o_store (v := .agg aIISLL) (us := aIISLL) (cs := [aI, aI, aS, AV.nil, AV.nil]) (σ' := [aIISLL, aIISLL]) rfl tv112 rfl rfl rfl rfl rfl rfl rfl rfl <| o_ek (fr' := [(3, aI), (5, .box 1 0), (7, aL), (8, aI), (9, aI)]) rfl rfl <| w_region <| mI rfl <| o_p rfl (p_loads (us := aIISLL) tv112 rfl rfl rfl rfl) ?_
    obtain ⟨x8, hx8, h9⟩ := bind_s h7
    exact o_v (ov_call (v := aI) rfl (ih_value_Size hx8) ⟨(le_aggc rfl ⟨rfl, rfl, rfl, rfl, rfl, trivial⟩), trivial⟩ rfl rfl rfl) <| o_p rfl (p_add rfl rfl) <| sI rfl <| o_end (fr' := [(3, aI), (5, .box 1 0), (7, aL), (8, aI), (9, aI)]) rfl <| e_blk_n <| e_kw <| w_region <| o_p rfl (p_add rfl rfl) <| mI rfl <| o_end (fr' := [(3, aI), (5, .box 1 0), (7, aL), (8, aI), (9, aI)]) rfl <| e_l _ (sy h9) (w_weak [] 1 rfl rfl rfl rfl ⟨lr, lr, lr, lr, trivial⟩ (st_r rfl st_nil))
   ·
    refine w_exit <| e_seq_x <| e_seq_x <| e_blk_h ?_
    have h10 := un_out h5 ho4
    exact e_j _ (sy h10) (w_weak [] 1 rfl rfl rfl rfl ⟨lr, trivial⟩ (st_r rfl st_nil))
  ·
   intro j3 hj11
   subst hj11
   refine e_kw <| w_sr <| mI rfl <| sI rfl <| o_ek (fr' := [(2, aI)]) rfl rfl <| w_ret ?_
   obtain rfl := sy h2
   exact e_ret (rs' := [.tmp 2]) rfl <| r_tmp (v := aI) rfl <| r_nil <| fin_gen [] rfl rfl rfl lr st_nil
noncomputable def value_Size (p0v : ApiValue) : Option Int := lim fun n => value_SizeF n p0v
theorem w_value_Size {p0v : ApiValue} {res : Int} (h : value_Size p0v = some res) : ACalls Tryd.prog 150 [.agg (AV.cs (exApiValue p0v))] [] (.c (.int .i64 res)) [] := by
 obtain ⟨n, hn⟩ := lim_some h
 exact (wF_value_Size n) hn
noncomputable def value_short_1 (p0k : (List UInt8)) : Option Bool :=
 some (decide ((4096 : Int) < ((p0k).length : Int)))
theorem w_value_short_1 {p0k : (List UInt8)} {res : Bool} (h : value_short_1 p0k = some res) : ACalls Tryd.prog 175 [.c (.str p0k)] [] (.c (.bool res)) [] := by
 unfold value_short_1 at h
 refine acalls (fn := Tryd.f175) [0, 2] (by kernel_rfl) Tryd.func175 rfl (by kernel_rfl) (by kernel_rfl) <| w_sr <| sB rfl <| o_ek (fr' := [(0, aS)]) rfl rfl <| w_sr <| mS rfl <| o_p rfl (p_lens ti9 rfl) <| o_p rfl (p_gtr rfl rfl) <| sB rfl <| o_ek (fr' := [(2, aB)]) rfl rfl <| w_ret ?_
 obtain rfl := sy h
 exact e_ret (rs' := [.tmp 2]) rfl <| r_tmp (v := aB) rfl <| r_nil <| fin_gen [] rfl rfl rfl lr st_nil
noncomputable def slices_IndexFunc_string_string_value_short_1_l1 (p0s : (List (List UInt8))) (s4 : Int) : Option (Step Int (Fl Int Unit)) :=
 cond (decide (s4 < ((p0s).length : Int))) ((idx p0s s4).bind fun (x6 : (List UInt8)) => (value_short_1 x6).bind fun (x8 : Bool) => cond x8 (some (Step.out (Fl.done s4))) (some (Step.next (IntKind.wrap .i64 (s4 + (1 : Int)))))) (some (Step.out (Fl.go ())))
noncomputable def slices_IndexFunc_string_string_value_short_1 (p0s : (List (List UInt8))) : Option Int :=
 ((loopO (slices_IndexFunc_string_string_value_short_1_l1 p0s) ((0 : Int))) : Option (Fl Int Unit)).bind fun (x1 : (Fl Int Unit)) => Fl.next x1 (fun (j3 : Unit) => (some (-1 : Int)))
theorem w_slices_IndexFunc_string_string_value_short_1 {p0s : (List (List UInt8))} {res : Int} (h : slices_IndexFunc_string_string_value_short_1 p0s = some res) : ACalls Tryd.prog 183 [.c (PV.ls 1 rowS p0s), .fn 175 []] [] (.c (.int .i64 res)) [] := by
 unfold slices_IndexFunc_string_string_value_short_1 at h
 refine acalls (fn := Tryd.f183) [0, 1, 4, 5, 7, 8, 9, 16] (by kernel_rfl) Tryd.func183 rfl (by kernel_rfl) (by kernel_rfl) <| w_sr <| sI rfl <| o_ek (fr' := [(0, aL), (1, .fn _ [])]) rfl rfl <| w_seqw <| w_sr <| mL rfl <| o_p rfl (p_len ti110 (isl_c rfl)) <| mI rfl <| o_ek (fr' := [(0, aL), (1, .fn _ []), (7, aI), (8, aI)]) rfl rfl ?_
 obtain ⟨x1, hx1, h2⟩ := bind_s h
 refine w_jtail cl_kw (fun j3 => x1 = Fl.go j3) (fun (j3 : Unit) => ([] : Fr)) (fun (j3 : Unit) => ([] : St)) ?_ ?_
 ·
  refine w_block <| w_loopo _ (fun (s4 : Int) => ([(0, .c (PV.ls 1 rowS p0s)), (1, .fn 175 []), (7, .c (.int .i64 ((p0s).length : Int))), (8, .c (.int .i64 s4))] : Fr)) (fun (s4 : Int) => ([] : St)) hx1 (w_weak [] 0 rfl rfl rfl rfl ⟨lr, lr, lr, lr, trivial⟩ st_nil) ?_
  intro s4 st4 hs4 ho4
  unfold slices_IndexFunc_string_string_value_short_1_l1 at hs4
  refine w_sr <| o_p rfl (p_lss rfl rfl) <| o_ek (fr' := [(0, aL), (1, .fn _ []), (7, aI), (8, aI), (9, aB)]) rfl rfl <| w_seqw <| w_ch hs4 rfl (fun hb5 h5 => ?_) (fun hb5 h5 => ?_)
  ·
   refine w_skip <| e_kw <| w_seqw <| w_block <| w_sr <| mI rfl <| sI rfl <| o_ek (fr' := [(0, aL), (1, .fn _ []), (5, aI), (7, aI), (8, aI)]) rfl rfl <| w_sr <| mV (v := .fn _ []) rfl <| mL rfl ?_
   refine mI rfl ?_
   obtain ⟨x6, hx6, h7⟩ := bind_s h5
   refine o_p rfl (p_ia (cs := [PV.str _]) ts110 (isl_c rfl) rfl hx6 rfl) <| o_p rfl (p_loade (p := PV.str _) tv9 rfl rfl) ?_
   obtain ⟨x8, hx8, h9⟩ := bind_s h7
   refine o_v (ov_call (v := aB) rfl (w_value_short_1 hx8) ⟨lr, trivial⟩ rfl rfl rfl) <| o_ek (fr' := [(0, aL), (1, .fn _ []), (5, aI), (7, aI), (8, aI), (16, aB)]) rfl rfl <| w_ch h9 rfl (fun hb10 h10 => ?_) (fun hb10 h10 => ?_)
   ·
    refine w_sr <| mI rfl <| sI rfl <| o_ek (fr' := [(4, aI)]) rfl rfl <| w_ret <| e_blk_r <| e_seq_r <| e_seq_r <| e_blk_r <| e_seq_r <| e_seq_r ?_
    have h11 := un_out h10 ho4
    have h12 := un_done h11 h2
    obtain rfl := sy h12
    exact e_ret (rs' := [.tmp 4]) rfl <| r_tmp (v := aI) rfl <| r_nil <| fin_gen [] rfl rfl rfl lr st_nil
   ·
    exact w_skip <| e_blk_n <| e_kw <| w_region <| o_p rfl (p_add rfl rfl) <| mI rfl <| o_end (fr' := [(0, aL), (1, .fn _ []), (5, aI), (7, aI), (8, aI), (16, aB)]) rfl <| e_l _ (sy h10) (w_weak [] 0 rfl rfl rfl rfl ⟨lr, lr, lr, lr, trivial⟩ st_nil)
  ·
   refine w_exit <| e_seq_x <| e_seq_x <| e_blk_h ?_
   have h14 := un_out h5 ho4
   exact e_j _ (sy h14) (w_weak [] 0 rfl rfl rfl rfl trivial st_nil)
 ·
  intro j3 hj15
  have h15 := un_go hj15 h2
  refine e_kw <| w_sr <| sI rfl <| o_ek (fr' := [(4, aI)]) rfl rfl <| w_ret ?_
  obtain rfl := sy h15
  exact e_ret (rs' := [.tmp 4]) rfl <| r_tmp (v := aI) rfl <| r_nil <| fin_gen [] rfl rfl rfl lr st_nil
noncomputable def slices_ContainsFunc_string_string_value_short_1 (p0s : (List (List UInt8))) : Option Bool :=
 (slices_IndexFunc_string_string_value_short_1 p0s).bind fun (x1 : Int) => some (decide ((0 : Int) ≤ x1))
theorem w_slices_ContainsFunc_string_string_value_short_1 {p0s : (List (List UInt8))} {res : Bool} (h : slices_ContainsFunc_string_string_value_short_1 p0s = some res) : ACalls Tryd.prog 174 [.c (PV.ls 1 rowS p0s), .fn 175 []] [] (.c (.bool res)) [] := by
 unfold slices_ContainsFunc_string_string_value_short_1 at h
 refine acalls (fn := Tryd.f174) [0, 1, 4] (by kernel_rfl) Tryd.func174 rfl (by kernel_rfl) (by kernel_rfl) <| w_sr <| sB rfl <| o_ek (fr' := [(0, aL), (1, .fn _ [])]) rfl rfl <| w_sr <| mL rfl <| mV (v := .fn _ []) rfl ?_
 obtain ⟨x1, hx1, h2⟩ := bind_s h
 refine o_v (ov_call (v := aI) rfl (w_slices_IndexFunc_string_string_value_short_1 hx1) ⟨lr, lr, trivial⟩ rfl rfl rfl) <| o_p rfl (p_geq rfl rfl) <| sB rfl <| o_ek (fr' := [(4, aB)]) rfl rfl <| w_ret ?_
 obtain rfl := sy h2
 exact e_ret (rs' := [.tmp 4]) rfl <| r_tmp (v := aB) rfl <| r_nil <| fin_gen [] rfl rfl rfl lr st_nil
noncomputable def slices_IndexFunc_api_Value_api_Value_value_short_2_l1 (rec_value_short_2 : ApiValue → Option Bool) (p0s : (List ApiValue)) (s4 : Int) : Option (Step Int (Fl Int Unit)) :=
 cond (decide (s4 < ((p0s).length : Int))) ((idx p0s s4).bind fun (x6 : ApiValue) => (rec_value_short_2 x6).bind fun (x8 : Bool) => cond x8 (some (Step.out (Fl.done s4))) (some (Step.next (IntKind.wrap .i64 (s4 + (1 : Int)))))) (some (Step.out (Fl.go ())))
mutual
noncomputable def slices_ContainsFunc_api_Value_api_Value_value_short_2F : Nat → (List ApiValue) → Option Bool
 | 0, _ => none
 | n + 1, p0s =>
  ((slices_IndexFunc_api_Value_api_Value_value_short_2F n) p0s).bind fun (x1 : Int) => some (decide ((0 : Int) ≤ x1))
noncomputable def slices_IndexFunc_api_Value_api_Value_value_short_2F : Nat → (List ApiValue) → Option Int
 | 0, _ => none
 | n + 1, p0s =>
  ((loopO (slices_IndexFunc_api_Value_api_Value_value_short_2_l1 (value_short_2F n) p0s) ((0 : Int))) : Option (Fl Int Unit)).bind fun (x1 : (Fl Int Unit)) => Fl.next x1 (fun (j3 : Unit) => (some (-1 : Int)))
noncomputable def value_shortF : Nat → ApiValue → Option Bool
 | 0, _ => none
 | n + 1, p0v =>
  (gd ((decide ((4096 : Int) < ((p0v.Text).length : Int))) == false) (slices_ContainsFunc_string_string_value_short_1 p0v.Keys)).bind fun (x1 : Bool) => cond (cond (decide ((4096 : Int) < ((p0v.Text).length : Int))) true x1) (some false) (((slices_ContainsFunc_api_Value_api_Value_value_short_2F n) p0v.Items).bind fun (x5 : Bool) => some (!x5))
noncomputable def value_short_2F : Nat → ApiValue → Option Bool
 | 0, _ => none
 | n + 1, p0x =>
  ((value_shortF n) p0x).bind fun (x1 : Bool) => some (!x1)
end
theorem wF_slices_ContainsFunc_api_Value_api_Value_value_short_2 : ∀ n : Nat, (∀ {p0s : (List ApiValue)} {res : Bool}, slices_ContainsFunc_api_Value_api_Value_value_short_2F n p0s = some res → ACalls Tryd.prog 153 [.c (PV.ls 5 rowApiValue p0s), .fn 176 []] [] (.c (.bool res)) []) ∧ (∀ {p0s : (List ApiValue)} {res : Int}, slices_IndexFunc_api_Value_api_Value_value_short_2F n p0s = some res → ACalls Tryd.prog 177 [.c (PV.ls 5 rowApiValue p0s), .fn 176 []] [] (.c (.int .i64 res)) []) ∧ (∀ {p0v : ApiValue} {res : Bool}, value_shortF n p0v = some res → ACalls Tryd.prog 151 [.agg (AV.cs (exApiValue p0v))] [] (.c (.bool res)) []) ∧ (∀ {p0x : ApiValue} {res : Bool}, value_short_2F n p0x = some res → ACalls Tryd.prog 176 [.agg (AV.cs (exApiValue p0x))] [] (.c (.bool res)) []) := by
 intro n
 induction n with
 | zero => exact ⟨fun {p0s res} h => absurd h (by simp [slices_ContainsFunc_api_Value_api_Value_value_short_2F]), fun {p0s res} h => absurd h (by simp [slices_IndexFunc_api_Value_api_Value_value_short_2F]), fun {p0v res} h => absurd h (by simp [value_shortF]), fun {p0x res} h => absurd h (by simp [value_short_2F])⟩
 | succ n ih =>
  obtain ⟨ih_slices_ContainsFunc_api_Value_api_Value_value_short_2, ih_slices_IndexFunc_api_Value_api_Value_value_short_2, ih_value_short, ih_value_short_2⟩ := ih
  refine ⟨?_, ?_, ?_, ?_⟩
  ·
   intro p0s res h
   rw [slices_ContainsFunc_api_Value_api_Value_value_short_2F] at h
   refine acalls (fn := Tryd.f153) [0, 1, 4] (by kernel_rfl) Tryd.func153 rfl (by kernel_rfl) (by kernel_rfl) <| w_sr <| sB rfl <| o_ek (fr' := [(0, aL), (1, .fn _ [])]) rfl rfl <| w_sr <| mL rfl <| mV (v := .fn _ []) rfl ?_
   obtain ⟨x1, hx1, h2⟩ := bind_s h
   refine o_v (ov_call (v := aI) rfl (ih_slices_IndexFunc_api_Value_api_Value_value_short_2 hx1) ⟨lr, lr, trivial⟩ rfl rfl rfl) <| o_p rfl (p_geq rfl rfl) <| sB rfl <| o_ek (fr' := [(4, aB)]) rfl rfl <| w_ret ?_
   obtain rfl := sy h2
   exact e_ret (rs' := [.tmp 4]) rfl <| r_tmp (v := aB) rfl <| r_nil <| fin_gen [] rfl rfl rfl lr st_nil
  ·
   intro p0s res h
   rw [slices_IndexFunc_api_Value_api_Value_value_short_2F] at h
   refine acalls (fn := Tryd.f177) [0, 1, 4, 5, 7, 8, 9, 16] (by kernel_rfl) Tryd.func177 rfl (by kernel_rfl) (by kernel_rfl) <| w_sr <| sI rfl <| o_ek (fr' := [(0, aL), (1, .fn _ [])]) rfl rfl <| w_seqw <| w_sr <| mL rfl <| o_p rfl (p_len ti109 (isl_c rfl)) <| mI rfl <| o_ek (fr' := [(0, aL), (1, .fn _ []), (7, aI), (8, aI)]) rfl rfl ?_
   obtain ⟨x1, hx1, h2⟩ := bind_s h
   refine w_jtail cl_kw (fun j3 => x1 = Fl.go j3) (fun (j3 : Unit) => ([] : Fr)) (fun (j3 : Unit) => ([] : St)) ?_ ?_
   ·
    refine w_block <| w_loopo _ (fun (s4 : Int) => ([(0, .c (PV.ls 5 rowApiValue p0s)), (1, .fn 176 []), (7, .c (.int .i64 ((p0s).length : Int))), (8, .c (.int .i64 s4))] : Fr)) (fun (s4 : Int) => ([] : St)) hx1 (w_weak [] 0 rfl rfl rfl rfl ⟨lr, lr, lr, lr, trivial⟩ st_nil) ?_
    intro s4 st4 hs4 ho4
    unfold slices_IndexFunc_api_Value_api_Value_value_short_2_l1 at hs4
    refine w_sr <| o_p rfl (p_lss rfl rfl) <| o_ek (fr' := [(0, aL), (1, .fn _ []), (7, aI), (8, aI), (9, aB)]) rfl rfl <| w_seqw <| w_ch hs4 rfl (fun hb5 h5 => ?_) (fun hb5 h5 => ?_)
    ·
     refine w_skip <| e_kw <| w_seqw <| w_block <| w_sr <| mI rfl <| sI rfl <| o_ek (fr' := [(0, aL), (1, .fn _ []), (5, aI), (7, aI), (8, aI)]) rfl rfl <| w_sr <| mV (v := .fn _ []) rfl <| mL rfl ?_
     refine mI rfl ?_
     obtain ⟨x6, hx6, h7⟩ := bind_s h5
     refine o_p rfl (p_ia (cs := [PV.int _ _, PV.int _ _, PV.str _, PV.ls _ _ _, PV.ls _ _ _]) ts109 (isl_c rfl) rfl hx6 (rowApiValue_eq _)) <| o_p rfl (p_loades (us := [PV.int _ _, PV.int _ _, PV.str _, PV.ls _ _ _, PV.ls _ _ _]) tv112 rfl rfl rfl) ?_
     obtain ⟨x8, hx8, h9⟩ := bind_s h7
     refine o_v (ov_call (v := aB) rfl (ih_value_short_2 hx8) ⟨(le_aggc rfl ⟨rfl, rfl, rfl, rfl, rfl, trivial⟩), trivial⟩ rfl rfl rfl) <| o_ek (fr' := [(0, aL), (1, .fn _ []), (5, aI), (7, aI), (8, aI), (16, aB)]) rfl rfl <| w_ch h9 rfl (fun hb10 h10 => ?_) (fun hb10 h10 => ?_)
     ·
      refine w_sr <| mI rfl <| sI rfl <| o_ek (fr' := [(4, aI)]) rfl rfl <| w_ret <| e_blk_r <| e_seq_r <| e_seq_r <| e_blk_r <| e_seq_r <| e_seq_r ?_
      have h11 := un_out h10 ho4
      have h12 := un_done h11 h2
      obtain rfl := sy h12
      exact e_ret (rs' := [.tmp 4]) rfl <| r_tmp (v := aI) rfl <| r_nil <| fin_gen [] rfl rfl rfl lr st_nil
     ·
      exact w_skip <| e_blk_n <| e_kw <| w_region <| o_p rfl (p_add rfl rfl) <| mI rfl <| o_end (fr' := [(0, aL), (1, .fn _ []), (5, aI), (7, aI), (8, aI), (16, aB)]) rfl <| e_l _ (sy h10) (w_weak [] 0 rfl rfl rfl rfl ⟨lr, lr, lr, lr, trivial⟩ st_nil)
    ·
     refine w_exit <| e_seq_x <| e_seq_x <| e_blk_h ?_
     have h14 := un_out h5 ho4
     exact e_j _ (sy h14) (w_weak [] 0 rfl rfl rfl rfl trivial st_nil)
   ·
    intro j3 hj15
    have h15 := un_go hj15 h2
    refine e_kw <| w_sr <| sI rfl <| o_ek (fr' := [(4, aI)]) rfl rfl <| w_ret ?_
    obtain rfl := sy h15
    exact e_ret (rs' := [.tmp 4]) rfl <| r_tmp (v := aI) rfl <| r_nil <| fin_gen [] rfl rfl rfl lr st_nil
  ·
   intro p0v res h
   rw [value_shortF] at h
   refine acalls (fn := Tryd.f151) [0, 1, 2, 11] (by kernel_rfl) Tryd.func151 rfl (by kernel_rfl) (by kernel_rfl) <| w_sr <| o_box (v := .agg aIISLL) (n := 0) (cs := aIISLL) (σ' := [aIISLL]) rfl rfl rfl rfl rfl <| sB rfl <| o_ek (fr' := [(1, .box 0 0)]) rfl rfl <| w_seqw <| w_sr <| o_p rfl (p_fa tf112x2 rfl) <| o_p rfl (p_load (v := aS) tv9 rfl rfl rfl) <| o_p rfl (p_lens ti9 rfl) <| o_p rfl (p_gtr rfl rfl) ?_
   refine mB rfl <| og rfl rfl rfl (fun hc => (p_fa tf112x4 rfl)) <| og rfl rfl rfl (fun hc => (p_load (v := aL) tv110 (gx rfl hc) rfl rfl)) ?_
   obtain ⟨x1, hx1, h2⟩ := bind_s h
   refine o_g rfl rfl (fun hc => ov_call (v := aB) rfl (w_slices_ContainsFunc_string_string_value_short_1 (gd_some hx1 hc)) ⟨(le_gv (gx rfl hc) lr), lr, trivial⟩ (ok_eq (by repeat (first | exact ok_nil | refine ok_cons rfl ?_ | refine ok_cons (dgv rfl) ?_ | refine ok_cons dar ?_))) rfl rfl) ?_
   refine o_p rfl (p_pickz rfl rfl rfl (fun e => keq e)) <| o_ek (fr' := [(1, .box 0 0), (11, aB)]) rfl rfl <| w_ch h2 rfl (fun hb3 h3 => ?_) (fun hb3 h3 => ?_)
   ·
    refine w_sr <| sB rfl <| o_ek (fr' := [(2, aB)]) rfl rfl <| w_ret <| e_seq_r ?_
    obtain rfl := sy h3
    exact e_ret (rs' := [.tmp 2]) rfl <| r_tmp (v := aB) rfl <| r_nil <| fin_gen [] rfl rfl rfl lr st_nil
   ·
    refine w_skip <| e_kw <| w_sr <| o_p rfl (p_fa tf112x3 rfl) <| o_p rfl (p_load (v := aL) tv109 rfl rfl rfl) ?_
    obtain ⟨x5, hx5, h6⟩ := bind_s h3
    refine o_v (ov_call (v := aB) rfl (ih_slices_ContainsFunc_api_Value_api_Value_value_short_2 hx5) ⟨lr, lr, trivial⟩ rfl rfl rfl) <| o_p rfl (p_not rfl) <| sB rfl <| o_ek (fr' := [(2, aB)]) rfl rfl <| w_ret ?_
    obtain rfl := sy h6
    exact e_ret (rs' := [.tmp 2]) rfl <| r_tmp (v := aB) rfl <| r_nil <| fin_gen [] rfl rfl rfl lr st_nil
  ·
   intro p0x res h
   rw [value_short_2F] at h
   refine acalls (fn := Tryd.f176) [0, 1, 2] (by kernel_rfl) Tryd.func176 rfl (by kernel_rfl) (by kernel_rfl) <| w_sr <| o_box (v := .agg aIISLL) (n := 0) (cs := aIISLL) (σ' := [aIISLL]) rfl rfl rfl rfl rfl <| sB rfl <| o_ek (fr' := [(1, .box 0 0)]) rfl rfl <| w_sr <| o_p rfl (p_loads (us := aIISLL) tv112 rfl rfl rfl rfl) ?_
   obtain ⟨x1, hx1, h2⟩ := bind_s h
   refine o_v (ov_call (v := aB) rfl (ih_value_short hx1) ⟨(le_aggc rfl ⟨rfl, rfl, rfl, rfl, rfl, trivial⟩), trivial⟩ rfl rfl rfl) <| o_p rfl (p_not rfl) <| sB rfl <| o_ek (fr' := [(2, aB)]) rfl rfl <| w_ret ?_
   obtain rfl := sy h2
   exact e_ret (rs' := [.tmp 2]) rfl <| r_tmp (v := aB) rfl <| r_nil <| fin_gen [] rfl rfl rfl lr st_nil
noncomputable def slices_ContainsFunc_api_Value_api_Value_value_short_2 (p0s : (List ApiValue)) : Option Bool := lim fun n => slices_ContainsFunc_api_Value_api_Value_value_short_2F n p0s
theorem w_slices_ContainsFunc_api_Value_api_Value_value_short_2 {p0s : (List ApiValue)} {res : Bool} (h : slices_ContainsFunc_api_Value_api_Value_value_short_2 p0s = some res) : ACalls Tryd.prog 153 [.c (PV.ls 5 rowApiValue p0s), .fn 176 []] [] (.c (.bool res)) [] := by
 obtain ⟨n, hn⟩ := lim_some h
 exact (wF_slices_ContainsFunc_api_Value_api_Value_value_short_2 n).1 hn
noncomputable def slices_IndexFunc_api_Value_api_Value_value_short_2 (p0s : (List ApiValue)) : Option Int := lim fun n => slices_IndexFunc_api_Value_api_Value_value_short_2F n p0s
theorem w_slices_IndexFunc_api_Value_api_Value_value_short_2 {p0s : (List ApiValue)} {res : Int} (h : slices_IndexFunc_api_Value_api_Value_value_short_2 p0s = some res) : ACalls Tryd.prog 177 [.c (PV.ls 5 rowApiValue p0s), .fn 176 []] [] (.c (.int .i64 res)) [] := by
 obtain ⟨n, hn⟩ := lim_some h
 exact (wF_slices_ContainsFunc_api_Value_api_Value_value_short_2 n).2.1 hn
noncomputable def value_short (p0v : ApiValue) : Option Bool := lim fun n => value_shortF n p0v
theorem w_value_short {p0v : ApiValue} {res : Bool} (h : value_short p0v = some res) : ACalls Tryd.prog 151 [.agg (AV.cs (exApiValue p0v))] [] (.c (.bool res)) [] := by
 obtain ⟨n, hn⟩ := lim_some h
 exact (wF_slices_ContainsFunc_api_Value_api_Value_value_short_2 n).2.2.1 hn
noncomputable def value_short_2 (p0x : ApiValue) : Option Bool := lim fun n => value_short_2F n p0x
theorem w_value_short_2 {p0x : ApiValue} {res : Bool} (h : value_short_2 p0x = some res) : ACalls Tryd.prog 176 [.agg (AV.cs (exApiValue p0x))] [] (.c (.bool res)) [] := by
 obtain ⟨n, hn⟩ := lim_some h
 exact (wF_slices_ContainsFunc_api_Value_api_Value_value_short_2 n).2.2.2 hn
noncomputable def value_within (p0v : ApiValue) : Option Bool :=
 (value_Depth p0v).bind fun (x1 : Int) => (gd ((decide (x1 ≤ (16 : Int))) == true) (value_Size p0v)).bind fun (x3 : Int) => (gd ((cond (decide (x1 ≤ (16 : Int))) (decide (x3 ≤ (1000 : Int))) false) == true) (value_short p0v)).bind fun (x5 : Bool) => some (cond (cond (decide (x1 ≤ (16 : Int))) (decide (x3 ≤ (1000 : Int))) false) x5 false)
theorem w_value_within {p0v : ApiValue} {res : Bool} (h : value_within p0v = some res) : ACalls Tryd.prog 130 [.agg (AV.cs (exApiValue p0v))] [] (.c (.bool res)) [] := by
 unfold value_within at h
 refine acalls (fn := Tryd.f130) [0, 1, 2] (by kernel_rfl) Tryd.func130 rfl (by kernel_rfl) (by kernel_rfl) <| w_sr <| o_box (v := .agg aIISLL) (n := 0) (cs := aIISLL) (σ' := [aIISLL]) rfl rfl rfl rfl rfl <| sB rfl <| o_ek (fr' := [(1, .box 0 0)]) rfl rfl <| w_sr <| o_p rfl (p_loads (us := aIISLL) tv112 rfl rfl rfl rfl) ?_
 obtain ⟨x1, hx1, h2⟩ := bind_s h
 refine o_v (ov_call (v := aI) rfl (w_value_Depth hx1) ⟨(le_aggc rfl ⟨rfl, rfl, rfl, rfl, rfl, trivial⟩), trivial⟩ rfl rfl rfl) <| o_p rfl (p_leq rfl rfl) <| mB rfl <| og rfl rfl rfl (fun hc => (p_loads (us := aIISLL) tv112 rfl rfl rfl rfl)) ?_
 obtain ⟨x3, hx3, h4⟩ := bind_s h2
 refine o_g rfl rfl (fun hc => ov_call (v := aI) rfl (w_value_Size (gd_some hx3 hc)) ⟨(le_gv (gx rfl hc) (le_aggc rfl ⟨rfl, rfl, rfl, rfl, rfl, trivial⟩)), trivial⟩ (ok_eq (by repeat (first | exact ok_nil | refine ok_cons rfl ?_ | refine ok_cons (dgv rfl) ?_ | refine ok_cons dar ?_))) rfl rfl) ?_
 refine og rfl rfl rfl (fun hc => (p_leq (gx rfl hc) rfl)) <| o_p rfl (p_picky rfl rfl rfl (fun e => keq e)) <| mB rfl <| og rfl rfl rfl (fun hc => (p_loads (us := aIISLL) tv112 rfl rfl rfl rfl)) ?_
 obtain ⟨x5, hx5, h6⟩ := bind_s h4
 refine o_g rfl rfl (fun hc => ov_call (v := aB) rfl (w_value_short (gd_some hx5 hc)) ⟨(le_gv (gx rfl hc) (le_aggc rfl ⟨rfl, rfl, rfl, rfl, rfl, trivial⟩)), trivial⟩ (ok_eq (by repeat (first | exact ok_nil | refine ok_cons rfl ?_ | refine ok_cons (dgv rfl) ?_ | refine ok_cons dar ?_))) rfl rfl) ?_
 refine o_p rfl (p_picky rfl rfl rfl (fun e => keq e)) <| sB rfl <| o_ek (fr' := [(2, aB)]) rfl rfl <| w_ret ?_
 obtain rfl := sy h6
 exact e_ret (rs' := [.tmp 2]) rfl <| r_tmp (v := aB) rfl <| r_nil <| fin_gen [] rfl rfl rfl lr st_nil
noncomputable def value_ascending_l1 (p0l : (List (List UInt8))) (s4 : Int) : Option (Step Int (Fl Bool Unit)) :=
 cond (decide (s4 < ((p0l).length : Int))) ((idx p0l (IntKind.wrap .i64 (s4 - (1 : Int)))).bind fun (x6 : (List UInt8)) => (idx p0l s4).bind fun (x8 : (List UInt8)) => cond (!Op.bytesLess x6 x8) (some (Step.out (Fl.done false))) (some (Step.next (IntKind.wrap .i64 (s4 + (1 : Int)))))) (some (Step.out (Fl.go ())))
noncomputable def value_ascending (p0l : (List (List UInt8))) : Option Bool :=
 ((loopO (value_ascending_l1 p0l) ((1 : Int))) : Option (Fl Bool Unit)).bind fun (x1 : (Fl Bool Unit)) => Fl.next x1 (fun (j3 : Unit) => (some true))
theorem w_value_ascending {p0l : (List (List UInt8))} {res : Bool} (h : value_ascending p0l = some res) : ACalls Tryd.prog 152 [.c (PV.ls 1 rowS p0l)] [] (.c (.bool res)) [] := by
 unfold value_ascending at h
 refine acalls (fn := Tryd.f152) [0, 2, 3, 7, 19] (by kernel_rfl) Tryd.func152 rfl (by kernel_rfl) (by kernel_rfl) <| w_sr <| sB rfl <| o_ek (fr' := [(0, aL)]) rfl rfl <| w_seqw <| w_sr <| sI rfl <| o_ek (fr' := [(0, aL), (3, aI)]) rfl rfl ?_
 obtain ⟨x1, hx1, h2⟩ := bind_s h
 refine w_jtail cl_kw (fun j3 => x1 = Fl.go j3) (fun (j3 : Unit) => ([] : Fr)) (fun (j3 : Unit) => ([] : St)) ?_ ?_
 ·
  refine w_block <| w_loopo _ (fun (s4 : Int) => ([(0, .c (PV.ls 1 rowS p0l)), (3, .c (.int .i64 s4))] : Fr)) (fun (s4 : Int) => ([] : St)) hx1 (w_weak [] 0 rfl rfl rfl rfl ⟨lr, lr, trivial⟩ st_nil) ?_
  intro s4 st4 hs4 ho4
  unfold value_ascending_l1 at hs4
  refine w_seqw <| w_sr <| mI rfl <| mL rfl <| o_p rfl (p_len ti110 (isl_c rfl)) <| o_p rfl (p_lss rfl rfl) <| o_ek (fr' := [(0, aL), (3, aI), (7, aB)]) rfl rfl <| w_ch hs4 rfl (fun hb5 h5 => ?_) (fun hb5 h5 => ?_)
  ·
   refine w_skip <| e_kw <| w_seqw <| w_block <| w_seqw <| w_planT [.q 0, .q 1, .q 2, .q 3, .q 4, .q 5, .q 6, .q 7, .q 8, .q 9] [(some 10, [0]), (some 11, [3]), (some 12, [11]), (some 13, [10, 12]), (some 14, [13]), (some 15, [0]), (some 16, [3]), (some 17, [15, 16]), (some 18, [17]), (some 19, [14, 18])] [0, 0, 2, 7, 15, 0, 0, 96, 224, 511] (by kernel_rfl) <| dq rfl rfl (p_move (v := aL) rfl) <| dq rfl rfl (p_move (v := aI) rfl) <| dq rfl rfl (p_sub rfl rfl) ?_
   obtain ⟨x6, hx6, h7⟩ := bind_s h5
   refine dq rfl rfl (p_ia (cs := [PV.str _]) ts110 (isl_c rfl) rfl hx6 rfl) <| dq rfl rfl (p_loade (p := PV.str _) tv9 rfl rfl) <| dq rfl rfl (p_move (v := aL) rfl) <| dq rfl rfl (p_move (v := aI) rfl) ?_
   obtain ⟨x8, hx8, h9⟩ := bind_s h7
   refine dq rfl rfl (p_ia (cs := [PV.str _]) ts110 (isl_c rfl) rfl hx8 rfl) <| dq rfl rfl (p_loade (p := PV.str _) tv9 rfl rfl) <| dq rfl rfl (p_sgeq rfl rfl) <| d_ek (fr' := [(0, aL), (3, aI), (19, aB)]) rfl rfl <| w_ch h9 rfl (fun hb10 h10 => ?_) (fun hb10 h10 => ?_)
   ·
    refine w_sr <| sB rfl <| o_ek (fr' := [(2, aB)]) rfl rfl <| w_ret <| e_blk_r <| e_seq_r <| e_seq_r <| e_blk_r <| e_seq_r <| e_seq_r ?_
    have h11 := un_out h10 ho4
    have h12 := un_done h11 h2
    obtain rfl := sy h12
    exact e_ret (rs' := [.tmp 2]) rfl <| r_tmp (v := aB) rfl <| r_nil <| fin_gen [] rfl rfl rfl lr st_nil
   ·
    exact w_skip <| e_blk_n <| e_kw <| w_region <| mI rfl <| o_p rfl (p_add rfl rfl) <| sI rfl <| o_end (fr' := [(0, aL), (3, aI), (19, aB)]) rfl <| e_l _ (sy h10) (w_weak [] 0 rfl rfl rfl rfl ⟨lr, lr, trivial⟩ st_nil)
  ·
   refine w_exit <| e_seq_x <| e_seq_x <| e_blk_h ?_
   have h14 := un_out h5 ho4
   exact e_j _ (sy h14) (w_weak [] 0 rfl rfl rfl rfl trivial st_nil)
 ·
  intro j3 hj15
  have h15 := un_go hj15 h2
  refine e_kw <| w_sr <| sB rfl <| o_ek (fr' := [(2, aB)]) rfl rfl <| w_ret ?_
  obtain rfl := sy h15
  exact e_ret (rs' := [.tmp 2]) rfl <| r_tmp (v := aB) rfl <| r_nil <| fin_gen [] rfl rfl rfl lr st_nil
noncomputable def slices_IndexFunc_api_Value_api_Value_value_formed_1_l1 (rec_value_formed_1 : ApiValue → Bool → Option Bool) (p0s : (List ApiValue)) (p100vx0 : Bool) (s4 : Int) : Option (Step Int (Fl Int Unit)) :=
 cond (decide (s4 < ((p0s).length : Int))) ((idx p0s s4).bind fun (x6 : ApiValue) => (rec_value_formed_1 x6 p100vx0).bind fun (x8 : Bool) => cond x8 (some (Step.out (Fl.done s4))) (some (Step.next (IntKind.wrap .i64 (s4 + (1 : Int)))))) (some (Step.out (Fl.go ())))
mutual
noncomputable def slices_ContainsFunc_api_Value_api_Value_value_formed_1F : Nat → (List ApiValue) → Bool → Option Bool
 | 0, _, _ => none
 | n + 1, p0s, p100vx0 =>
  ((slices_IndexFunc_api_Value_api_Value_value_formed_1F n) p0s p100vx0).bind fun (x1 : Int) => some (decide ((0 : Int) ≤ x1))
noncomputable def slices_IndexFunc_api_Value_api_Value_value_formed_1F : Nat → (List ApiValue) → Bool → Option Int
 | 0, _, _ => none
 | n + 1, p0s, p100vx0 =>
  ((loopO (slices_IndexFunc_api_Value_api_Value_value_formed_1_l1 (value_formed_1F n) p0s p100vx0) ((0 : Int))) : Option (Fl Int Unit)).bind fun (x1 : (Fl Int Unit)) => Fl.next x1 (fun (j3 : Unit) => (some (-1 : Int)))
noncomputable def value_formedF : Nat → ApiValue → Bool → Option Bool
 | 0, _, _ => none
 | n + 1, p0C, p1o =>
  ((cond (decide (p0C.Kind = (0 : Int))) (some (Fl.done (cond (cond (cond (!(!decide (p0C.Int = (0 : Int)))) (!(!decide (p0C.Text = ([] : List UInt8)))) false) (!(decide ((0 : Int) < ((p0C.Items).length : Int)))) false) (!(decide ((0 : Int) < ((p0C.Keys).length : Int)))) false))) (cond (decide (p0C.Kind = (1 : Int))) (some (Fl.done (cond (cond (cond (cond (decide (p0C.Int = (0 : Int))) true (decide (p0C.Int = (1 : Int)))) (!(!decide (p0C.Text = ([] : List UInt8)))) false) (!(decide ((0 : Int) < ((p0C.Items).length : Int)))) false) (!(decide ((0 : Int) < ((p0C.Keys).length : Int)))) false))) (cond (decide (p0C.Kind = (2 : Int))) (some (Fl.done (cond (cond (!(!decide (p0C.Text = ([] : List UInt8)))) (!(decide ((0 : Int) < ((p0C.Items).length : Int)))) false) (!(decide ((0 : Int) < ((p0C.Keys).length : Int)))) false))) (cond (decide (p0C.Kind = (6 : Int))) (some (Fl.done (cond (cond (cond (cond p1o (decide ((0 : Int) ≤ p0C.Int)) false) (!(!decide (p0C.Text = ([] : List UInt8)))) false) (!(decide ((0 : Int) < ((p0C.Items).length : Int)))) false) (!(decide ((0 : Int) < ((p0C.Keys).length : Int)))) false))) (cond (decide (p0C.Kind = (3 : Int))) (some (Fl.done (cond (cond (!(!decide (p0C.Int = (0 : Int)))) (!(decide ((0 : Int) < ((p0C.Items).length : Int)))) false) (!(decide ((0 : Int) < ((p0C.Keys).length : Int)))) false))) (cond (decide (p0C.Kind = (4 : Int))) (cond (cond (cond (!decide (p0C.Int = (0 : Int))) true (!decide (p0C.Text = ([] : List UInt8)))) true (decide ((0 : Int) < ((p0C.Keys).length : Int)))) (some (Fl.done false)) (some (Fl.go ()))) (cond (decide (p0C.Kind = (5 : Int))) ((gd ((cond (cond (!decide (p0C.Int = (0 : Int))) true (!decide (p0C.Text = ([] : List UInt8)))) true (!decide (((p0C.Keys).length : Int) = ((p0C.Items).length : Int)))) == false) (value_ascending p0C.Keys)).bind fun (x24 : Bool) => cond (cond (cond (cond (!decide (p0C.Int = (0 : Int))) true (!decide (p0C.Text = ([] : List UInt8)))) true (!decide (((p0C.Keys).length : Int) = ((p0C.Items).length : Int)))) true (!x24)) (some (Fl.done false)) (some (Fl.go ()))) (some (Fl.done false))))))))) : Option (Fl Bool Unit)).bind fun (x1 : (Fl Bool Unit)) => Fl.next x1 (fun (j3 : Unit) => (((slices_ContainsFunc_api_Value_api_Value_value_formed_1F n) p0C.Items p1o).bind fun (x32 : Bool) => some (!x32)))
noncomputable def value_formed_1F : Nat → ApiValue → Bool → Option Bool
 | 0, _, _ => none
 | n + 1, p0x, p100vx0 =>
  ((value_formedF n) p0x p100vx0).bind fun (x1 : Bool) => some (!x1)
end
theorem wF_slices_ContainsFunc_api_Value_api_Value_value_formed_1 : ∀ n : Nat, (∀ {p0s : (List ApiValue)} {p100vx0 : Bool} {res : Bool}, slices_ContainsFunc_api_Value_api_Value_value_formed_1F n p0s p100vx0 = some res → ACalls Tryd.prog 153 [.c (PV.ls 5 rowApiValue p0s), .fn 154 [.box 0 0]] [[.c (.bool p100vx0)]] (.c (.bool res)) [[.c (.bool p100vx0)]]) ∧ (∀ {p0s : (List ApiValue)} {p100vx0 : Bool} {res : Int}, slices_IndexFunc_api_Value_api_Value_value_formed_1F n p0s p100vx0 = some res → ACalls Tryd.prog 177 [.c (PV.ls 5 rowApiValue p0s), .fn 154 [.box 0 0]] [[.c (.bool p100vx0)]] (.c (.int .i64 res)) [[.c (.bool p100vx0)]]) ∧ (∀ {p0C : ApiValue} {p1o : Bool} {res : Bool}, value_formedF n p0C p1o = some res → ACalls Tryd.prog 131 [.agg (AV.cs (exApiValue p0C)), .c (.bool p1o)] [] (.c (.bool res)) []) ∧ (∀ {p0x : ApiValue} {p100vx0 : Bool} {res : Bool}, value_formed_1F n p0x p100vx0 = some res → ACalls Tryd.prog 154 [.agg (AV.cs (exApiValue p0x)), .box 0 0] [[.c (.bool p100vx0)]] (.c (.bool res)) [[.c (.bool p100vx0)]]) := by
 intro n
 induction n with
 | zero => exact ⟨fun {p0s p100vx0 res} h => absurd h (by simp [slices_ContainsFunc_api_Value_api_Value_value_formed_1F]), fun {p0s p100vx0 res} h => absurd h (by simp [slices_IndexFunc_api_Value_api_Value_value_formed_1F]), fun {p0C p1o res} h => absurd h (by simp [value_formedF]), fun {p0x p100vx0 res} h => absurd h (by simp [value_formed_1F])⟩
 | succ n ih =>
  obtain ⟨ih_slices_ContainsFunc_api_Value_api_Value_value_formed_1, ih_slices_IndexFunc_api_Value_api_Value_value_formed_1, ih_value_formed, ih_value_formed_1⟩ := ih
  refine ⟨?_, ?_, ?_, ?_⟩
  ·
   intro p0s p100vx0 res h
   rw [slices_ContainsFunc_api_Value_api_Value_value_formed_1F] at h
   refine acalls (fn := Tryd.f153) [0, 1, 4] (by kernel_rfl) Tryd.func153 rfl (by kernel_rfl) (by kernel_rfl) <| w_sr <| sB rfl <| o_ek (fr' := [(0, aL), (1, .fn _ [.box 0 0])]) rfl rfl <| w_sr <| mL rfl <| mV (v := .fn _ [.box 0 0]) rfl ?_
   obtain ⟨x1, hx1, h2⟩ := bind_s h
   refine o_call (v := aI) (σ' := [[aB]]) [0] rfl (ih_slices_IndexFunc_api_Value_api_Value_value_formed_1 hx1) rfl rfl ⟨lr, (le_fnp rfl ⟨lr, trivial⟩), trivial⟩ (st_p ⟨lr, trivial⟩ st_nil) rfl rfl rfl <| o_p rfl (p_geq rfl rfl) <| sB rfl <| o_ek (fr' := [(4, aB)]) rfl rfl <| w_ret ?_
   obtain rfl := sy h2
   exact e_ret (rs' := [.tmp 4]) rfl <| r_tmp (v := aB) rfl <| r_nil <| fin_gen [] rfl rfl rfl lr (st_r rfl st_nil)
  ·
   intro p0s p100vx0 res h
   rw [slices_IndexFunc_api_Value_api_Value_value_formed_1F] at h
   refine acalls (fn := Tryd.f177) [0, 1, 4, 5, 7, 8, 9, 16] (by kernel_rfl) Tryd.func177 rfl (by kernel_rfl) (by kernel_rfl) <| w_sr <| sI rfl <| o_ek (fr' := [(0, aL), (1, .fn _ [.box 0 0])]) rfl rfl <| w_seqw <| w_sr <| mL rfl <| o_p rfl (p_len ti109 (isl_c rfl)) <| mI rfl <| o_ek (fr' := [(0, aL), (1, .fn _ [.box 0 0]), (7, aI), (8, aI)]) rfl rfl ?_
   obtain ⟨x1, hx1, h2⟩ := bind_s h
   refine w_jtail cl_kw (fun j3 => x1 = Fl.go j3) (fun (j3 : Unit) => ([] : Fr)) (fun (j3 : Unit) => ([[.c (.bool p100vx0)]] : St)) ?_ ?_
   ·
    refine w_block <| w_loopo _ (fun (s4 : Int) => ([(0, .c (PV.ls 5 rowApiValue p0s)), (1, .fn 154 [.box 0 0]), (7, .c (.int .i64 ((p0s).length : Int))), (8, .c (.int .i64 s4))] : Fr)) (fun (s4 : Int) => ([[.c (.bool p100vx0)]] : St)) hx1 (w_weak [] 1 rfl rfl rfl rfl ⟨lr, lr, lr, lr, trivial⟩ (st_r rfl st_nil)) ?_
    intro s4 st4 hs4 ho4
    unfold slices_IndexFunc_api_Value_api_Value_value_formed_1_l1 at hs4
    refine w_sr <| o_p rfl (p_lss rfl rfl) <| o_ek (fr' := [(0, aL), (1, .fn _ [.box 0 0]), (7, aI), (8, aI), (9, aB)]) rfl rfl <| w_seqw <| w_ch hs4 rfl (fun hb5 h5 => ?_) (fun hb5 h5 => ?_)
    ·
     refine w_skip <| e_kw <| w_seqw <| w_block <| w_sr <| mI rfl <| sI rfl <| o_ek (fr' := [(0, aL), (1, .fn _ [.box 0 0]), (5, aI), (7, aI), (8, aI)]) rfl rfl <| w_sr <| mV (v := .fn _ [.box 0 0]) rfl <| mL rfl ?_
     refine mI rfl ?_
     obtain ⟨x6, hx6, h7⟩ := bind_s h5
     refine o_p rfl (p_ia (cs := [PV.int _ _, PV.int _ _, PV.str _, PV.ls _ _ _, PV.ls _ _ _]) ts109 (isl_c rfl) rfl hx6 (rowApiValue_eq _)) <| o_p rfl (p_loades (us := [PV.int _ _, PV.int _ _, PV.str _, PV.ls _ _ _, PV.ls _ _ _]) tv112 rfl rfl rfl) ?_
     obtain ⟨x8, hx8, h9⟩ := bind_s h7
     refine o_call (v := aB) (σ' := [[aB]]) [0] rfl (ih_value_formed_1 hx8) rfl rfl ⟨(le_aggc rfl ⟨rfl, rfl, rfl, rfl, rfl, trivial⟩), lr, trivial⟩ (st_p ⟨lr, trivial⟩ st_nil) rfl rfl rfl <| o_ek (fr' := [(0, aL), (1, .fn _ [.box 0 0]), (5, aI), (7, aI), (8, aI), (16, aB)]) rfl rfl <| w_ch h9 rfl (fun hb10 h10 => ?_) (fun hb10 h10 => ?_)
     ·
      refine w_sr <| mI rfl <| sI rfl <| o_ek (fr' := [(4, aI)]) rfl rfl <| w_ret <| e_blk_r <| e_seq_r <| e_seq_r <| e_blk_r <| e_seq_r <| e_seq_r ?_
      have h11 := un_out h10 ho4
      have h12 := un_done h11 h2
      obtain rfl := sy h12
      exact e_ret (rs' := [.tmp 4]) rfl <| r_tmp (v := aI) rfl <| r_nil <| fin_gen [] rfl rfl rfl lr (st_r rfl st_nil)
     ·
      exact w_skip <| e_blk_n <| e_kw <| w_region <| o_p rfl (p_add rfl rfl) <| mI rfl <| o_end (fr' := [(0, aL), (1, .fn _ [.box 0 0]), (5, aI), (7, aI), (8, aI), (16, aB)]) rfl <| e_l _ (sy h10) (w_weak [] 1 rfl rfl rfl rfl ⟨lr, lr, lr, lr, trivial⟩ (st_r rfl st_nil))
    ·
     refine w_exit <| e_seq_x <| e_seq_x <| e_blk_h ?_
     have h14 := un_out h5 ho4
     exact e_j _ (sy h14) (w_weak [] 1 rfl rfl rfl rfl trivial (st_r rfl st_nil))
   ·
    intro j3 hj15
    have h15 := un_go hj15 h2
    refine e_kw <| w_sr <| sI rfl <| o_ek (fr' := [(4, aI)]) rfl rfl <| w_ret ?_
    obtain rfl := sy h15
    exact e_ret (rs' := [.tmp 4]) rfl <| r_tmp (v := aI) rfl <| r_nil <| fin_gen [] rfl rfl rfl lr (st_r rfl st_nil)
  ·
   intro p0C p1o res h
   rw [value_formedF] at h
   refine acalls (fn := Tryd.f131) [0, 1, 2, 3, 4, 5, 6, 7, 8, 24, 25, 41, 63, 75, 95, 107, 115, 116, 136] (by kernel_rfl) Tryd.func131 rfl (by kernel_rfl) (by kernel_rfl) <| w_sr <| o_box (v := .agg aIISLL) (n := 0) (cs := aIISLL) (σ' := [aIISLL]) rfl rfl rfl rfl rfl <| o_box (v := aB) (n := 1) (cs := [aB]) (σ' := [aIISLL, [aB]]) rfl rfl rfl rfl rfl <| sB rfl <| o_ek (fr' := [(2, .box 0 0), (3, .box 1 0)]) rfl rfl <| w_sr <| o_p rfl (p_fa tf112x1 rfl) <| o_p rfl (p_load (v := aI) tv3 rfl rfl rfl) <| o_p rfl (p_neq rfl rfl) <| sB rfl ?_
   refine o_ek (fr' := [(2, .box 0 0), (3, .box 1 0), (5, aB)]) rfl rfl <| w_sr <| o_p rfl (p_fa tf112x2 rfl) <| o_p rfl (p_load (v := aS) tv9 rfl rfl rfl) <| o_p rfl (p_sneq rfl rfl) <| sB rfl <| o_ek (fr' := [(2, .box 0 0), (3, .box 1 0), (5, aB), (6, aB)]) rfl rfl <| w_sr <| o_p rfl (p_fa tf112x3 rfl) <| o_p rfl (p_load (v := aL) tv109 rfl rfl rfl) <| o_p rfl (p_len ti109 (isl_c rfl)) ?_
   refine o_p rfl (p_gtr rfl rfl) <| sB rfl <| o_ek (fr' := [(2, .box 0 0), (3, .box 1 0), (5, aB), (6, aB), (7, aB)]) rfl rfl <| w_sr <| o_p rfl (p_fa tf112x4 rfl) <| o_p rfl (p_load (v := aL) tv110 rfl rfl rfl) <| o_p rfl (p_len ti110 (isl_c rfl)) <| o_p rfl (p_gtr rfl rfl) <| sB rfl <| o_ek (fr' := [(2, .box 0 0), (3, .box 1 0), (5, aB), (6, aB), (7, aB), (8, aB)]) rfl rfl ?_
   obtain ⟨x1, hx1, h2⟩ := bind_s h
   refine w_join (fun j3 => x1 = Fl.go j3) (fun (j3 : Unit) => ([(2, .box 0 0), (3, .box 1 0)] : Fr)) (fun (j3 : Unit) => ([[.c (.int .i64 p0C.Kind), .c (.int .i64 p0C.Int), .c (.str p0C.Text), .c (PV.ls 5 rowApiValue p0C.Items), .c (PV.ls 1 rowS p0C.Keys)], [.c (.bool p1o)]] : St)) ?_ ?_
   ·
    refine w_sr <| o_p rfl (p_fa tf112x0 rfl) <| o_p rfl (p_load (v := aI) tv3 rfl rfl rfl) <| o_ek (fr' := [(2, .box 0 0), (3, .box 1 0), (5, aB), (6, aB), (7, aB), (8, aB), (24, aI)]) rfl rfl <| w_block <| w_sr <| o_p rfl (p_eql rfl rfl) <| sB rfl <| o_ek (fr' := [(2, .box 0 0), (3, .box 1 0), (5, aB), (6, aB), (7, aB), (8, aB), (24, aI), (25, aB)]) rfl rfl <| w_ch hx1 rfl (fun hb4 h4 => ?_) (fun hb4 h4 => ?_)
    ·
     refine w_sr <| mB rfl <| o_p rfl (p_not rfl) <| mB rfl <| og rfl rfl rfl (fun hc => (p_move (v := aB) rfl)) <| og rfl rfl rfl (fun hc => (p_not (gx rfl hc))) <| o_p rfl (p_picky rfl rfl rfl (fun e => keq e)) <| mB rfl <| og rfl rfl rfl (fun hc => (p_move (v := aB) rfl)) <| og rfl rfl rfl (fun hc => (p_not (gx rfl hc))) <| o_p rfl (p_picky rfl rfl rfl (fun e => keq e)) <| mB rfl ?_
     refine og rfl rfl rfl (fun hc => (p_move (v := aB) rfl)) <| og rfl rfl rfl (fun hc => (p_not (gx rfl hc))) <| o_p rfl (p_picky rfl rfl rfl (fun e => keq e)) <| sB rfl <| o_ek (fr' := [(4, aB)]) rfl rfl <| w_ret <| e_blk_r <| e_seq_r ?_
     have h5 := un_done h4 h2
     obtain rfl := sy h5
     exact e_ret (rs' := [.tmp 4]) rfl <| r_tmp (v := aB) rfl <| r_nil <| fin_gen [] rfl rfl rfl lr st_nil
    ·
     refine w_sr <| o_p rfl (p_eql rfl rfl) <| sB rfl <| o_ek (fr' := [(2, .box 0 0), (3, .box 1 0), (5, aB), (6, aB), (7, aB), (8, aB), (24, aI), (41, aB)]) rfl rfl <| w_ch h4 rfl (fun hb7 h7 => ?_) (fun hb7 h7 => ?_)
     ·
      refine w_sr <| o_p rfl (p_fa tf112x1 rfl) <| o_p rfl (p_load (v := aI) tv3 rfl rfl rfl) <| o_p rfl (p_eql rfl rfl) <| mB rfl <| og rfl rfl rfl (fun hc => (p_fa tf112x1 rfl)) <| og rfl rfl rfl (fun hc => (p_load (v := aI) tv3 (gx rfl hc) rfl rfl)) <| og rfl rfl rfl (fun hc => (p_eql (gx rfl hc) rfl)) <| o_p rfl (p_pickz rfl rfl rfl (fun e => keq e)) <| mB rfl <| og rfl rfl rfl (fun hc => (p_move (v := aB) rfl)) <| og rfl rfl rfl (fun hc => (p_not (gx rfl hc))) ?_
      refine o_p rfl (p_picky rfl rfl rfl (fun e => keq e)) <| mB rfl <| og rfl rfl rfl (fun hc => (p_move (v := aB) rfl)) <| og rfl rfl rfl (fun hc => (p_not (gx rfl hc))) <| o_p rfl (p_picky rfl rfl rfl (fun e => keq e)) <| mB rfl <| og rfl rfl rfl (fun hc => (p_move (v := aB) rfl)) <| og rfl rfl rfl (fun hc => (p_not (gx rfl hc))) <| o_p rfl (p_picky rfl rfl rfl (fun e => keq e)) <| sB rfl <| o_ek (fr' := [(4, aB)]) rfl rfl <| w_ret <| e_blk_r ?_
      refine e_seq_r ?_
      have h8 := un_done h7 h2
      obtain rfl := sy h8
      exact e_ret (rs' := [.tmp 4]) rfl <| r_tmp (v := aB) rfl <| r_nil <| fin_gen [] rfl rfl rfl lr st_nil
     ·
      refine w_sr <| o_p rfl (p_eql rfl rfl) <| sB rfl <| o_ek (fr' := [(2, .box 0 0), (3, .box 1 0), (5, aB), (6, aB), (7, aB), (8, aB), (24, aI), (63, aB)]) rfl rfl <| w_ch h7 rfl (fun hb10 h10 => ?_) (fun hb10 h10 => ?_)
      ·
       refine w_sr <| mB rfl <| o_p rfl (p_not rfl) <| mB rfl <| og rfl rfl rfl (fun hc => (p_move (v := aB) rfl)) <| og rfl rfl rfl (fun hc => (p_not (gx rfl hc))) <| o_p rfl (p_picky rfl rfl rfl (fun e => keq e)) <| mB rfl <| og rfl rfl rfl (fun hc => (p_move (v := aB) rfl)) <| og rfl rfl rfl (fun hc => (p_not (gx rfl hc))) <| o_p rfl (p_picky rfl rfl rfl (fun e => keq e)) <| sB rfl ?_
       refine o_ek (fr' := [(4, aB)]) rfl rfl <| w_ret <| e_blk_r <| e_seq_r ?_
       have h11 := un_done h10 h2
       obtain rfl := sy h11
       exact e_ret (rs' := [.tmp 4]) rfl <| r_tmp (v := aB) rfl <| r_nil <| fin_gen [] rfl rfl rfl lr st_nil
      ·
       refine w_sr <| o_p rfl (p_eql rfl rfl) <| sB rfl <| o_ek (fr' := [(2, .box 0 0), (3, .box 1 0), (5, aB), (6, aB), (7, aB), (8, aB), (24, aI), (75, aB)]) rfl rfl <| w_ch h10 rfl (fun hb13 h13 => ?_) (fun hb13 h13 => ?_)
       ·
        refine w_sr <| o_p rfl (p_load (v := aB) tv4 rfl rfl rfl) <| mB rfl <| og rfl rfl rfl (fun hc => (p_fa tf112x1 rfl)) <| og rfl rfl rfl (fun hc => (p_load (v := aI) tv3 (gx rfl hc) rfl rfl)) <| og rfl rfl rfl (fun hc => (p_geq (gx rfl hc) rfl)) <| o_p rfl (p_picky rfl rfl rfl (fun e => keq e)) <| mB rfl <| og rfl rfl rfl (fun hc => (p_move (v := aB) rfl)) <| og rfl rfl rfl (fun hc => (p_not (gx rfl hc))) <| o_p rfl (p_picky rfl rfl rfl (fun e => keq e)) <| mB rfl ?_
        refine og rfl rfl rfl (fun hc => (p_move (v := aB) rfl)) <| og rfl rfl rfl (fun hc => (p_not (gx rfl hc))) <| o_p rfl (p_picky rfl rfl rfl (fun e => keq e)) <| mB rfl <| og rfl rfl rfl (fun hc => (p_move (v := aB) rfl)) <| og rfl rfl rfl (fun hc => (p_not (gx rfl hc))) <| o_p rfl (p_picky rfl rfl rfl (fun e => keq e)) <| sB rfl <| o_ek (fr' := [(4, aB)]) rfl rfl <| w_ret <| e_blk_r <| e_seq_r ?_
        have h14 := un_done h13 h2
        obtain rfl := sy h14
        exact e_ret (rs' := [.tmp 4]) rfl <| r_tmp (v := aB) rfl <| r_nil <| fin_gen [] rfl rfl rfl lr st_nil
       ·
        refine w_sr <| o_p rfl (p_eql rfl rfl) <| sB rfl <| o_ek (fr' := [(2, .box 0 0), (3, .box 1 0), (5, aB), (6, aB), (7, aB), (8, aB), (24, aI), (95, aB)]) rfl rfl <| w_ch h13 rfl (fun hb16 h16 => ?_) (fun hb16 h16 => ?_)
        ·
         refine w_sr <| mB rfl <| o_p rfl (p_not rfl) <| mB rfl <| og rfl rfl rfl (fun hc => (p_move (v := aB) rfl)) <| og rfl rfl rfl (fun hc => (p_not (gx rfl hc))) <| o_p rfl (p_picky rfl rfl rfl (fun e => keq e)) <| mB rfl <| og rfl rfl rfl (fun hc => (p_move (v := aB) rfl)) <| og rfl rfl rfl (fun hc => (p_not (gx rfl hc))) <| o_p rfl (p_picky rfl rfl rfl (fun e => keq e)) <| sB rfl ?_
         refine o_ek (fr' := [(4, aB)]) rfl rfl <| w_ret <| e_blk_r <| e_seq_r ?_
         have h17 := un_done h16 h2
         obtain rfl := sy h17
         exact e_ret (rs' := [.tmp 4]) rfl <| r_tmp (v := aB) rfl <| r_nil <| fin_gen [] rfl rfl rfl lr st_nil
        ·
         refine w_sr <| o_p rfl (p_eql rfl rfl) <| sB rfl <| o_ek (fr' := [(2, .box 0 0), (3, .box 1 0), (5, aB), (6, aB), (8, aB), (24, aI), (107, aB)]) rfl rfl <| w_ch h16 rfl (fun hb19 h19 => ?_) (fun hb19 h19 => ?_)
         ·
          refine w_sr <| mB rfl <| mB rfl <| og rfl rfl rfl (fun hc => (p_move (v := aB) rfl)) <| o_p rfl (p_pickz rfl rfl rfl (fun e => keq e)) <| mB rfl <| og rfl rfl rfl (fun hc => (p_move (v := aB) rfl)) <| o_p rfl (p_pickz rfl rfl rfl (fun e => keq e)) <| o_ek (fr' := [(2, .box 0 0), (3, .box 1 0), (115, aB)]) rfl rfl <| w_ch h19 rfl (fun hb20 h20 => ?_) (fun hb20 h20 => ?_)
          ·
           refine w_sr <| sB rfl <| o_ek (fr' := [(4, aB)]) rfl rfl <| w_ret <| e_blk_r <| e_seq_r ?_
           have h21 := un_done h20 h2
           obtain rfl := sy h21
           exact e_ret (rs' := [.tmp 4]) rfl <| r_tmp (v := aB) rfl <| r_nil <| fin_gen [] rfl rfl rfl lr st_nil
          ·
           exact w_skip <| e_blk_n <| e_j _ (sy h20) (w_weak [] 2 rfl rfl rfl rfl ⟨lr, lr, trivial⟩ (st_r rfl (st_r rfl st_nil)))
         ·
          refine w_sr <| o_p rfl (p_eql rfl rfl) <| sB rfl <| o_ek (fr' := [(2, .box 0 0), (3, .box 1 0), (5, aB), (6, aB), (116, aB)]) rfl rfl <| w_ch h19 rfl (fun hb23 h23 => ?_) (fun hb23 h23 => ?_)
          ·
           refine w_sr <| mB rfl <| mB rfl <| og rfl rfl rfl (fun hc => (p_move (v := aB) rfl)) <| o_p rfl (p_pickz rfl rfl rfl (fun e => keq e)) <| mB rfl <| og rfl rfl rfl (fun hc => (p_fa tf112x4 rfl)) <| og rfl rfl rfl (fun hc => (p_load (v := aL) tv110 (gx rfl hc) rfl rfl)) <| og rfl rfl rfl (fun hc => (p_len ti110 (isl_c (gx rfl hc)))) <| og rfl rfl rfl (fun hc => (p_fa tf112x3 rfl)) <| og rfl rfl rfl (fun hc => (p_load (v := aL) tv109 (gx rfl hc) rfl rfl)) <| og rfl rfl rfl (fun hc => (p_len ti109 (isl_c (gx rfl hc)))) ?_
           refine og rfl rfl rfl (fun hc => (p_neq (gx rfl hc) (gx rfl hc))) <| o_p rfl (p_pickz rfl rfl rfl (fun e => keq e)) <| mB rfl <| og rfl rfl rfl (fun hc => (p_fa tf112x4 rfl)) <| og rfl rfl rfl (fun hc => (p_load (v := aL) tv110 (gx rfl hc) rfl rfl)) ?_
           obtain ⟨x24, hx24, h25⟩ := bind_s h23
           refine o_g rfl rfl (fun hc => ov_call (v := aB) rfl (w_value_ascending (gd_some hx24 hc)) ⟨(le_gv (gx rfl hc) lr), trivial⟩ (ok_eq (by repeat (first | exact ok_nil | refine ok_cons rfl ?_ | refine ok_cons (dgv rfl) ?_ | refine ok_cons dar ?_))) rfl rfl) ?_
           refine og rfl rfl rfl (fun hc => (p_not (gx rfl hc))) <| o_p rfl (p_pickz rfl rfl rfl (fun e => keq e)) <| o_ek (fr' := [(2, .box 0 0), (3, .box 1 0), (136, aB)]) rfl rfl <| w_ch h25 rfl (fun hb26 h26 => ?_) (fun hb26 h26 => ?_)
           ·
            refine w_sr <| sB rfl <| o_ek (fr' := [(4, aB)]) rfl rfl <| w_ret <| e_blk_r <| e_seq_r ?_
            have h27 := un_done h26 h2
            obtain rfl := sy h27
            exact e_ret (rs' := [.tmp 4]) rfl <| r_tmp (v := aB) rfl <| r_nil <| fin_gen [] rfl rfl rfl lr st_nil
           ·
            exact w_skip <| e_blk_n <| e_j _ (sy h26) (w_weak [] 2 rfl rfl rfl rfl ⟨lr, lr, trivial⟩ (st_r rfl (st_r rfl st_nil)))
          ·
           refine w_sr <| sB rfl <| o_ek (fr' := [(4, aB)]) rfl rfl <| w_ret <| e_blk_r <| e_seq_r ?_
           have h29 := un_done h23 h2
           obtain rfl := sy h29
           exact e_ret (rs' := [.tmp 4]) rfl <| r_tmp (v := aB) rfl <| r_nil <| fin_gen [] rfl rfl rfl lr st_nil
   ·
    intro j3 hj31
    have h31 := un_go hj31 h2
    refine w_sr <| o_p rfl (p_fa tf112x3 rfl) <| o_p rfl (p_load (v := aL) tv109 rfl rfl rfl) <| o_p rfl (p_func (cs := [.box 1 0]) rfl rfl) ?_
    obtain ⟨x32, hx32, h33⟩ := bind_s h31
    refine o_call (v := aB) (σ' := [aIISLL, [aB]]) [1] rfl (ih_slices_ContainsFunc_api_Value_api_Value_value_formed_1 hx32) rfl rfl ⟨lr, (le_fnp rfl ⟨lr, trivial⟩), trivial⟩ (st_p ⟨lr, trivial⟩ st_nil) rfl rfl rfl <| o_p rfl (p_not rfl) <| sB rfl <| o_ek (fr' := [(4, aB)]) rfl rfl <| w_ret ?_
    obtain rfl := sy h33
    exact e_ret (rs' := [.tmp 4]) rfl <| r_tmp (v := aB) rfl <| r_nil <| fin_gen [] rfl rfl rfl lr st_nil
  ·
   intro p0x p100vx0 res h
   rw [value_formed_1F] at h
   refine acalls (fn := Tryd.f154) [0, 1, 2, 3] (by kernel_rfl) Tryd.func154 rfl (by kernel_rfl) (by kernel_rfl) <| w_sr <| o_box (v := .agg aIISLL) (n := 1) (cs := aIISLL) (σ' := [[aB], aIISLL]) rfl rfl rfl rfl rfl <| sB rfl <| o_ek (fr' := [(1, .box 0 0), (2, .box 1 0)]) rfl rfl <| w_sr <| o_p rfl (p_loads (us := aIISLL) tv112 rfl rfl rfl rfl) <| o_p rfl (p_load (v := aB) tv4 rfl rfl rfl) ?_
   obtain ⟨x1, hx1, h2⟩ := bind_s h
   refine o_v (ov_call (v := aB) rfl (ih_value_formed hx1) ⟨(le_aggc rfl ⟨rfl, rfl, rfl, rfl, rfl, trivial⟩), lr, trivial⟩ rfl rfl rfl) <| o_p rfl (p_not rfl) <| sB rfl <| o_ek (fr' := [(3, aB)]) rfl rfl <| w_ret ?_
   obtain rfl := sy h2
   exact e_ret (rs' := [.tmp 3]) rfl <| r_tmp (v := aB) rfl <| r_nil <| fin_gen [] rfl rfl rfl lr (st_r rfl st_nil)
noncomputable def slices_ContainsFunc_api_Value_api_Value_value_formed_1 (p0s : (List ApiValue)) (p100vx0 : Bool) : Option Bool := lim fun n => slices_ContainsFunc_api_Value_api_Value_value_formed_1F n p0s p100vx0
theorem w_slices_ContainsFunc_api_Value_api_Value_value_formed_1 {p0s : (List ApiValue)} {p100vx0 : Bool} {res : Bool} (h : slices_ContainsFunc_api_Value_api_Value_value_formed_1 p0s p100vx0 = some res) : ACalls Tryd.prog 153 [.c (PV.ls 5 rowApiValue p0s), .fn 154 [.box 0 0]] [[.c (.bool p100vx0)]] (.c (.bool res)) [[.c (.bool p100vx0)]] := by
 obtain ⟨n, hn⟩ := lim_some h
 exact (wF_slices_ContainsFunc_api_Value_api_Value_value_formed_1 n).1 hn
noncomputable def slices_IndexFunc_api_Value_api_Value_value_formed_1 (p0s : (List ApiValue)) (p100vx0 : Bool) : Option Int := lim fun n => slices_IndexFunc_api_Value_api_Value_value_formed_1F n p0s p100vx0
theorem w_slices_IndexFunc_api_Value_api_Value_value_formed_1 {p0s : (List ApiValue)} {p100vx0 : Bool} {res : Int} (h : slices_IndexFunc_api_Value_api_Value_value_formed_1 p0s p100vx0 = some res) : ACalls Tryd.prog 177 [.c (PV.ls 5 rowApiValue p0s), .fn 154 [.box 0 0]] [[.c (.bool p100vx0)]] (.c (.int .i64 res)) [[.c (.bool p100vx0)]] := by
 obtain ⟨n, hn⟩ := lim_some h
 exact (wF_slices_ContainsFunc_api_Value_api_Value_value_formed_1 n).2.1 hn
noncomputable def value_formed (p0C : ApiValue) (p1o : Bool) : Option Bool := lim fun n => value_formedF n p0C p1o
theorem w_value_formed {p0C : ApiValue} {p1o : Bool} {res : Bool} (h : value_formed p0C p1o = some res) : ACalls Tryd.prog 131 [.agg (AV.cs (exApiValue p0C)), .c (.bool p1o)] [] (.c (.bool res)) [] := by
 obtain ⟨n, hn⟩ := lim_some h
 exact (wF_slices_ContainsFunc_api_Value_api_Value_value_formed_1 n).2.2.1 hn
noncomputable def value_formed_1 (p0x : ApiValue) (p100vx0 : Bool) : Option Bool := lim fun n => value_formed_1F n p0x p100vx0
theorem w_value_formed_1 {p0x : ApiValue} {p100vx0 : Bool} {res : Bool} (h : value_formed_1 p0x p100vx0 = some res) : ACalls Tryd.prog 154 [.agg (AV.cs (exApiValue p0x)), .box 0 0] [[.c (.bool p100vx0)]] (.c (.bool res)) [[.c (.bool p100vx0)]] := by
 obtain ⟨n, hn⟩ := lim_some h
 exact (wF_slices_ContainsFunc_api_Value_api_Value_value_formed_1 n).2.2.2 hn
noncomputable def value_Right (p0v : ApiValue) : Option Bool :=
 (value_within p0v).bind fun (x1 : Bool) => (gd (x1 == true) (value_formed p0v false)).bind fun (x3 : Bool) => some (cond x1 x3 false)
theorem w_value_Right {p0v : ApiValue} {res : Bool} (h : value_Right p0v = some res) : ACalls Tryd.prog 112 [.agg (AV.cs (exApiValue p0v))] [] (.c (.bool res)) [] := by
 unfold value_Right at h
 refine acalls (fn := Tryd.f112) [0, 1, 2] (by kernel_rfl) Tryd.func112 rfl (by kernel_rfl) (by kernel_rfl) <| w_sr <| o_box (v := .agg aIISLL) (n := 0) (cs := aIISLL) (σ' := [aIISLL]) rfl rfl rfl rfl rfl <| sB rfl <| o_ek (fr' := [(1, .box 0 0)]) rfl rfl <| w_sr <| o_p rfl (p_loads (us := aIISLL) tv112 rfl rfl rfl rfl) ?_
 obtain ⟨x1, hx1, h2⟩ := bind_s h
 refine o_v (ov_call (v := aB) rfl (w_value_within hx1) ⟨(le_aggc rfl ⟨rfl, rfl, rfl, rfl, rfl, trivial⟩), trivial⟩ rfl rfl rfl) <| mB rfl <| og rfl rfl rfl (fun hc => (p_loads (us := aIISLL) tv112 rfl rfl rfl rfl)) ?_
 obtain ⟨x3, hx3, h4⟩ := bind_s h2
 refine o_g rfl rfl (fun hc => ov_call (v := aB) rfl (w_value_formed (gd_some hx3 hc)) ⟨(le_gv (gx rfl hc) (le_aggc rfl ⟨rfl, rfl, rfl, rfl, rfl, trivial⟩)), lr, trivial⟩ (ok_eq (by repeat (first | exact ok_nil | refine ok_cons rfl ?_ | refine ok_cons (dgv rfl) ?_ | refine ok_cons dar ?_))) rfl rfl) ?_
 refine o_p rfl (p_picky rfl rfl rfl (fun e => keq e)) <| sB rfl <| o_ek (fr' := [(2, aB)]) rfl rfl <| w_ret ?_
 obtain rfl := sy h4
 exact e_ret (rs' := [.tmp 2]) rfl <| r_tmp (v := aB) rfl <| r_nil <| fin_gen [] rfl rfl rfl lr st_nil
noncomputable def name_letter (p0c : Int) : Option Bool :=
 some (cond (cond (cond (decide ((97 : Int) ≤ p0c)) (decide (p0c ≤ (122 : Int))) false) true (cond (decide ((65 : Int) ≤ p0c)) (decide (p0c ≤ (90 : Int))) false)) true (decide (p0c = (95 : Int))))
theorem w_name_letter {p0c : Int} {res : Bool} (h : name_letter p0c = some res) : ACalls Tryd.prog 164 [.c (.int .u8 p0c)] [] (.c (.bool res)) [] := by
 unfold name_letter at h
 refine acalls (fn := Tryd.f164) [0, 2] (by kernel_rfl) Tryd.func164 rfl (by kernel_rfl) (by kernel_rfl) <| w_sr <| sB rfl <| o_ek (fr' := [(0, aI)]) rfl rfl <| w_sr <| mI rfl <| o_p rfl (p_geq rfl rfl) <| mB rfl <| og rfl rfl rfl (fun hc => (p_move (v := aI) rfl)) <| og rfl rfl rfl (fun hc => (p_leq (gx rfl hc) rfl)) <| o_p rfl (p_picky rfl rfl rfl (fun e => keq e)) ?_
 refine mB rfl <| og rfl rfl rfl (fun hc => (p_move (v := aI) rfl)) <| og rfl rfl rfl (fun hc => (p_geq (gx rfl hc) rfl)) <| og rfl rfl rfl (fun hc => (p_move (v := aB) (gx rfl hc))) <| o_gg rfl rfl (fun hc => ov_p rfl (p_move (v := aI) rfl)) <| o_gg rfl rfl (fun hc => ov_p rfl (p_leq (gx rfl hc) rfl)) <| og rfl rfl rfl (fun hc => (p_picky (gx rfl hc) rfl rfl (fun e => band hc (keq e)))) <| o_p rfl (p_pickz rfl rfl rfl (fun e => keq e)) <| mB rfl <| og rfl rfl rfl (fun hc => (p_move (v := aI) rfl)) <| og rfl rfl rfl (fun hc => (p_eql (gx rfl hc) rfl)) <| o_p rfl (p_pickz rfl rfl rfl (fun e => keq e)) <| sB rfl ?_
 refine o_ek (fr' := [(2, aB)]) rfl rfl <| w_ret ?_
 obtain rfl := sy h
 exact e_ret (rs' := [.tmp 2]) rfl <| r_tmp (v := aB) rfl <| r_nil <| fin_gen [] rfl rfl rfl lr st_nil
noncomputable def name_Right_l1 (p0s : (List UInt8)) (s6 : Int) : Option (Step Int (Fl Bool Unit)) :=
 cond (decide (s6 < ((p0s).length : Int))) ((idx p0s s6).bind fun (x8 : UInt8) => (name_letter ((x8).toNat : Int)).bind fun (x10 : Bool) => (gd (((!x10) == true) && ((decide (s6 = (0 : Int))) == false)) (idx p0s s6)).bind fun (x12 : UInt8) => (gd (((!x10) == true) && ((cond (decide (s6 = (0 : Int))) true (decide (((x12).toNat : Int) < (48 : Int)))) == false)) (idx p0s s6)).bind fun (x14 : UInt8) => cond (cond (!x10) (cond (cond (decide (s6 = (0 : Int))) true (decide (((x12).toNat : Int) < (48 : Int)))) true (decide ((57 : Int) < ((x14).toNat : Int)))) false) (some (Step.out (Fl.done false))) (some (Step.next (IntKind.wrap .i64 (s6 + (1 : Int)))))) (some (Step.out (Fl.go ())))
noncomputable def name_Right (p0s : (List UInt8)) : Option Bool :=
 cond (cond (decide (p0s = ([] : List UInt8))) true (decide ((64 : Int) < ((p0s).length : Int)))) (some false) (((loopO (name_Right_l1 p0s) ((0 : Int))) : Option (Fl Bool Unit)).bind fun (x3 : (Fl Bool Unit)) => Fl.next x3 (fun (j5 : Unit) => (some true)))
theorem w_name_Right {p0s : (List UInt8)} {res : Bool} (h : name_Right p0s = some res) : ACalls Tryd.prog 135 [.c (.str p0s)] [] (.c (.bool res)) [] := by
 unfold name_Right at h
 refine acalls (fn := Tryd.f135) [0, 2, 3, 10, 12, 13, 14, 36] (by kernel_rfl) Tryd.func135 rfl (by kernel_rfl) (by kernel_rfl) <| w_sr <| sB rfl <| o_ek (fr' := [(0, aS)]) rfl rfl <| w_seqw <| w_sr <| mS rfl <| o_p rfl (p_seql rfl rfl) <| mB rfl <| og rfl rfl rfl (fun hc => (p_move (v := aS) rfl)) <| og rfl rfl rfl (fun hc => (p_lens ti9 (gx rfl hc))) ?_
 refine og rfl rfl rfl (fun hc => (p_gtr (gx rfl hc) rfl)) <| o_p rfl (p_pickz rfl rfl rfl (fun e => keq e)) <| o_ek (fr' := [(0, aS), (10, aB)]) rfl rfl <| w_ch h rfl (fun hb1 h1 => ?_) (fun hb1 h1 => ?_)
 ·
  refine w_sr <| sB rfl <| o_ek (fr' := [(2, aB)]) rfl rfl <| w_ret <| e_seq_r ?_
  obtain rfl := sy h1
  exact e_ret (rs' := [.tmp 2]) rfl <| r_tmp (v := aB) rfl <| r_nil <| fin_gen [] rfl rfl rfl lr st_nil
 ·
  refine w_skip <| e_kw <| w_seqw <| w_sr <| mS rfl <| o_p rfl (p_lens ti9 rfl) <| mI rfl <| o_ek (fr' := [(0, aS), (12, aI), (13, aI)]) rfl rfl ?_
  obtain ⟨x3, hx3, h4⟩ := bind_s h1
  refine w_jtail cl_kw (fun j5 => x3 = Fl.go j5) (fun (j5 : Unit) => ([] : Fr)) (fun (j5 : Unit) => ([] : St)) ?_ ?_
  ·
   refine w_block <| w_loopo _ (fun (s6 : Int) => ([(0, .c (.str p0s)), (12, .c (.int .i64 ((p0s).length : Int))), (13, .c (.int .i64 s6))] : Fr)) (fun (s6 : Int) => ([] : St)) hx3 (w_weak [] 0 rfl rfl rfl rfl ⟨lr, lr, lr, trivial⟩ st_nil) ?_
   intro s6 st6 hs6 ho6
   unfold name_Right_l1 at hs6
   refine w_sr <| o_p rfl (p_lss rfl rfl) <| o_ek (fr' := [(0, aS), (12, aI), (13, aI), (14, aB)]) rfl rfl <| w_seqw <| w_ch hs6 rfl (fun hb7 h7 => ?_) (fun hb7 h7 => ?_)
   ·
    refine w_skip <| e_kw <| w_seqw <| w_block <| w_sr <| mI rfl <| sI rfl <| o_ek (fr' := [(0, aS), (3, aI), (12, aI), (13, aI)]) rfl rfl <| w_sr <| mS rfl <| mI rfl ?_
    obtain ⟨x8, hx8, h9⟩ := bind_s h7
    refine o_p rfl (p_is ti9 rfl rfl hx8) ?_
    obtain ⟨x10, hx10, h11⟩ := bind_s h9
    refine o_v (ov_call (v := aB) rfl (w_name_letter hx10) ⟨lr, trivial⟩ rfl rfl rfl) <| o_p rfl (p_not rfl) <| mB rfl <| og rfl rfl rfl (fun hc => (p_move (v := aI) rfl)) <| og rfl rfl rfl (fun hc => (p_eql (gx rfl hc) rfl)) <| og rfl rfl rfl (fun hc => (p_move (v := aB) (gx rfl hc))) <| o_gg rfl rfl (fun hc => ov_p rfl (p_move (v := aS) rfl)) <| o_gg rfl rfl (fun hc => ov_p rfl (p_move (v := aI) rfl)) ?_
    obtain ⟨x12, hx12, h13⟩ := bind_s h11
    refine o_gg rfl rfl (fun hc => ov_p rfl (p_is ti9 (gx rfl hc) (gx rfl hc) (gd_some hx12 hc))) <| o_gg rfl rfl (fun hc => ov_p rfl (p_lss (gx rfl hc) rfl)) <| og rfl rfl rfl (fun hc => (p_pickz (gx rfl hc) rfl rfl (fun e => band hc (keq e)))) <| og rfl rfl rfl (fun hc => (p_move (v := aB) (gx rfl hc))) <| o_gg rfl rfl (fun hc => ov_p rfl (p_move (v := aS) rfl)) <| o_gg rfl rfl (fun hc => ov_p rfl (p_move (v := aI) rfl)) ?_
    obtain ⟨x14, hx14, h15⟩ := bind_s h13
    refine o_gg rfl rfl (fun hc => ov_p rfl (p_is ti9 (gx rfl hc) (gx rfl hc) (gd_some hx14 hc))) <| o_gg rfl rfl (fun hc => ov_p rfl (p_gtr (gx rfl hc) rfl)) <| og rfl rfl rfl (fun hc => (p_pickz (gx rfl hc) rfl rfl (fun e => band hc (keq e)))) <| o_p rfl (p_picky rfl rfl rfl (fun e => keq e)) <| o_ek (fr' := [(0, aS), (12, aI), (13, aI), (36, aB)]) rfl rfl <| w_ch h15 rfl (fun hb16 h16 => ?_) (fun hb16 h16 => ?_)
    ·
     refine w_sr <| sB rfl <| o_ek (fr' := [(2, aB)]) rfl rfl <| w_ret <| e_blk_r <| e_seq_r <| e_seq_r <| e_blk_r <| e_seq_r <| e_seq_r ?_
     have h17 := un_out h16 ho6
     have h18 := un_done h17 h4
     obtain rfl := sy h18
     exact e_ret (rs' := [.tmp 2]) rfl <| r_tmp (v := aB) rfl <| r_nil <| fin_gen [] rfl rfl rfl lr st_nil
    ·
     exact w_skip <| e_blk_n <| e_kw <| w_region <| o_p rfl (p_add rfl rfl) <| mI rfl <| o_end (fr' := [(0, aS), (12, aI), (13, aI), (36, aB)]) rfl <| e_l _ (sy h16) (w_weak [] 0 rfl rfl rfl rfl ⟨lr, lr, lr, trivial⟩ st_nil)
   ·
    refine w_exit <| e_seq_x <| e_seq_x <| e_blk_h ?_
    have h20 := un_out h7 ho6
    exact e_j _ (sy h20) (w_weak [] 0 rfl rfl rfl rfl trivial st_nil)
  ·
   intro j5 hj21
   have h21 := un_go hj21 h4
   refine e_kw <| w_sr <| sB rfl <| o_ek (fr' := [(2, aB)]) rfl rfl <| w_ret ?_
   obtain rfl := sy h21
   exact e_ret (rs' := [.tmp 2]) rfl <| r_tmp (v := aB) rfl <| r_nil <| fin_gen [] rfl rfl rfl lr st_nil
noncomputable def command_fields (p0kind : Int) : Option CommandUses :=
 cond (decide (p0kind = (1 : Int))) (some (CommandUses.mk true true false false true true)) (((cond (decide (p0kind = (2 : Int))) (some (decide (p0kind = (2 : Int)))) (some (decide (p0kind = (4 : Int))))) : Option Bool).bind fun (x3 : Bool) => (cond x3 (some (CommandUses.mk true false false false false false)) (cond (decide (p0kind = (3 : Int))) (some (CommandUses.mk true false false true false false)) (cond (decide (p0kind = (5 : Int))) (some (CommandUses.mk true true true true true false)) (cond (decide (p0kind = (6 : Int))) (some (CommandUses.mk true true true false true false)) (cond (decide (p0kind = (7 : Int))) (some (CommandUses.mk false true false true true false)) (cond (decide (p0kind = (8 : Int))) (some (CommandUses.mk false true true false true false)) (cond (decide (p0kind = (9 : Int))) (some (CommandUses.mk false false true true true false)) (cond (decide (p0kind = (12 : Int))) (some (CommandUses.mk false true false false true false)) (some (CommandUses.mk false false false false true false)))))))))))
theorem w_command_fields {p0kind : Int} {res : CommandUses} (h : command_fields p0kind = some res) : ACalls Tryd.prog 155 [.c (.int .i64 p0kind)] [] (.agg (AV.cs (rowCommandUses res))) [] := by
 unfold command_fields at h
 refine acalls (fn := Tryd.f155) [0, 2, 3, 4, 7, 11, 14, 17, 20, 23, 26, 29] (by kernel_rfl) Tryd.func155 rfl (by kernel_rfl) (by kernel_rfl) <| w_sr <| o_alloc (n := 0) (cs := aBBBBBB) (σ' := [aBBBBBB]) tz216 rfl rfl rfl <| o_ek (fr' := [(0, aI), (2, .box 0 0)]) rfl rfl <| w_seqw <| w_sr <| mI rfl <| o_ek (fr' := [(2, .box 0 0), (3, aI)]) rfl rfl <| w_block <| w_seqw <| w_region ?_
 refine o_p rfl (p_eql rfl rfl) <| sB rfl <| o_ek (fr' := [(2, .box 0 0), (3, aI), (4, aB)]) rfl rfl <| w_ch h rfl (fun hb1 h1 => ?_) (fun hb1 h1 => ?_)
 ·
  refine w_sr <| o_p rfl (p_build (cs := aBBBBBB) tb216 rfl) <| o_store (v := .agg aBBBBBB) (us := aBBBBBB) (cs := aBBBBBB) (σ' := [aBBBBBB]) rfl tv216 rfl rfl rfl rfl rfl rfl rfl rfl <| o_ek (fr' := [(2, .box 0 0)]) rfl rfl <| w_ret <| e_blk_r <| e_seq_r ?_
  obtain rfl := sy h1
  exact e_ret (rs' := [.cell 2 216]) rfl <| r_cells (us := aBBBBBB) (cs := aBBBBBB) tv216 rfl rfl rfl rfl <| r_nil <| fin_gen [] rfl rfl rfl (le_aggc rfl ⟨rfl, rfl, rfl, rfl, rfl, rfl, trivial⟩) st_nil
 ·
  obtain ⟨x3, hx3, h4⟩ := bind_s h1
  refine w_join (fun j5 => x3 = j5) (fun (j5 : Bool) => ([(2, .box 0 0), (3, .c (.int .i64 p0kind)), (7, .c (.bool j5))] : Fr)) (fun (j5 : Bool) => ([[.c (.bool false), .c (.bool false), .c (.bool false), .c (.bool false), .c (.bool false), .c (.bool false)]] : St)) ?_ ?_
  ·
   refine w_sr <| o_p rfl (p_eql rfl rfl) <| sB rfl <| o_ek (fr' := [(2, .box 0 0), (3, aI), (7, aB)]) rfl rfl <| w_ch hx3 rfl (fun hb6 h6 => ?_) (fun hb6 h6 => ?_)
   ·
    exact w_skip <| e_j _ (sy h6) (w_weak [] 1 rfl rfl rfl rfl ⟨lr, lr, lr, trivial⟩ (st_r rfl st_nil))
   ·
    exact w_region <| o_p rfl (p_eql rfl rfl) <| sB rfl <| o_end (fr' := [(2, .box 0 0), (3, aI), (7, aB)]) rfl <| e_j _ (sy h6) (w_weak [] 1 rfl rfl rfl rfl ⟨lr, lr, lr, trivial⟩ (st_r rfl st_nil))
  ·
   intro j5 hj7
   subst hj7
   refine w_ch h4 rfl (fun hb8 h8 => ?_) (fun hb8 h8 => ?_)
   ·
    refine w_sr <| o_p rfl (p_build (cs := aBBBBBB) tb216 rfl) <| o_store (v := .agg aBBBBBB) (us := aBBBBBB) (cs := aBBBBBB) (σ' := [aBBBBBB]) rfl tv216 rfl rfl rfl rfl rfl rfl rfl rfl <| o_ek (fr' := [(2, .box 0 0)]) rfl rfl <| w_ret <| e_blk_r <| e_seq_r ?_
    obtain rfl := sy h8
    exact e_ret (rs' := [.cell 2 216]) rfl <| r_cells (us := aBBBBBB) (cs := aBBBBBB) tv216 rfl rfl rfl rfl <| r_nil <| fin_gen [] rfl rfl rfl (le_aggc rfl ⟨rfl, rfl, rfl, rfl, rfl, rfl, trivial⟩) st_nil
   ·
    refine w_sr <| o_p rfl (p_eql rfl rfl) <| sB rfl <| o_ek (fr' := [(2, .box 0 0), (3, aI), (11, aB)]) rfl rfl <| w_ch h8 rfl (fun hb10 h10 => ?_) (fun hb10 h10 => ?_)
    ·
     refine w_sr <| o_p rfl (p_build (cs := aBBBBBB) tb216 rfl) <| o_store (v := .agg aBBBBBB) (us := aBBBBBB) (cs := aBBBBBB) (σ' := [aBBBBBB]) rfl tv216 rfl rfl rfl rfl rfl rfl rfl rfl <| o_ek (fr' := [(2, .box 0 0)]) rfl rfl <| w_ret <| e_blk_r <| e_seq_r ?_
     obtain rfl := sy h10
     exact e_ret (rs' := [.cell 2 216]) rfl <| r_cells (us := aBBBBBB) (cs := aBBBBBB) tv216 rfl rfl rfl rfl <| r_nil <| fin_gen [] rfl rfl rfl (le_aggc rfl ⟨rfl, rfl, rfl, rfl, rfl, rfl, trivial⟩) st_nil
    ·
     refine w_sr <| o_p rfl (p_eql rfl rfl) <| sB rfl <| o_ek (fr' := [(2, .box 0 0), (3, aI), (14, aB)]) rfl rfl <| w_ch h10 rfl (fun hb12 h12 => ?_) (fun hb12 h12 => ?_)
     ·
      refine w_sr <| o_p rfl (p_build (cs := aBBBBBB) tb216 rfl) <| o_store (v := .agg aBBBBBB) (us := aBBBBBB) (cs := aBBBBBB) (σ' := [aBBBBBB]) rfl tv216 rfl rfl rfl rfl rfl rfl rfl rfl <| o_ek (fr' := [(2, .box 0 0)]) rfl rfl <| w_ret <| e_blk_r <| e_seq_r ?_
      obtain rfl := sy h12
      exact e_ret (rs' := [.cell 2 216]) rfl <| r_cells (us := aBBBBBB) (cs := aBBBBBB) tv216 rfl rfl rfl rfl <| r_nil <| fin_gen [] rfl rfl rfl (le_aggc rfl ⟨rfl, rfl, rfl, rfl, rfl, rfl, trivial⟩) st_nil
     ·
      refine w_sr <| o_p rfl (p_eql rfl rfl) <| sB rfl <| o_ek (fr' := [(2, .box 0 0), (3, aI), (17, aB)]) rfl rfl <| w_ch h12 rfl (fun hb14 h14 => ?_) (fun hb14 h14 => ?_)
      ·
       refine w_sr <| o_p rfl (p_build (cs := aBBBBBB) tb216 rfl) <| o_store (v := .agg aBBBBBB) (us := aBBBBBB) (cs := aBBBBBB) (σ' := [aBBBBBB]) rfl tv216 rfl rfl rfl rfl rfl rfl rfl rfl <| o_ek (fr' := [(2, .box 0 0)]) rfl rfl <| w_ret <| e_blk_r <| e_seq_r ?_
       obtain rfl := sy h14
       exact e_ret (rs' := [.cell 2 216]) rfl <| r_cells (us := aBBBBBB) (cs := aBBBBBB) tv216 rfl rfl rfl rfl <| r_nil <| fin_gen [] rfl rfl rfl (le_aggc rfl ⟨rfl, rfl, rfl, rfl, rfl, rfl, trivial⟩) st_nil
      ·
       refine w_sr <| o_p rfl (p_eql rfl rfl) <| sB rfl <| o_ek (fr' := [(2, .box 0 0), (3, aI), (20, aB)]) rfl rfl <| w_ch h14 rfl (fun hb16 h16 => ?_) (fun hb16 h16 => ?_)
       ·
        refine w_sr <| o_p rfl (p_build (cs := aBBBBBB) tb216 rfl) <| o_store (v := .agg aBBBBBB) (us := aBBBBBB) (cs := aBBBBBB) (σ' := [aBBBBBB]) rfl tv216 rfl rfl rfl rfl rfl rfl rfl rfl <| o_ek (fr' := [(2, .box 0 0)]) rfl rfl <| w_ret <| e_blk_r <| e_seq_r ?_
        obtain rfl := sy h16
        exact e_ret (rs' := [.cell 2 216]) rfl <| r_cells (us := aBBBBBB) (cs := aBBBBBB) tv216 rfl rfl rfl rfl <| r_nil <| fin_gen [] rfl rfl rfl (le_aggc rfl ⟨rfl, rfl, rfl, rfl, rfl, rfl, trivial⟩) st_nil
       ·
        refine w_sr <| o_p rfl (p_eql rfl rfl) <| sB rfl <| o_ek (fr' := [(2, .box 0 0), (3, aI), (23, aB)]) rfl rfl <| w_ch h16 rfl (fun hb18 h18 => ?_) (fun hb18 h18 => ?_)
        ·
         refine w_sr <| o_p rfl (p_build (cs := aBBBBBB) tb216 rfl) <| o_store (v := .agg aBBBBBB) (us := aBBBBBB) (cs := aBBBBBB) (σ' := [aBBBBBB]) rfl tv216 rfl rfl rfl rfl rfl rfl rfl rfl <| o_ek (fr' := [(2, .box 0 0)]) rfl rfl <| w_ret <| e_blk_r <| e_seq_r ?_
         obtain rfl := sy h18
         exact e_ret (rs' := [.cell 2 216]) rfl <| r_cells (us := aBBBBBB) (cs := aBBBBBB) tv216 rfl rfl rfl rfl <| r_nil <| fin_gen [] rfl rfl rfl (le_aggc rfl ⟨rfl, rfl, rfl, rfl, rfl, rfl, trivial⟩) st_nil
        ·
         refine w_sr <| o_p rfl (p_eql rfl rfl) <| sB rfl <| o_ek (fr' := [(2, .box 0 0), (3, aI), (26, aB)]) rfl rfl <| w_ch h18 rfl (fun hb20 h20 => ?_) (fun hb20 h20 => ?_)
         ·
          refine w_sr <| o_p rfl (p_build (cs := aBBBBBB) tb216 rfl) <| o_store (v := .agg aBBBBBB) (us := aBBBBBB) (cs := aBBBBBB) (σ' := [aBBBBBB]) rfl tv216 rfl rfl rfl rfl rfl rfl rfl rfl <| o_ek (fr' := [(2, .box 0 0)]) rfl rfl <| w_ret <| e_blk_r <| e_seq_r ?_
          obtain rfl := sy h20
          exact e_ret (rs' := [.cell 2 216]) rfl <| r_cells (us := aBBBBBB) (cs := aBBBBBB) tv216 rfl rfl rfl rfl <| r_nil <| fin_gen [] rfl rfl rfl (le_aggc rfl ⟨rfl, rfl, rfl, rfl, rfl, rfl, trivial⟩) st_nil
         ·
          refine w_sr <| o_p rfl (p_eql rfl rfl) <| sB rfl <| o_ek (fr' := [(2, .box 0 0), (29, aB)]) rfl rfl <| w_ch h20 rfl (fun hb22 h22 => ?_) (fun hb22 h22 => ?_)
          ·
           refine w_sr <| o_p rfl (p_build (cs := aBBBBBB) tb216 rfl) <| o_store (v := .agg aBBBBBB) (us := aBBBBBB) (cs := aBBBBBB) (σ' := [aBBBBBB]) rfl tv216 rfl rfl rfl rfl rfl rfl rfl rfl <| o_ek (fr' := [(2, .box 0 0)]) rfl rfl <| w_ret <| e_blk_r <| e_seq_r ?_
           obtain rfl := sy h22
           exact e_ret (rs' := [.cell 2 216]) rfl <| r_cells (us := aBBBBBB) (cs := aBBBBBB) tv216 rfl rfl rfl rfl <| r_nil <| fin_gen [] rfl rfl rfl (le_aggc rfl ⟨rfl, rfl, rfl, rfl, rfl, rfl, trivial⟩) st_nil
          ·
           refine w_skip <| e_blk_n <| e_kw <| w_sr <| o_p rfl (p_build (cs := aBBBBBB) tb216 rfl) <| o_store (v := .agg aBBBBBB) (us := aBBBBBB) (cs := aBBBBBB) (σ' := [aBBBBBB]) rfl tv216 rfl rfl rfl rfl rfl rfl rfl rfl <| o_ek (fr' := [(2, .box 0 0)]) rfl rfl <| w_ret ?_
           obtain rfl := sy h22
           exact e_ret (rs' := [.cell 2 216]) rfl <| r_cells (us := aBBBBBB) (cs := aBBBBBB) tv216 rfl rfl rfl rfl <| r_nil <| fin_gen [] rfl rfl rfl (le_aggc rfl ⟨rfl, rfl, rfl, rfl, rfl, rfl, trivial⟩) st_nil
noncomputable def command_in (p0n : Int) (p1low : Int) (p2high : Int) : Option Bool :=
 some (cond (decide (p1low ≤ p0n)) (decide (p0n ≤ p2high)) false)
theorem w_command_in {p0n : Int} {p1low : Int} {p2high : Int} {res : Bool} (h : command_in p0n p1low p2high = some res) : ACalls Tryd.prog 156 [.c (.int .i64 p0n), .c (.int .i64 p1low), .c (.int .i64 p2high)] [] (.c (.bool res)) [] := by
 unfold command_in at h
 refine acalls (fn := Tryd.f156) [0, 1, 2, 6] (by kernel_rfl) Tryd.func156 rfl (by kernel_rfl) (by kernel_rfl) <| w_sr <| sB rfl <| o_ek (fr' := [(0, aI), (1, aI), (2, aI)]) rfl rfl <| w_sr <| mI rfl <| mI rfl <| o_p rfl (p_geq rfl rfl) <| mB rfl <| og rfl rfl rfl (fun hc => (p_move (v := aI) rfl)) <| og rfl rfl rfl (fun hc => (p_move (v := aI) rfl)) ?_
 refine og rfl rfl rfl (fun hc => (p_leq (gx rfl hc) (gx rfl hc))) <| o_p rfl (p_picky rfl rfl rfl (fun e => keq e)) <| sB rfl <| o_ek (fr' := [(6, aB)]) rfl rfl <| w_ret ?_
 obtain rfl := sy h
 exact e_ret (rs' := [.tmp 6]) rfl <| r_tmp (v := aB) rfl <| r_nil <| fin_gen [] rfl rfl rfl lr st_nil
end Go.Proofs.YtmbdbdhdcbdcpaaDoor

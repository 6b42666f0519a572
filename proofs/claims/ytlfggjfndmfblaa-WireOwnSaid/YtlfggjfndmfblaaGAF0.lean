import Derived.Test.YtlfggjfndmfblaaGATy
namespace Go.Proofs.Ytlfggjfndmfblaa
open Go Abs
set_option maxRecDepth 100000
set_option linter.unusedVariables false
set_option linter.unusedSimpArgs false
noncomputable def wire_Reader_dead (p100v : WireReader) : Option Bool :=
 some (cond (!p100v.made_) true (!decide (p100v.err_ = (0 : Int))))
theorem w_wire_Reader_dead {p100v : WireReader} {res : Bool} (h : wire_Reader_dead p100v = some res) : ACalls Try.prog 20 [.box 0 0] [AV.cs (rowWireReader p100v)] (.c (.bool res)) [AV.cs (rowWireReader p100v)] := by
 unfold wire_Reader_dead at h
 refine acalls (fn := Try.f20) [0, 2] (by kernel_rfl) Try.func20 rfl (by kernel_rfl) (by kernel_rfl) <| w_sr <| sB rfl <| o_ek (fr' := [(0, .box 0 0)]) rfl rfl <| w_sr <| mV (v := .box 0 0) rfl <| o_p rfl (p_peql ti25 rfl rfl) <| mB rfl <| o_yes rfl rfl rfl <| mV (v := .box 0 0) rfl <| o_yes rfl rfl rfl ?_
 refine o_p rfl (p_nc rfl) <| o_yes rfl rfl rfl <| o_p rfl (p_fa tf29x3 rfl) <| o_yes rfl rfl rfl <| o_p rfl (p_load (v := aB) tv4 rfl rfl rfl) <| o_yes rfl rfl rfl <| o_p rfl (p_not rfl) <| o_p rfl (p_pick_f rfl rfl rfl) <| mB rfl <| og rfl rfl rfl (fun hc => (p_move (v := .box 0 0) rfl)) <| og rfl rfl rfl (fun hc => (p_nc (gx rfl hc))) <| og rfl rfl rfl (fun hc => (p_fa tf29x2 (gx rfl hc))) <| og rfl rfl rfl (fun hc => (p_load (v := aI) tv27 (gx rfl hc) rfl rfl)) ?_
 refine og rfl rfl rfl (fun hc => (p_neq (gx rfl hc) rfl)) <| o_p rfl (p_pickz rfl rfl rfl (fun e => keq e)) <| sB rfl <| o_ek (fr' := [(2, aB)]) rfl rfl <| w_ret ?_
 obtain rfl := sy h
 exact e_ret (rs' := [.tmp 2]) rfl <| r_tmp (v := aB) rfl <| r_nil <| fin_gen [] rfl rfl rfl lr (st_r rfl st_nil)
noncomputable def wire_Reader_Int_l1 (p100v : WireReader) (p1low : Int) (p2high : Int) (s10 : (Int × Int)) : Option (Step (Int × Int) (Fl (Int × WireReader) Unit)) :=
 cond (decide (s10.2 < (10 : Int))) (cond (decide ((((List.drop (Int.toNat p100v.at_) p100v.b_)).length : Int) ≤ s10.2)) (some (Step.out (Fl.done ((0 : Int), (WireReader.mk p100v.b_ p100v.at_ (4 : Int) p100v.made_))))) ((idx (List.drop (Int.toNat p100v.at_) p100v.b_) s10.2).bind fun (x16 : UInt8) => (nn (IntKind.wrap .i64 ((7 : Int) * s10.2))).bind fun (x18 : Int) => cond (decide ((128 : Int) ≤ ((x16).toNat : Int))) (some (Step.next ((abits .or .u64 s10.1 (IntKind.wrap .u64 ((IntKind.wrap .u64 (abits .and .u8 ((x16).toNat : Int) (127 : Int))) * 2 ^ (min (Int.toNat (IntKind.wrap .i64 ((7 : Int) * s10.2))) (IntKind.bits .u64))))), (IntKind.wrap .i64 (s10.2 + (1 : Int)))))) (cond (cond (cond (decide ((0 : Int) < s10.2)) (decide (((x16).toNat : Int) = (0 : Int))) false) true (cond (decide (s10.2 = (9 : Int))) (decide ((1 : Int) < ((x16).toNat : Int))) false)) (some (Step.out (Fl.done ((0 : Int), (WireReader.mk p100v.b_ p100v.at_ (3 : Int) p100v.made_))))) (cond (cond (decide ((abits .xor .i64 (IntKind.wrap .i64 (Int.fdiv (abits .or .u64 s10.1 (IntKind.wrap .u64 ((IntKind.wrap .u64 (abits .and .u8 ((x16).toNat : Int) (127 : Int))) * 2 ^ (min (Int.toNat (IntKind.wrap .i64 ((7 : Int) * s10.2))) (IntKind.bits .u64))))) (2 ^ (min (Int.toNat (1 : Int)) (IntKind.bits .u64))))) (IntKind.wrap .i64 (0 - (IntKind.wrap .i64 (abits .and .u64 (abits .or .u64 s10.1 (IntKind.wrap .u64 ((IntKind.wrap .u64 (abits .and .u8 ((x16).toNat : Int) (127 : Int))) * 2 ^ (min (Int.toNat (IntKind.wrap .i64 ((7 : Int) * s10.2))) (IntKind.bits .u64))))) (1 : Int)))))) < p1low)) true (decide (p2high < (abits .xor .i64 (IntKind.wrap .i64 (Int.fdiv (abits .or .u64 s10.1 (IntKind.wrap .u64 ((IntKind.wrap .u64 (abits .and .u8 ((x16).toNat : Int) (127 : Int))) * 2 ^ (min (Int.toNat (IntKind.wrap .i64 ((7 : Int) * s10.2))) (IntKind.bits .u64))))) (2 ^ (min (Int.toNat (1 : Int)) (IntKind.bits .u64))))) (IntKind.wrap .i64 (0 - (IntKind.wrap .i64 (abits .and .u64 (abits .or .u64 s10.1 (IntKind.wrap .u64 ((IntKind.wrap .u64 (abits .and .u8 ((x16).toNat : Int) (127 : Int))) * 2 ^ (min (Int.toNat (IntKind.wrap .i64 ((7 : Int) * s10.2))) (IntKind.bits .u64))))) (1 : Int))))))))) (some (Step.out (Fl.done ((0 : Int), (WireReader.mk p100v.b_ (IntKind.wrap .i64 (p100v.at_ + (IntKind.wrap .i64 (s10.2 + (1 : Int))))) (14 : Int) p100v.made_))))) (some (Step.out (Fl.done ((abits .xor .i64 (IntKind.wrap .i64 (Int.fdiv (abits .or .u64 s10.1 (IntKind.wrap .u64 ((IntKind.wrap .u64 (abits .and .u8 ((x16).toNat : Int) (127 : Int))) * 2 ^ (min (Int.toNat (IntKind.wrap .i64 ((7 : Int) * s10.2))) (IntKind.bits .u64))))) (2 ^ (min (Int.toNat (1 : Int)) (IntKind.bits .u64))))) (IntKind.wrap .i64 (0 - (IntKind.wrap .i64 (abits .and .u64 (abits .or .u64 s10.1 (IntKind.wrap .u64 ((IntKind.wrap .u64 (abits .and .u8 ((x16).toNat : Int) (127 : Int))) * 2 ^ (min (Int.toNat (IntKind.wrap .i64 ((7 : Int) * s10.2))) (IntKind.bits .u64))))) (1 : Int)))))), (WireReader.mk p100v.b_ (IntKind.wrap .i64 (p100v.at_ + (IntKind.wrap .i64 (s10.2 + (1 : Int))))) p100v.err_ p100v.made_))))))))) (some (Step.out (Fl.go ())))
noncomputable def wire_Reader_Int (p1low : Int) (p2high : Int) (p100v : WireReader) : Option (Int × WireReader) :=
 (wire_Reader_dead p100v).bind fun (x1 : Bool) => cond x1 (some ((0 : Int), p100v)) ((slcL p100v.b_ p100v.at_).bind fun (x5 : (List UInt8)) => ((loopO (wire_Reader_Int_l1 p100v p1low p2high) (((0 : Int), (0 : Int)))) : Option (Fl (Int × WireReader) Unit)).bind fun (x7 : (Fl (Int × WireReader) Unit)) => Fl.next x7 (fun (j9 : Unit) => (some ((0 : Int), (WireReader.mk p100v.b_ p100v.at_ (3 : Int) p100v.made_)))))
theorem w_wire_Reader_Int {p1low : Int} {p2high : Int} {p100v : WireReader} {res : (Int × WireReader)} (h : wire_Reader_Int p1low p2high p100v = some res) : ACalls Try.prog 10 [.box 0 0, ci p1low, ci p2high] [AV.cs (rowWireReader p100v)] (ci res.1) [AV.cs (rowWireReader res.2)] := by
 unfold wire_Reader_Int at h
 refine acalls (fn := Try.f10) [0, 1, 2, 6, 7, 8, 9, 10, 11, 13, 23, 24, 29, 46, 60, 88] (by kernel_rfl) Try.func10 rfl (by kernel_rfl) (by kernel_rfl) <| w_sr <| sI rfl <| o_ek (fr' := [(0, .box 0 0), (1, aI), (2, aI)]) rfl rfl <| w_seqw <| w_sr <| mV (v := .box 0 0) rfl ?_
 obtain ⟨x1, hx1, h2⟩ := bind_s h
 refine o_call (v := aB) (σ' := [aLIIB]) [0] rfl (w_wire_Reader_dead hx1) rfl rfl ⟨lr, trivial⟩ (st_c ⟨rfl, rfl, rfl, rfl, trivial⟩ st_nil) rfl rfl rfl <| o_ek (fr' := [(0, .box 0 0), (1, aI), (2, aI), (13, aB)]) rfl rfl <| w_ch h2 rfl (fun hb3 h3 => ?_) (fun hb3 h3 => ?_)
 ·
  refine w_sr <| sI rfl <| o_ek (fr' := [(6, aI)]) rfl rfl <| w_ret <| e_seq_r ?_
  obtain rfl := sy h3
  exact e_ret (rs' := [.tmp 6]) rfl <| r_tmp (v := aI) rfl <| r_nil <| fin_gen [] rfl rfl rfl lr (st_c ⟨rfl, rfl, rfl, rfl, trivial⟩ st_nil)
 ·
  refine w_skip <| e_kw <| w_seqw <| w_planT [.q 0, .q 1, .q 2, .q 3, .q 4, .q 5, .q 6, .q 7, .q 8, .n 9 []] [(some 14, [0]), (some 15, [14]), (some 16, [15]), (some 17, [16]), (some 18, [0]), (some 19, [18]), (some 20, [19]), (some 21, [20]), (some 22, [17, 21]), (some 7, [22])] [0, 1, 3, 7, 0, 16, 48, 112, 255, 511] (by kernel_rfl) <| dq rfl rfl (p_move (v := .box 0 0) rfl) <| dq rfl rfl (p_nc rfl) <| dq rfl rfl (p_fa tf29x0 rfl) <| dq rfl rfl (p_load (v := aL) tv22 rfl rfl rfl) <| dq rfl rfl (p_move (v := .box 0 0) rfl) <| dq rfl rfl (p_nc rfl) <| dq rfl rfl (p_fa tf29x1 rfl) <| dq rfl rfl (p_load (v := aI) tv3 rfl rfl rfl) ?_
  obtain ⟨x5, hx5, h6⟩ := bind_s h3
  refine dq rfl rfl (p_sl_l tn22 ts22 (isl_c rfl) rfl (slcL_some hx5).1) <| d_n rfl ?_ rfl
  refine sL rfl <| o_rc <| ⟨rc_nil, ?_⟩
  refine d_ek (fr' := [(0, .box 0 0), (1, aI), (2, aI), (7, aL)]) rfl rfl <| w_sr <| sI rfl <| o_ek (fr' := [(0, .box 0 0), (1, aI), (2, aI), (7, aL), (8, aI)]) rfl rfl <| w_seqw <| w_sr <| mI rfl <| o_ek (fr' := [(0, .box 0 0), (1, aI), (2, aI), (7, aL), (8, aI), (23, aI)]) rfl rfl ?_
  obtain ⟨x7, hx7, h8⟩ := bind_s h6
  refine w_jtail cl_kw (fun j9 => x7 = Fl.go j9) (fun (j9 : Unit) => ([(0, .box 0 0)] : Fr)) (fun (j9 : Unit) => ([[.c (PV.ls 1 brow p100v.b_), ci p100v.at_, ci p100v.err_, .c (.bool p100v.made_)]] : St)) ?_ ?_
  ·
   refine w_block <| w_loopo _ (fun (s10 : (Int × Int)) => ([(0, .box 0 0), (1, ci p1low), (2, ci p2high), (7, .c (PV.ls 1 brow (List.drop (Int.toNat p100v.at_) p100v.b_))), (8, .c (.int .u64 s10.1)), (23, ci s10.2)] : Fr)) (fun (s10 : (Int × Int)) => ([[.c (PV.ls 1 brow p100v.b_), ci p100v.at_, ci p100v.err_, .c (.bool p100v.made_)]] : St)) hx7 (w_weak [] 1 rfl rfl rfl rfl ⟨lr, lr, lr, lr, lr, lr, trivial⟩ (st_r rfl st_nil)) ?_
   intro s10 st10 hs10 ho10
   unfold wire_Reader_Int_l1 at hs10
   refine w_sr <| o_p rfl (p_lss rfl rfl) <| o_ek (fr' := [(0, .box 0 0), (1, aI), (2, aI), (7, aL), (8, aI), (23, aI), (24, aB)]) rfl rfl <| w_seqw <| w_ch hs10 rfl (fun hb11 h11 => ?_) (fun hb11 h11 => ?_)
   ·
    refine w_skip <| e_kw <| w_seqw <| w_block <| w_sr <| mI rfl <| sI rfl <| o_ek (fr' := [(0, .box 0 0), (1, aI), (2, aI), (7, aL), (8, aI), (9, aI), (23, aI)]) rfl rfl <| w_seqw <| w_sr <| mI rfl ?_
    refine mL rfl <| o_p rfl (p_len ti22 (isl_c rfl)) <| o_p rfl (p_geq rfl rfl) <| o_ek (fr' := [(0, .box 0 0), (1, aI), (2, aI), (7, aL), (8, aI), (9, aI), (23, aI), (29, aB)]) rfl rfl <| w_ch h11 rfl (fun hb12 h12 => ?_) (fun hb12 h12 => ?_)
    ·
     refine w_sr <| mV (v := .box 0 0) rfl <| o_p rfl (p_nc rfl) <| o_p rfl (p_fa tf29x2 rfl) <| o_store (v := aI) (us := [aI]) (cs := aLIIB) (σ' := [aLIIB]) rfl tv27 rfl rfl rfl rfl rfl rfl rfl rfl <| o_ek (fr' := []) rfl rfl <| w_sr <| sI rfl <| o_ek (fr' := [(6, aI)]) rfl rfl <| w_ret <| e_seq_r ?_
     refine e_blk_r <| e_seq_r <| e_seq_r <| e_blk_r <| e_seq_r <| e_seq_r ?_
     have h13 := un_out h12 ho10
     have h14 := un_done h13 h8
     obtain rfl := sy h14
     exact e_ret (rs' := [.tmp 6]) rfl <| r_tmp (v := aI) rfl <| r_nil <| fin_gen [] rfl rfl rfl lr (st_c ⟨rfl, rfl, rfl, rfl, trivial⟩ st_nil)
    ·
     refine w_skip <| e_kw <| w_sr <| mL rfl <| mI rfl ?_
     obtain ⟨x16, hx16, h17⟩ := bind_s h12
     refine o_p rfl (p_ia (cs := [PV.int _ _]) ts22 (isl_c rfl) rfl hx16 rfl) <| o_p rfl (p_loade (p := PV.int _ _) tv5 rfl rfl) <| sI rfl <| o_ek (fr' := [(0, .box 0 0), (1, aI), (2, aI), (7, aL), (8, aI), (9, aI), (10, aI), (23, aI)]) rfl rfl <| w_sr <| mI rfl <| mI rfl <| o_p rfl (p_and rfl rfl) <| o_p rfl (p_conv tk5 tk41 rfl) <| mI rfl <| o_p rfl (p_mul rfl rfl) ?_
     obtain ⟨x18, hx18, h19⟩ := bind_s h17
     refine o_p rfl (p_shl rfl rfl (nn_some hx18).1) <| o_p rfl (p_or rfl rfl) <| sI rfl <| o_ek (fr' := [(0, .box 0 0), (1, aI), (2, aI), (7, aL), (8, aI), (9, aI), (10, aI), (23, aI)]) rfl rfl <| w_seqw <| w_sr <| mI rfl <| o_p rfl (p_geq rfl rfl) <| o_ek (fr' := [(0, .box 0 0), (1, aI), (2, aI), (7, aL), (8, aI), (9, aI), (10, aI), (23, aI), (46, aB)]) rfl rfl <| w_ch h19 rfl (fun hb20 h20 => ?_) (fun hb20 h20 => ?_)
     ·
      exact w_exit <| e_seq_x <| e_blk_h <| e_kw <| w_region <| o_p rfl (p_add rfl rfl) <| mI rfl <| o_end (fr' := [(0, .box 0 0), (1, aI), (2, aI), (7, aL), (8, aI), (9, aI), (10, aI), (23, aI), (46, aB)]) rfl <| e_l _ (sy h20) (w_weak [] 1 rfl rfl rfl rfl ⟨lr, lr, lr, lr, lr, lr, trivial⟩ (st_r rfl st_nil))
     ·
      refine w_skip <| e_kw <| w_seqw <| w_sr <| mI rfl <| o_p rfl (p_gtr rfl rfl) <| mB rfl <| og rfl rfl rfl (fun hc => (p_move (v := aI) rfl)) <| og rfl rfl rfl (fun hc => (p_eql (gx rfl hc) rfl)) <| o_p rfl (p_picky rfl rfl rfl (fun e => keq e)) <| mB rfl <| og rfl rfl rfl (fun hc => (p_move (v := aI) rfl)) ?_
      refine og rfl rfl rfl (fun hc => (p_eql (gx rfl hc) rfl)) <| og rfl rfl rfl (fun hc => (p_move (v := aB) (gx rfl hc))) <| o_gg rfl rfl (fun hc => ov_p rfl (p_move (v := aI) rfl)) <| o_gg rfl rfl (fun hc => ov_p rfl (p_gtr (gx rfl hc) rfl)) <| og rfl rfl rfl (fun hc => (p_picky (gx rfl hc) rfl rfl (fun e => band hc (keq e)))) <| o_p rfl (p_pickz rfl rfl rfl (fun e => keq e)) <| o_ek (fr' := [(0, .box 0 0), (1, aI), (2, aI), (8, aI), (9, aI), (60, aB)]) rfl rfl <| w_ch h20 rfl (fun hb21 h21 => ?_) (fun hb21 h21 => ?_)
      ·
       refine w_sr <| mV (v := .box 0 0) rfl <| o_p rfl (p_nc rfl) <| o_p rfl (p_fa tf29x2 rfl) <| o_store (v := aI) (us := [aI]) (cs := aLIIB) (σ' := [aLIIB]) rfl tv27 rfl rfl rfl rfl rfl rfl rfl rfl <| o_ek (fr' := []) rfl rfl <| w_sr <| sI rfl <| o_ek (fr' := [(6, aI)]) rfl rfl <| w_ret <| e_seq_r ?_
       refine e_blk_r <| e_seq_r <| e_seq_r <| e_blk_r <| e_seq_r <| e_seq_r ?_
       have h22 := un_out h21 ho10
       have h23 := un_done h22 h8
       obtain rfl := sy h23
       exact e_ret (rs' := [.tmp 6]) rfl <| r_tmp (v := aI) rfl <| r_nil <| fin_gen [] rfl rfl rfl lr (st_c ⟨rfl, rfl, rfl, rfl, trivial⟩ st_nil)
      ·
       refine w_skip <| e_kw <| w_sr <| mV (v := .box 0 0) rfl <| o_p rfl (p_nc rfl) <| o_p rfl (p_fa tf29x1 rfl) <| o_p rfl (p_load (v := aI) tv3 rfl rfl rfl) <| mI rfl <| o_p rfl (p_add rfl rfl) <| o_p rfl (p_add rfl rfl) <| o_p rfl (p_nc rfl) <| o_p rfl (p_fa tf29x1 rfl) ?_
       refine o_store (v := aI) (us := [aI]) (cs := aLIIB) (σ' := [aLIIB]) rfl tv3 rfl rfl rfl rfl rfl rfl rfl rfl <| o_ek (fr' := [(0, .box 0 0), (1, aI), (2, aI), (8, aI)]) rfl rfl <| w_sr <| mI rfl <| o_p rfl (p_shr rfl rfl (by decide)) <| o_p rfl (p_conv tk41 tk3 rfl) <| mI rfl <| o_p rfl (p_and rfl rfl) <| o_p rfl (p_conv tk41 tk3 rfl) <| o_p rfl (p_neg rfl) <| o_p rfl (p_xor rfl rfl) <| sI rfl ?_
       refine o_ek (fr' := [(0, .box 0 0), (1, aI), (2, aI), (11, aI)]) rfl rfl <| w_seqw <| w_sr <| mI rfl <| mI rfl <| o_p rfl (p_lss rfl rfl) <| mB rfl <| og rfl rfl rfl (fun hc => (p_move (v := aI) rfl)) <| og rfl rfl rfl (fun hc => (p_move (v := aI) rfl)) <| og rfl rfl rfl (fun hc => (p_gtr (gx rfl hc) (gx rfl hc))) <| o_p rfl (p_pickz rfl rfl rfl (fun e => keq e)) <| o_ek (fr' := [(0, .box 0 0), (11, aI), (88, aB)]) rfl rfl ?_
       refine w_ch h21 rfl (fun hb25 h25 => ?_) (fun hb25 h25 => ?_)
       ·
        refine w_sr <| mV (v := .box 0 0) rfl <| o_p rfl (p_nc rfl) <| o_p rfl (p_fa tf29x2 rfl) <| o_store (v := aI) (us := [aI]) (cs := aLIIB) (σ' := [aLIIB]) rfl tv27 rfl rfl rfl rfl rfl rfl rfl rfl <| o_ek (fr' := []) rfl rfl <| w_sr <| sI rfl <| o_ek (fr' := [(6, aI)]) rfl rfl <| w_ret <| e_seq_r ?_
        refine e_blk_r <| e_seq_r <| e_seq_r <| e_blk_r <| e_seq_r <| e_seq_r ?_
        have h26 := un_out h25 ho10
        have h27 := un_done h26 h8
        obtain rfl := sy h27
        exact e_ret (rs' := [.tmp 6]) rfl <| r_tmp (v := aI) rfl <| r_nil <| fin_gen [] rfl rfl rfl lr (st_c ⟨rfl, rfl, rfl, rfl, trivial⟩ st_nil)
       ·
        refine w_skip <| e_kw <| w_sr <| mI rfl <| sI rfl <| o_ek (fr' := [(6, aI)]) rfl rfl <| w_ret <| e_blk_r <| e_seq_r <| e_seq_r <| e_blk_r <| e_seq_r ?_
        refine e_seq_r ?_
        have h29 := un_out h25 ho10
        have h30 := un_done h29 h8
        obtain rfl := sy h30
        exact e_ret (rs' := [.tmp 6]) rfl <| r_tmp (v := aI) rfl <| r_nil <| fin_gen [] rfl rfl rfl lr (st_c ⟨rfl, rfl, rfl, rfl, trivial⟩ st_nil)
   ·
    refine w_exit <| e_seq_x <| e_seq_x <| e_blk_h ?_
    have h32 := un_out h11 ho10
    exact e_j _ (sy h32) (w_weak [] 1 rfl rfl rfl rfl ⟨lr, trivial⟩ (st_r rfl st_nil))
  ·
   intro j9 hj33
   have h33 := un_go hj33 h8
   refine e_kw <| w_sr <| mV (v := .box 0 0) rfl <| o_p rfl (p_nc rfl) <| o_p rfl (p_fa tf29x2 rfl) <| o_store (v := aI) (us := [aI]) (cs := aLIIB) (σ' := [aLIIB]) rfl tv27 rfl rfl rfl rfl rfl rfl rfl rfl <| o_ek (fr' := []) rfl rfl <| w_sr <| sI rfl <| o_ek (fr' := [(6, aI)]) rfl rfl <| w_ret ?_
   obtain rfl := sy h33
   exact e_ret (rs' := [.tmp 6]) rfl <| r_tmp (v := aI) rfl <| r_nil <| fin_gen [] rfl rfl rfl lr (st_c ⟨rfl, rfl, rfl, rfl, trivial⟩ st_nil)
noncomputable def wire_Reader_dead_nil  : Option Bool :=
 some true
theorem w_wire_Reader_dead_nil  {res : Bool} (h : wire_Reader_dead_nil = some res) : ACalls Try.prog 20 [.nilptr] [] (.c (.bool res)) [] := by
 unfold wire_Reader_dead_nil at h
 refine acalls (fn := Try.f20) [0, 2] (by kernel_rfl) Try.func20 rfl (by kernel_rfl) (by kernel_rfl) <| w_sr <| sB rfl <| o_ek (fr' := [(0, .nilptr)]) rfl rfl <| w_sr <| mV (v := .nilptr) rfl <| o_p rfl (p_neql ti25 rfl rfl) <| mB rfl <| o_no rfl rfl rfl <| o_no rfl rfl rfl <| o_no rfl rfl rfl ?_
 refine o_no rfl rfl rfl <| o_no rfl rfl rfl <| o_p rfl (p_pick_t rfl rfl rfl) <| mB rfl <| o_no rfl rfl rfl <| o_no rfl rfl rfl <| o_no rfl rfl rfl <| o_no rfl rfl rfl <| o_no rfl rfl rfl <| o_p rfl (p_pick_t rfl rfl rfl) <| sB rfl <| o_ek (fr' := [(2, aB)]) rfl rfl <| w_ret ?_
 obtain rfl := sy h
 exact e_ret (rs' := [.tmp 2]) rfl <| r_tmp (v := aB) rfl <| r_nil <| fin_gen [] rfl rfl rfl lr st_nil
noncomputable def wire_Reader_Int_nil (p1low : Int) (p2high : Int) : Option Int :=
 (wire_Reader_dead_nil).bind fun (x1 : Bool) => cond x1 (some (0 : Int)) (none)
theorem w_wire_Reader_Int_nil {p1low : Int} {p2high : Int} {res : Int} (h : wire_Reader_Int_nil p1low p2high = some res) : ACalls Try.prog 10 [.nilptr, ci p1low, ci p2high] [] (ci res) [] := by
 unfold wire_Reader_Int_nil at h
 refine acalls (fn := Try.f10) [0, 1, 2, 6, 7, 8, 9, 10, 11, 13, 23, 24, 29, 46, 60, 88] (by kernel_rfl) Try.func10 rfl (by kernel_rfl) (by kernel_rfl) <| w_sr <| sI rfl <| o_ek (fr' := [(0, .nilptr), (1, aI), (2, aI)]) rfl rfl <| w_seqw <| w_sr <| mV (v := .nilptr) rfl ?_
 obtain ⟨x1, hx1, h2⟩ := bind_s h
 refine o_v (ov_call (v := aB) rfl (w_wire_Reader_dead_nil hx1) ⟨lr, trivial⟩ rfl rfl rfl) <| o_ek (fr' := [(0, .nilptr), (1, aI), (2, aI), (13, aB)]) rfl rfl <| w_ch h2 rfl (fun hb3 h3 => ?_) (fun hb3 h3 => ?_)
 ·
  refine w_sr <| sI rfl <| o_ek (fr' := [(6, aI)]) rfl rfl <| w_ret <| e_seq_r ?_
  obtain rfl := sy h3
  exact e_ret (rs' := [.tmp 6]) rfl <| r_tmp (v := aI) rfl <| r_nil <| fin_gen [] rfl rfl rfl lr st_nil
 ·
  exact w_skip <| e_kw <| w_seqw <| w_planT [.q 0, .q 1, .q 2, .q 3, .q 4, .q 5, .q 6, .q 7, .q 8, .n 9 []] [(some 14, [0]), (some 15, [14]), (some 16, [15]), (some 17, [16]), (some 18, [0]), (some 19, [18]), (some 20, [19]), (some 21, [20]), (some 22, [17, 21]), (some 7, [22])] [0, 1, 3, 7, 0, 16, 48, 112, 255, 511] (by kernel_rfl) <| dq rfl rfl (p_move (v := .nilptr) rfl) <| none_ne h3
noncomputable def wire_Reader_Text (p1most : Int) (p100v : WireReader) : Option ((List UInt8) × WireReader) :=
 (wire_Reader_Int (0 : Int) p1most p100v).bind fun (x1 : (Int × WireReader)) => (wire_Reader_dead x1.2).bind fun (x3 : Bool) => cond x3 (some (([] : List UInt8), x1.2)) (cond (decide ((IntKind.wrap .i64 (((x1.2.b_).length : Int) - x1.2.at_)) < x1.1)) (some (([] : List UInt8), (WireReader.mk x1.2.b_ x1.2.at_ (4 : Int) x1.2.made_))) ((slcB x1.2.b_ x1.2.at_ (IntKind.wrap .i64 (x1.2.at_ + x1.1))).bind fun (x9 : (List UInt8)) => some ((List.drop (Int.toNat x1.2.at_) (List.take (Int.toNat (IntKind.wrap .i64 (x1.2.at_ + x1.1))) x1.2.b_)), (WireReader.mk x1.2.b_ (IntKind.wrap .i64 (x1.2.at_ + x1.1)) x1.2.err_ x1.2.made_))))
theorem w_wire_Reader_Text {p1most : Int} {p100v : WireReader} {res : ((List UInt8) × WireReader)} (h : wire_Reader_Text p1most p100v = some res) : ACalls Try.prog 11 [.box 0 0, ci p1most] [AV.cs (rowWireReader p100v)] (.c (.str res.1)) [AV.cs (rowWireReader res.2)] := by
 unfold wire_Reader_Text at h
 refine acalls (fn := Try.f11) [0, 1, 4, 5, 6, 11, 23] (by kernel_rfl) Try.func11 rfl (by kernel_rfl) (by kernel_rfl) <| w_sr <| sS rfl <| o_ek (fr' := [(0, .box 0 0), (1, aI)]) rfl rfl <| w_sr <| mV (v := .box 0 0) rfl <| mI rfl ?_
 obtain ⟨x1, hx1, h2⟩ := bind_s h
 refine o_call (v := aI) (σ' := [aLIIB]) [0] rfl (w_wire_Reader_Int hx1) rfl rfl ⟨lr, lr, lr, trivial⟩ (st_c ⟨rfl, rfl, rfl, rfl, trivial⟩ st_nil) rfl rfl rfl <| sI rfl <| o_ek (fr' := [(0, .box 0 0), (5, aI)]) rfl rfl <| w_seqw <| w_sr <| mV (v := .box 0 0) rfl ?_
 obtain ⟨x3, hx3, h4⟩ := bind_s h2
 refine o_call (v := aB) (σ' := [aLIIB]) [0] rfl (w_wire_Reader_dead hx3) rfl rfl ⟨lr, trivial⟩ (st_c ⟨rfl, rfl, rfl, rfl, trivial⟩ st_nil) rfl rfl rfl <| o_ek (fr' := [(0, .box 0 0), (5, aI), (11, aB)]) rfl rfl <| w_ch h4 rfl (fun hb5 h5 => ?_) (fun hb5 h5 => ?_)
 ·
  refine w_sr <| sS rfl <| o_ek (fr' := [(4, aS)]) rfl rfl <| w_ret <| e_seq_r ?_
  obtain rfl := sy h5
  exact e_ret (rs' := [.tmp 4]) rfl <| r_tmp (v := aS) rfl <| r_nil <| fin_gen [] rfl rfl rfl lr (st_c ⟨rfl, rfl, rfl, rfl, trivial⟩ st_nil)
 ·
  refine w_skip <| e_kw <| w_seqw <| w_seqw <| w_planT [.q 0, .q 1, .q 2, .q 3, .q 4, .q 5, .q 6, .q 7, .q 8, .q 9, .q 10, .q 11] [(some 12, [5]), (some 13, [0]), (some 14, [13]), (some 15, [14]), (some 16, [15]), (some 17, [16]), (some 18, [0]), (some 19, [18]), (some 20, [19]), (some 21, [20]), (some 22, [17, 21]), (some 23, [12, 22])] [0, 0, 2, 6, 14, 30, 0, 64, 192, 448, 1022, 2047] (by kernel_rfl) <| dq rfl rfl (p_move (v := aI) rfl) <| dq rfl rfl (p_move (v := .box 0 0) rfl) <| dq rfl rfl (p_nc rfl) <| dq rfl rfl (p_fa tf29x0 rfl) <| dq rfl rfl (p_load (v := aL) tv22 rfl rfl rfl) <| dq rfl rfl (p_len ti22 (isl_c rfl)) <| dq rfl rfl (p_move (v := .box 0 0) rfl) <| dq rfl rfl (p_nc rfl) ?_
  refine dq rfl rfl (p_fa tf29x1 rfl) <| dq rfl rfl (p_load (v := aI) tv3 rfl rfl rfl) <| dq rfl rfl (p_sub rfl rfl) <| dq rfl rfl (p_gtr rfl rfl) <| d_ek (fr' := [(0, .box 0 0), (5, aI), (23, aB)]) rfl rfl <| w_ch h5 rfl (fun hb7 h7 => ?_) (fun hb7 h7 => ?_)
  ·
   refine w_sr <| mV (v := .box 0 0) rfl <| o_p rfl (p_nc rfl) <| o_p rfl (p_fa tf29x2 rfl) <| o_store (v := aI) (us := [aI]) (cs := aLIIB) (σ' := [aLIIB]) rfl tv27 rfl rfl rfl rfl rfl rfl rfl rfl <| o_ek (fr' := []) rfl rfl <| w_sr <| sS rfl <| o_ek (fr' := [(4, aS)]) rfl rfl <| w_ret <| e_seq_r ?_
   obtain rfl := sy h7
   exact e_ret (rs' := [.tmp 4]) rfl <| r_tmp (v := aS) rfl <| r_nil <| fin_gen [] rfl rfl rfl lr (st_c ⟨rfl, rfl, rfl, rfl, trivial⟩ st_nil)
  ·
   refine w_skip <| e_kw <| w_seqw <| w_planT [.q 0, .q 1, .q 2, .q 3, .q 4, .q 5, .q 6, .q 7, .q 8, .q 9, .q 10, .q 11, .q 12, .q 13, .q 14, .q 15, .n 16 []] [(some 27, [0]), (some 28, [27]), (some 29, [28]), (some 30, [29]), (some 31, [0]), (some 32, [31]), (some 33, [32]), (some 34, [33]), (some 35, [0]), (some 36, [35]), (some 37, [36]), (some 38, [37]), (some 39, [5]), (some 40, [38, 39]), (some 41, [30, 34, 40]), (some 42, [41]), (some 6, [42])] [0, 1, 3, 7, 0, 16, 48, 112, 0, 256, 768, 1792, 0, 7936, 16383, 32767, 65535] (by kernel_rfl) <| dq rfl rfl (p_move (v := .box 0 0) rfl) <| dq rfl rfl (p_nc rfl) <| dq rfl rfl (p_fa tf29x0 rfl) <| dq rfl rfl (p_load (v := aL) tv22 rfl rfl rfl) <| dq rfl rfl (p_move (v := .box 0 0) rfl) <| dq rfl rfl (p_nc rfl) <| dq rfl rfl (p_fa tf29x1 rfl) <| dq rfl rfl (p_load (v := aI) tv3 rfl rfl rfl) <| dq rfl rfl (p_move (v := .box 0 0) rfl) ?_
   refine dq rfl rfl (p_nc rfl) <| dq rfl rfl (p_fa tf29x1 rfl) <| dq rfl rfl (p_load (v := aI) tv3 rfl rfl rfl) <| dq rfl rfl (p_move (v := aI) rfl) <| dq rfl rfl (p_add rfl rfl) ?_
   obtain ⟨x9, hx9, h10⟩ := bind_s h7
   refine dq rfl rfl (p_sl_b tn22 ts22 (isl_c rfl) rfl rfl (slcB_some hx9).1) <| dq rfl rfl (p_convbs tby22 ti9 (isl_c rfl)) <| d_n rfl ?_ rfl
   refine sS rfl <| o_rc <| ⟨rc_nil, ?_⟩
   refine d_ek (fr' := [(0, .box 0 0), (5, aI), (6, aS)]) rfl rfl <| w_sr <| mV (v := .box 0 0) rfl <| o_p rfl (p_nc rfl) <| o_p rfl (p_fa tf29x1 rfl) <| o_p rfl (p_load (v := aI) tv3 rfl rfl rfl) <| mI rfl <| o_p rfl (p_add rfl rfl) <| o_p rfl (p_nc rfl) <| o_p rfl (p_fa tf29x1 rfl) <| o_store (v := aI) (us := [aI]) (cs := aLIIB) (σ' := [aLIIB]) rfl tv3 rfl rfl rfl rfl rfl rfl rfl rfl <| o_ek (fr' := [(6, aS)]) rfl rfl ?_
   refine w_sr <| mS rfl <| sS rfl <| o_ek (fr' := [(4, aS)]) rfl rfl <| w_ret ?_
   obtain rfl := sy h10
   exact e_ret (rs' := [.tmp 4]) rfl <| r_tmp (v := aS) rfl <| r_nil <| fin_gen [] rfl rfl rfl lr (st_c ⟨rfl, rfl, rfl, rfl, trivial⟩ st_nil)
noncomputable def wire_Reader_Bool_nil  : Option Bool :=
 (wire_Reader_dead_nil).bind fun (x1 : Bool) => cond x1 (some false) (none)
theorem w_wire_Reader_Bool_nil  {res : Bool} (h : wire_Reader_Bool_nil = some res) : ACalls Try.prog 12 [.nilptr] [] (.c (.bool res)) [] := by
 unfold wire_Reader_Bool_nil at h
 refine acalls (fn := Try.f12) [0, 2, 3, 5, 15, 30] (by kernel_rfl) Try.func12 rfl (by kernel_rfl) (by kernel_rfl) <| w_sr <| sB rfl <| o_ek (fr' := [(0, .nilptr)]) rfl rfl <| w_seqw <| w_sr <| mV (v := .nilptr) rfl ?_
 obtain ⟨x1, hx1, h2⟩ := bind_s h
 refine o_v (ov_call (v := aB) rfl (w_wire_Reader_dead_nil hx1) ⟨lr, trivial⟩ rfl rfl rfl) <| o_ek (fr' := [(0, .nilptr), (5, aB)]) rfl rfl <| w_ch h2 rfl (fun hb3 h3 => ?_) (fun hb3 h3 => ?_)
 ·
  refine w_sr <| sB rfl <| o_ek (fr' := [(2, aB)]) rfl rfl <| w_ret <| e_seq_r ?_
  obtain rfl := sy h3
  exact e_ret (rs' := [.tmp 2]) rfl <| r_tmp (v := aB) rfl <| r_nil <| fin_gen [] rfl rfl rfl lr st_nil
 ·
  exact w_skip <| e_kw <| w_seqw <| w_seqw <| w_planT [.q 0, .q 1, .q 2, .q 3, .q 4, .q 5, .q 6, .q 7, .q 8, .q 9] [(some 6, [0]), (some 7, [6]), (some 8, [7]), (some 9, [8]), (some 10, [0]), (some 11, [10]), (some 12, [11]), (some 13, [12]), (some 14, [13]), (some 15, [9, 14])] [0, 1, 3, 7, 0, 16, 48, 112, 240, 511] (by kernel_rfl) <| dq rfl rfl (p_move (v := .nilptr) rfl) <| none_ne h3
noncomputable def wire_Reader_Left (p100v : WireReader) : Option Int :=
 (wire_Reader_dead p100v).bind fun (x1 : Bool) => cond x1 (some (0 : Int)) (some (IntKind.wrap .i64 (((p100v.b_).length : Int) - p100v.at_)))
theorem w_wire_Reader_Left {p100v : WireReader} {res : Int} (h : wire_Reader_Left p100v = some res) : ACalls Try.prog 13 [.box 0 0] [AV.cs (rowWireReader p100v)] (ci res) [AV.cs (rowWireReader p100v)] := by
 unfold wire_Reader_Left at h
 refine acalls (fn := Try.f13) [0, 2, 4] (by kernel_rfl) Try.func13 rfl (by kernel_rfl) (by kernel_rfl) <| w_sr <| sI rfl <| o_ek (fr' := [(0, .box 0 0)]) rfl rfl <| w_seqw <| w_sr <| mV (v := .box 0 0) rfl ?_
 obtain ⟨x1, hx1, h2⟩ := bind_s h
 refine o_call (v := aB) (σ' := [aLIIB]) [0] rfl (w_wire_Reader_dead hx1) rfl rfl ⟨lr, trivial⟩ (st_c ⟨rfl, rfl, rfl, rfl, trivial⟩ st_nil) rfl rfl rfl <| o_ek (fr' := [(0, .box 0 0), (4, aB)]) rfl rfl <| w_ch h2 rfl (fun hb3 h3 => ?_) (fun hb3 h3 => ?_)
 ·
  refine w_sr <| sI rfl <| o_ek (fr' := [(2, aI)]) rfl rfl <| w_ret <| e_seq_r ?_
  obtain rfl := sy h3
  exact e_ret (rs' := [.tmp 2]) rfl <| r_tmp (v := aI) rfl <| r_nil <| fin_gen [] rfl rfl rfl lr (st_r rfl st_nil)
 ·
  refine w_skip <| e_kw <| w_seqw <| w_planT [.q 0, .q 1, .q 2, .q 3, .q 4, .q 5, .q 6, .q 7, .q 8, .q 9, .n 10 []] [(some 5, [0]), (some 6, [5]), (some 7, [6]), (some 8, [7]), (some 9, [8]), (some 10, [0]), (some 11, [10]), (some 12, [11]), (some 13, [12]), (some 14, [9, 13]), (some 2, [14])] [0, 1, 3, 7, 15, 0, 32, 96, 224, 511, 1023] (by kernel_rfl) <| dq rfl rfl (p_move (v := .box 0 0) rfl) <| dq rfl rfl (p_nc rfl) <| dq rfl rfl (p_fa tf29x0 rfl) <| dq rfl rfl (p_load (v := aL) tv22 rfl rfl rfl) <| dq rfl rfl (p_len ti22 (isl_c rfl)) <| dq rfl rfl (p_move (v := .box 0 0) rfl) <| dq rfl rfl (p_nc rfl) <| dq rfl rfl (p_fa tf29x1 rfl) <| dq rfl rfl (p_load (v := aI) tv3 rfl rfl rfl) ?_
  refine dq rfl rfl (p_sub rfl rfl) <| d_n rfl ?_ rfl
  refine sI rfl <| o_rc <| ⟨rc_nil, ?_⟩
  refine d_ek (fr' := [(2, aI)]) rfl rfl <| w_ret ?_
  obtain rfl := sy h3
  exact e_ret (rs' := [.tmp 2]) rfl <| r_tmp (v := aI) rfl <| r_nil <| fin_gen [] rfl rfl rfl lr (st_r rfl st_nil)
noncomputable def law01xequal_l1 (p0a : (List UInt8)) (p1b : (List UInt8)) (s6 : Int) : Option (Step Int (Fl Bool Unit)) :=
 cond (decide (s6 < ((p0a).length : Int))) ((idx p0a s6).bind fun (x8 : UInt8) => (idx p1b s6).bind fun (x10 : UInt8) => cond (!decide (((x8).toNat : Int) = ((x10).toNat : Int))) (some (Step.out (Fl.done false))) (some (Step.next (IntKind.wrap .i64 (s6 + (1 : Int)))))) (some (Step.out (Fl.go ())))
noncomputable def law01xequal (p0a : (List UInt8)) (p1b : (List UInt8)) : Option Bool :=
 cond (!decide (((p0a).length : Int) = ((p1b).length : Int))) (some false) (((loopO (law01xequal_l1 p0a p1b) ((0 : Int))) : Option (Fl Bool Unit)).bind fun (x3 : (Fl Bool Unit)) => Fl.next x3 (fun (j5 : Unit) => (some true)))
theorem w_law01xequal {p0a : (List UInt8)} {p1b : (List UInt8)} {res : Bool} (h : law01xequal p0a p1b = some res) : ACalls Try.prog 14 [.c (PV.ls 1 brow p0a), .c (PV.ls 1 brow p1b)] [] (.c (.bool res)) [] := by
 unfold law01xequal at h
 refine acalls (fn := Try.f14) [0, 1, 4, 5, 10, 12, 13, 14, 24] (by kernel_rfl) Try.func14 rfl (by kernel_rfl) (by kernel_rfl) <| w_sr <| sB rfl <| o_ek (fr' := [(0, aL), (1, aL)]) rfl rfl <| w_seqw <| w_sr <| mL rfl <| o_p rfl (p_len ti22 (isl_c rfl)) <| mL rfl <| o_p rfl (p_len ti22 (isl_c rfl)) <| o_p rfl (p_neq rfl rfl) ?_
 refine o_ek (fr' := [(0, aL), (1, aL), (10, aB)]) rfl rfl <| w_ch h rfl (fun hb1 h1 => ?_) (fun hb1 h1 => ?_)
 ·
  refine w_sr <| sB rfl <| o_ek (fr' := [(4, aB)]) rfl rfl <| w_ret <| e_seq_r ?_
  obtain rfl := sy h1
  exact e_ret (rs' := [.tmp 4]) rfl <| r_tmp (v := aB) rfl <| r_nil <| fin_gen [] rfl rfl rfl lr st_nil
 ·
  refine w_skip <| e_kw <| w_seqw <| w_sr <| mL rfl <| o_p rfl (p_len ti22 (isl_c rfl)) <| mI rfl <| o_ek (fr' := [(0, aL), (1, aL), (12, aI), (13, aI)]) rfl rfl ?_
  obtain ⟨x3, hx3, h4⟩ := bind_s h1
  refine w_jtail cl_kw (fun j5 => x3 = Fl.go j5) (fun (j5 : Unit) => ([] : Fr)) (fun (j5 : Unit) => ([] : St)) ?_ ?_
  ·
   refine w_block <| w_loopo _ (fun (s6 : Int) => ([(0, .c (PV.ls 1 brow p0a)), (1, .c (PV.ls 1 brow p1b)), (12, ci ((p0a).length : Int)), (13, ci s6)] : Fr)) (fun (s6 : Int) => ([] : St)) hx3 (w_weak [] 0 rfl rfl rfl rfl ⟨lr, lr, lr, lr, trivial⟩ st_nil) ?_
   intro s6 st6 hs6 ho6
   unfold law01xequal_l1 at hs6
   refine w_sr <| o_p rfl (p_lss rfl rfl) <| o_ek (fr' := [(0, aL), (1, aL), (12, aI), (13, aI), (14, aB)]) rfl rfl <| w_seqw <| w_ch hs6 rfl (fun hb7 h7 => ?_) (fun hb7 h7 => ?_)
   ·
    refine w_skip <| e_kw <| w_seqw <| w_block <| w_sr <| mI rfl <| sI rfl <| o_ek (fr' := [(0, aL), (1, aL), (5, aI), (12, aI), (13, aI)]) rfl rfl <| w_seqw <| w_planT [.q 0, .q 1, .q 2, .q 3, .q 4, .q 5, .q 6, .q 7, .q 8] [(some 16, [0]), (some 17, [5]), (some 18, [16, 17]), (some 19, [18]), (some 20, [1]), (some 21, [5]), (some 22, [20, 21]), (some 23, [22]), (some 24, [19, 23])] [0, 0, 3, 7, 0, 0, 48, 112, 255] (by kernel_rfl) <| dq rfl rfl (p_move (v := aL) rfl) <| dq rfl rfl (p_move (v := aI) rfl) ?_
    obtain ⟨x8, hx8, h9⟩ := bind_s h7
    refine dq rfl rfl (p_ia (cs := [PV.int _ _]) ts22 (isl_c rfl) rfl hx8 rfl) <| dq rfl rfl (p_loade (p := PV.int _ _) tv5 rfl rfl) <| dq rfl rfl (p_move (v := aL) rfl) <| dq rfl rfl (p_move (v := aI) rfl) ?_
    obtain ⟨x10, hx10, h11⟩ := bind_s h9
    refine dq rfl rfl (p_ia (cs := [PV.int _ _]) ts22 (isl_c rfl) rfl hx10 rfl) <| dq rfl rfl (p_loade (p := PV.int _ _) tv5 rfl rfl) <| dq rfl rfl (p_neq rfl rfl) <| d_ek (fr' := [(0, aL), (1, aL), (12, aI), (13, aI), (24, aB)]) rfl rfl <| w_ch h11 rfl (fun hb12 h12 => ?_) (fun hb12 h12 => ?_)
    ·
     refine w_sr <| sB rfl <| o_ek (fr' := [(4, aB)]) rfl rfl <| w_ret <| e_blk_r <| e_seq_r <| e_seq_r <| e_blk_r <| e_seq_r <| e_seq_r ?_
     have h13 := un_out h12 ho6
     have h14 := un_done h13 h4
     obtain rfl := sy h14
     exact e_ret (rs' := [.tmp 4]) rfl <| r_tmp (v := aB) rfl <| r_nil <| fin_gen [] rfl rfl rfl lr st_nil
    ·
     exact w_skip <| e_blk_n <| e_kw <| w_region <| o_p rfl (p_add rfl rfl) <| mI rfl <| o_end (fr' := [(0, aL), (1, aL), (12, aI), (13, aI), (24, aB)]) rfl <| e_l _ (sy h12) (w_weak [] 0 rfl rfl rfl rfl ⟨lr, lr, lr, lr, trivial⟩ st_nil)
   ·
    refine w_exit <| e_seq_x <| e_seq_x <| e_blk_h ?_
    have h16 := un_out h7 ho6
    exact e_j _ (sy h16) (w_weak [] 0 rfl rfl rfl rfl trivial st_nil)
  ·
   intro j5 hj17
   have h17 := un_go hj17 h4
   refine e_kw <| w_sr <| sB rfl <| o_ek (fr' := [(4, aB)]) rfl rfl <| w_ret ?_
   obtain rfl := sy h17
   exact e_ret (rs' := [.tmp 4]) rfl <| r_tmp (v := aB) rfl <| r_nil <| fin_gen [] rfl rfl rfl lr st_nil
noncomputable def ref01xzigzag (p0n : Int) : Option Int :=
 cond (decide ((0 : Int) ≤ p0n)) (some (IntKind.wrap .u64 ((2 : Int) * (IntKind.wrap .u64 p0n)))) (some (IntKind.wrap .u64 ((IntKind.wrap .u64 ((2 : Int) * (IntKind.wrap .u64 (IntKind.wrap .i64 (0 - (IntKind.wrap .i64 (p0n + (1 : Int)))))))) + (1 : Int))))
theorem w_ref01xzigzag {p0n : Int} {res : Int} (h : ref01xzigzag p0n = some res) : ACalls Try.prog 21 [ci p0n] [] (.c (.int .u64 res)) [] := by
 unfold ref01xzigzag at h
 refine acalls (fn := Try.f21) [0, 2, 4] (by kernel_rfl) Try.func21 rfl (by kernel_rfl) (by kernel_rfl) <| w_sr <| sI rfl <| o_ek (fr' := [(0, aI)]) rfl rfl <| w_seqw <| w_sr <| mI rfl <| o_p rfl (p_geq rfl rfl) <| o_ek (fr' := [(0, aI), (4, aB)]) rfl rfl <| w_ch h rfl (fun hb1 h1 => ?_) (fun hb1 h1 => ?_)
 ·
  refine w_sr <| mI rfl <| o_p rfl (p_conv tk3 tk41 rfl) <| o_p rfl (p_mul rfl rfl) <| sI rfl <| o_ek (fr' := [(2, aI)]) rfl rfl <| w_ret <| e_seq_r ?_
  obtain rfl := sy h1
  exact e_ret (rs' := [.tmp 2]) rfl <| r_tmp (v := aI) rfl <| r_nil <| fin_gen [] rfl rfl rfl lr st_nil
 ·
  refine w_skip <| e_kw <| w_sr <| mI rfl <| o_p rfl (p_add rfl rfl) <| o_p rfl (p_neg rfl) <| o_p rfl (p_conv tk3 tk41 rfl) <| o_p rfl (p_mul rfl rfl) <| o_p rfl (p_add rfl rfl) <| sI rfl <| o_ek (fr' := [(2, aI)]) rfl rfl <| w_ret ?_
  obtain rfl := sy h1
  exact e_ret (rs' := [.tmp 2]) rfl <| r_tmp (v := aI) rfl <| r_nil <| fin_gen [] rfl rfl rfl lr st_nil
noncomputable def ref01xPutInt_l1  (s8 : ((List UInt8) × Int)) : Option (Step ((List UInt8) × Int) ((List UInt8) × Int)) :=
 cond (decide ((127 : Int) < s8.2)) ((byteOf (IntKind.wrap .u8 (IntKind.wrap .u64 ((Int.tmod s8.2 (128 : Int)) + (128 : Int))))).bind fun (x10 : UInt8) => (app 1 s8.1 ([x10] : List UInt8)).bind fun (x12 : (List UInt8)) => some (Step.next (x12, (IntKind.wrap .u64 (Int.tdiv s8.2 (128 : Int)))))) (some (Step.out (s8.1, s8.2)))
noncomputable def ref01xPutInt (p0b : (List UInt8)) (p1n : Int) : Option (List UInt8) :=
 (app 1 ([] : List UInt8) p0b).bind fun (x1 : (List UInt8)) => (ref01xzigzag p1n).bind fun (x3 : Int) => ((loopO (ref01xPutInt_l1) ((x1, x3))) : Option ((List UInt8) × Int)).bind fun (x5 : ((List UInt8) × Int)) => ((byteOf (IntKind.wrap .u8 x5.2)).bind fun (x16 : UInt8) => (app 1 x5.1 ([x16] : List UInt8)).bind fun (x18 : (List UInt8)) => some x18)
theorem w_ref01xPutInt {p0b : (List UInt8)} {p1n : Int} {res : (List UInt8)} (h : ref01xPutInt p0b p1n = some res) : ACalls Try.prog 15 [.c (PV.ls 1 brow p0b), ci p1n] [] (AV.os 0 1 brow res) [] := by
 unfold ref01xPutInt at h
 refine acalls (fn := Try.f15) [0, 1, 4, 5, 6, 13] (by kernel_rfl) Try.func15 rfl (by kernel_rfl) (by kernel_rfl) <| w_sr <| sV (v := AV.nil) rfl <| o_ek (fr' := [(0, aL), (1, aI)]) rfl rfl <| w_sr <| o_rows (row := brow) (xs := ([] : List UInt8)) (rows := []) (σ' := []) [0] ts22 rfl rfl rfl arow_nil rfl rfl <| mL rfl ?_
 obtain ⟨x1, hx1, h2⟩ := bind_s h
 refine o_app (row := brow) ts22 rfl ti22 rfl (isl_c rfl) (fun _ => rfl) hx1 <| sV (v := aO) rfl <| o_ek (fr' := [(1, aI), (5, aO)]) rfl rfl <| w_sr <| mI rfl ?_
 obtain ⟨x3, hx3, h4⟩ := bind_s h2
 refine o_v (ov_call (v := aI) rfl (w_ref01xzigzag hx3) ⟨lr, trivial⟩ rfl rfl rfl) <| sI rfl <| o_ek (fr' := [(5, aO), (6, aI)]) rfl rfl ?_
 obtain ⟨x5, hx5, h6⟩ := bind_s h4
 refine w_join (fun j7 => x5 = j7) (fun (j7 : ((List UInt8) × Int)) => ([(5, AV.os 0 1 brow j7.1), (6, .c (.int .u64 j7.2))] : Fr)) (fun (j7 : ((List UInt8) × Int)) => ([] : St)) ?_ ?_
 ·
  refine w_block <| w_loopo _ (fun (s8 : ((List UInt8) × Int)) => ([(5, AV.os 0 1 brow s8.1), (6, .c (.int .u64 s8.2))] : Fr)) (fun (s8 : ((List UInt8) × Int)) => ([] : St)) hx5 (w_weak [144] 0 rfl rfl rfl rfl ⟨lr, lr, trivial⟩ st_nil) ?_
  intro s8 st8 hs8 ho8
  unfold ref01xPutInt_l1 at hs8
  refine w_seqw <| w_sr <| mI rfl <| o_p rfl (p_gtr rfl rfl) <| o_ek (fr' := [(5, aO), (6, aI), (13, aB)]) rfl rfl <| w_ch hs8 rfl (fun hb9 h9 => ?_) (fun hb9 h9 => ?_)
  ·
   refine w_skip <| e_kw <| w_block <| w_sr <| mV (v := aO) rfl <| mI rfl <| o_p rfl (p_rem rfl rfl (by decide)) <| o_p rfl (p_add rfl rfl) <| o_p rfl (p_conv tk41 tk5 rfl) ?_
   obtain ⟨x10, hx10, h11⟩ := bind_s h9
   refine o_rows (row := brow) (xs := ([x10] : List UInt8)) (rows := [[_]]) (σ' := []) [0] ts22 rfl rfl rfl (arow_cons (brow_of hx10) arow_nil) rfl rfl ?_
   obtain ⟨x12, hx12, h13⟩ := bind_s h11
   exact o_app (row := brow) ts22 rfl ti22 rfl (isl_o rfl) (fun _ => rfl) hx12 <| sV (v := aO) rfl <| o_ek (fr' := [(5, aO), (6, aI)]) rfl rfl <| w_region <| mI rfl <| o_p rfl (p_quo rfl rfl (by decide)) <| sI rfl <| o_end (fr' := [(5, aO), (6, aI)]) rfl <| e_blk_n <| e_l _ (sy h13) (w_weak [320] 0 rfl rfl rfl rfl ⟨lr, lr, trivial⟩ st_nil)
  ·
   refine w_exit <| e_seq_x <| e_seq_x <| e_blk_h ?_
   have h14 := un_out h9 ho8
   exact e_j _ (sy h14) (w_weak [0] 0 rfl rfl rfl rfl ⟨lr, lr, trivial⟩ st_nil)
 ·
  intro j7 hj15
  subst hj15
  refine w_sr <| mV (v := aO) rfl <| mI rfl <| o_p rfl (p_conv tk41 tk5 rfl) ?_
  obtain ⟨x16, hx16, h17⟩ := bind_s h6
  refine o_rows (row := brow) (xs := ([x16] : List UInt8)) (rows := [[_]]) (σ' := []) [0] ts22 rfl rfl rfl (arow_cons (brow_of hx16) arow_nil) rfl rfl ?_
  obtain ⟨x18, hx18, h19⟩ := bind_s h17
  refine o_app (row := brow) ts22 rfl ti22 rfl (isl_o rfl) (fun _ => rfl) hx18 <| sV (v := aO) rfl <| o_ek (fr' := [(5, aO)]) rfl rfl <| w_sr <| mV (v := aO) rfl <| sV (v := aO) rfl <| o_ek (fr' := [(4, aO)]) rfl rfl <| w_ret ?_
  obtain rfl := sy h19
  exact e_ret (rs' := [.tmp 4]) rfl <| r_tmp (v := aO) rfl <| r_nil <| fin_gen [432] rfl rfl rfl lr st_nil
noncomputable def ref01xOpen (p0b : (List UInt8)) : Option Ref01Reader :=
 (app 1 ([] : List UInt8) p0b).bind fun (x1 : (List UInt8)) => some (Ref01Reader.mk true x1 (0 : Int))
theorem w_ref01xOpen {p0b : (List UInt8)} {res : Ref01Reader} (h : ref01xOpen p0b = some res) : ACalls Try.prog 16 [.c (PV.ls 1 brow p0b)] [] (.box 0 0) [AV.cs (rowRef01Reader res)] := by
 unfold ref01xOpen at h
 refine acalls (fn := Try.f16) [0, 2] (by kernel_rfl) Try.func16 rfl (by kernel_rfl) (by kernel_rfl) <| w_sr <| sV (v := .nilptr) rfl <| o_ek (fr' := [(0, aL)]) rfl rfl <| w_sr <| o_rows (row := brow) (xs := ([] : List UInt8)) (rows := []) (σ' := []) [0] ts22 rfl rfl rfl arow_nil rfl rfl <| mL rfl ?_
 obtain ⟨x1, hx1, h2⟩ := bind_s h
 refine o_app (row := brow) ts22 rfl ti22 rfl (isl_c rfl) (fun _ => rfl) hx1 <| o_p rfl (p_build (cs := [aB, aO, aI]) tb45 rfl) <| o_box (v := .agg [aB, aO, aI]) (n := 0) (cs := [aB, aO, aI]) (σ' := [[aB, aO, aI]]) rfl rfl rfl rfl rfl <| sV (v := .box 0 0) rfl <| o_ek (fr' := [(2, .box 0 0)]) rfl rfl <| w_ret ?_
 obtain rfl := sy h2
 exact e_ret (rs' := [.tmp 2]) rfl <| r_tmp (v := .box 0 0) rfl <| r_nil <| fin_new (off := 0) (j := 0) rfl rfl rfl rfl rfl (st_c ⟨rfl, rfl, rfl, trivial⟩ st_nil)
noncomputable def ref01xReader_stopped (p100v : Ref01Reader) : Option Bool :=
 some (cond (!p100v.Made) true (!decide (p100v.Bad = (0 : Int))))
theorem w_ref01xReader_stopped {p100v : Ref01Reader} {res : Bool} (h : ref01xReader_stopped p100v = some res) : ACalls Try.prog 22 [.box 0 0] [AV.cs (rowRef01Reader p100v)] (.c (.bool res)) [AV.cs (rowRef01Reader p100v)] := by
 unfold ref01xReader_stopped at h
 refine acalls (fn := Try.f22) [0, 2] (by kernel_rfl) Try.func22 rfl (by kernel_rfl) (by kernel_rfl) <| w_sr <| sB rfl <| o_ek (fr' := [(0, .box 0 0)]) rfl rfl <| w_sr <| mV (v := .box 0 0) rfl <| o_p rfl (p_peql ti36 rfl rfl) <| mB rfl <| o_yes rfl rfl rfl <| mV (v := .box 0 0) rfl <| o_yes rfl rfl rfl ?_
 refine o_p rfl (p_nc rfl) <| o_yes rfl rfl rfl <| o_p rfl (p_fa tf45x0 rfl) <| o_yes rfl rfl rfl <| o_p rfl (p_load (v := aB) tv4 rfl rfl rfl) <| o_yes rfl rfl rfl <| o_p rfl (p_not rfl) <| o_p rfl (p_pick_f rfl rfl rfl) <| mB rfl <| og rfl rfl rfl (fun hc => (p_move (v := .box 0 0) rfl)) <| og rfl rfl rfl (fun hc => (p_nc (gx rfl hc))) <| og rfl rfl rfl (fun hc => (p_fa tf45x2 (gx rfl hc))) <| og rfl rfl rfl (fun hc => (p_load (v := aI) tv27 (gx rfl hc) rfl rfl)) ?_
 refine og rfl rfl rfl (fun hc => (p_neq (gx rfl hc) rfl)) <| o_p rfl (p_pickz rfl rfl rfl (fun e => keq e)) <| sB rfl <| o_ek (fr' := [(2, aB)]) rfl rfl <| w_ret ?_
 obtain rfl := sy h
 exact e_ret (rs' := [.tmp 2]) rfl <| r_tmp (v := aB) rfl <| r_nil <| fin_gen [] rfl rfl rfl lr (st_r rfl st_nil)
noncomputable def ref01xReader_count_l1 (p100v : Ref01Reader) (s4 : Int) : Option (Step Int (Fl (Int × Int) Unit)) :=
 cond (decide (s4 ≤ (10 : Int))) (cond (decide (((p100v.Rest).length : Int) < s4)) (some (Step.out (Fl.done ((0 : Int), (4 : Int))))) ((idx p100v.Rest (IntKind.wrap .i64 (s4 - (1 : Int)))).bind fun (x10 : UInt8) => cond (decide (((x10).toNat : Int) < (128 : Int))) (cond (cond (cond (decide ((1 : Int) < s4)) (decide (((x10).toNat : Int) = (0 : Int))) false) true (cond (decide (s4 = (10 : Int))) (decide ((1 : Int) < ((x10).toNat : Int))) false)) (some (Step.out (Fl.done ((0 : Int), (3 : Int))))) (some (Step.out (Fl.done (s4, (0 : Int)))))) (some (Step.next (IntKind.wrap .i64 (s4 + (1 : Int))))))) (some (Step.out (Fl.go ())))
noncomputable def ref01xReader_count (p100v : Ref01Reader) : Option (Int × Int) :=
 ((loopO (ref01xReader_count_l1 p100v) ((1 : Int))) : Option (Fl (Int × Int) Unit)).bind fun (x1 : (Fl (Int × Int) Unit)) => Fl.next x1 (fun (j3 : Unit) => (some ((0 : Int), (3 : Int))))
theorem w_ref01xReader_count {p100v : Ref01Reader} {res : (Int × Int)} (h : ref01xReader_count p100v = some res) : ACalls Try.prog 23 [.box 0 0] [AV.cs (rowRef01Reader p100v)] (.tup [ci res.1, ci res.2]) [AV.cs (rowRef01Reader p100v)] := by
 unfold ref01xReader_count at h
 refine acalls (fn := Try.f23) [0, 2, 3, 4, 5, 7, 16, 26, 40] (by kernel_rfl) Try.func23 rfl (by kernel_rfl) (by kernel_rfl) <| w_sr <| sI rfl <| sI rfl <| o_ek (fr' := [(0, .box 0 0)]) rfl rfl <| w_seqw <| w_sr <| sI rfl <| o_ek (fr' := [(0, .box 0 0), (4, aI)]) rfl rfl ?_
 obtain ⟨x1, hx1, h2⟩ := bind_s h
 refine w_jtail cl_kw (fun j3 => x1 = Fl.go j3) (fun (j3 : Unit) => ([] : Fr)) (fun (j3 : Unit) => ([[.c (.bool p100v.Made), .c (PV.ls 1 brow p100v.Rest), ci p100v.Bad]] : St)) ?_ ?_
 ·
  refine w_block <| w_loopo _ (fun (s4 : Int) => ([(0, .box 0 0), (4, ci s4)] : Fr)) (fun (s4 : Int) => ([[.c (.bool p100v.Made), .c (PV.ls 1 brow p100v.Rest), ci p100v.Bad]] : St)) hx1 (w_weak [] 1 rfl rfl rfl rfl ⟨lr, lr, trivial⟩ (st_r rfl st_nil)) ?_
  intro s4 st4 hs4 ho4
  unfold ref01xReader_count_l1 at hs4
  refine w_seqw <| w_sr <| mI rfl <| o_p rfl (p_leq rfl rfl) <| o_ek (fr' := [(0, .box 0 0), (4, aI), (7, aB)]) rfl rfl <| w_ch hs4 rfl (fun hb5 h5 => ?_) (fun hb5 h5 => ?_)
  ·
   refine w_skip <| e_kw <| w_seqw <| w_block <| w_seqw <| w_sr <| mI rfl <| mV (v := .box 0 0) rfl <| o_p rfl (p_nc rfl) <| o_p rfl (p_fa tf45x1 rfl) <| o_p rfl (p_load (v := aL) tv22 rfl rfl rfl) <| o_p rfl (p_len ti22 (isl_c rfl)) ?_
   refine o_p rfl (p_gtr rfl rfl) <| o_ek (fr' := [(0, .box 0 0), (4, aI), (16, aB)]) rfl rfl <| w_ch h5 rfl (fun hb6 h6 => ?_) (fun hb6 h6 => ?_)
   ·
    refine w_sr <| sI rfl <| sI rfl <| o_ek (fr' := [(2, aI), (3, aI)]) rfl rfl <| w_ret <| e_seq_r <| e_blk_r <| e_seq_r <| e_seq_r <| e_blk_r <| e_seq_r <| e_seq_r ?_
    have h7 := un_out h6 ho4
    have h8 := un_done h7 h2
    obtain rfl := sy h8
    exact e_ret (rs' := [.tmp 2, .tmp 3]) rfl <| r_tmp (v := aI) rfl <| r_tmp (v := aI) rfl <| r_nil <| fin_gen [] rfl rfl rfl (le_tupp rfl ⟨lr, lr, trivial⟩) (st_r rfl st_nil)
   ·
    refine w_skip <| e_kw <| w_sr <| mV (v := .box 0 0) rfl <| o_p rfl (p_nc rfl) <| o_p rfl (p_fa tf45x1 rfl) <| o_p rfl (p_load (v := aL) tv22 rfl rfl rfl) <| mI rfl <| o_p rfl (p_sub rfl rfl) ?_
    obtain ⟨x10, hx10, h11⟩ := bind_s h6
    refine o_p rfl (p_ia (cs := [PV.int _ _]) ts22 (isl_c rfl) rfl hx10 rfl) <| o_p rfl (p_loade (p := PV.int _ _) tv5 rfl rfl) <| sI rfl <| o_ek (fr' := [(0, .box 0 0), (4, aI), (5, aI)]) rfl rfl <| w_sr <| mI rfl <| o_p rfl (p_lss rfl rfl) <| o_ek (fr' := [(0, .box 0 0), (4, aI), (5, aI), (26, aB)]) rfl rfl <| w_ch h11 rfl (fun hb12 h12 => ?_) (fun hb12 h12 => ?_)
    ·
     refine w_seqw <| w_sr <| mI rfl <| o_p rfl (p_gtr rfl rfl) <| mB rfl <| og rfl rfl rfl (fun hc => (p_move (v := aI) rfl)) <| og rfl rfl rfl (fun hc => (p_eql (gx rfl hc) rfl)) <| o_p rfl (p_picky rfl rfl rfl (fun e => keq e)) <| mB rfl <| og rfl rfl rfl (fun hc => (p_move (v := aI) rfl)) <| og rfl rfl rfl (fun hc => (p_eql (gx rfl hc) rfl)) <| og rfl rfl rfl (fun hc => (p_move (v := aB) (gx rfl hc))) ?_
     refine o_gg rfl rfl (fun hc => ov_p rfl (p_move (v := aI) rfl)) <| o_gg rfl rfl (fun hc => ov_p rfl (p_gtr (gx rfl hc) rfl)) <| og rfl rfl rfl (fun hc => (p_picky (gx rfl hc) rfl rfl (fun e => band hc (keq e)))) <| o_p rfl (p_pickz rfl rfl rfl (fun e => keq e)) <| o_ek (fr' := [(4, aI), (40, aB)]) rfl rfl <| w_ch h12 rfl (fun hb13 h13 => ?_) (fun hb13 h13 => ?_)
     ·
      refine w_sr <| sI rfl <| sI rfl <| o_ek (fr' := [(2, aI), (3, aI)]) rfl rfl <| w_ret <| e_seq_r <| e_blk_r <| e_seq_r <| e_seq_r <| e_blk_r <| e_seq_r <| e_seq_r ?_
      have h14 := un_out h13 ho4
      have h15 := un_done h14 h2
      obtain rfl := sy h15
      exact e_ret (rs' := [.tmp 2, .tmp 3]) rfl <| r_tmp (v := aI) rfl <| r_tmp (v := aI) rfl <| r_nil <| fin_gen [] rfl rfl rfl (le_tupp rfl ⟨lr, lr, trivial⟩) (st_r rfl st_nil)
     ·
      refine w_skip <| e_kw <| w_sr <| mI rfl <| sI rfl <| sI rfl <| o_ek (fr' := [(2, aI), (3, aI)]) rfl rfl <| w_ret <| e_blk_r <| e_seq_r <| e_seq_r <| e_blk_r ?_
      refine e_seq_r <| e_seq_r ?_
      have h17 := un_out h13 ho4
      have h18 := un_done h17 h2
      obtain rfl := sy h18
      exact e_ret (rs' := [.tmp 2, .tmp 3]) rfl <| r_tmp (v := aI) rfl <| r_tmp (v := aI) rfl <| r_nil <| fin_gen [] rfl rfl rfl (le_tupp rfl ⟨lr, lr, trivial⟩) (st_r rfl st_nil)
    ·
     exact w_skip <| e_blk_n <| e_kw <| w_region <| mI rfl <| o_p rfl (p_add rfl rfl) <| sI rfl <| o_end (fr' := [(0, .box 0 0), (4, aI), (5, aI), (26, aB)]) rfl <| e_l _ (sy h12) (w_weak [] 1 rfl rfl rfl rfl ⟨lr, lr, trivial⟩ (st_r rfl st_nil))
  ·
   refine w_exit <| e_seq_x <| e_seq_x <| e_blk_h ?_
   have h20 := un_out h5 ho4
   exact e_j _ (sy h20) (w_weak [] 1 rfl rfl rfl rfl trivial (st_r rfl st_nil))
 ·
  intro j3 hj21
  have h21 := un_go hj21 h2
  refine e_kw <| w_sr <| sI rfl <| sI rfl <| o_ek (fr' := [(2, aI), (3, aI)]) rfl rfl <| w_ret ?_
  obtain rfl := sy h21
  exact e_ret (rs' := [.tmp 2, .tmp 3]) rfl <| r_tmp (v := aI) rfl <| r_tmp (v := aI) rfl <| r_nil <| fin_gen [] rfl rfl rfl (le_tupp rfl ⟨lr, lr, trivial⟩) (st_r rfl st_nil)
noncomputable def ref01xReader_set (p1e : Int) (p100v : Ref01Reader) : Option Ref01Reader :=
 some (Ref01Reader.mk p100v.Made ([] : (List UInt8)) p1e)
theorem w_ref01xReader_set {p1e : Int} {p100v : Ref01Reader} {res : Ref01Reader} (h : ref01xReader_set p1e p100v = some res) : ACalls Try.prog 24 [.box 0 0, ci p1e] [AV.cs (rowRef01Reader p100v)] (.any) [AV.cs (rowRef01Reader res)] := by
 unfold ref01xReader_set at h
 refine acalls (fn := Try.f24) [0, 1] (by kernel_rfl) Try.func24 rfl (by kernel_rfl) (by kernel_rfl) <| w_sr <| mV (v := .box 0 0) rfl <| mI rfl <| o_p rfl (p_nc rfl) <| o_p rfl (p_fa tf45x2 rfl) <| o_store (v := aI) (us := [aI]) (cs := aBLI) (σ' := [aBLI]) rfl tv27 rfl rfl rfl rfl rfl rfl rfl rfl <| o_ek (fr' := [(0, .box 0 0)]) rfl rfl <| w_region <| mV (v := .box 0 0) rfl <| o_p rfl (p_nc rfl) <| o_p rfl (p_fa tf45x1 rfl) ?_
 refine o_store (v := AV.nil) (us := [AV.nil]) (cs := aBLI) (σ' := [aBNI]) rfl tv22 rfl rfl rfl rfl rfl rfl rfl rfl <| o_end (fr' := [(0, .box 0 0)]) rfl ?_
 obtain rfl := sy h
 exact e_fin (rs' := []) rfl <| r_nil <| fin_gen [] rfl rfl rfl (AV.le_any _) (st_c ⟨rfl, ⟨_, rfl⟩, rfl, trivial⟩ st_nil)
noncomputable def ref01xReader_Int_l1 (p100v : Ref01Reader) (s14 : (Int × Int)) : Option (Step (Int × Int) Int) :=
 cond (decide ((0 : Int) ≤ s14.2)) ((idx p100v.Rest s14.2).bind fun (x16 : UInt8) => some (Step.next ((IntKind.wrap .u64 ((IntKind.wrap .u64 (s14.1 * (128 : Int))) + (IntKind.wrap .u64 (Int.tmod ((x16).toNat : Int) (128 : Int))))), (IntKind.wrap .i64 (s14.2 - (1 : Int)))))) (some (Step.out s14.1))
noncomputable def ref01xReader_Int (p1low : Int) (p2high : Int) (p100v : Ref01Reader) : Option (Int × Ref01Reader) :=
 (ref01xReader_stopped p100v).bind fun (x1 : Bool) => cond x1 (some ((0 : Int), p100v)) ((ref01xReader_count p100v).bind fun (x5 : (Int × Int)) => cond (!decide (x5.2 = (0 : Int))) ((ref01xReader_set x5.2 p100v).bind fun (x8 : Ref01Reader) => some ((0 : Int), x8)) (((loopO (ref01xReader_Int_l1 p100v) (((0 : Int), (IntKind.wrap .i64 (x5.1 - (1 : Int)))))) : Option Int).bind fun (x11 : Int) => (((cond (decide ((Int.tmod x11 (2 : Int)) = (1 : Int))) (some (IntKind.wrap .i64 ((IntKind.wrap .i64 (0 - (IntKind.wrap .i64 (IntKind.wrap .u64 (Int.tdiv x11 (2 : Int)))))) - (1 : Int)))) (some (IntKind.wrap .i64 (IntKind.wrap .u64 (Int.tdiv x11 (2 : Int)))))) : Option Int).bind fun (x20 : Int) => (cond (cond (decide (x20 < p1low)) true (decide (p2high < x20))) ((ref01xReader_set (14 : Int) p100v).bind fun (x26 : Ref01Reader) => some ((0 : Int), x26)) ((slcL p100v.Rest x5.1).bind fun (x29 : (List UInt8)) => some (x20, (Ref01Reader.mk p100v.Made (List.drop (Int.toNat x5.1) p100v.Rest) p100v.Bad)))))))
theorem w_ref01xReader_Int {p1low : Int} {p2high : Int} {p100v : Ref01Reader} {res : (Int × Ref01Reader)} (h : ref01xReader_Int p1low p2high p100v = some res) : ACalls Try.prog 17 [.box 0 0, ci p1low, ci p2high] [AV.cs (rowRef01Reader p100v)] (ci res.1) [AV.cs (rowRef01Reader res.2)] := by
 unfold ref01xReader_Int at h
 refine acalls (fn := Try.f17) [0, 1, 2, 6, 7, 8, 9, 10, 11, 13, 20, 27, 47, 58] (by kernel_rfl) Try.func17 rfl (by kernel_rfl) (by kernel_rfl) <| w_sr <| sI rfl <| o_ek (fr' := [(0, .box 0 0), (1, aI), (2, aI)]) rfl rfl <| w_seqw <| w_sr <| mV (v := .box 0 0) rfl ?_
 obtain ⟨x1, hx1, h2⟩ := bind_s h
 refine o_call (v := aB) (σ' := [aBLI]) [0] rfl (w_ref01xReader_stopped hx1) rfl rfl ⟨lr, trivial⟩ (st_c ⟨rfl, rfl, rfl, trivial⟩ st_nil) rfl rfl rfl <| o_ek (fr' := [(0, .box 0 0), (1, aI), (2, aI), (13, aB)]) rfl rfl <| w_ch h2 rfl (fun hb3 h3 => ?_) (fun hb3 h3 => ?_)
 ·
  refine w_sr <| sI rfl <| o_ek (fr' := [(6, aI)]) rfl rfl <| w_ret <| e_seq_r ?_
  obtain rfl := sy h3
  exact e_ret (rs' := [.tmp 6]) rfl <| r_tmp (v := aI) rfl <| r_nil <| fin_gen [] rfl rfl rfl lr (st_c ⟨rfl, rfl, rfl, trivial⟩ st_nil)
 ·
  refine w_skip <| e_kw <| w_sr <| mV (v := .box 0 0) rfl ?_
  obtain ⟨x5, hx5, h6⟩ := bind_s h3
  refine o_call (v := .tup [aI, aI]) (σ' := [aBLI]) [0] rfl (w_ref01xReader_count hx5) rfl rfl ⟨lr, trivial⟩ (st_c ⟨rfl, rfl, rfl, trivial⟩ st_nil) rfl rfl rfl <| mV (v := .tup [aI, aI]) rfl <| o_p rfl (p_ex (v := aI) rfl rfl) <| o_p rfl (p_ex (v := aI) rfl rfl) <| sI rfl <| sI rfl <| o_ek (fr' := [(0, .box 0 0), (1, aI), (2, aI), (7, aI), (8, aI)]) rfl rfl <| w_seqw <| w_sr <| mI rfl <| o_p rfl (p_neq rfl rfl) <| o_ek (fr' := [(0, .box 0 0), (1, aI), (2, aI), (7, aI), (8, aI), (20, aB)]) rfl rfl ?_
  refine w_ch h6 rfl (fun hb7 h7 => ?_) (fun hb7 h7 => ?_)
  ·
   refine w_sr <| mV (v := .box 0 0) rfl <| mI rfl ?_
   obtain ⟨x8, hx8, h9⟩ := bind_s h7
   refine o_call (v := _) (σ' := [aBLI]) [0] rfl (w_ref01xReader_set hx8) rfl rfl ⟨lr, lr, trivial⟩ (st_c ⟨rfl, rfl, rfl, trivial⟩ st_nil) rfl rfl rfl <| o_ek (fr' := []) rfl rfl <| w_sr <| sI rfl <| o_ek (fr' := [(6, aI)]) rfl rfl <| w_ret <| e_seq_r ?_
   obtain rfl := sy h9
   exact e_ret (rs' := [.tmp 6]) rfl <| r_tmp (v := aI) rfl <| r_nil <| fin_gen [] rfl rfl rfl lr (st_c ⟨rfl, rfl, rfl, trivial⟩ st_nil)
  ·
   refine w_skip <| e_kw <| w_sr <| sI rfl <| o_ek (fr' := [(0, .box 0 0), (1, aI), (2, aI), (7, aI), (9, aI)]) rfl rfl <| w_seqw <| w_sr <| mI rfl <| o_p rfl (p_sub rfl rfl) <| sI rfl <| o_ek (fr' := [(0, .box 0 0), (1, aI), (2, aI), (7, aI), (9, aI), (10, aI)]) rfl rfl ?_
   obtain ⟨x11, hx11, h12⟩ := bind_s h7
   refine w_jtail cl_kw (fun j13 => x11 = j13) (fun (j13 : Int) => ([(0, .box 0 0), (1, ci p1low), (2, ci p2high), (7, ci x5.1), (9, .c (.int .u64 j13))] : Fr)) (fun (j13 : Int) => ([[.c (.bool p100v.Made), .c (PV.ls 1 brow p100v.Rest), ci p100v.Bad]] : St)) ?_ ?_
   ·
    refine w_block <| w_loopo _ (fun (s14 : (Int × Int)) => ([(0, .box 0 0), (1, ci p1low), (2, ci p2high), (7, ci x5.1), (9, .c (.int .u64 s14.1)), (10, ci s14.2)] : Fr)) (fun (s14 : (Int × Int)) => ([[.c (.bool p100v.Made), .c (PV.ls 1 brow p100v.Rest), ci p100v.Bad]] : St)) hx11 (w_weak [] 1 rfl rfl rfl rfl ⟨lr, lr, lr, lr, lr, lr, trivial⟩ (st_r rfl st_nil)) ?_
    intro s14 st14 hs14 ho14
    unfold ref01xReader_Int_l1 at hs14
    refine w_seqw <| w_sr <| mI rfl <| o_p rfl (p_geq rfl rfl) <| o_ek (fr' := [(0, .box 0 0), (1, aI), (2, aI), (7, aI), (9, aI), (10, aI), (27, aB)]) rfl rfl <| w_ch hs14 rfl (fun hb15 h15 => ?_) (fun hb15 h15 => ?_)
    ·
     refine w_skip <| e_kw <| w_seqw <| w_block <| w_region <| mI rfl <| o_p rfl (p_mul rfl rfl) <| mV (v := .box 0 0) rfl <| o_p rfl (p_nc rfl) <| o_p rfl (p_fa tf45x1 rfl) <| o_p rfl (p_load (v := aL) tv22 rfl rfl rfl) <| mI rfl ?_
     obtain ⟨x16, hx16, h17⟩ := bind_s h15
     refine o_p rfl (p_ia (cs := [PV.int _ _]) ts22 (isl_c rfl) rfl hx16 rfl) <| o_p rfl (p_loade (p := PV.int _ _) tv5 rfl rfl) <| o_p rfl (p_rem rfl rfl (by decide)) <| o_p rfl (p_conv tk5 tk41 rfl) <| o_p rfl (p_add rfl rfl) <| sI rfl <| o_end (fr' := [(0, .box 0 0), (1, aI), (2, aI), (7, aI), (9, aI), (10, aI), (27, aB)]) rfl <| e_blk_n <| e_kw <| w_region <| mI rfl <| o_p rfl (p_sub rfl rfl) <| sI rfl ?_
     exact o_end (fr' := [(0, .box 0 0), (1, aI), (2, aI), (7, aI), (9, aI), (10, aI), (27, aB)]) rfl <| e_l _ (sy h17) (w_weak [] 1 rfl rfl rfl rfl ⟨lr, lr, lr, lr, lr, lr, trivial⟩ (st_r rfl st_nil))
    ·
     refine w_exit <| e_seq_x <| e_seq_x <| e_blk_h ?_
     have h18 := un_out h15 ho14
     exact e_j _ (sy h18) (w_weak [] 1 rfl rfl rfl rfl ⟨lr, lr, lr, lr, lr, trivial⟩ (st_r rfl st_nil))
   ·
    intro j13 hj19
    subst hj19
    refine e_kw <| w_sr <| mI rfl <| o_p rfl (p_quo rfl rfl (by decide)) <| o_p rfl (p_conv tk41 tk3 rfl) <| sI rfl <| o_ek (fr' := [(0, .box 0 0), (1, aI), (2, aI), (7, aI), (9, aI), (11, aI)]) rfl rfl ?_
    obtain ⟨x20, hx20, h21⟩ := bind_s h12
    refine w_join (fun j22 => x20 = j22) (fun (j22 : Int) => ([(0, .box 0 0), (1, ci p1low), (2, ci p2high), (7, ci x5.1), (11, ci j22)] : Fr)) (fun (j22 : Int) => ([[.c (.bool p100v.Made), .c (PV.ls 1 brow p100v.Rest), ci p100v.Bad]] : St)) ?_ ?_
    ·
     refine w_sr <| mI rfl <| o_p rfl (p_rem rfl rfl (by decide)) <| o_p rfl (p_eql rfl rfl) <| o_ek (fr' := [(0, .box 0 0), (1, aI), (2, aI), (7, aI), (11, aI), (47, aB)]) rfl rfl <| w_ch hx20 rfl (fun hb23 h23 => ?_) (fun hb23 h23 => ?_)
     ·
      exact w_region <| mI rfl <| o_p rfl (p_neg rfl) <| o_p rfl (p_sub rfl rfl) <| sI rfl <| o_end (fr' := [(0, .box 0 0), (1, aI), (2, aI), (7, aI), (11, aI), (47, aB)]) rfl <| e_j _ (sy h23) (w_weak [] 1 rfl rfl rfl rfl ⟨lr, lr, lr, lr, lr, trivial⟩ (st_r rfl st_nil))
     ·
      exact w_skip <| e_j _ (sy h23) (w_weak [] 1 rfl rfl rfl rfl ⟨lr, lr, lr, lr, lr, trivial⟩ (st_r rfl st_nil))
    ·
     intro j22 hj24
     subst hj24
     refine w_seqw <| w_sr <| mI rfl <| mI rfl <| o_p rfl (p_lss rfl rfl) <| mB rfl <| og rfl rfl rfl (fun hc => (p_move (v := aI) rfl)) <| og rfl rfl rfl (fun hc => (p_move (v := aI) rfl)) <| og rfl rfl rfl (fun hc => (p_gtr (gx rfl hc) (gx rfl hc))) <| o_p rfl (p_pickz rfl rfl rfl (fun e => keq e)) <| o_ek (fr' := [(0, .box 0 0), (7, aI), (11, aI), (58, aB)]) rfl rfl <| w_ch h21 rfl (fun hb25 h25 => ?_) (fun hb25 h25 => ?_)
     ·
      refine w_sr <| mV (v := .box 0 0) rfl ?_
      obtain ⟨x26, hx26, h27⟩ := bind_s h25
      refine o_call (v := _) (σ' := [aBLI]) [0] rfl (w_ref01xReader_set hx26) rfl rfl ⟨lr, lr, trivial⟩ (st_c ⟨rfl, rfl, rfl, trivial⟩ st_nil) rfl rfl rfl <| o_ek (fr' := []) rfl rfl <| w_sr <| sI rfl <| o_ek (fr' := [(6, aI)]) rfl rfl <| w_ret <| e_seq_r ?_
      obtain rfl := sy h27
      exact e_ret (rs' := [.tmp 6]) rfl <| r_tmp (v := aI) rfl <| r_nil <| fin_gen [] rfl rfl rfl lr (st_c ⟨rfl, rfl, rfl, trivial⟩ st_nil)
     ·
      refine w_skip <| e_kw <| w_sr <| mV (v := .box 0 0) rfl <| mV (v := .box 0 0) rfl <| o_p rfl (p_nc rfl) <| o_p rfl (p_fa tf45x1 rfl) <| o_p rfl (p_load (v := aL) tv22 rfl rfl rfl) <| mI rfl ?_
      obtain ⟨x29, hx29, h30⟩ := bind_s h25
      refine o_p rfl (p_sl_l tn22 ts22 (isl_c rfl) rfl (slcL_some hx29).1) <| o_p rfl (p_nc rfl) <| o_p rfl (p_fa tf45x1 rfl) <| o_store (v := aL) (us := [aL]) (cs := aBLI) (σ' := [aBLI]) rfl tv22 rfl rfl rfl rfl rfl rfl rfl rfl <| o_ek (fr' := [(11, aI)]) rfl rfl <| w_sr <| mI rfl <| sI rfl <| o_ek (fr' := [(6, aI)]) rfl rfl <| w_ret ?_
      obtain rfl := sy h30
      exact e_ret (rs' := [.tmp 6]) rfl <| r_tmp (v := aI) rfl <| r_nil <| fin_gen [] rfl rfl rfl lr (st_c ⟨rfl, rfl, rfl, trivial⟩ st_nil)
noncomputable def slices_Clone_byte_byte (p0s : (List UInt8)) : Option (List UInt8) :=
 app 1 ([] : List UInt8) p0s
theorem w_slices_Clone_byte_byte {p0s : (List UInt8)} {res : (List UInt8)} (h : slices_Clone_byte_byte p0s = some res) : ACalls Try.prog 19 [.c (PV.ls 1 brow p0s)] [] (AV.os 0 1 brow res) [] := by
 unfold slices_Clone_byte_byte at h
 refine acalls (fn := Try.f19) [0, 2, 4] (by kernel_rfl) Try.func19 rfl (by kernel_rfl) (by kernel_rfl) ?_
 obtain ⟨hm, he⟩ := app_some h
 rw [List.nil_append] at he
 subst he
 refine w_sr <| o_p rfl (p_assign (v := .nil) rfl) <| o_end (fr' := [(0, .c (PV.ls _ _ _)), (2, .nil)]) rfl <| e_kw <| w_seqw <| w_sr <| o_p rfl (p_move (v := .c (PV.ls _ _ _)) rfl) <| o_nilc (row := brow) ti22 (isl_c rfl) (fun b hb => ?_)
 refine o_end (fr' := [(0, .c (PV.ls _ _ _)), (2, .nil), (4, .c (.bool _))]) rfl <| e_kw <| w_cond b rfl (fun e => ?_) (fun e => ?_)
 ·
  rw [hb e]
  exact w_sr <| o_p rfl (p_assign (v := .nil) rfl) <| o_end (fr' := [(0, .c (PV.ls _ _ _)), (2, .nil), (4, .c (.bool _))]) rfl <| e_kw <| w_ret <| e_seq_r <| e_ret (rs' := [.tmp 2]) rfl <| r_tmp (v := .nil) rfl <| r_nil <| fin_gen [] rfl rfl rfl (le_nos rfl) st_nil
 ·
  refine w_skip <| e_kw <| w_sr <| o_rows (row := brow) (xs := ([] : List UInt8)) (rows := []) (σ' := []) [] ts22 rfl rfl rfl arow_nil rfl rfl <| o_p rfl (p_move (v := .c (PV.ls _ _ _)) rfl) <| o_app (row := brow) ts22 rfl ti22 rfl (isl_c rfl) (fun _ => rfl) h <| o_p rfl (p_assign (v := AV.os _ _ _ _) rfl) <| o_end (fr' := [(0, .c (PV.ls _ _ _)), (2, AV.os _ _ _ _), (4, .c (.bool _))]) rfl <| e_kw <| w_ret <| e_ret (rs' := [.tmp 2]) rfl <| r_tmp (v := AV.os _ _ _ _) rfl ?_
  exact r_nil <| fin_gen [112] rfl rfl rfl lr st_nil
noncomputable def wire_PutInt_l1  (s6 : ((List UInt8) × Int)) : Option (Step ((List UInt8) × Int) ((List UInt8) × Int)) :=
 cond (decide ((128 : Int) ≤ s6.2)) ((byteOf (abits .or .u8 (IntKind.wrap .u8 s6.2) (128 : Int))).bind fun (x8 : UInt8) => (app 1 s6.1 ([x8] : List UInt8)).bind fun (x10 : (List UInt8)) => some (Step.next (x10, (Int.fdiv s6.2 (2 ^ (min (Int.toNat (7 : Int)) (IntKind.bits .u64))))))) (some (Step.out (s6.1, s6.2)))
noncomputable def wire_PutInt (p0b : (List UInt8)) (p1n : Int) : Option (List UInt8) :=
 (slices_Clone_byte_byte p0b).bind fun (x1 : (List UInt8)) => ((loopO (wire_PutInt_l1) ((x1, (abits .xor .u64 (IntKind.wrap .u64 ((IntKind.wrap .u64 p1n) * 2 ^ (min (Int.toNat (1 : Int)) (IntKind.bits .u64)))) (IntKind.wrap .u64 (Int.fdiv p1n (2 ^ (min (Int.toNat (63 : Int)) (IntKind.bits .i64))))))))) : Option ((List UInt8) × Int)).bind fun (x3 : ((List UInt8) × Int)) => ((byteOf (IntKind.wrap .u8 x3.2)).bind fun (x14 : UInt8) => (app 1 x3.1 ([x14] : List UInt8)).bind fun (x16 : (List UInt8)) => some x16)
theorem w_wire_PutInt {p0b : (List UInt8)} {p1n : Int} {res : (List UInt8)} (h : wire_PutInt p0b p1n = some res) : ACalls Try.prog 5 [.c (PV.ls 1 brow p0b), ci p1n] [] (AV.os 0 1 brow res) [] := by
 unfold wire_PutInt at h
 refine acalls (fn := Try.f5) [0, 1, 4, 5, 6, 17] (by kernel_rfl) Try.func5 rfl (by kernel_rfl) (by kernel_rfl) <| w_sr <| sV (v := AV.nil) rfl <| o_ek (fr' := [(0, aL), (1, aI)]) rfl rfl <| w_sr <| mL rfl ?_
 obtain ⟨x1, hx1, h2⟩ := bind_s h
 refine o_v (ov_call (v := aO) rfl (w_slices_Clone_byte_byte hx1) ⟨lr, trivial⟩ rfl rfl rfl) <| sV (v := aO) rfl <| o_ek (fr' := [(1, aI), (5, aO)]) rfl rfl <| w_sr <| mI rfl <| o_p rfl (p_conv tk3 tk41 rfl) <| o_p rfl (p_shl rfl rfl (by decide)) <| mI rfl <| o_p rfl (p_shr rfl rfl (by decide)) <| o_p rfl (p_conv tk3 tk41 rfl) <| o_p rfl (p_xor rfl rfl) <| sI rfl ?_
 refine o_ek (fr' := [(5, aO), (6, aI)]) rfl rfl ?_
 obtain ⟨x3, hx3, h4⟩ := bind_s h2
 refine w_join (fun j5 => x3 = j5) (fun (j5 : ((List UInt8) × Int)) => ([(5, AV.os 0 1 brow j5.1), (6, .c (.int .u64 j5.2))] : Fr)) (fun (j5 : ((List UInt8) × Int)) => ([] : St)) ?_ ?_
 ·
  refine w_block <| w_loopo _ (fun (s6 : ((List UInt8) × Int)) => ([(5, AV.os 0 1 brow s6.1), (6, .c (.int .u64 s6.2))] : Fr)) (fun (s6 : ((List UInt8) × Int)) => ([] : St)) hx3 (w_weak [128] 0 rfl rfl rfl rfl ⟨lr, lr, trivial⟩ st_nil) ?_
  intro s6 st6 hs6 ho6
  unfold wire_PutInt_l1 at hs6
  refine w_seqw <| w_sr <| mI rfl <| o_p rfl (p_geq rfl rfl) <| o_ek (fr' := [(5, aO), (6, aI), (17, aB)]) rfl rfl <| w_ch hs6 rfl (fun hb7 h7 => ?_) (fun hb7 h7 => ?_)
  ·
   refine w_skip <| e_kw <| w_block <| w_sr <| mV (v := aO) rfl <| mI rfl <| o_p rfl (p_conv tk41 tk5 rfl) <| o_p rfl (p_or rfl rfl) ?_
   obtain ⟨x8, hx8, h9⟩ := bind_s h7
   refine o_rows (row := brow) (xs := ([x8] : List UInt8)) (rows := [[_]]) (σ' := []) [0] ts22 rfl rfl rfl (arow_cons (brow_of hx8) arow_nil) rfl rfl ?_
   obtain ⟨x10, hx10, h11⟩ := bind_s h9
   exact o_app (row := brow) ts22 rfl ti22 rfl (isl_o rfl) (fun _ => rfl) hx10 <| sV (v := aO) rfl <| o_ek (fr' := [(5, aO), (6, aI)]) rfl rfl <| w_region <| mI rfl <| o_p rfl (p_shr rfl rfl (by decide)) <| sI rfl <| o_end (fr' := [(5, aO), (6, aI)]) rfl <| e_blk_n <| e_l _ (sy h11) (w_weak [368] 0 rfl rfl rfl rfl ⟨lr, lr, trivial⟩ st_nil)
  ·
   refine w_exit <| e_seq_x <| e_seq_x <| e_blk_h ?_
   have h12 := un_out h7 ho6
   exact e_j _ (sy h12) (w_weak [0] 0 rfl rfl rfl rfl ⟨lr, lr, trivial⟩ st_nil)
 ·
  intro j5 hj13
  subst hj13
  refine w_sr <| mV (v := aO) rfl <| mI rfl <| o_p rfl (p_conv tk41 tk5 rfl) ?_
  obtain ⟨x14, hx14, h15⟩ := bind_s h4
  refine o_rows (row := brow) (xs := ([x14] : List UInt8)) (rows := [[_]]) (σ' := []) [0] ts22 rfl rfl rfl (arow_cons (brow_of hx14) arow_nil) rfl rfl ?_
  obtain ⟨x16, hx16, h17⟩ := bind_s h15
  refine o_app (row := brow) ts22 rfl ti22 rfl (isl_o rfl) (fun _ => rfl) hx16 <| sV (v := aO) rfl <| o_ek (fr' := [(4, aO)]) rfl rfl <| w_ret ?_
  obtain rfl := sy h17
  exact e_ret (rs' := [.tmp 4]) rfl <| r_tmp (v := aO) rfl <| r_nil <| fin_gen [480] rfl rfl rfl lr st_nil
noncomputable def wire_PutText (p0b : (List UInt8)) (p1s : (List UInt8)) : Option (List UInt8) :=
 (wire_PutInt p0b ((p1s).length : Int)).bind fun (x1 : (List UInt8)) => (app 1 x1 p1s).bind fun (x3 : (List UInt8)) => some x3
theorem w_wire_PutText {p0b : (List UInt8)} {p1s : (List UInt8)} {res : (List UInt8)} (h : wire_PutText p0b p1s = some res) : ACalls Try.prog 18 [.c (PV.ls 1 brow p0b), .c (.str p1s)] [] (AV.os 0 1 brow res) [] := by
 unfold wire_PutText at h
 refine acalls (fn := Try.f18) [0, 1, 4] (by kernel_rfl) Try.func18 rfl (by kernel_rfl) (by kernel_rfl) <| w_sr <| sV (v := AV.nil) rfl <| o_ek (fr' := [(0, aL), (1, aS)]) rfl rfl <| w_sr <| mL rfl <| mS rfl <| o_p rfl (p_lens ti9 rfl) ?_
 obtain ⟨x1, hx1, h2⟩ := bind_s h
 refine o_v (ov_call (v := aO) rfl (w_wire_PutInt hx1) ⟨lr, lr, trivial⟩ rfl rfl rfl) <| mS rfl ?_
 obtain ⟨x3, hx3, h4⟩ := bind_s h2
 refine o_appS ts22 rfl ti9 rfl rfl hx3 <| sV (v := aO) rfl <| o_ek (fr' := [(4, aO)]) rfl rfl <| w_ret ?_
 obtain rfl := sy h4
 exact e_ret (rs' := [.tmp 4]) rfl <| r_tmp (v := aO) rfl <| r_nil <| fin_gen [160] rfl rfl rfl lr st_nil
noncomputable def wire_Open (p0b : (List UInt8)) : Option WireReader :=
 (slices_Clone_byte_byte p0b).bind fun (x1 : (List UInt8)) => some (WireReader.mk x1 (0 : Int) (0 : Int) true)
theorem w_wire_Open {p0b : (List UInt8)} {res : WireReader} (h : wire_Open p0b = some res) : ACalls Try.prog 6 [.c (PV.ls 1 brow p0b)] [] (.box 0 0) [AV.cs (rowWireReader res)] := by
 unfold wire_Open at h
 refine acalls (fn := Try.f6) [0, 2] (by kernel_rfl) Try.func6 rfl (by kernel_rfl) (by kernel_rfl) <| w_sr <| sV (v := .nilptr) rfl <| o_ek (fr' := [(0, aL)]) rfl rfl <| w_sr <| mL rfl ?_
 obtain ⟨x1, hx1, h2⟩ := bind_s h
 refine o_v (ov_call (v := aO) rfl (w_slices_Clone_byte_byte hx1) ⟨lr, trivial⟩ rfl rfl rfl) <| o_p rfl (p_build (cs := [aO, aI, aI, aB]) tb29 rfl) <| o_box (v := .agg [aO, aI, aI, aB]) (n := 0) (cs := [aO, aI, aI, aB]) (σ' := [[aO, aI, aI, aB]]) rfl rfl rfl rfl rfl <| sV (v := .box 0 0) rfl <| o_ek (fr' := [(2, .box 0 0)]) rfl rfl <| w_ret ?_
 obtain rfl := sy h2
 exact e_ret (rs' := [.tmp 2]) rfl <| r_tmp (v := .box 0 0) rfl <| r_nil <| fin_new (off := 0) (j := 0) rfl rfl rfl rfl rfl (st_c ⟨rfl, rfl, rfl, rfl, trivial⟩ st_nil)
noncomputable def wire_Reader_Err (p100v : WireReader) : Option Int :=
 cond (!p100v.made_) (some (1 : Int)) (some p100v.err_)
theorem w_wire_Reader_Err {p100v : WireReader} {res : Int} (h : wire_Reader_Err p100v = some res) : ACalls Try.prog 8 [.box 0 0] [AV.cs (rowWireReader p100v)] (ci res) [AV.cs (rowWireReader p100v)] := by
 unfold wire_Reader_Err at h
 refine acalls (fn := Try.f8) [0, 2, 11] (by kernel_rfl) Try.func8 rfl (by kernel_rfl) (by kernel_rfl) <| w_sr <| sI rfl <| o_ek (fr' := [(0, .box 0 0)]) rfl rfl <| w_seqw <| w_sr <| mV (v := .box 0 0) rfl <| o_p rfl (p_peql ti25 rfl rfl) <| mB rfl <| o_yes rfl rfl rfl <| mV (v := .box 0 0) rfl ?_
 refine o_yes rfl rfl rfl <| o_p rfl (p_nc rfl) <| o_yes rfl rfl rfl <| o_p rfl (p_fa tf29x3 rfl) <| o_yes rfl rfl rfl <| o_p rfl (p_load (v := aB) tv4 rfl rfl rfl) <| o_yes rfl rfl rfl <| o_p rfl (p_not rfl) <| o_p rfl (p_pick_f rfl rfl rfl) <| o_ek (fr' := [(0, .box 0 0), (11, aB)]) rfl rfl <| w_ch h rfl (fun hb1 h1 => ?_) (fun hb1 h1 => ?_)
 ·
  refine w_sr <| sI rfl <| o_ek (fr' := [(2, aI)]) rfl rfl <| w_ret <| e_seq_r ?_
  obtain rfl := sy h1
  exact e_ret (rs' := [.tmp 2]) rfl <| r_tmp (v := aI) rfl <| r_nil <| fin_gen [] rfl rfl rfl lr (st_r rfl st_nil)
 ·
  refine w_skip <| e_kw <| w_sr <| mV (v := .box 0 0) rfl <| o_p rfl (p_nc rfl) <| o_p rfl (p_fa tf29x2 rfl) <| o_p rfl (p_load (v := aI) tv27 rfl rfl rfl) <| sI rfl <| o_ek (fr' := [(2, aI)]) rfl rfl <| w_ret ?_
  obtain rfl := sy h1
  exact e_ret (rs' := [.tmp 2]) rfl <| r_tmp (v := aI) rfl <| r_nil <| fin_gen [] rfl rfl rfl lr (st_r rfl st_nil)
noncomputable def wire_Reader_End (p100v : WireReader) : Option Int :=
 (wire_Reader_Err p100v).bind fun (x1 : Int) => cond (!decide (x1 = (0 : Int))) (some x1) (cond (decide (p100v.at_ < ((p100v.b_).length : Int))) (some (3 : Int)) (some (0 : Int)))
theorem w_wire_Reader_End {p100v : WireReader} {res : Int} (h : wire_Reader_End p100v = some res) : ACalls Try.prog 9 [.box 0 0] [AV.cs (rowWireReader p100v)] (ci res) [AV.cs (rowWireReader p100v)] := by
 unfold wire_Reader_End at h
 refine acalls (fn := Try.f9) [0, 2, 3, 7, 18] (by kernel_rfl) Try.func9 rfl (by kernel_rfl) (by kernel_rfl) <| w_sr <| sI rfl <| o_ek (fr' := [(0, .box 0 0)]) rfl rfl <| w_seqw <| w_sr <| mV (v := .box 0 0) rfl ?_
 obtain ⟨x1, hx1, h2⟩ := bind_s h
 refine o_call (v := aI) (σ' := [aLIIB]) [0] rfl (w_wire_Reader_Err hx1) rfl rfl ⟨lr, trivial⟩ (st_c ⟨rfl, rfl, rfl, rfl, trivial⟩ st_nil) rfl rfl rfl <| sI rfl <| o_ek (fr' := [(0, .box 0 0), (3, aI)]) rfl rfl <| w_sr <| mI rfl <| o_p rfl (p_neq rfl rfl) <| o_ek (fr' := [(0, .box 0 0), (3, aI), (7, aB)]) rfl rfl <| w_ch h2 rfl (fun hb3 h3 => ?_) (fun hb3 h3 => ?_)
 ·
  refine w_sr <| mI rfl <| sI rfl <| o_ek (fr' := [(2, aI)]) rfl rfl <| w_ret <| e_seq_r ?_
  obtain rfl := sy h3
  exact e_ret (rs' := [.tmp 2]) rfl <| r_tmp (v := aI) rfl <| r_nil <| fin_gen [] rfl rfl rfl lr (st_r rfl st_nil)
 ·
  refine w_skip <| e_kw <| w_seqw <| w_seqw <| w_planT [.q 0, .q 1, .q 2, .q 3, .q 4, .q 5, .q 6, .q 7, .q 8, .q 9] [(some 9, [0]), (some 10, [9]), (some 11, [10]), (some 12, [11]), (some 13, [0]), (some 14, [13]), (some 15, [14]), (some 16, [15]), (some 17, [16]), (some 18, [12, 17])] [0, 1, 3, 7, 0, 16, 48, 112, 240, 511] (by kernel_rfl) <| dq rfl rfl (p_move (v := .box 0 0) rfl) <| dq rfl rfl (p_nc rfl) <| dq rfl rfl (p_fa tf29x1 rfl) <| dq rfl rfl (p_load (v := aI) tv3 rfl rfl rfl) <| dq rfl rfl (p_move (v := .box 0 0) rfl) <| dq rfl rfl (p_nc rfl) <| dq rfl rfl (p_fa tf29x0 rfl) <| dq rfl rfl (p_load (v := aL) tv22 rfl rfl rfl) ?_
  refine dq rfl rfl (p_len ti22 (isl_c rfl)) <| dq rfl rfl (p_lss rfl rfl) <| d_ek (fr' := [(18, aB)]) rfl rfl <| w_ch h3 rfl (fun hb5 h5 => ?_) (fun hb5 h5 => ?_)
  ·
   refine w_sr <| sI rfl <| o_ek (fr' := [(2, aI)]) rfl rfl <| w_ret <| e_seq_r ?_
   obtain rfl := sy h5
   exact e_ret (rs' := [.tmp 2]) rfl <| r_tmp (v := aI) rfl <| r_nil <| fin_gen [] rfl rfl rfl lr (st_r rfl st_nil)
  ·
   refine w_skip <| e_kw <| w_sr <| sI rfl <| o_ek (fr' := [(2, aI)]) rfl rfl <| w_ret ?_
   obtain rfl := sy h5
   exact e_ret (rs' := [.tmp 2]) rfl <| r_tmp (v := aI) rfl <| r_nil <| fin_gen [] rfl rfl rfl lr (st_r rfl st_nil)
noncomputable def law01xworks  : Option Bool :=
 (byteOf (4 : Int)).bind fun (x1 : UInt8) => (byteOf (97 : Int)).bind fun (x3 : UInt8) => (wire_Open ([x1, x3] : List UInt8)).bind fun (x5 : WireReader) => (byteOf (128 : Int)).bind fun (x7 : UInt8) => (byteOf (0 : Int)).bind fun (x9 : UInt8) => (wire_Open ([x7, x9] : List UInt8)).bind fun (x11 : WireReader) => (wire_Reader_Text (9 : Int) x5).bind fun (x13 : ((List UInt8) × WireReader)) => (wire_Reader_Int (-9223372036854775808 : Int) (9223372036854775807 : Int) x11).bind fun (x15 : (Int × WireReader)) => (byteOf (7 : Int)).bind fun (x17 : UInt8) => (wire_PutInt ([x17] : List UInt8) (-65 : Int)).bind fun (x19 : (List UInt8)) => (byteOf (7 : Int)).bind fun (x21 : UInt8) => (byteOf (129 : Int)).bind fun (x23 : UInt8) => (byteOf (1 : Int)).bind fun (x25 : UInt8) => (law01xequal x19 ([x21, x23, x25] : List UInt8)).bind fun (x27 : Bool) => cond x27 ((wire_PutText ([] : List UInt8) ([97, 98] : List UInt8)).bind fun (x30 : (List UInt8)) => (byteOf (4 : Int)).bind fun (x32 : UInt8) => (byteOf (97 : Int)).bind fun (x34 : UInt8) => (byteOf (98 : Int)).bind fun (x36 : UInt8) => (law01xequal x30 ([x32, x34, x36] : List UInt8)).bind fun (x38 : Bool) => cond x38 ((wire_Reader_Err x13.2).bind fun (x41 : Int) => cond (decide (x41 = (4 : Int))) ((wire_Reader_Err x15.2).bind fun (x44 : Int) => cond (decide (x44 = (3 : Int))) ((wire_Open ([] : List UInt8)).bind fun (x47 : WireReader) => (wire_Reader_End x47).bind fun (x49 : Int) => some (decide (x49 = (0 : Int)))) (some false)) (some false)) (some false)) (some false)
theorem w_law01xworks  {res : Bool} (h : law01xworks = some res) : ACalls Try.prog 4 [] [] (.c (.bool res)) [] := by
 unfold law01xworks at h
 refine acalls (fn := Try.f4) [0, 1, 2, 12] (by kernel_rfl) Try.func4 rfl (by kernel_rfl) (by kernel_rfl) <| w_sr <| sB rfl <| o_ek (fr' := []) rfl rfl <| w_seqw <| w_region ?_
 obtain ⟨x1, hx1, h2⟩ := bind_s h
 obtain ⟨x3, hx3, h4⟩ := bind_s h2
 refine o_rows (row := brow) (xs := ([x1, x3] : List UInt8)) (rows := [[_], [_]]) (σ' := []) [0] ts22 rfl rfl rfl (arow_cons (brow_of hx1) (arow_cons (brow_of hx3) arow_nil)) rfl rfl ?_
 obtain ⟨x5, hx5, h6⟩ := bind_s h4
 refine o_call (v := .box 0 0) (σ' := [aLIIB]) [] rfl (w_wire_Open hx5) rfl rfl ⟨lr, trivial⟩ st_nil rfl rfl rfl ?_
 obtain ⟨x7, hx7, h8⟩ := bind_s h6
 obtain ⟨x9, hx9, h10⟩ := bind_s h8
 refine o_rows (row := brow) (xs := ([x7, x9] : List UInt8)) (rows := [[_], [_]]) (σ' := [aLIIB]) [0] ts22 rfl rfl rfl (arow_cons (brow_of hx7) (arow_cons (brow_of hx9) arow_nil)) rfl rfl ?_
 obtain ⟨x11, hx11, h12⟩ := bind_s h10
 refine o_call (v := .box 1 0) (σ' := [aLIIB, aLIIB]) [] rfl (w_wire_Open hx11) rfl rfl ⟨lr, trivial⟩ st_nil rfl rfl rfl <| sV (v := .box 0 0) rfl <| sV (v := .box 1 0) rfl <| o_ek (fr' := [(1, .box 0 0), (2, .box 1 0)]) rfl rfl <| w_seqw <| w_sr <| mV (v := .box 0 0) rfl <| o_p rfl (p_peql ti25 rfl rfl) <| mB rfl <| o_yes rfl rfl rfl <| mV (v := .box 1 0) rfl <| o_yes rfl rfl rfl ?_
 refine o_p rfl (p_peql ti25 rfl rfl) <| o_p rfl (p_pick_f rfl rfl rfl) <| o_ek (fr' := [(1, .box 0 0), (2, .box 1 0), (12, aB)]) rfl rfl <| w_cond_f rfl <| w_skip <| e_kw <| w_sr <| mV (v := .box 0 0) rfl ?_
 obtain ⟨x13, hx13, h14⟩ := bind_s h12
 refine o_call (v := aS) (σ' := [aLIIB, aLIIB]) [0] rfl (w_wire_Reader_Text hx13) rfl rfl ⟨lr, lr, trivial⟩ (st_c ⟨rfl, rfl, rfl, rfl, trivial⟩ st_nil) rfl rfl rfl <| o_ek (fr' := [(1, .box 0 0), (2, .box 1 0)]) rfl rfl <| w_sr <| mV (v := .box 1 0) rfl ?_
 obtain ⟨x15, hx15, h16⟩ := bind_s h14
 refine o_call (v := aI) (σ' := [aLIIB, aLIIB]) [1] rfl (w_wire_Reader_Int hx15) rfl rfl ⟨lr, lr, lr, trivial⟩ (st_c ⟨rfl, rfl, rfl, rfl, trivial⟩ st_nil) rfl rfl rfl <| o_ek (fr' := [(1, .box 0 0), (2, .box 1 0)]) rfl rfl <| w_seqw <| w_region ?_
 obtain ⟨x17, hx17, h18⟩ := bind_s h16
 refine o_rows (row := brow) (xs := ([x17] : List UInt8)) (rows := [[_]]) (σ' := [aLIIB, aLIIB]) [0] ts22 rfl rfl rfl (arow_cons (brow_of hx17) arow_nil) rfl rfl ?_
 obtain ⟨x19, hx19, h20⟩ := bind_s h18
 refine o_v (ov_call (v := aO) rfl (w_wire_PutInt hx19) ⟨lr, lr, trivial⟩ rfl rfl rfl) ?_
 obtain ⟨x21, hx21, h22⟩ := bind_s h20
 obtain ⟨x23, hx23, h24⟩ := bind_s h22
 obtain ⟨x25, hx25, h26⟩ := bind_s h24
 refine o_rows (row := brow) (xs := ([x21, x23, x25] : List UInt8)) (rows := [[_], [_], [_]]) (σ' := [aLIIB, aLIIB]) [0] ts22 rfl rfl rfl (arow_cons (brow_of hx21) (arow_cons (brow_of hx23) (arow_cons (brow_of hx25) arow_nil))) rfl rfl ?_
 obtain ⟨x27, hx27, h28⟩ := bind_s h26
 refine o_v (ov_call (v := aB) rfl (w_law01xequal hx27) ⟨lr, lr, trivial⟩ rfl rfl rfl) <| mB rfl <| r_ch h28 (fun hb29 h29 => ?_) (fun hb29 h29 => ?_)
 ·
  refine o_yes rfl rfl hb29 ?_
  obtain ⟨x30, hx30, h31⟩ := bind_s h29
  refine o_v (ov_call (v := aO) rfl (w_wire_PutText hx30) ⟨le_nls, lr, trivial⟩ rfl rfl rfl) <| o_yes rfl rfl hb29 ?_
  obtain ⟨x32, hx32, h33⟩ := bind_s h31
  obtain ⟨x34, hx34, h35⟩ := bind_s h33
  obtain ⟨x36, hx36, h37⟩ := bind_s h35
  refine o_rows (row := brow) (xs := ([x32, x34, x36] : List UInt8)) (rows := [[_], [_], [_]]) (σ' := [aLIIB, aLIIB]) [0] ts22 rfl rfl rfl (arow_cons (brow_of hx32) (arow_cons (brow_of hx34) (arow_cons (brow_of hx36) arow_nil))) rfl rfl <| o_yes rfl rfl hb29 ?_
  obtain ⟨x38, hx38, h39⟩ := bind_s h37
  refine o_v (ov_call (v := aB) rfl (w_law01xequal hx38) ⟨lr, lr, trivial⟩ rfl rfl rfl) <| o_p rfl (p_pick_t rfl hb29 rfl) <| mB rfl <| r_ch h39 (fun hb40 h40 => ?_) (fun hb40 h40 => ?_)
  ·
   refine o_yes rfl rfl hb40 <| mV (v := .box 0 0) rfl <| o_yes rfl rfl hb40 ?_
   obtain ⟨x41, hx41, h42⟩ := bind_s h40
   refine o_call (v := aI) (σ' := [aLIIB, aLIIB]) [0] rfl (w_wire_Reader_Err hx41) rfl rfl ⟨lr, trivial⟩ (st_c ⟨rfl, rfl, rfl, rfl, trivial⟩ st_nil) rfl rfl rfl <| o_yes rfl rfl hb40 <| o_p rfl (p_eql rfl rfl) <| o_p rfl (p_pick_t rfl hb40 rfl) <| mB rfl <| r_ch h42 (fun hb43 h43 => ?_) (fun hb43 h43 => ?_)
   ·
    refine o_yes rfl rfl hb43 <| mV (v := .box 1 0) rfl <| o_yes rfl rfl hb43 ?_
    obtain ⟨x44, hx44, h45⟩ := bind_s h43
    refine o_call (v := aI) (σ' := [aLIIB, aLIIB]) [1] rfl (w_wire_Reader_Err hx44) rfl rfl ⟨lr, trivial⟩ (st_c ⟨rfl, rfl, rfl, rfl, trivial⟩ st_nil) rfl rfl rfl <| o_yes rfl rfl hb43 <| o_p rfl (p_eql rfl rfl) <| o_p rfl (p_pick_t rfl hb43 rfl) <| mB rfl <| r_ch h45 (fun hb46 h46 => ?_) (fun hb46 h46 => ?_)
    ·
     refine o_yes rfl rfl hb46 ?_
     obtain ⟨x47, hx47, h48⟩ := bind_s h46
     refine o_call (v := .box 2 0) (σ' := [aLIIB, aLIIB, aLIIB]) [] rfl (w_wire_Open hx47) rfl rfl ⟨le_nls, trivial⟩ st_nil rfl rfl rfl <| o_yes rfl rfl hb46 ?_
     obtain ⟨x49, hx49, h50⟩ := bind_s h48
     refine o_call (v := aI) (σ' := [aLIIB, aLIIB, aLIIB]) [2] rfl (w_wire_Reader_End hx49) rfl rfl ⟨lr, trivial⟩ (st_c ⟨rfl, rfl, rfl, rfl, trivial⟩ st_nil) rfl rfl rfl <| o_yes rfl rfl hb46 <| o_p rfl (p_eql rfl rfl) <| o_p rfl (p_pick_t rfl hb46 rfl) <| sB rfl <| o_ek (fr' := [(0, aB)]) rfl rfl <| w_ret ?_
     obtain rfl := sy h50
     exact e_ret (rs' := [.tmp 0]) rfl <| r_tmp (v := aB) rfl <| r_nil <| fin_gen [] rfl rfl rfl lr st_nil
    ·
     refine o_no rfl rfl hb46 <| o_no rfl rfl hb46 <| o_no rfl rfl hb46 <| o_p rfl (p_pick_f rfl hb46 rfl) <| sB rfl <| o_ek (fr' := [(0, aB)]) rfl rfl <| w_ret ?_
     obtain rfl := sy h46
     exact e_ret (rs' := [.tmp 0]) rfl <| r_tmp (v := aB) rfl <| r_nil <| fin_gen [] rfl rfl rfl lr st_nil
   ·
    refine o_no rfl rfl hb43 <| o_no rfl rfl hb43 <| o_no rfl rfl hb43 <| o_p rfl (p_pick_f rfl hb43 rfl) <| mB rfl <| o_no rfl rfl rfl <| o_no rfl rfl rfl <| o_no rfl rfl rfl <| o_p rfl (p_pick_f rfl rfl rfl) <| sB rfl <| o_ek (fr' := [(0, aB)]) rfl rfl <| w_ret ?_
    obtain rfl := sy h43
    exact e_ret (rs' := [.tmp 0]) rfl <| r_tmp (v := aB) rfl <| r_nil <| fin_gen [] rfl rfl rfl lr st_nil
  ·
   refine o_no rfl rfl hb40 <| o_no rfl rfl hb40 <| o_no rfl rfl hb40 <| o_p rfl (p_pick_f rfl hb40 rfl) <| mB rfl <| o_no rfl rfl rfl <| o_no rfl rfl rfl <| o_no rfl rfl rfl <| o_p rfl (p_pick_f rfl rfl rfl) <| mB rfl <| o_no rfl rfl rfl <| o_no rfl rfl rfl <| o_no rfl rfl rfl ?_
   refine o_p rfl (p_pick_f rfl rfl rfl) <| sB rfl <| o_ek (fr' := [(0, aB)]) rfl rfl <| w_ret ?_
   obtain rfl := sy h40
   exact e_ret (rs' := [.tmp 0]) rfl <| r_tmp (v := aB) rfl <| r_nil <| fin_gen [] rfl rfl rfl lr st_nil
 ·
  refine o_no rfl rfl hb29 <| o_no rfl rfl hb29 <| o_no rfl rfl hb29 <| o_p rfl (p_pick_f rfl hb29 rfl) <| mB rfl <| o_no rfl rfl rfl <| o_no rfl rfl rfl <| o_no rfl rfl rfl <| o_p rfl (p_pick_f rfl rfl rfl) <| mB rfl <| o_no rfl rfl rfl <| o_no rfl rfl rfl <| o_no rfl rfl rfl ?_
  refine o_p rfl (p_pick_f rfl rfl rfl) <| mB rfl <| o_no rfl rfl rfl <| o_no rfl rfl rfl <| o_no rfl rfl rfl <| o_p rfl (p_pick_f rfl rfl rfl) <| sB rfl <| o_ek (fr' := [(0, aB)]) rfl rfl <| w_ret ?_
  obtain rfl := sy h29
  exact e_ret (rs' := [.tmp 0]) rfl <| r_tmp (v := aB) rfl <| r_nil <| fin_gen [] rfl rfl rfl lr st_nil
end Go.Proofs.Ytlfggjfndmfblaa

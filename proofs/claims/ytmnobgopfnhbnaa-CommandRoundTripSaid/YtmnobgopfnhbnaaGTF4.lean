import Derived.Test.YtmnobgopfnhbnaaGTTy
import Derived.Test.YtmnobgopfnhbnaaGTF0
import Derived.Test.YtmnobgopfnhbnaaGTF2
import Derived.Test.YtmnobgopfnhbnaaGTF3
namespace Go.Proofs.Ytmnobgopfnhbnaa
open Go Abs
set_option maxRecDepth 100000
set_option linter.unusedVariables false
set_option linter.unusedSimpArgs false
noncomputable def wire_Reader_Int_l1 (p100v : WireReader) (p1low : Int) (p2high : Int) (s10 : (Int × Int)) : Option (Step (Int × Int) (Fl (Int × WireReader) Unit)) :=
 cond (decide (s10.2 < (10 : Int))) (cond (decide ((((List.drop (Int.toNat p100v.at_) p100v.b_)).length : Int) ≤ s10.2)) (some (Step.out (Fl.done ((0 : Int), (WireReader.mk p100v.b_ p100v.at_ (4 : Int) p100v.made_))))) ((idx (List.drop (Int.toNat p100v.at_) p100v.b_) s10.2).bind fun (x16 : UInt8) => (nn (IntKind.wrap .i64 ((7 : Int) * s10.2))).bind fun (x18 : Int) => cond (decide ((128 : Int) ≤ ((x16).toNat : Int))) (some (Step.next ((abits .or .u64 s10.1 (IntKind.wrap .u64 ((IntKind.wrap .u64 (abits .and .u8 ((x16).toNat : Int) (127 : Int))) * 2 ^ (min (Int.toNat (IntKind.wrap .i64 ((7 : Int) * s10.2))) (IntKind.bits .u64))))), (IntKind.wrap .i64 (s10.2 + (1 : Int)))))) (cond (cond (cond (decide ((0 : Int) < s10.2)) (decide (((x16).toNat : Int) = (0 : Int))) false) true (cond (decide (s10.2 = (9 : Int))) (decide ((1 : Int) < ((x16).toNat : Int))) false)) (some (Step.out (Fl.done ((0 : Int), (WireReader.mk p100v.b_ p100v.at_ (3 : Int) p100v.made_))))) (cond (cond (decide ((abits .xor .i64 (IntKind.wrap .i64 (Int.fdiv (abits .or .u64 s10.1 (IntKind.wrap .u64 ((IntKind.wrap .u64 (abits .and .u8 ((x16).toNat : Int) (127 : Int))) * 2 ^ (min (Int.toNat (IntKind.wrap .i64 ((7 : Int) * s10.2))) (IntKind.bits .u64))))) (2 ^ (min (Int.toNat (1 : Int)) (IntKind.bits .u64))))) (IntKind.wrap .i64 (0 - (IntKind.wrap .i64 (abits .and .u64 (abits .or .u64 s10.1 (IntKind.wrap .u64 ((IntKind.wrap .u64 (abits .and .u8 ((x16).toNat : Int) (127 : Int))) * 2 ^ (min (Int.toNat (IntKind.wrap .i64 ((7 : Int) * s10.2))) (IntKind.bits .u64))))) (1 : Int)))))) < p1low)) true (decide (p2high < (abits .xor .i64 (IntKind.wrap .i64 (Int.fdiv (abits .or .u64 s10.1 (IntKind.wrap .u64 ((IntKind.wrap .u64 (abits .and .u8 ((x16).toNat : Int) (127 : Int))) * 2 ^ (min (Int.toNat (IntKind.wrap .i64 ((7 : Int) * s10.2))) (IntKind.bits .u64))))) (2 ^ (min (Int.toNat (1 : Int)) (IntKind.bits .u64))))) (IntKind.wrap .i64 (0 - (IntKind.wrap .i64 (abits .and .u64 (abits .or .u64 s10.1 (IntKind.wrap .u64 ((IntKind.wrap .u64 (abits .and .u8 ((x16).toNat : Int) (127 : Int))) * 2 ^ (min (Int.toNat (IntKind.wrap .i64 ((7 : Int) * s10.2))) (IntKind.bits .u64))))) (1 : Int))))))))) (some (Step.out (Fl.done ((0 : Int), (WireReader.mk p100v.b_ (IntKind.wrap .i64 (p100v.at_ + (IntKind.wrap .i64 (s10.2 + (1 : Int))))) (14 : Int) p100v.made_))))) (some (Step.out (Fl.done ((abits .xor .i64 (IntKind.wrap .i64 (Int.fdiv (abits .or .u64 s10.1 (IntKind.wrap .u64 ((IntKind.wrap .u64 (abits .and .u8 ((x16).toNat : Int) (127 : Int))) * 2 ^ (min (Int.toNat (IntKind.wrap .i64 ((7 : Int) * s10.2))) (IntKind.bits .u64))))) (2 ^ (min (Int.toNat (1 : Int)) (IntKind.bits .u64))))) (IntKind.wrap .i64 (0 - (IntKind.wrap .i64 (abits .and .u64 (abits .or .u64 s10.1 (IntKind.wrap .u64 ((IntKind.wrap .u64 (abits .and .u8 ((x16).toNat : Int) (127 : Int))) * 2 ^ (min (Int.toNat (IntKind.wrap .i64 ((7 : Int) * s10.2))) (IntKind.bits .u64))))) (1 : Int)))))), (WireReader.mk p100v.b_ (IntKind.wrap .i64 (p100v.at_ + (IntKind.wrap .i64 (s10.2 + (1 : Int))))) p100v.err_ p100v.made_))))))))) (some (Step.out (Fl.go ())))
noncomputable def wire_Reader_Int (p1low : Int) (p2high : Int) (p100v : WireReader) : Option (Int × WireReader) :=
 (wire_Reader_dead p100v).bind fun (x1 : Bool) => cond x1 (some ((0 : Int), p100v)) ((slcL p100v.b_ p100v.at_).bind fun (x5 : (List UInt8)) => ((loopO (wire_Reader_Int_l1 p100v p1low p2high) (((0 : Int), (0 : Int)))) : Option (Fl (Int × WireReader) Unit)).bind fun (x7 : (Fl (Int × WireReader) Unit)) => Fl.next x7 (fun (j9 : Unit) => (some ((0 : Int), (WireReader.mk p100v.b_ p100v.at_ (3 : Int) p100v.made_)))))
theorem w_wire_Reader_Int {p1low : Int} {p2high : Int} {p100v : WireReader} {res : (Int × WireReader)} (h : wire_Reader_Int p1low p2high p100v = some res) : ACalls Try.prog 93 [.box 0 0, .c (.int .i64 p1low), .c (.int .i64 p2high)] [AV.cs (rowWireReader p100v)] (.c (.int .i64 res.1)) [AV.cs (rowWireReader res.2)] := by
 unfold wire_Reader_Int at h
 refine acalls (fn := Try.f93) [0, 1, 2, 6, 7, 8, 9, 10, 11, 13, 23, 24, 29, 46, 60, 88] (by kernel_rfl) Try.func93 rfl (by kernel_rfl) (by kernel_rfl) <| w_sr <| sI rfl <| o_ek (fr' := [(0, .box 0 0), (1, aI), (2, aI)]) rfl rfl <| w_seqw <| w_sr <| mV (v := .box 0 0) rfl ?_
 obtain ⟨x1, hx1, h2⟩ := bind_s h
 refine o_call (v := aB) (σ' := [aLIIB]) [0] rfl (w_wire_Reader_dead hx1) rfl rfl ⟨lr, trivial⟩ (st_c ⟨rfl, rfl, rfl, rfl, trivial⟩ st_nil) rfl rfl rfl <| o_ek (fr' := [(0, .box 0 0), (1, aI), (2, aI), (13, aB)]) rfl rfl <| w_ch h2 rfl (fun hb3 h3 => ?_) (fun hb3 h3 => ?_)
 ·
  refine w_sr <| sI rfl <| o_ek (fr' := [(6, aI)]) rfl rfl <| w_ret <| e_seq_r ?_
  obtain rfl := sy h3
  exact e_ret (rs' := [.tmp 6]) rfl <| r_tmp (v := aI) rfl <| r_nil <| fin_gen [] rfl rfl rfl lr (st_c ⟨rfl, rfl, rfl, rfl, trivial⟩ st_nil)
 ·
  refine w_skip <| e_kw <| w_seqw <| w_planT [.q 0, .q 1, .q 2, .q 3, .q 4, .q 5, .q 6, .q 7, .q 8, .n 9 []] [(some 14, [0]), (some 15, [14]), (some 16, [15]), (some 17, [16]), (some 18, [0]), (some 19, [18]), (some 20, [19]), (some 21, [20]), (some 22, [17, 21]), (some 7, [22])] [0, 1, 3, 7, 0, 16, 48, 112, 255, 511] (by kernel_rfl) <| dq rfl rfl (p_move (v := .box 0 0) rfl) <| dq rfl rfl (p_nc rfl) <| dq rfl rfl (p_fa tf78x0 rfl) <| dq rfl rfl (p_load (v := aL) tv40 rfl rfl rfl) <| dq rfl rfl (p_move (v := .box 0 0) rfl) <| dq rfl rfl (p_nc rfl) <| dq rfl rfl (p_fa tf78x1 rfl) <| dq rfl rfl (p_load (v := aI) tv3 rfl rfl rfl) ?_
  obtain ⟨x5, hx5, h6⟩ := bind_s h3
  refine dq rfl rfl (p_sl_l tn40 ts40 (isl_c rfl) rfl (slcL_some hx5).1) <| d_n rfl ?_ rfl
  refine sL rfl <| o_rc <| ⟨rc_nil, ?_⟩
  refine d_ek (fr' := [(0, .box 0 0), (1, aI), (2, aI), (7, aL)]) rfl rfl <| w_sr <| sI rfl <| o_ek (fr' := [(0, .box 0 0), (1, aI), (2, aI), (7, aL), (8, aI)]) rfl rfl <| w_seqw <| w_sr <| mI rfl <| o_ek (fr' := [(0, .box 0 0), (1, aI), (2, aI), (7, aL), (8, aI), (23, aI)]) rfl rfl ?_
  obtain ⟨x7, hx7, h8⟩ := bind_s h6
  refine w_jtail cl_kw (fun j9 => x7 = Fl.go j9) (fun (j9 : Unit) => ([(0, .box 0 0)] : Fr)) (fun (j9 : Unit) => ([[.c (PV.ls 1 brow p100v.b_), .c (.int .i64 p100v.at_), .c (.int .i64 p100v.err_), .c (.bool p100v.made_)]] : St)) ?_ ?_
  ·
   refine w_block <| w_loopo _ (fun (s10 : (Int × Int)) => ([(0, .box 0 0), (1, .c (.int .i64 p1low)), (2, .c (.int .i64 p2high)), (7, .c (PV.ls 1 brow (List.drop (Int.toNat p100v.at_) p100v.b_))), (8, .c (.int .u64 s10.1)), (23, .c (.int .i64 s10.2))] : Fr)) (fun (s10 : (Int × Int)) => ([[.c (PV.ls 1 brow p100v.b_), .c (.int .i64 p100v.at_), .c (.int .i64 p100v.err_), .c (.bool p100v.made_)]] : St)) hx7 (w_weak [] 1 rfl rfl rfl rfl ⟨lr, lr, lr, lr, lr, lr, trivial⟩ (st_r rfl st_nil)) ?_
   intro s10 st10 hs10 ho10
   unfold wire_Reader_Int_l1 at hs10
   refine w_sr <| o_p rfl (p_lss rfl rfl) <| o_ek (fr' := [(0, .box 0 0), (1, aI), (2, aI), (7, aL), (8, aI), (23, aI), (24, aB)]) rfl rfl <| w_seqw <| w_ch hs10 rfl (fun hb11 h11 => ?_) (fun hb11 h11 => ?_)
   ·
    refine w_skip <| e_kw <| w_seqw <| w_block <| w_sr <| mI rfl <| sI rfl <| o_ek (fr' := [(0, .box 0 0), (1, aI), (2, aI), (7, aL), (8, aI), (9, aI), (23, aI)]) rfl rfl <| w_seqw <| w_sr <| mI rfl ?_
    refine mL rfl <| o_p rfl (p_len ti40 (isl_c rfl)) <| o_p rfl (p_geq rfl rfl) <| o_ek (fr' := [(0, .box 0 0), (1, aI), (2, aI), (7, aL), (8, aI), (9, aI), (23, aI), (29, aB)]) rfl rfl <| w_ch h11 rfl (fun hb12 h12 => ?_) (fun hb12 h12 => ?_)
    ·
     refine w_sr <| mV (v := .box 0 0) rfl <| o_p rfl (p_nc rfl) <| o_p rfl (p_fa tf78x2 rfl) <| o_store (v := aI) (us := [aI]) (cs := aLIIB) (σ' := [aLIIB]) rfl tv34 rfl rfl rfl rfl rfl rfl rfl rfl <| o_ek (fr' := []) rfl rfl <| w_sr <| sI rfl <| o_ek (fr' := [(6, aI)]) rfl rfl <| w_ret <| e_seq_r ?_
     refine e_blk_r <| e_seq_r <| e_seq_r <| e_blk_r <| e_seq_r <| e_seq_r ?_
     have h13 := un_out h12 ho10
     have h14 := un_done h13 h8
     obtain rfl := sy h14
     exact e_ret (rs' := [.tmp 6]) rfl <| r_tmp (v := aI) rfl <| r_nil <| fin_gen [] rfl rfl rfl lr (st_c ⟨rfl, rfl, rfl, rfl, trivial⟩ st_nil)
    ·
     refine w_skip <| e_kw <| w_sr <| mL rfl <| mI rfl ?_
     obtain ⟨x16, hx16, h17⟩ := bind_s h12
     refine o_p rfl (p_ia (cs := [.int _ _]) ts40 (isl_c rfl) rfl hx16 rfl) <| o_p rfl (p_loade (p := .int _ _) tv5 rfl rfl) <| sI rfl <| o_ek (fr' := [(0, .box 0 0), (1, aI), (2, aI), (7, aL), (8, aI), (9, aI), (10, aI), (23, aI)]) rfl rfl <| w_sr <| mI rfl <| mI rfl <| o_p rfl (p_and rfl rfl) <| o_p rfl (p_conv tk5 tk103 rfl) <| mI rfl <| o_p rfl (p_mul rfl rfl) ?_
     obtain ⟨x18, hx18, h19⟩ := bind_s h17
     refine o_p rfl (p_shl rfl rfl (nn_some hx18).1) <| o_p rfl (p_or rfl rfl) <| sI rfl <| o_ek (fr' := [(0, .box 0 0), (1, aI), (2, aI), (7, aL), (8, aI), (9, aI), (10, aI), (23, aI)]) rfl rfl <| w_seqw <| w_sr <| mI rfl <| o_p rfl (p_geq rfl rfl) <| o_ek (fr' := [(0, .box 0 0), (1, aI), (2, aI), (7, aL), (8, aI), (9, aI), (10, aI), (23, aI), (46, aB)]) rfl rfl <| w_ch h19 rfl (fun hb20 h20 => ?_) (fun hb20 h20 => ?_)
     ·
      exact w_exit <| e_seq_x <| e_blk_h <| e_kw <| w_region <| o_p rfl (p_add rfl rfl) <| mI rfl <| o_end (fr' := [(0, .box 0 0), (1, aI), (2, aI), (7, aL), (8, aI), (9, aI), (10, aI), (23, aI), (46, aB)]) rfl <| e_l _ (sy h20) (w_weak [] 1 rfl rfl rfl rfl ⟨lr, lr, lr, lr, lr, lr, trivial⟩ (st_r rfl st_nil))
     ·
      refine w_skip <| e_kw <| w_seqw <| w_sr <| mI rfl <| o_p rfl (p_gtr rfl rfl) <| mB rfl <| og rfl rfl rfl (fun hc => (p_move (v := aI) rfl)) <| og rfl rfl rfl (fun hc => (p_eql (gx rfl hc) rfl)) <| o_p rfl (p_picky rfl rfl rfl (fun e => keq e)) <| mB rfl <| og rfl rfl rfl (fun hc => (p_move (v := aI) rfl)) ?_
      refine og rfl rfl rfl (fun hc => (p_eql (gx rfl hc) rfl)) <| og rfl rfl rfl (fun hc => (p_move (v := aB) (gx rfl hc))) <| o_gg rfl rfl (fun hc => ov_p rfl (p_move (v := aI) rfl)) <| o_gg rfl rfl (fun hc => ov_p rfl (p_gtr (gx rfl hc) rfl)) <| og rfl rfl rfl (fun hc => (p_picky (gx rfl hc) rfl rfl (fun e => band hc (keq e)))) <| o_p rfl (p_pickz rfl rfl rfl (fun e => keq e)) <| o_ek (fr' := [(0, .box 0 0), (1, aI), (2, aI), (8, aI), (9, aI), (60, aB)]) rfl rfl <| w_ch h20 rfl (fun hb21 h21 => ?_) (fun hb21 h21 => ?_)
      ·
       refine w_sr <| mV (v := .box 0 0) rfl <| o_p rfl (p_nc rfl) <| o_p rfl (p_fa tf78x2 rfl) <| o_store (v := aI) (us := [aI]) (cs := aLIIB) (σ' := [aLIIB]) rfl tv34 rfl rfl rfl rfl rfl rfl rfl rfl <| o_ek (fr' := []) rfl rfl <| w_sr <| sI rfl <| o_ek (fr' := [(6, aI)]) rfl rfl <| w_ret <| e_seq_r ?_
       refine e_blk_r <| e_seq_r <| e_seq_r <| e_blk_r <| e_seq_r <| e_seq_r ?_
       have h22 := un_out h21 ho10
       have h23 := un_done h22 h8
       obtain rfl := sy h23
       exact e_ret (rs' := [.tmp 6]) rfl <| r_tmp (v := aI) rfl <| r_nil <| fin_gen [] rfl rfl rfl lr (st_c ⟨rfl, rfl, rfl, rfl, trivial⟩ st_nil)
      ·
       refine w_skip <| e_kw <| w_sr <| mV (v := .box 0 0) rfl <| o_p rfl (p_nc rfl) <| o_p rfl (p_fa tf78x1 rfl) <| o_p rfl (p_load (v := aI) tv3 rfl rfl rfl) <| mI rfl <| o_p rfl (p_add rfl rfl) <| o_p rfl (p_add rfl rfl) <| o_p rfl (p_nc rfl) <| o_p rfl (p_fa tf78x1 rfl) ?_
       refine o_store (v := aI) (us := [aI]) (cs := aLIIB) (σ' := [aLIIB]) rfl tv3 rfl rfl rfl rfl rfl rfl rfl rfl <| o_ek (fr' := [(0, .box 0 0), (1, aI), (2, aI), (8, aI)]) rfl rfl <| w_sr <| mI rfl <| o_p rfl (p_shr rfl rfl (by decide)) <| o_p rfl (p_conv tk103 tk3 rfl) <| mI rfl <| o_p rfl (p_and rfl rfl) <| o_p rfl (p_conv tk103 tk3 rfl) <| o_p rfl (p_neg rfl) <| o_p rfl (p_xor rfl rfl) <| sI rfl ?_
       refine o_ek (fr' := [(0, .box 0 0), (1, aI), (2, aI), (11, aI)]) rfl rfl <| w_seqw <| w_sr <| mI rfl <| mI rfl <| o_p rfl (p_lss rfl rfl) <| mB rfl <| og rfl rfl rfl (fun hc => (p_move (v := aI) rfl)) <| og rfl rfl rfl (fun hc => (p_move (v := aI) rfl)) <| og rfl rfl rfl (fun hc => (p_gtr (gx rfl hc) (gx rfl hc))) <| o_p rfl (p_pickz rfl rfl rfl (fun e => keq e)) <| o_ek (fr' := [(0, .box 0 0), (11, aI), (88, aB)]) rfl rfl ?_
       refine w_ch h21 rfl (fun hb25 h25 => ?_) (fun hb25 h25 => ?_)
       ·
        refine w_sr <| mV (v := .box 0 0) rfl <| o_p rfl (p_nc rfl) <| o_p rfl (p_fa tf78x2 rfl) <| o_store (v := aI) (us := [aI]) (cs := aLIIB) (σ' := [aLIIB]) rfl tv34 rfl rfl rfl rfl rfl rfl rfl rfl <| o_ek (fr' := []) rfl rfl <| w_sr <| sI rfl <| o_ek (fr' := [(6, aI)]) rfl rfl <| w_ret <| e_seq_r ?_
        refine e_blk_r <| e_seq_r <| e_seq_r <| e_blk_r <| e_seq_r <| e_seq_r ?_
        have h26 := un_out h25 ho10
        have h27 := un_done h26 h8
        obtain rfl := sy h27
        exact e_ret (rs' := [.tmp 6]) rfl <| r_tmp (v := aI) rfl <| r_nil <| fin_gen [] rfl rfl rfl lr (st_c ⟨rfl, rfl, rfl, rfl, trivial⟩ st_nil)
       ·
        refine w_skip <| e_kw <| w_sr <| mI rfl <| sI rfl <| o_ek (fr' := [(6, aI)]) rfl rfl <| w_ret <| e_blk_r <| e_seq_r <| e_seq_r <| e_blk_r <| e_seq_r ?_
        refine e_seq_r ?_
        have h29 := un_out h25 ho10
        have h30 := un_done h29 h8
        obtain rfl := sy h30
        exact e_ret (rs' := [.tmp 6]) rfl <| r_tmp (v := aI) rfl <| r_nil <| fin_gen [] rfl rfl rfl lr (st_c ⟨rfl, rfl, rfl, rfl, trivial⟩ st_nil)
   ·
    refine w_exit <| e_seq_x <| e_seq_x <| e_blk_h ?_
    have h32 := un_out h11 ho10
    exact e_j _ (sy h32) (w_weak [] 1 rfl rfl rfl rfl ⟨lr, trivial⟩ (st_r rfl st_nil))
  ·
   intro j9 hj33
   have h33 := un_go hj33 h8
   refine e_kw <| w_sr <| mV (v := .box 0 0) rfl <| o_p rfl (p_nc rfl) <| o_p rfl (p_fa tf78x2 rfl) <| o_store (v := aI) (us := [aI]) (cs := aLIIB) (σ' := [aLIIB]) rfl tv34 rfl rfl rfl rfl rfl rfl rfl rfl <| o_ek (fr' := []) rfl rfl <| w_sr <| sI rfl <| o_ek (fr' := [(6, aI)]) rfl rfl <| w_ret ?_
   obtain rfl := sy h33
   exact e_ret (rs' := [.tmp 6]) rfl <| r_tmp (v := aI) rfl <| r_nil <| fin_gen [] rfl rfl rfl lr (st_c ⟨rfl, rfl, rfl, rfl, trivial⟩ st_nil)
noncomputable def command_number64 (p100v : WireReader) : Option (Int × WireReader) :=
 (wire_Reader_Int (-9223372036854775808 : Int) (9223372036854775807 : Int) p100v).bind fun (x1 : (Int × WireReader)) => some (x1.1, x1.2)
theorem w_command_number64 {p100v : WireReader} {res : (Int × WireReader)} (h : command_number64 p100v = some res) : ACalls Try.prog 64 [.box 0 0] [AV.cs (rowWireReader p100v)] (.c (.int .i64 res.1)) [AV.cs (rowWireReader res.2)] := by
 unfold command_number64 at h
 refine acalls (fn := Try.f64) [0, 2] (by kernel_rfl) Try.func64 rfl (by kernel_rfl) (by kernel_rfl) <| w_sr <| sI rfl <| o_ek (fr' := [(0, .box 0 0)]) rfl rfl <| w_sr <| mV (v := .box 0 0) rfl ?_
 obtain ⟨x1, hx1, h2⟩ := bind_s h
 refine o_call (v := aI) (σ' := [aLIIB]) [0] rfl (w_wire_Reader_Int hx1) rfl rfl ⟨lr, lr, lr, trivial⟩ (st_c ⟨rfl, rfl, rfl, rfl, trivial⟩ st_nil) rfl rfl rfl <| sI rfl <| o_ek (fr' := [(2, aI)]) rfl rfl <| w_ret ?_
 obtain rfl := sy h2
 exact e_ret (rs' := [.tmp 2]) rfl <| r_tmp (v := aI) rfl <| r_nil <| fin_gen [] rfl rfl rfl lr (st_c ⟨rfl, rfl, rfl, rfl, trivial⟩ st_nil)
noncomputable def wire_Reader_Text (p1most : Int) (p100v : WireReader) : Option ((List UInt8) × WireReader) :=
 (wire_Reader_Int (0 : Int) p1most p100v).bind fun (x1 : (Int × WireReader)) => (wire_Reader_dead x1.2).bind fun (x3 : Bool) => cond x3 (some (([] : List UInt8), x1.2)) (cond (decide ((IntKind.wrap .i64 (((x1.2.b_).length : Int) - x1.2.at_)) < x1.1)) (some (([] : List UInt8), (WireReader.mk x1.2.b_ x1.2.at_ (4 : Int) x1.2.made_))) ((slcB x1.2.b_ x1.2.at_ (IntKind.wrap .i64 (x1.2.at_ + x1.1))).bind fun (x9 : (List UInt8)) => some ((List.drop (Int.toNat x1.2.at_) (List.take (Int.toNat (IntKind.wrap .i64 (x1.2.at_ + x1.1))) x1.2.b_)), (WireReader.mk x1.2.b_ (IntKind.wrap .i64 (x1.2.at_ + x1.1)) x1.2.err_ x1.2.made_))))
theorem w_wire_Reader_Text {p1most : Int} {p100v : WireReader} {res : ((List UInt8) × WireReader)} (h : wire_Reader_Text p1most p100v = some res) : ACalls Try.prog 65 [.box 0 0, .c (.int .i64 p1most)] [AV.cs (rowWireReader p100v)] (.c (.str res.1)) [AV.cs (rowWireReader res.2)] := by
 unfold wire_Reader_Text at h
 refine acalls (fn := Try.f65) [0, 1, 4, 5, 6, 11, 23] (by kernel_rfl) Try.func65 rfl (by kernel_rfl) (by kernel_rfl) <| w_sr <| sS rfl <| o_ek (fr' := [(0, .box 0 0), (1, aI)]) rfl rfl <| w_sr <| mV (v := .box 0 0) rfl <| mI rfl ?_
 obtain ⟨x1, hx1, h2⟩ := bind_s h
 refine o_call (v := aI) (σ' := [aLIIB]) [0] rfl (w_wire_Reader_Int hx1) rfl rfl ⟨lr, lr, lr, trivial⟩ (st_c ⟨rfl, rfl, rfl, rfl, trivial⟩ st_nil) rfl rfl rfl <| sI rfl <| o_ek (fr' := [(0, .box 0 0), (5, aI)]) rfl rfl <| w_seqw <| w_sr <| mV (v := .box 0 0) rfl ?_
 obtain ⟨x3, hx3, h4⟩ := bind_s h2
 refine o_call (v := aB) (σ' := [aLIIB]) [0] rfl (w_wire_Reader_dead hx3) rfl rfl ⟨lr, trivial⟩ (st_c ⟨rfl, rfl, rfl, rfl, trivial⟩ st_nil) rfl rfl rfl <| o_ek (fr' := [(0, .box 0 0), (5, aI), (11, aB)]) rfl rfl <| w_ch h4 rfl (fun hb5 h5 => ?_) (fun hb5 h5 => ?_)
 ·
  refine w_sr <| sS rfl <| o_ek (fr' := [(4, aS)]) rfl rfl <| w_ret <| e_seq_r ?_
  obtain rfl := sy h5
  exact e_ret (rs' := [.tmp 4]) rfl <| r_tmp (v := aS) rfl <| r_nil <| fin_gen [] rfl rfl rfl lr (st_c ⟨rfl, rfl, rfl, rfl, trivial⟩ st_nil)
 ·
  refine w_skip <| e_kw <| w_seqw <| w_seqw <| w_planT [.q 0, .q 1, .q 2, .q 3, .q 4, .q 5, .q 6, .q 7, .q 8, .q 9, .q 10, .q 11] [(some 12, [5]), (some 13, [0]), (some 14, [13]), (some 15, [14]), (some 16, [15]), (some 17, [16]), (some 18, [0]), (some 19, [18]), (some 20, [19]), (some 21, [20]), (some 22, [17, 21]), (some 23, [12, 22])] [0, 0, 2, 6, 14, 30, 0, 64, 192, 448, 1022, 2047] (by kernel_rfl) <| dq rfl rfl (p_move (v := aI) rfl) <| dq rfl rfl (p_move (v := .box 0 0) rfl) <| dq rfl rfl (p_nc rfl) <| dq rfl rfl (p_fa tf78x0 rfl) <| dq rfl rfl (p_load (v := aL) tv40 rfl rfl rfl) <| dq rfl rfl (p_len ti40 (isl_c rfl)) <| dq rfl rfl (p_move (v := .box 0 0) rfl) <| dq rfl rfl (p_nc rfl) ?_
  refine dq rfl rfl (p_fa tf78x1 rfl) <| dq rfl rfl (p_load (v := aI) tv3 rfl rfl rfl) <| dq rfl rfl (p_sub rfl rfl) <| dq rfl rfl (p_gtr rfl rfl) <| d_ek (fr' := [(0, .box 0 0), (5, aI), (23, aB)]) rfl rfl <| w_ch h5 rfl (fun hb7 h7 => ?_) (fun hb7 h7 => ?_)
  ·
   refine w_sr <| mV (v := .box 0 0) rfl <| o_p rfl (p_nc rfl) <| o_p rfl (p_fa tf78x2 rfl) <| o_store (v := aI) (us := [aI]) (cs := aLIIB) (σ' := [aLIIB]) rfl tv34 rfl rfl rfl rfl rfl rfl rfl rfl <| o_ek (fr' := []) rfl rfl <| w_sr <| sS rfl <| o_ek (fr' := [(4, aS)]) rfl rfl <| w_ret <| e_seq_r ?_
   obtain rfl := sy h7
   exact e_ret (rs' := [.tmp 4]) rfl <| r_tmp (v := aS) rfl <| r_nil <| fin_gen [] rfl rfl rfl lr (st_c ⟨rfl, rfl, rfl, rfl, trivial⟩ st_nil)
  ·
   refine w_skip <| e_kw <| w_seqw <| w_planT [.q 0, .q 1, .q 2, .q 3, .q 4, .q 5, .q 6, .q 7, .q 8, .q 9, .q 10, .q 11, .q 12, .q 13, .q 14, .q 15, .n 16 []] [(some 27, [0]), (some 28, [27]), (some 29, [28]), (some 30, [29]), (some 31, [0]), (some 32, [31]), (some 33, [32]), (some 34, [33]), (some 35, [0]), (some 36, [35]), (some 37, [36]), (some 38, [37]), (some 39, [5]), (some 40, [38, 39]), (some 41, [30, 34, 40]), (some 42, [41]), (some 6, [42])] [0, 1, 3, 7, 0, 16, 48, 112, 0, 256, 768, 1792, 0, 7936, 16383, 32767, 65535] (by kernel_rfl) <| dq rfl rfl (p_move (v := .box 0 0) rfl) <| dq rfl rfl (p_nc rfl) <| dq rfl rfl (p_fa tf78x0 rfl) <| dq rfl rfl (p_load (v := aL) tv40 rfl rfl rfl) <| dq rfl rfl (p_move (v := .box 0 0) rfl) <| dq rfl rfl (p_nc rfl) <| dq rfl rfl (p_fa tf78x1 rfl) <| dq rfl rfl (p_load (v := aI) tv3 rfl rfl rfl) <| dq rfl rfl (p_move (v := .box 0 0) rfl) ?_
   refine dq rfl rfl (p_nc rfl) <| dq rfl rfl (p_fa tf78x1 rfl) <| dq rfl rfl (p_load (v := aI) tv3 rfl rfl rfl) <| dq rfl rfl (p_move (v := aI) rfl) <| dq rfl rfl (p_add rfl rfl) ?_
   obtain ⟨x9, hx9, h10⟩ := bind_s h7
   refine dq rfl rfl (p_sl_b tn40 ts40 (isl_c rfl) rfl rfl (slcB_some hx9).1) <| dq rfl rfl (p_convbs tby40 ti9 (isl_c rfl)) <| d_n rfl ?_ rfl
   refine sS rfl <| o_rc <| ⟨rc_nil, ?_⟩
   refine d_ek (fr' := [(0, .box 0 0), (5, aI), (6, aS)]) rfl rfl <| w_sr <| mV (v := .box 0 0) rfl <| o_p rfl (p_nc rfl) <| o_p rfl (p_fa tf78x1 rfl) <| o_p rfl (p_load (v := aI) tv3 rfl rfl rfl) <| mI rfl <| o_p rfl (p_add rfl rfl) <| o_p rfl (p_nc rfl) <| o_p rfl (p_fa tf78x1 rfl) <| o_store (v := aI) (us := [aI]) (cs := aLIIB) (σ' := [aLIIB]) rfl tv3 rfl rfl rfl rfl rfl rfl rfl rfl <| o_ek (fr' := [(6, aS)]) rfl rfl ?_
   refine w_sr <| mS rfl <| sS rfl <| o_ek (fr' := [(4, aS)]) rfl rfl <| w_ret ?_
   obtain rfl := sy h10
   exact e_ret (rs' := [.tmp 4]) rfl <| r_tmp (v := aS) rfl <| r_nil <| fin_gen [] rfl rfl rfl lr (st_c ⟨rfl, rfl, rfl, rfl, trivial⟩ st_nil)
noncomputable def wire_Reader_Fail (p1e : Int) (p100v : WireReader) : Option WireReader :=
 (wire_Reader_dead p100v).bind fun (x1 : Bool) => cond (!x1) (some (WireReader.mk p100v.b_ p100v.at_ p1e p100v.made_)) (some p100v)
theorem w_wire_Reader_Fail {p1e : Int} {p100v : WireReader} {res : WireReader} (h : wire_Reader_Fail p1e p100v = some res) : ACalls Try.prog 67 [.box 0 0, .c (.int .i64 p1e)] [AV.cs (rowWireReader p100v)] (.any) [AV.cs (rowWireReader res)] := by
 unfold wire_Reader_Fail at h
 refine acalls (fn := Try.f67) [0, 1, 6] (by kernel_rfl) Try.func67 rfl (by kernel_rfl) (by kernel_rfl) <| w_sr <| mV (v := .box 0 0) rfl ?_
 obtain ⟨x1, hx1, h2⟩ := bind_s h
 refine o_call (v := aB) (σ' := [aLIIB]) [0] rfl (w_wire_Reader_dead hx1) rfl rfl ⟨lr, trivial⟩ (st_c ⟨rfl, rfl, rfl, rfl, trivial⟩ st_nil) rfl rfl rfl <| o_p rfl (p_not rfl) <| o_ek (fr' := [(0, .box 0 0), (1, aI), (6, aB)]) rfl rfl <| w_ch h2 rfl (fun hb3 h3 => ?_) (fun hb3 h3 => ?_)
 ·
  refine w_region <| mV (v := .box 0 0) rfl <| mI rfl <| o_p rfl (p_nc rfl) <| o_p rfl (p_fa tf78x2 rfl) <| o_store (v := aI) (us := [aI]) (cs := aLIIB) (σ' := [aLIIB]) rfl tv34 rfl rfl rfl rfl rfl rfl rfl rfl <| o_end (fr' := [(0, .box 0 0), (1, aI), (6, aB)]) rfl ?_
  obtain rfl := sy h3
  exact e_fin (rs' := []) rfl <| r_nil <| fin_gen [] rfl rfl rfl (AV.le_any _) (st_c ⟨rfl, rfl, rfl, rfl, trivial⟩ st_nil)
 ·
  refine w_skip ?_
  obtain rfl := sy h3
  exact e_fin (rs' := []) rfl <| r_nil <| fin_gen [] rfl rfl rfl (AV.le_any _) (st_c ⟨rfl, rfl, rfl, rfl, trivial⟩ st_nil)
noncomputable def command_DecodePolicy_l1 (x22 : (Int × WireReader)) (s38 : (Int × WireReader × (List (List UInt8)))) : Option (Step (Int × WireReader × (List (List UInt8))) (WireReader × (List (List UInt8)))) :=
 ((cond (decide (s38.1 < x22.1)) ((wire_Reader_Err s38.2.1).bind fun (x43 : Int) => cond (decide (x43 = (0 : Int))) (some (Fl.go ())) (some (Fl.done (Step.out (s38.2.1, s38.2.2))))) (some (Fl.done (Step.out (s38.2.1, s38.2.2))))) : Option (Fl (Step (Int × WireReader × (List (List UInt8))) (WireReader × (List (List UInt8)))) Unit)).bind fun (x39 : (Fl (Step (Int × WireReader × (List (List UInt8))) (WireReader × (List (List UInt8)))) Unit)) => Fl.next x39 (fun (j41 : Unit) => ((wire_Reader_Text (4096 : Int) s38.2.1).bind fun (x51 : ((List UInt8) × WireReader)) => (app 16 s38.2.2 ([x51.1] : List (List UInt8))).bind fun (x53 : (List (List UInt8))) => some (Step.next ((IntKind.wrap .i64 (s38.1 + (1 : Int))), x51.2, x53))))
noncomputable def command_DecodePolicy (p100v : WireReader) : Option (ApiPolicy × WireReader) :=
 (wire_Reader_Text (4096 : Int) p100v).bind fun (x1 : ((List UInt8) × WireReader)) => (command_numbers x1.1 (0 : Int) (0 : Int) (0 : Int) (0 : Int) (0 : Int) (0 : Int) (0 : Int) (0 : Int)).bind fun (x3 : Unit) => (command_number64 x1.2).bind fun (x6 : (Int × WireReader)) => (command_number64 x6.2).bind fun (x8 : (Int × WireReader)) => (command_number64 x8.2).bind fun (x10 : (Int × WireReader)) => (command_number64 x10.2).bind fun (x12 : (Int × WireReader)) => (command_number64 x12.2).bind fun (x14 : (Int × WireReader)) => (command_number64 x14.2).bind fun (x16 : (Int × WireReader)) => (command_number64 x16.2).bind fun (x18 : (Int × WireReader)) => (command_number64 x18.2).bind fun (x20 : (Int × WireReader)) => (command_number64 x20.2).bind fun (x22 : (Int × WireReader)) => (((wire_Reader_Err x22.2).bind fun (x27 : Int) => (gd ((decide (x27 = (0 : Int))) == true) (command_in x22.1 (0 : Int) (64 : Int))).bind fun (x29 : Bool) => cond (cond (decide (x27 = (0 : Int))) (!x29) false) ((wire_Reader_Fail (3 : Int) x22.2).bind fun (x32 : WireReader) => some x32) (some x22.2)) : Option WireReader).bind fun (x24 : WireReader) => (((loopO (command_DecodePolicy_l1 x22) (((0 : Int), x24, ([] : (List (List UInt8)))))) : Option (WireReader × (List (List UInt8)))).bind fun (x35 : (WireReader × (List (List UInt8)))) => ((((wire_Reader_Err x35.1).bind fun (x59 : Int) => (gd ((decide (x59 = (0 : Int))) == true) (command_RightPolicy (ApiPolicy.mk x1.1 x6.1 x8.1 x10.1 x12.1 x14.1 x16.1 x18.1 x20.1 x35.2))).bind fun (x61 : Bool) => cond (cond (decide (x59 = (0 : Int))) (!x61) false) ((wire_Reader_Fail (3 : Int) x35.1).bind fun (x64 : WireReader) => some x64) (some x35.1)) : Option WireReader).bind fun (x56 : WireReader) => ((wire_Reader_Err x56).bind fun (x67 : Int) => cond (!decide (x67 = (0 : Int))) (some ((ApiPolicy.mk ([] : List UInt8) (0 : Int) (0 : Int) (0 : Int) (0 : Int) (0 : Int) (0 : Int) (0 : Int) (0 : Int) ([] : (List (List UInt8)))), x56)) (some ((ApiPolicy.mk x1.1 x6.1 x8.1 x10.1 x12.1 x14.1 x16.1 x18.1 x20.1 x35.2), x56)))))
theorem w_command_DecodePolicy {p100v : WireReader} {res : (ApiPolicy × WireReader)} (h : command_DecodePolicy p100v = some res) : ACalls Try.prog 31 [.box 0 0] [AV.cs (rowWireReader p100v)] (.agg (AV.cs (rowApiPolicy res.1))) [AV.cs (rowWireReader res.2)] := by
 unfold command_DecodePolicy at h
 refine acalls (fn := Try.f31) [0, 2, 3, 5, 6, 7, 11, 12, 13, 14, 31, 41, 58, 63] (by kernel_rfl) Try.func31 rfl (by kernel_rfl) (by kernel_rfl) <| w_sr <| o_alloc (n := 1) (cs := [aS, aI, aI, aI, aI, aI, aI, aI, aI, .nil]) (σ' := [aLIIB, [aS, aI, aI, aI, aI, aI, aI, aI, aI, .nil]]) tz27 rfl rfl rfl <| o_ek (fr' := [(0, .box 0 0), (2, .box 1 0)]) rfl rfl <| w_sr <| o_alloc (n := 2) (cs := [aS, aI, aI, aI, aI, aI, aI, aI, aI, .nil]) (σ' := [aLIIB, [aS, aI, aI, aI, aI, aI, aI, aI, aI, .nil], [aS, aI, aI, aI, aI, aI, aI, aI, aI, .nil]]) tz27 rfl rfl rfl <| o_ek (fr' := [(0, .box 0 0), (2, .box 1 0), (3, .box 2 0)]) rfl rfl <| w_sr <| mV (v := .box 0 0) rfl ?_
 obtain ⟨x1, hx1, h2⟩ := bind_s h
 refine o_call (v := aS) (σ' := [aLIIB, [aS, aI, aI, aI, aI, aI, aI, aI, aI, .nil], [aS, aI, aI, aI, aI, aI, aI, aI, aI, .nil]]) [0] rfl (w_wire_Reader_Text hx1) rfl rfl ⟨lr, lr, trivial⟩ (st_c ⟨rfl, rfl, rfl, rfl, trivial⟩ st_nil) rfl rfl rfl <| o_p rfl (p_fa tf27x0 rfl) <| o_store (v := aS) (us := [aS]) (cs := [aS, aI, aI, aI, aI, aI, aI, aI, aI, .nil]) (σ' := [aLIIB, [aS, aI, aI, aI, aI, aI, aI, aI, aI, .nil], [aS, aI, aI, aI, aI, aI, aI, aI, aI, .nil]]) rfl tv9 rfl rfl rfl rfl rfl rfl rfl rfl <| o_ek (fr' := [(0, .box 0 0), (2, .box 1 0), (3, .box 2 0)]) rfl rfl <| w_seqw <| w_seqw <| w_region ?_
 obtain ⟨x3, hx3, h4⟩ := bind_s h2
 refine o_callT (v := .ptrs [(2, 1), (2, 2), (2, 3), (2, 4), (2, 5), (2, 6), (2, 7), (2, 8)]) (σ' := [aLIIB, [aS, aI, aI, aI, aI, aI, aI, aI, aI, .nil], [aS, aI, aI, aI, aI, aI, aI, aI, aI, .nil]]) 11 [2] [] rfl (w_command_numbers hx3) rfl rfl rfl ⟨lr, trivial⟩ (st_p ⟨lr, lr, lr, lr, lr, lr, lr, lr, lr, lr, trivial⟩ st_nil) rfl rfl rfl <| o_p rfl (p_lenp ti70 rfl) <| mI rfl <| o_ek (fr' := [(0, .box 0 0), (2, .box 1 0), (3, .box 2 0), (11, .ptrs [(2, 1), (2, 2), (2, 3), (2, 4), (2, 5), (2, 6), (2, 7), (2, 8)]), (12, aI), (13, aI)]) rfl rfl <| w_block <| w_unr 64 <| lu_s <| w_sr <| o_p rfl (p_k (p_lss rfl rfl) (show _ = .bool true from rfl)) <| o_ek (fr' := [(0, .box 0 0), (2, .box 1 0), (3, .box 2 0), (11, .ptrs [(2, 1), (2, 2), (2, 3), (2, 4), (2, 5), (2, 6), (2, 7), (2, 8)]), (12, aI), (13, aI), (14, aB)]) rfl rfl <| w_seqw <| w_cond_t rfl ?_
 refine w_skip <| e_kw <| w_seqw <| w_block <| w_sr <| o_p rfl (p_iap (p := (2, 1)) ts70 rfl rfl rfl) <| o_p rfl (p_loadp tv69 rfl) <| sV (v := .box 2 1) rfl <| o_ek (fr' := [(0, .box 0 0), (2, .box 1 0), (3, .box 2 0), (5, .box 2 1), (11, .ptrs [(2, 1), (2, 2), (2, 3), (2, 4), (2, 5), (2, 6), (2, 7), (2, 8)]), (12, aI), (13, aI)]) rfl rfl <| w_region <| mV (v := .box 2 1) rfl <| mV (v := .box 0 0) rfl ?_
 obtain ⟨x6, hx6, h7⟩ := bind_s h4
 refine o_call (v := aI) (σ' := [aLIIB, [aS, aI, aI, aI, aI, aI, aI, aI, aI, .nil], [aS, aI, aI, aI, aI, aI, aI, aI, aI, .nil]]) [0] rfl (w_command_number64 hx6) rfl rfl ⟨lr, trivial⟩ (st_c ⟨rfl, rfl, rfl, rfl, trivial⟩ st_nil) rfl rfl rfl <| o_p rfl (p_nc rfl) <| o_store (v := aI) (us := [aI]) (cs := [aS, aI, aI, aI, aI, aI, aI, aI, aI, .nil]) (σ' := [aLIIB, [aS, aI, aI, aI, aI, aI, aI, aI, aI, .nil], [aS, aI, aI, aI, aI, aI, aI, aI, aI, .nil]]) rfl tv3 rfl rfl rfl rfl rfl rfl rfl rfl <| o_end (fr' := [(0, .box 0 0), (2, .box 1 0), (3, .box 2 0), (5, .box 2 1), (11, .ptrs [(2, 1), (2, 2), (2, 3), (2, 4), (2, 5), (2, 6), (2, 7), (2, 8)]), (12, aI), (13, aI)]) rfl <| e_blk_n <| e_kw <| w_region <| o_p rfl (p_k (p_add rfl rfl) (show _ = .int .i64 (1 : Int) from rfl)) <| mI rfl <| o_end (fr' := [(0, .box 0 0), (2, .box 1 0), (3, .box 2 0), (5, .box 2 1), (11, .ptrs [(2, 1), (2, 2), (2, 3), (2, 4), (2, 5), (2, 6), (2, 7), (2, 8)]), (12, aI), (13, aI)]) rfl <| e_seq_n <| lu_s <| w_seqw ?_
 refine w_region <| o_p rfl (p_k (p_lss rfl rfl) (show _ = .bool true from rfl)) <| o_ek (fr' := [(0, .box 0 0), (2, .box 1 0), (3, .box 2 0), (11, .ptrs [(2, 1), (2, 2), (2, 3), (2, 4), (2, 5), (2, 6), (2, 7), (2, 8)]), (12, aI), (13, aI), (14, aB)]) rfl rfl <| w_seqw <| w_cond_t rfl <| w_skip <| e_kw <| w_seqw <| w_block <| w_sr <| o_p rfl (p_iap (p := (2, 2)) ts70 rfl rfl rfl) <| o_p rfl (p_loadp tv69 rfl) ?_
 refine sV (v := .box 2 2) rfl <| o_ek (fr' := [(0, .box 0 0), (2, .box 1 0), (3, .box 2 0), (5, .box 2 2), (11, .ptrs [(2, 1), (2, 2), (2, 3), (2, 4), (2, 5), (2, 6), (2, 7), (2, 8)]), (12, aI), (13, aI)]) rfl rfl <| w_region <| mV (v := .box 2 2) rfl <| mV (v := .box 0 0) rfl ?_
 obtain ⟨x8, hx8, h9⟩ := bind_s h7
 refine o_call (v := aI) (σ' := [aLIIB, [aS, aI, aI, aI, aI, aI, aI, aI, aI, .nil], [aS, aI, aI, aI, aI, aI, aI, aI, aI, .nil]]) [0] rfl (w_command_number64 hx8) rfl rfl ⟨lr, trivial⟩ (st_c ⟨rfl, rfl, rfl, rfl, trivial⟩ st_nil) rfl rfl rfl <| o_p rfl (p_nc rfl) <| o_store (v := aI) (us := [aI]) (cs := [aS, aI, aI, aI, aI, aI, aI, aI, aI, .nil]) (σ' := [aLIIB, [aS, aI, aI, aI, aI, aI, aI, aI, aI, .nil], [aS, aI, aI, aI, aI, aI, aI, aI, aI, .nil]]) rfl tv3 rfl rfl rfl rfl rfl rfl rfl rfl <| o_end (fr' := [(0, .box 0 0), (2, .box 1 0), (3, .box 2 0), (5, .box 2 2), (11, .ptrs [(2, 1), (2, 2), (2, 3), (2, 4), (2, 5), (2, 6), (2, 7), (2, 8)]), (12, aI), (13, aI)]) rfl <| e_blk_n <| e_kw <| w_region <| o_p rfl (p_k (p_add rfl rfl) (show _ = .int .i64 (2 : Int) from rfl)) <| mI rfl <| o_end (fr' := [(0, .box 0 0), (2, .box 1 0), (3, .box 2 0), (5, .box 2 2), (11, .ptrs [(2, 1), (2, 2), (2, 3), (2, 4), (2, 5), (2, 6), (2, 7), (2, 8)]), (12, aI), (13, aI)]) rfl <| e_seq_n <| lu_s <| w_seqw ?_
 refine w_region <| o_p rfl (p_k (p_lss rfl rfl) (show _ = .bool true from rfl)) <| o_ek (fr' := [(0, .box 0 0), (2, .box 1 0), (3, .box 2 0), (11, .ptrs [(2, 1), (2, 2), (2, 3), (2, 4), (2, 5), (2, 6), (2, 7), (2, 8)]), (12, aI), (13, aI), (14, aB)]) rfl rfl <| w_seqw <| w_cond_t rfl <| w_skip <| e_kw <| w_seqw <| w_block <| w_sr <| o_p rfl (p_iap (p := (2, 3)) ts70 rfl rfl rfl) <| o_p rfl (p_loadp tv69 rfl) ?_
 refine sV (v := .box 2 3) rfl <| o_ek (fr' := [(0, .box 0 0), (2, .box 1 0), (3, .box 2 0), (5, .box 2 3), (11, .ptrs [(2, 1), (2, 2), (2, 3), (2, 4), (2, 5), (2, 6), (2, 7), (2, 8)]), (12, aI), (13, aI)]) rfl rfl <| w_region <| mV (v := .box 2 3) rfl <| mV (v := .box 0 0) rfl ?_
 obtain ⟨x10, hx10, h11⟩ := bind_s h9
 refine o_call (v := aI) (σ' := [aLIIB, [aS, aI, aI, aI, aI, aI, aI, aI, aI, .nil], [aS, aI, aI, aI, aI, aI, aI, aI, aI, .nil]]) [0] rfl (w_command_number64 hx10) rfl rfl ⟨lr, trivial⟩ (st_c ⟨rfl, rfl, rfl, rfl, trivial⟩ st_nil) rfl rfl rfl <| o_p rfl (p_nc rfl) <| o_store (v := aI) (us := [aI]) (cs := [aS, aI, aI, aI, aI, aI, aI, aI, aI, .nil]) (σ' := [aLIIB, [aS, aI, aI, aI, aI, aI, aI, aI, aI, .nil], [aS, aI, aI, aI, aI, aI, aI, aI, aI, .nil]]) rfl tv3 rfl rfl rfl rfl rfl rfl rfl rfl <| o_end (fr' := [(0, .box 0 0), (2, .box 1 0), (3, .box 2 0), (5, .box 2 3), (11, .ptrs [(2, 1), (2, 2), (2, 3), (2, 4), (2, 5), (2, 6), (2, 7), (2, 8)]), (12, aI), (13, aI)]) rfl <| e_blk_n <| e_kw <| w_region <| o_p rfl (p_k (p_add rfl rfl) (show _ = .int .i64 (3 : Int) from rfl)) <| mI rfl <| o_end (fr' := [(0, .box 0 0), (2, .box 1 0), (3, .box 2 0), (5, .box 2 3), (11, .ptrs [(2, 1), (2, 2), (2, 3), (2, 4), (2, 5), (2, 6), (2, 7), (2, 8)]), (12, aI), (13, aI)]) rfl <| e_seq_n <| lu_s <| w_seqw ?_
 refine w_region <| o_p rfl (p_k (p_lss rfl rfl) (show _ = .bool true from rfl)) <| o_ek (fr' := [(0, .box 0 0), (2, .box 1 0), (3, .box 2 0), (11, .ptrs [(2, 1), (2, 2), (2, 3), (2, 4), (2, 5), (2, 6), (2, 7), (2, 8)]), (12, aI), (13, aI), (14, aB)]) rfl rfl <| w_seqw <| w_cond_t rfl <| w_skip <| e_kw <| w_seqw <| w_block <| w_sr <| o_p rfl (p_iap (p := (2, 4)) ts70 rfl rfl rfl) <| o_p rfl (p_loadp tv69 rfl) ?_
 refine sV (v := .box 2 4) rfl <| o_ek (fr' := [(0, .box 0 0), (2, .box 1 0), (3, .box 2 0), (5, .box 2 4), (11, .ptrs [(2, 1), (2, 2), (2, 3), (2, 4), (2, 5), (2, 6), (2, 7), (2, 8)]), (12, aI), (13, aI)]) rfl rfl <| w_region <| mV (v := .box 2 4) rfl <| mV (v := .box 0 0) rfl ?_
 obtain ⟨x12, hx12, h13⟩ := bind_s h11
 refine o_call (v := aI) (σ' := [aLIIB, [aS, aI, aI, aI, aI, aI, aI, aI, aI, .nil], [aS, aI, aI, aI, aI, aI, aI, aI, aI, .nil]]) [0] rfl (w_command_number64 hx12) rfl rfl ⟨lr, trivial⟩ (st_c ⟨rfl, rfl, rfl, rfl, trivial⟩ st_nil) rfl rfl rfl <| o_p rfl (p_nc rfl) <| o_store (v := aI) (us := [aI]) (cs := [aS, aI, aI, aI, aI, aI, aI, aI, aI, .nil]) (σ' := [aLIIB, [aS, aI, aI, aI, aI, aI, aI, aI, aI, .nil], [aS, aI, aI, aI, aI, aI, aI, aI, aI, .nil]]) rfl tv3 rfl rfl rfl rfl rfl rfl rfl rfl <| o_end (fr' := [(0, .box 0 0), (2, .box 1 0), (3, .box 2 0), (5, .box 2 4), (11, .ptrs [(2, 1), (2, 2), (2, 3), (2, 4), (2, 5), (2, 6), (2, 7), (2, 8)]), (12, aI), (13, aI)]) rfl <| e_blk_n <| e_kw <| w_region <| o_p rfl (p_k (p_add rfl rfl) (show _ = .int .i64 (4 : Int) from rfl)) <| mI rfl <| o_end (fr' := [(0, .box 0 0), (2, .box 1 0), (3, .box 2 0), (5, .box 2 4), (11, .ptrs [(2, 1), (2, 2), (2, 3), (2, 4), (2, 5), (2, 6), (2, 7), (2, 8)]), (12, aI), (13, aI)]) rfl <| e_seq_n <| lu_s <| w_seqw ?_
 refine w_region <| o_p rfl (p_k (p_lss rfl rfl) (show _ = .bool true from rfl)) <| o_ek (fr' := [(0, .box 0 0), (2, .box 1 0), (3, .box 2 0), (11, .ptrs [(2, 1), (2, 2), (2, 3), (2, 4), (2, 5), (2, 6), (2, 7), (2, 8)]), (12, aI), (13, aI), (14, aB)]) rfl rfl <| w_seqw <| w_cond_t rfl <| w_skip <| e_kw <| w_seqw <| w_block <| w_sr <| o_p rfl (p_iap (p := (2, 5)) ts70 rfl rfl rfl) <| o_p rfl (p_loadp tv69 rfl) ?_
 refine sV (v := .box 2 5) rfl <| o_ek (fr' := [(0, .box 0 0), (2, .box 1 0), (3, .box 2 0), (5, .box 2 5), (11, .ptrs [(2, 1), (2, 2), (2, 3), (2, 4), (2, 5), (2, 6), (2, 7), (2, 8)]), (12, aI), (13, aI)]) rfl rfl <| w_region <| mV (v := .box 2 5) rfl <| mV (v := .box 0 0) rfl ?_
 obtain ⟨x14, hx14, h15⟩ := bind_s h13
 refine o_call (v := aI) (σ' := [aLIIB, [aS, aI, aI, aI, aI, aI, aI, aI, aI, .nil], [aS, aI, aI, aI, aI, aI, aI, aI, aI, .nil]]) [0] rfl (w_command_number64 hx14) rfl rfl ⟨lr, trivial⟩ (st_c ⟨rfl, rfl, rfl, rfl, trivial⟩ st_nil) rfl rfl rfl <| o_p rfl (p_nc rfl) <| o_store (v := aI) (us := [aI]) (cs := [aS, aI, aI, aI, aI, aI, aI, aI, aI, .nil]) (σ' := [aLIIB, [aS, aI, aI, aI, aI, aI, aI, aI, aI, .nil], [aS, aI, aI, aI, aI, aI, aI, aI, aI, .nil]]) rfl tv3 rfl rfl rfl rfl rfl rfl rfl rfl <| o_end (fr' := [(0, .box 0 0), (2, .box 1 0), (3, .box 2 0), (5, .box 2 5), (11, .ptrs [(2, 1), (2, 2), (2, 3), (2, 4), (2, 5), (2, 6), (2, 7), (2, 8)]), (12, aI), (13, aI)]) rfl <| e_blk_n <| e_kw <| w_region <| o_p rfl (p_k (p_add rfl rfl) (show _ = .int .i64 (5 : Int) from rfl)) <| mI rfl <| o_end (fr' := [(0, .box 0 0), (2, .box 1 0), (3, .box 2 0), (5, .box 2 5), (11, .ptrs [(2, 1), (2, 2), (2, 3), (2, 4), (2, 5), (2, 6), (2, 7), (2, 8)]), (12, aI), (13, aI)]) rfl <| e_seq_n <| lu_s <| w_seqw ?_
 refine w_region <| o_p rfl (p_k (p_lss rfl rfl) (show _ = .bool true from rfl)) <| o_ek (fr' := [(0, .box 0 0), (2, .box 1 0), (3, .box 2 0), (11, .ptrs [(2, 1), (2, 2), (2, 3), (2, 4), (2, 5), (2, 6), (2, 7), (2, 8)]), (12, aI), (13, aI), (14, aB)]) rfl rfl <| w_seqw <| w_cond_t rfl <| w_skip <| e_kw <| w_seqw <| w_block <| w_sr <| o_p rfl (p_iap (p := (2, 6)) ts70 rfl rfl rfl) <| o_p rfl (p_loadp tv69 rfl) ?_
 refine sV (v := .box 2 6) rfl <| o_ek (fr' := [(0, .box 0 0), (2, .box 1 0), (3, .box 2 0), (5, .box 2 6), (11, .ptrs [(2, 1), (2, 2), (2, 3), (2, 4), (2, 5), (2, 6), (2, 7), (2, 8)]), (12, aI), (13, aI)]) rfl rfl <| w_region <| mV (v := .box 2 6) rfl <| mV (v := .box 0 0) rfl ?_
 obtain ⟨x16, hx16, h17⟩ := bind_s h15
 refine o_call (v := aI) (σ' := [aLIIB, [aS, aI, aI, aI, aI, aI, aI, aI, aI, .nil], [aS, aI, aI, aI, aI, aI, aI, aI, aI, .nil]]) [0] rfl (w_command_number64 hx16) rfl rfl ⟨lr, trivial⟩ (st_c ⟨rfl, rfl, rfl, rfl, trivial⟩ st_nil) rfl rfl rfl <| o_p rfl (p_nc rfl) <| o_store (v := aI) (us := [aI]) (cs := [aS, aI, aI, aI, aI, aI, aI, aI, aI, .nil]) (σ' := [aLIIB, [aS, aI, aI, aI, aI, aI, aI, aI, aI, .nil], [aS, aI, aI, aI, aI, aI, aI, aI, aI, .nil]]) rfl tv3 rfl rfl rfl rfl rfl rfl rfl rfl <| o_end (fr' := [(0, .box 0 0), (2, .box 1 0), (3, .box 2 0), (5, .box 2 6), (11, .ptrs [(2, 1), (2, 2), (2, 3), (2, 4), (2, 5), (2, 6), (2, 7), (2, 8)]), (12, aI), (13, aI)]) rfl <| e_blk_n <| e_kw <| w_region <| o_p rfl (p_k (p_add rfl rfl) (show _ = .int .i64 (6 : Int) from rfl)) <| mI rfl <| o_end (fr' := [(0, .box 0 0), (2, .box 1 0), (3, .box 2 0), (5, .box 2 6), (11, .ptrs [(2, 1), (2, 2), (2, 3), (2, 4), (2, 5), (2, 6), (2, 7), (2, 8)]), (12, aI), (13, aI)]) rfl <| e_seq_n <| lu_s <| w_seqw ?_
 refine w_region <| o_p rfl (p_k (p_lss rfl rfl) (show _ = .bool true from rfl)) <| o_ek (fr' := [(0, .box 0 0), (2, .box 1 0), (3, .box 2 0), (11, .ptrs [(2, 1), (2, 2), (2, 3), (2, 4), (2, 5), (2, 6), (2, 7), (2, 8)]), (12, aI), (13, aI), (14, aB)]) rfl rfl <| w_seqw <| w_cond_t rfl <| w_skip <| e_kw <| w_seqw <| w_block <| w_sr <| o_p rfl (p_iap (p := (2, 7)) ts70 rfl rfl rfl) <| o_p rfl (p_loadp tv69 rfl) ?_
 refine sV (v := .box 2 7) rfl <| o_ek (fr' := [(0, .box 0 0), (2, .box 1 0), (3, .box 2 0), (5, .box 2 7), (11, .ptrs [(2, 1), (2, 2), (2, 3), (2, 4), (2, 5), (2, 6), (2, 7), (2, 8)]), (12, aI), (13, aI)]) rfl rfl <| w_region <| mV (v := .box 2 7) rfl <| mV (v := .box 0 0) rfl ?_
 obtain ⟨x18, hx18, h19⟩ := bind_s h17
 refine o_call (v := aI) (σ' := [aLIIB, [aS, aI, aI, aI, aI, aI, aI, aI, aI, .nil], [aS, aI, aI, aI, aI, aI, aI, aI, aI, .nil]]) [0] rfl (w_command_number64 hx18) rfl rfl ⟨lr, trivial⟩ (st_c ⟨rfl, rfl, rfl, rfl, trivial⟩ st_nil) rfl rfl rfl <| o_p rfl (p_nc rfl) <| o_store (v := aI) (us := [aI]) (cs := [aS, aI, aI, aI, aI, aI, aI, aI, aI, .nil]) (σ' := [aLIIB, [aS, aI, aI, aI, aI, aI, aI, aI, aI, .nil], [aS, aI, aI, aI, aI, aI, aI, aI, aI, .nil]]) rfl tv3 rfl rfl rfl rfl rfl rfl rfl rfl <| o_end (fr' := [(0, .box 0 0), (2, .box 1 0), (3, .box 2 0), (5, .box 2 7), (11, .ptrs [(2, 1), (2, 2), (2, 3), (2, 4), (2, 5), (2, 6), (2, 7), (2, 8)]), (12, aI), (13, aI)]) rfl <| e_blk_n <| e_kw <| w_region <| o_p rfl (p_k (p_add rfl rfl) (show _ = .int .i64 (7 : Int) from rfl)) <| mI rfl <| o_end (fr' := [(0, .box 0 0), (2, .box 1 0), (3, .box 2 0), (5, .box 2 7), (11, .ptrs [(2, 1), (2, 2), (2, 3), (2, 4), (2, 5), (2, 6), (2, 7), (2, 8)]), (12, aI), (13, aI)]) rfl <| e_seq_n <| lu_s <| w_seqw ?_
 refine w_region <| o_p rfl (p_k (p_lss rfl rfl) (show _ = .bool true from rfl)) <| o_ek (fr' := [(0, .box 0 0), (2, .box 1 0), (3, .box 2 0), (11, .ptrs [(2, 1), (2, 2), (2, 3), (2, 4), (2, 5), (2, 6), (2, 7), (2, 8)]), (12, aI), (13, aI), (14, aB)]) rfl rfl <| w_seqw <| w_cond_t rfl <| w_skip <| e_kw <| w_seqw <| w_block <| w_sr <| o_p rfl (p_iap (p := (2, 8)) ts70 rfl rfl rfl) <| o_p rfl (p_loadp tv69 rfl) ?_
 refine sV (v := .box 2 8) rfl <| o_ek (fr' := [(0, .box 0 0), (2, .box 1 0), (3, .box 2 0), (5, .box 2 8), (11, .ptrs [(2, 1), (2, 2), (2, 3), (2, 4), (2, 5), (2, 6), (2, 7), (2, 8)]), (12, aI), (13, aI)]) rfl rfl <| w_region <| mV (v := .box 2 8) rfl <| mV (v := .box 0 0) rfl ?_
 obtain ⟨x20, hx20, h21⟩ := bind_s h19
 refine o_call (v := aI) (σ' := [aLIIB, [aS, aI, aI, aI, aI, aI, aI, aI, aI, .nil], [aS, aI, aI, aI, aI, aI, aI, aI, aI, .nil]]) [0] rfl (w_command_number64 hx20) rfl rfl ⟨lr, trivial⟩ (st_c ⟨rfl, rfl, rfl, rfl, trivial⟩ st_nil) rfl rfl rfl <| o_p rfl (p_nc rfl) <| o_store (v := aI) (us := [aI]) (cs := [aS, aI, aI, aI, aI, aI, aI, aI, aI, .nil]) (σ' := [aLIIB, [aS, aI, aI, aI, aI, aI, aI, aI, aI, .nil], [aS, aI, aI, aI, aI, aI, aI, aI, aI, .nil]]) rfl tv3 rfl rfl rfl rfl rfl rfl rfl rfl <| o_end (fr' := [(0, .box 0 0), (2, .box 1 0), (3, .box 2 0), (5, .box 2 8), (11, .ptrs [(2, 1), (2, 2), (2, 3), (2, 4), (2, 5), (2, 6), (2, 7), (2, 8)]), (12, aI), (13, aI)]) rfl <| e_blk_n <| e_kw <| w_region <| o_p rfl (p_k (p_add rfl rfl) (show _ = .int .i64 (8 : Int) from rfl)) <| mI rfl <| o_end (fr' := [(0, .box 0 0), (2, .box 1 0), (3, .box 2 0), (5, .box 2 8), (11, .ptrs [(2, 1), (2, 2), (2, 3), (2, 4), (2, 5), (2, 6), (2, 7), (2, 8)]), (12, aI), (13, aI)]) rfl <| e_seq_n <| lu_s <| w_seqw ?_
 refine w_region <| o_p rfl (p_k (p_lss rfl rfl) (show _ = .bool false from rfl)) <| o_ek (fr' := [(0, .box 0 0), (2, .box 1 0), (3, .box 2 0), (11, .ptrs [(2, 1), (2, 2), (2, 3), (2, 4), (2, 5), (2, 6), (2, 7), (2, 8)]), (12, aI), (13, aI), (14, aB)]) rfl rfl <| w_seqw <| w_cond_f rfl <| w_exit <| e_seq_x <| e_seq_x <| e_blk_h <| e_kw <| w_sr <| mV (v := .box 0 0) rfl ?_
 obtain ⟨x22, hx22, h23⟩ := bind_s h21
 refine o_call (v := aI) (σ' := [aLIIB, [aS, aI, aI, aI, aI, aI, aI, aI, aI, .nil], [aS, aI, aI, aI, aI, aI, aI, aI, aI, .nil]]) [0] rfl (w_command_number64 hx22) rfl rfl ⟨lr, trivial⟩ (st_c ⟨rfl, rfl, rfl, rfl, trivial⟩ st_nil) rfl rfl rfl <| sI rfl <| o_ek (fr' := [(0, .box 0 0), (2, .box 1 0), (3, .box 2 0), (6, aI)]) rfl rfl ?_
 obtain ⟨x24, hx24, h25⟩ := bind_s h23
 refine w_join (fun j26 => x24 = j26) (fun (j26 : WireReader) => ([(0, .box 0 0), (2, .box 1 0), (3, .box 2 0), (6, .c (.int .i64 x22.1))] : Fr)) (fun (j26 : WireReader) => ([[.c (PV.ls 1 brow j26.b_), .c (.int .i64 j26.at_), .c (.int .i64 j26.err_), .c (.bool j26.made_)], [.c (.str ([] : List UInt8)), .c (.int .i64 (0 : Int)), .c (.int .i64 (0 : Int)), .c (.int .i64 (0 : Int)), .c (.int .i64 (0 : Int)), .c (.int .i64 (0 : Int)), .c (.int .i64 (0 : Int)), .c (.int .i64 (0 : Int)), .c (.int .i64 (0 : Int)), .nil], [.c (.str x1.1), .c (.int .i64 x6.1), .c (.int .i64 x8.1), .c (.int .i64 x10.1), .c (.int .i64 x12.1), .c (.int .i64 x14.1), .c (.int .i64 x16.1), .c (.int .i64 x18.1), .c (.int .i64 x20.1), .nil]] : St)) ?_ ?_
 ·
  refine w_sr <| mV (v := .box 0 0) rfl ?_
  obtain ⟨x27, hx27, h28⟩ := bind_s hx24
  refine o_call (v := aI) (σ' := [aLIIB, [aS, aI, aI, aI, aI, aI, aI, aI, aI, .nil], [aS, aI, aI, aI, aI, aI, aI, aI, aI, .nil]]) [0] rfl (w_wire_Reader_Err hx27) rfl rfl ⟨lr, trivial⟩ (st_c ⟨rfl, rfl, rfl, rfl, trivial⟩ st_nil) rfl rfl rfl <| o_p rfl (p_eql rfl rfl) <| mB rfl <| og rfl rfl rfl (fun hc => (p_move (v := aI) rfl)) ?_
  obtain ⟨x29, hx29, h30⟩ := bind_s h28
  refine o_g rfl rfl (fun hc => ov_call (v := aB) rfl (w_command_in (gd_some hx29 hc)) ⟨(le_gv (gx rfl hc) lr), lr, lr, trivial⟩ (ok_eq (by repeat (first | exact ok_nil | refine ok_cons rfl ?_ | refine ok_cons (dgv rfl) ?_))) rfl rfl) ?_
  refine og rfl rfl rfl (fun hc => (p_not (gx rfl hc))) <| o_p rfl (p_picky rfl rfl rfl (fun e => keq e)) <| o_ek (fr' := [(0, .box 0 0), (2, .box 1 0), (3, .box 2 0), (6, aI), (31, aB)]) rfl rfl <| w_ch h30 rfl (fun hb31 h31 => ?_) (fun hb31 h31 => ?_)
  ·
   refine w_region <| mV (v := .box 0 0) rfl ?_
   obtain ⟨x32, hx32, h33⟩ := bind_s h31
   exact o_call (v := _) (σ' := [aLIIB, [aS, aI, aI, aI, aI, aI, aI, aI, aI, .nil], [aS, aI, aI, aI, aI, aI, aI, aI, aI, .nil]]) [0] rfl (w_wire_Reader_Fail hx32) rfl rfl ⟨lr, lr, trivial⟩ (st_c ⟨rfl, rfl, rfl, rfl, trivial⟩ st_nil) rfl rfl rfl <| o_end (fr' := [(0, .box 0 0), (2, .box 1 0), (3, .box 2 0), (6, aI), (31, aB)]) rfl <| e_j _ (sy h33) (w_weak [] 3 rfl rfl rfl rfl ⟨lr, lr, lr, lr, trivial⟩ (st_r rfl (st_r rfl (st_r rfl st_nil))))
  ·
   exact w_skip <| e_j _ (sy h31) (w_weak [] 3 rfl rfl rfl rfl ⟨lr, lr, lr, lr, trivial⟩ (st_r rfl (st_r rfl (st_r rfl st_nil))))
 ·
  intro j26 hj34
  subst hj34
  refine w_seqw <| w_sr <| sI rfl <| o_ek (fr' := [(0, .box 0 0), (2, .box 1 0), (3, .box 2 0), (6, aI), (7, aI)]) rfl rfl ?_
  obtain ⟨x35, hx35, h36⟩ := bind_s h25
  refine w_jtail cl_kw (fun j37 => x35 = j37) (fun (j37 : (WireReader × (List (List UInt8)))) => ([(0, .box 0 0), (2, .box 1 0), (3, .box 2 0)] : Fr)) (fun (j37 : (WireReader × (List (List UInt8)))) => ([[.c (PV.ls 1 brow j37.1.b_), .c (.int .i64 j37.1.at_), .c (.int .i64 j37.1.err_), .c (.bool j37.1.made_)], [.c (.str ([] : List UInt8)), .c (.int .i64 (0 : Int)), .c (.int .i64 (0 : Int)), .c (.int .i64 (0 : Int)), .c (.int .i64 (0 : Int)), .c (.int .i64 (0 : Int)), .c (.int .i64 (0 : Int)), .c (.int .i64 (0 : Int)), .c (.int .i64 (0 : Int)), .nil], [.c (.str x1.1), .c (.int .i64 x6.1), .c (.int .i64 x8.1), .c (.int .i64 x10.1), .c (.int .i64 x12.1), .c (.int .i64 x14.1), .c (.int .i64 x16.1), .c (.int .i64 x18.1), .c (.int .i64 x20.1), AV.os 0 1 rowS j37.2]] : St)) ?_ ?_
  ·
   refine w_block <| w_loopo _ (fun (s38 : (Int × WireReader × (List (List UInt8)))) => ([(0, .box 0 0), (2, .box 1 0), (3, .box 2 0), (6, .c (.int .i64 x22.1)), (7, .c (.int .i64 s38.1))] : Fr)) (fun (s38 : (Int × WireReader × (List (List UInt8)))) => ([[.c (PV.ls 1 brow s38.2.1.b_), .c (.int .i64 s38.2.1.at_), .c (.int .i64 s38.2.1.err_), .c (.bool s38.2.1.made_)], [.c (.str ([] : List UInt8)), .c (.int .i64 (0 : Int)), .c (.int .i64 (0 : Int)), .c (.int .i64 (0 : Int)), .c (.int .i64 (0 : Int)), .c (.int .i64 (0 : Int)), .c (.int .i64 (0 : Int)), .c (.int .i64 (0 : Int)), .c (.int .i64 (0 : Int)), .nil], [.c (.str x1.1), .c (.int .i64 x6.1), .c (.int .i64 x8.1), .c (.int .i64 x10.1), .c (.int .i64 x12.1), .c (.int .i64 x14.1), .c (.int .i64 x16.1), .c (.int .i64 x18.1), .c (.int .i64 x20.1), AV.os 0 1 rowS s38.2.2]] : St)) hx35 (w_weak [1000000] 3 rfl rfl rfl rfl ⟨lr, lr, lr, lr, lr, trivial⟩ (st_r rfl (st_r rfl (st_p ⟨lr, lr, lr, lr, lr, lr, lr, lr, lr, (le_nos rfl), trivial⟩ st_nil)))) ?_
   intro s38 st38 hs38 ho38
   unfold command_DecodePolicy_l1 at hs38
   obtain ⟨x39, hx39, h40⟩ := bind_s hs38
   refine w_join (fun j41 => x39 = Fl.go j41) (fun (j41 : Unit) => ([(0, .box 0 0), (2, .box 1 0), (3, .box 2 0), (6, .c (.int .i64 x22.1)), (7, .c (.int .i64 s38.1))] : Fr)) (fun (j41 : Unit) => ([[.c (PV.ls 1 brow s38.2.1.b_), .c (.int .i64 s38.2.1.at_), .c (.int .i64 s38.2.1.err_), .c (.bool s38.2.1.made_)], [.c (.str ([] : List UInt8)), .c (.int .i64 (0 : Int)), .c (.int .i64 (0 : Int)), .c (.int .i64 (0 : Int)), .c (.int .i64 (0 : Int)), .c (.int .i64 (0 : Int)), .c (.int .i64 (0 : Int)), .c (.int .i64 (0 : Int)), .c (.int .i64 (0 : Int)), .nil], [.c (.str x1.1), .c (.int .i64 x6.1), .c (.int .i64 x8.1), .c (.int .i64 x10.1), .c (.int .i64 x12.1), .c (.int .i64 x14.1), .c (.int .i64 x16.1), .c (.int .i64 x18.1), .c (.int .i64 x20.1), AV.os 0 1 rowS s38.2.2]] : St)) ?_ ?_
   ·
    refine w_sr <| mI rfl <| mI rfl <| o_p rfl (p_lss rfl rfl) <| mB rfl <| r_ch hx39 (fun hb42 h42 => ?_) (fun hb42 h42 => ?_)
    ·
     refine o_yes rfl rfl hb42 <| mV (v := .box 0 0) rfl <| o_yes rfl rfl hb42 ?_
     obtain ⟨x43, hx43, h44⟩ := bind_s h42
     refine o_call (v := aI) (σ' := [aLIIB, [aS, aI, aI, aI, aI, aI, aI, aI, aI, .nil], [aS, aI, aI, aI, aI, aI, aI, aI, aI, aO]]) [0] rfl (w_wire_Reader_Err hx43) rfl rfl ⟨lr, trivial⟩ (st_c ⟨rfl, rfl, rfl, rfl, trivial⟩ st_nil) rfl rfl rfl <| o_yes rfl rfl hb42 <| o_p rfl (p_eql rfl rfl) <| o_p rfl (p_pick_t rfl hb42 rfl) <| o_ek (fr' := [(0, .box 0 0), (2, .box 1 0), (3, .box 2 0), (6, aI), (7, aI), (41, aB)]) rfl rfl <| w_ch h44 rfl (fun hb45 h45 => ?_) (fun hb45 h45 => ?_)
     ·
      exact w_skip <| e_j _ (sy h45) (w_weak [0] 3 rfl rfl rfl rfl ⟨lr, lr, lr, lr, lr, trivial⟩ (st_r rfl (st_r rfl (st_r rfl st_nil))))
     ·
      refine w_exit <| e_seq_x <| e_seq_x <| e_blk_h ?_
      have h46 := un_done h45 h40
      have h47 := un_out h46 ho38
      exact e_j _ (sy h47) (w_weak [0] 3 rfl rfl rfl rfl ⟨lr, lr, lr, trivial⟩ (st_r rfl (st_r rfl (st_r rfl st_nil))))
    ·
     refine o_no rfl rfl hb42 <| o_no rfl rfl hb42 <| o_no rfl rfl hb42 <| o_p rfl (p_pick_f rfl hb42 rfl) <| o_ek (fr' := [(0, .box 0 0), (2, .box 1 0), (3, .box 2 0), (6, aI), (7, aI), (41, aB)]) rfl rfl <| w_cond_f rfl <| w_exit <| e_seq_x <| e_seq_x <| e_blk_h ?_
     have h48 := un_done h42 h40
     have h49 := un_out h48 ho38
     exact e_j _ (sy h49) (w_weak [0] 3 rfl rfl rfl rfl ⟨lr, lr, lr, trivial⟩ (st_r rfl (st_r rfl (st_r rfl st_nil))))
   ·
    intro j41 hj50
    have h50 := un_go hj50 h40
    refine w_seqw <| w_block <| w_planT [.q 0, .q 1, .q 2, .n 3 [0, 1], .n 4 [0, 1], .n 5 [], .q 6, .n 7 []] [(some 44, [3]), (some 45, [44]), (some 46, [0]), (some 47, [46]), (some 48, [47]), (some 49, [45, 48]), (some 50, [3]), (none, [50, 49])] [0, 1, 0, 4, 12, 31, 63, 127] (by kernel_rfl) <| dq rfl rfl (p_fa tf27x9 rfl) <| dq rfl rfl (p_load (v := aO) tv23 rfl rfl rfl) <| dq rfl rfl (p_move (v := .box 0 0) rfl) <| d_n rfl ?_ rfl
    obtain ⟨x51, hx51, h52⟩ := bind_s h50
    refine o_call (v := aS) (σ' := [aLIIB, [aS, aI, aI, aI, aI, aI, aI, aI, aI, .nil], [aS, aI, aI, aI, aI, aI, aI, aI, aI, aO]]) [0] rfl (w_wire_Reader_Text hx51) rfl rfl ⟨lr, lr, trivial⟩ (st_c ⟨rfl, rfl, rfl, rfl, trivial⟩ st_nil) rfl rfl rfl <| o_rc <| ⟨(rc_q (v := .box 2 9) rfl rfl (qv_p rfl (p_fa tf27x9 rfl)) (rc_q (v := aO) rfl rfl (qv_p rfl (p_load (v := aO) tv23 rfl rfl rfl)) rc_nil)), ?_⟩
    refine d_n rfl ?_ rfl
    refine o_rows (row := rowS) (xs := ([x51.1] : List (List UInt8))) (rows := [[_]]) (σ' := [aLIIB, [aS, aI, aI, aI, aI, aI, aI, aI, aI, .nil], [aS, aI, aI, aI, aI, aI, aI, aI, aI, aO]]) [0] ts23 rfl rfl rfl (arow_cons rfl arow_nil) rfl rfl <| o_rc <| ⟨(rc_q (v := .box 2 9) rfl rfl (qv_p rfl (p_fa tf27x9 rfl)) (rc_q (v := aO) rfl rfl (qv_p rfl (p_load (v := aO) tv23 rfl rfl rfl)) rc_nil)), ?_⟩
    refine d_n rfl ?_ rfl
    obtain ⟨x53, hx53, h54⟩ := bind_s h52
    refine o_app (row := rowS) ts23 rfl ti23 rfl (isl_o rfl) (fun _ => rfl) hx53 <| o_rc <| ⟨rc_nil, ?_⟩
    refine dq rfl rfl (p_fa tf27x9 rfl) <| d_n rfl ?_ rfl
    refine o_store (v := aO) (us := [aO]) (cs := aSIIIIIIIIL) (σ' := [aLIIB, [aS, aI, aI, aI, aI, aI, aI, aI, aI, .nil], [aS, aI, aI, aI, aI, aI, aI, aI, aI, aO]]) rfl tv23 rfl rfl rfl rfl rfl rfl rfl rfl <| o_rc <| ⟨rc_nil, ?_⟩
    exact d_end (fr' := [(0, .box 0 0), (2, .box 1 0), (3, .box 2 0), (6, aI), (7, aI)]) rfl <| e_blk_n <| e_kw <| w_region <| mI rfl <| o_p rfl (p_add rfl rfl) <| sI rfl <| o_end (fr' := [(0, .box 0 0), (2, .box 1 0), (3, .box 2 0), (6, aI), (7, aI)]) rfl <| e_l _ (sy h54) (w_weak [784] 3 rfl rfl rfl rfl ⟨lr, lr, lr, lr, lr, trivial⟩ (st_r rfl (st_r rfl (st_r rfl st_nil))))
  ·
   intro j37 hj55
   subst hj55
   refine e_kw ?_
   obtain ⟨x56, hx56, h57⟩ := bind_s h36
   refine w_join (fun j58 => x56 = j58) (fun (j58 : WireReader) => ([(0, .box 0 0), (2, .box 1 0), (3, .box 2 0)] : Fr)) (fun (j58 : WireReader) => ([[.c (PV.ls 1 brow j58.b_), .c (.int .i64 j58.at_), .c (.int .i64 j58.err_), .c (.bool j58.made_)], [.c (.str ([] : List UInt8)), .c (.int .i64 (0 : Int)), .c (.int .i64 (0 : Int)), .c (.int .i64 (0 : Int)), .c (.int .i64 (0 : Int)), .c (.int .i64 (0 : Int)), .c (.int .i64 (0 : Int)), .c (.int .i64 (0 : Int)), .c (.int .i64 (0 : Int)), .nil], [.c (.str x1.1), .c (.int .i64 x6.1), .c (.int .i64 x8.1), .c (.int .i64 x10.1), .c (.int .i64 x12.1), .c (.int .i64 x14.1), .c (.int .i64 x16.1), .c (.int .i64 x18.1), .c (.int .i64 x20.1), AV.os 0 1 rowS x35.2]] : St)) ?_ ?_
   ·
    refine w_sr <| mV (v := .box 0 0) rfl ?_
    obtain ⟨x59, hx59, h60⟩ := bind_s hx56
    refine o_call (v := aI) (σ' := [aLIIB, [aS, aI, aI, aI, aI, aI, aI, aI, aI, .nil], [aS, aI, aI, aI, aI, aI, aI, aI, aI, aO]]) [0] rfl (w_wire_Reader_Err hx59) rfl rfl ⟨lr, trivial⟩ (st_c ⟨rfl, rfl, rfl, rfl, trivial⟩ st_nil) rfl rfl rfl <| o_p rfl (p_eql rfl rfl) <| mB rfl <| og rfl rfl rfl (fun hc => (p_loads (us := [aS, aI, aI, aI, aI, aI, aI, aI, aI, aO]) tv27 rfl rfl rfl rfl)) ?_
    obtain ⟨x61, hx61, h62⟩ := bind_s h60
    refine o_g rfl rfl (fun hc => ov_call (v := aB) rfl (w_command_RightPolicy (gd_some hx61 hc)) ⟨(le_gv (gx rfl hc) (le_aggc rfl ⟨rfl, rfl, rfl, rfl, rfl, rfl, rfl, rfl, rfl, rfl, trivial⟩)), trivial⟩ (ok_eq (by repeat (first | exact ok_nil | refine ok_cons rfl ?_ | refine ok_cons (dgv rfl) ?_))) rfl rfl) ?_
    refine og rfl rfl rfl (fun hc => (p_not (gx rfl hc))) <| o_p rfl (p_picky rfl rfl rfl (fun e => keq e)) <| o_ek (fr' := [(0, .box 0 0), (2, .box 1 0), (3, .box 2 0), (58, aB)]) rfl rfl <| w_ch h62 rfl (fun hb63 h63 => ?_) (fun hb63 h63 => ?_)
    ·
     refine w_region <| mV (v := .box 0 0) rfl ?_
     obtain ⟨x64, hx64, h65⟩ := bind_s h63
     exact o_call (v := _) (σ' := [aLIIB, [aS, aI, aI, aI, aI, aI, aI, aI, aI, .nil], [aS, aI, aI, aI, aI, aI, aI, aI, aI, aO]]) [0] rfl (w_wire_Reader_Fail hx64) rfl rfl ⟨lr, lr, trivial⟩ (st_c ⟨rfl, rfl, rfl, rfl, trivial⟩ st_nil) rfl rfl rfl <| o_end (fr' := [(0, .box 0 0), (2, .box 1 0), (3, .box 2 0), (58, aB)]) rfl <| e_j _ (sy h65) (w_weak [0] 3 rfl rfl rfl rfl ⟨lr, lr, lr, trivial⟩ (st_r rfl (st_r rfl (st_r rfl st_nil))))
    ·
     exact w_skip <| e_j _ (sy h63) (w_weak [0] 3 rfl rfl rfl rfl ⟨lr, lr, lr, trivial⟩ (st_r rfl (st_r rfl (st_r rfl st_nil))))
   ·
    intro j58 hj66
    subst hj66
    refine w_seqw <| w_sr <| mV (v := .box 0 0) rfl ?_
    obtain ⟨x67, hx67, h68⟩ := bind_s h57
    refine o_call (v := aI) (σ' := [aLIIB, [aS, aI, aI, aI, aI, aI, aI, aI, aI, .nil], [aS, aI, aI, aI, aI, aI, aI, aI, aI, aO]]) [0] rfl (w_wire_Reader_Err hx67) rfl rfl ⟨lr, trivial⟩ (st_c ⟨rfl, rfl, rfl, rfl, trivial⟩ st_nil) rfl rfl rfl <| o_p rfl (p_neq rfl rfl) <| o_ek (fr' := [(2, .box 1 0), (3, .box 2 0), (63, aB)]) rfl rfl <| w_ch h68 rfl (fun hb69 h69 => ?_) (fun hb69 h69 => ?_)
    ·
     refine w_sr <| o_p rfl (p_buildc (c0 := [aS, aI, aI, aI, aI, aI, aI, aI, aI, .nil]) (cs := [aS, aI, aI, aI, aI, aI, aI, aI, aI, .nil]) tb27 rfl fill_nil) <| o_store (v := .agg [aS, aI, aI, aI, aI, aI, aI, aI, aI, .nil]) (us := [aS, aI, aI, aI, aI, aI, aI, aI, aI, .nil]) (cs := [aS, aI, aI, aI, aI, aI, aI, aI, aI, .nil]) (σ' := [aLIIB, [aS, aI, aI, aI, aI, aI, aI, aI, aI, .nil], [aS, aI, aI, aI, aI, aI, aI, aI, aI, aO]]) rfl tv27 rfl rfl rfl rfl rfl rfl rfl rfl <| o_ek (fr' := [(2, .box 1 0)]) rfl rfl <| w_ret <| e_seq_r ?_
     obtain rfl := sy h69
     exact e_ret (rs' := [.cell 2 27]) rfl <| r_cells (us := [aS, aI, aI, aI, aI, aI, aI, aI, aI, .nil]) (cs := [aS, aI, aI, aI, aI, aI, aI, aI, aI, .nil]) tv27 rfl rfl rfl rfl <| r_nil <| fin_gen [] rfl rfl rfl (le_aggc rfl ⟨rfl, rfl, rfl, rfl, rfl, rfl, rfl, rfl, rfl, ⟨_, rfl⟩, trivial⟩) (st_c ⟨rfl, rfl, rfl, rfl, trivial⟩ st_nil)
    ·
     refine w_skip <| e_kw <| w_sr <| o_p rfl (p_loads (us := [aS, aI, aI, aI, aI, aI, aI, aI, aI, aO]) tv27 rfl rfl rfl rfl) <| o_store (v := .agg [aS, aI, aI, aI, aI, aI, aI, aI, aI, aO]) (us := [aS, aI, aI, aI, aI, aI, aI, aI, aI, aO]) (cs := [aS, aI, aI, aI, aI, aI, aI, aI, aI, .nil]) (σ' := [aLIIB, [aS, aI, aI, aI, aI, aI, aI, aI, aI, aO], [aS, aI, aI, aI, aI, aI, aI, aI, aI, aO]]) rfl tv27 rfl rfl rfl rfl rfl rfl rfl rfl <| o_ek (fr' := [(2, .box 1 0)]) rfl rfl <| w_ret ?_
     obtain rfl := sy h69
     exact e_ret (rs' := [.cell 2 27]) rfl <| r_cells (us := [aS, aI, aI, aI, aI, aI, aI, aI, aI, aO]) (cs := [aS, aI, aI, aI, aI, aI, aI, aI, aI, aO]) tv27 rfl rfl rfl rfl <| r_nil <| fin_gen [] rfl rfl rfl (le_aggc rfl ⟨rfl, rfl, rfl, rfl, rfl, rfl, rfl, rfl, rfl, rfl, trivial⟩) (st_c ⟨rfl, rfl, rfl, rfl, trivial⟩ st_nil)
noncomputable def value_decoder_ok (p1condition : Bool) (p100vx1 : Int) (p101v : WireReader) : Option (Bool × WireReader) :=
 (((wire_Reader_Err p101v).bind fun (x4 : Int) => cond (cond (decide (x4 = (0 : Int))) (!p1condition) false) ((wire_Reader_Fail (3 : Int) p101v).bind fun (x7 : WireReader) => some x7) (some p101v)) : Option WireReader).bind fun (x1 : WireReader) => ((wire_Reader_Err x1).bind fun (x10 : Int) => some ((decide (x10 = (0 : Int))), x1))
theorem w_value_decoder_ok {p1condition : Bool} {p100vx1 : Int} {p101v : WireReader} {res : (Bool × WireReader)} (h : value_decoder_ok p1condition p100vx1 p101v = some res) : ACalls Try.prog 113 [.box 0 0, .c (.bool p1condition)] [[.box 1 0, .c (.int .i64 p100vx1)], AV.cs (rowWireReader p101v)] (.c (.bool res.1)) [[.box 1 0, .c (.int .i64 p100vx1)], AV.cs (rowWireReader res.2)] := by
 unfold value_decoder_ok at h
 refine acalls (fn := Try.f113) [0, 1, 4, 14] (by kernel_rfl) Try.func113 rfl (by kernel_rfl) (by kernel_rfl) <| w_sr <| sB rfl <| o_ek (fr' := [(0, .box 0 0), (1, aB)]) rfl rfl ?_
 obtain ⟨x1, hx1, h2⟩ := bind_s h
 refine w_join (fun j3 => x1 = j3) (fun (j3 : WireReader) => ([(0, .box 0 0)] : Fr)) (fun (j3 : WireReader) => ([[.box 1 0, .c (.int .i64 p100vx1)], [.c (PV.ls 1 brow j3.b_), .c (.int .i64 j3.at_), .c (.int .i64 j3.err_), .c (.bool j3.made_)]] : St)) ?_ ?_
 ·
  refine w_sr <| mV (v := .box 0 0) rfl <| o_p rfl (p_nc rfl) <| o_p rfl (p_fa tf98x0 rfl) <| o_p rfl (p_load (v := .box 1 0) tv41 rfl rfl rfl) ?_
  obtain ⟨x4, hx4, h5⟩ := bind_s hx1
  refine o_call (v := aI) (σ' := [[.box 1 0, aI], aLIIB]) [1] rfl (w_wire_Reader_Err hx4) rfl rfl ⟨lr, trivial⟩ (st_c ⟨rfl, rfl, rfl, rfl, trivial⟩ st_nil) rfl rfl rfl <| o_p rfl (p_eql rfl rfl) <| mB rfl <| og rfl rfl rfl (fun hc => (p_move (v := aB) rfl)) <| og rfl rfl rfl (fun hc => (p_not (gx rfl hc))) <| o_p rfl (p_picky rfl rfl rfl (fun e => keq e)) <| o_ek (fr' := [(0, .box 0 0), (14, aB)]) rfl rfl <| w_ch h5 rfl (fun hb6 h6 => ?_) (fun hb6 h6 => ?_)
  ·
   refine w_region <| mV (v := .box 0 0) rfl <| o_p rfl (p_nc rfl) <| o_p rfl (p_fa tf98x0 rfl) <| o_p rfl (p_load (v := .box 1 0) tv41 rfl rfl rfl) ?_
   obtain ⟨x7, hx7, h8⟩ := bind_s h6
   exact o_call (v := _) (σ' := [[.box 1 0, aI], aLIIB]) [1] rfl (w_wire_Reader_Fail hx7) rfl rfl ⟨lr, lr, trivial⟩ (st_c ⟨rfl, rfl, rfl, rfl, trivial⟩ st_nil) rfl rfl rfl <| o_end (fr' := [(0, .box 0 0), (14, aB)]) rfl <| e_j _ (sy h8) (w_weak [] 2 rfl rfl rfl rfl ⟨lr, trivial⟩ (st_r rfl (st_r rfl st_nil)))
  ·
   exact w_skip <| e_j _ (sy h6) (w_weak [] 2 rfl rfl rfl rfl ⟨lr, trivial⟩ (st_r rfl (st_r rfl st_nil)))
 ·
  intro j3 hj9
  subst hj9
  refine w_sr <| mV (v := .box 0 0) rfl <| o_p rfl (p_nc rfl) <| o_p rfl (p_fa tf98x0 rfl) <| o_p rfl (p_load (v := .box 1 0) tv41 rfl rfl rfl) ?_
  obtain ⟨x10, hx10, h11⟩ := bind_s h2
  refine o_call (v := aI) (σ' := [[.box 1 0, aI], aLIIB]) [1] rfl (w_wire_Reader_Err hx10) rfl rfl ⟨lr, trivial⟩ (st_c ⟨rfl, rfl, rfl, rfl, trivial⟩ st_nil) rfl rfl rfl <| o_p rfl (p_eql rfl rfl) <| sB rfl <| o_ek (fr' := [(4, aB)]) rfl rfl <| w_ret ?_
  obtain rfl := sy h11
  exact e_ret (rs' := [.tmp 4]) rfl <| r_tmp (v := aB) rfl <| r_nil <| fin_gen [] rfl rfl rfl lr (st_r rfl (st_c ⟨rfl, rfl, rfl, rfl, trivial⟩ st_nil))
end Go.Proofs.Ytmnobgopfnhbnaa

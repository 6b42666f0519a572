import Derived.Test.YtlfggjfndmfblaaGATy
import Derived.Test.YtlfggjfndmfblaaGAF0
namespace Go.Proofs.Ytlfggjfndmfblaa
open Go Abs
set_option maxRecDepth 100000
set_option linter.unusedVariables false
set_option linter.unusedSimpArgs false
noncomputable def wire_Open_own (p0b : (List UInt8)) : Option WireReader :=
 (slices_Clone_byte_byte p0b).bind fun (x1 : (List UInt8)) => some (WireReader.mk x1 (0 : Int) (0 : Int) true)
theorem w_wire_Open_own {p0b : (List UInt8)} {res : WireReader} (h : wire_Open_own p0b = some res) : ACalls Try.prog 6 [.c (PV.ls 1 brow p0b)] [] (.box 0 0) [[AV.os 0 1 brow res.b_, ci res.at_, ci res.err_, .c (.bool res.made_)]] := by
 unfold wire_Open_own at h
 refine acalls (fn := Try.f6) [0, 2] (by kernel_rfl) Try.func6 rfl (by kernel_rfl) (by kernel_rfl) <| w_sr <| sV (v := .nilptr) rfl <| o_ek (fr' := [(0, aL)]) rfl rfl <| w_sr <| mL rfl ?_
 obtain ⟨x1, hx1, h2⟩ := bind_s h
 refine o_v (ov_call (v := aO) rfl (w_slices_Clone_byte_byte hx1) ⟨lr, trivial⟩ rfl rfl rfl) <| o_p rfl (p_build (cs := [aO, aI, aI, aB]) tb29 rfl) <| o_box (v := .agg [aO, aI, aI, aB]) (n := 0) (cs := [aO, aI, aI, aB]) (σ' := [[aO, aI, aI, aB]]) rfl rfl rfl rfl rfl <| sV (v := .box 0 0) rfl <| o_ek (fr' := [(2, .box 0 0)]) rfl rfl <| w_ret ?_
 obtain rfl := sy h2
 exact e_ret (rs' := [.tmp 2]) rfl <| r_tmp (v := .box 0 0) rfl <| r_nil <| fin_newT rfl [64] rfl (st_p ⟨lr, lr, lr, lr, trivial⟩ st_nil)
noncomputable def wire_Reader_dead_v2 (p100vx1 : Int) (p100vx2 : Int) (p100vx3 : Bool) : Option Bool :=
 some (cond (!p100vx3) true (!decide (p100vx2 = (0 : Int))))
theorem w_wire_Reader_dead_v2 {p100vx1 : Int} {p100vx2 : Int} {p100vx3 : Bool} {res : Bool} (h : wire_Reader_dead_v2 p100vx1 p100vx2 p100vx3 = some res) : ACalls Try.prog 20 [.box 0 0] [[AV.nil, ci p100vx1, ci p100vx2, .c (.bool p100vx3)]] (.c (.bool res)) [[AV.nil, ci p100vx1, ci p100vx2, .c (.bool p100vx3)]] := by
 unfold wire_Reader_dead_v2 at h
 refine acalls (fn := Try.f20) [0, 2] (by kernel_rfl) Try.func20 rfl (by kernel_rfl) (by kernel_rfl) <| w_sr <| sB rfl <| o_ek (fr' := [(0, .box 0 0)]) rfl rfl <| w_sr <| mV (v := .box 0 0) rfl <| o_p rfl (p_peql ti25 rfl rfl) <| mB rfl <| o_yes rfl rfl rfl <| mV (v := .box 0 0) rfl <| o_yes rfl rfl rfl ?_
 refine o_p rfl (p_nc rfl) <| o_yes rfl rfl rfl <| o_p rfl (p_fa tf29x3 rfl) <| o_yes rfl rfl rfl <| o_p rfl (p_load (v := aB) tv4 rfl rfl rfl) <| o_yes rfl rfl rfl <| o_p rfl (p_not rfl) <| o_p rfl (p_pick_f rfl rfl rfl) <| mB rfl <| og rfl rfl rfl (fun hc => (p_move (v := .box 0 0) rfl)) <| og rfl rfl rfl (fun hc => (p_nc (gx rfl hc))) <| og rfl rfl rfl (fun hc => (p_fa tf29x2 (gx rfl hc))) <| og rfl rfl rfl (fun hc => (p_load (v := aI) tv27 (gx rfl hc) rfl rfl)) ?_
 refine og rfl rfl rfl (fun hc => (p_neq (gx rfl hc) rfl)) <| o_p rfl (p_pickz rfl rfl rfl (fun e => keq e)) <| sB rfl <| o_ek (fr' := [(2, aB)]) rfl rfl <| w_ret ?_
 obtain rfl := sy h
 exact e_ret (rs' := [.tmp 2]) rfl <| r_tmp (v := aB) rfl <| r_nil <| fin_gen [] rfl rfl rfl lr (st_r rfl st_nil)
noncomputable def wire_Reader_Fail_zero (p1e : Int) (p100vx1 : Int) (p100vx2 : Int) (p100vx3 : Bool) : Option WireReader :=
 (wire_Reader_dead_v2 p100vx1 p100vx2 p100vx3).bind fun (x1 : Bool) => cond (!x1) (some (WireReader.mk ([] : (List UInt8)) p100vx1 p1e p100vx3)) (some (WireReader.mk ([] : (List UInt8)) p100vx1 p100vx2 p100vx3))
theorem w_wire_Reader_Fail_zero {p1e : Int} {p100vx1 : Int} {p100vx2 : Int} {p100vx3 : Bool} {res : WireReader} (h : wire_Reader_Fail_zero p1e p100vx1 p100vx2 p100vx3 = some res) : ACalls Try.prog 7 [.box 0 0, ci p1e] [[AV.nil, ci p100vx1, ci p100vx2, .c (.bool p100vx3)]] (.any) [AV.cs (rowWireReader res)] := by
 unfold wire_Reader_Fail_zero at h
 refine acalls (fn := Try.f7) [0, 1, 6] (by kernel_rfl) Try.func7 rfl (by kernel_rfl) (by kernel_rfl) <| w_sr <| mV (v := .box 0 0) rfl ?_
 obtain ⟨x1, hx1, h2⟩ := bind_s h
 refine o_call (v := aB) (σ' := [aNIIB]) [0] rfl (w_wire_Reader_dead_v2 hx1) rfl rfl ⟨lr, trivial⟩ (st_p ⟨lr, lr, lr, lr, trivial⟩ st_nil) rfl rfl rfl <| o_p rfl (p_not rfl) <| o_ek (fr' := [(0, .box 0 0), (1, aI), (6, aB)]) rfl rfl <| w_ch h2 rfl (fun hb3 h3 => ?_) (fun hb3 h3 => ?_)
 ·
  refine w_region <| mV (v := .box 0 0) rfl <| mI rfl <| o_p rfl (p_nc rfl) <| o_p rfl (p_fa tf29x2 rfl) <| o_store (v := aI) (us := [aI]) (cs := aNIIB) (σ' := [aNIIB]) rfl tv27 rfl rfl rfl rfl rfl rfl rfl rfl <| o_end (fr' := [(0, .box 0 0), (1, aI), (6, aB)]) rfl ?_
  obtain rfl := sy h3
  exact e_fin (rs' := []) rfl <| r_nil <| fin_gen [] rfl rfl rfl (AV.le_any _) (st_c ⟨⟨_, rfl⟩, rfl, rfl, rfl, trivial⟩ st_nil)
 ·
  refine w_skip ?_
  obtain rfl := sy h3
  exact e_fin (rs' := []) rfl <| r_nil <| fin_gen [] rfl rfl rfl (AV.le_any _) (st_c ⟨⟨_, rfl⟩, rfl, rfl, rfl, trivial⟩ st_nil)
noncomputable def wire_Reader_Fail_nil (p1e : Int) : Option Unit :=
 (wire_Reader_dead_nil).bind fun (x1 : Bool) => cond (!x1) (none) (some ())
theorem w_wire_Reader_Fail_nil {p1e : Int} {res : Unit} (h : wire_Reader_Fail_nil p1e = some res) : ACalls Try.prog 7 [.nilptr, ci p1e] [] (.any) [] := by
 unfold wire_Reader_Fail_nil at h
 refine acalls (fn := Try.f7) [0, 1, 6] (by kernel_rfl) Try.func7 rfl (by kernel_rfl) (by kernel_rfl) <| w_sr <| mV (v := .nilptr) rfl ?_
 obtain ⟨x1, hx1, h2⟩ := bind_s h
 refine o_v (ov_call (v := aB) rfl (w_wire_Reader_dead_nil hx1) ⟨lr, trivial⟩ rfl rfl rfl) <| o_p rfl (p_not rfl) <| o_ek (fr' := [(0, .nilptr), (1, aI), (6, aB)]) rfl rfl <| w_ch h2 rfl (fun hb3 h3 => ?_) (fun hb3 h3 => ?_)
 ·
  exact w_region <| mV (v := .nilptr) rfl <| mI rfl <| none_ne h3
 ·
  refine w_skip ?_
  obtain rfl := sy h3
  exact e_fin (rs' := []) rfl <| r_nil <| fin_gen [] rfl rfl rfl (AV.le_any _) st_nil
noncomputable def wire_Reader_Err_nil  : Option Int :=
 some (1 : Int)
theorem w_wire_Reader_Err_nil  {res : Int} (h : wire_Reader_Err_nil = some res) : ACalls Try.prog 8 [.nilptr] [] (ci res) [] := by
 unfold wire_Reader_Err_nil at h
 refine acalls (fn := Try.f8) [0, 2, 11] (by kernel_rfl) Try.func8 rfl (by kernel_rfl) (by kernel_rfl) <| w_sr <| sI rfl <| o_ek (fr' := [(0, .nilptr)]) rfl rfl <| w_seqw <| w_sr <| mV (v := .nilptr) rfl <| o_p rfl (p_neql ti25 rfl rfl) <| mB rfl <| o_no rfl rfl rfl <| o_no rfl rfl rfl ?_
 refine o_no rfl rfl rfl <| o_no rfl rfl rfl <| o_no rfl rfl rfl <| o_p rfl (p_pick_t rfl rfl rfl) <| o_ek (fr' := [(0, .nilptr), (11, aB)]) rfl rfl <| w_cond_t rfl <| w_sr <| sI rfl <| o_ek (fr' := [(2, aI)]) rfl rfl <| w_ret <| e_seq_r ?_
 obtain rfl := sy h
 exact e_ret (rs' := [.tmp 2]) rfl <| r_tmp (v := aI) rfl <| r_nil <| fin_gen [] rfl rfl rfl lr st_nil
noncomputable def wire_Reader_End_nil  : Option Int :=
 (wire_Reader_Err_nil).bind fun (x1 : Int) => cond (!decide (x1 = (0 : Int))) (some x1) (none)
theorem w_wire_Reader_End_nil  {res : Int} (h : wire_Reader_End_nil = some res) : ACalls Try.prog 9 [.nilptr] [] (ci res) [] := by
 unfold wire_Reader_End_nil at h
 refine acalls (fn := Try.f9) [0, 2, 3, 7, 18] (by kernel_rfl) Try.func9 rfl (by kernel_rfl) (by kernel_rfl) <| w_sr <| sI rfl <| o_ek (fr' := [(0, .nilptr)]) rfl rfl <| w_seqw <| w_sr <| mV (v := .nilptr) rfl ?_
 obtain ⟨x1, hx1, h2⟩ := bind_s h
 refine o_v (ov_call (v := aI) rfl (w_wire_Reader_Err_nil hx1) ⟨lr, trivial⟩ rfl rfl rfl) <| sI rfl <| o_ek (fr' := [(0, .nilptr), (3, aI)]) rfl rfl <| w_sr <| mI rfl <| o_p rfl (p_neq rfl rfl) <| o_ek (fr' := [(0, .nilptr), (3, aI), (7, aB)]) rfl rfl <| w_ch h2 rfl (fun hb3 h3 => ?_) (fun hb3 h3 => ?_)
 ·
  refine w_sr <| mI rfl <| sI rfl <| o_ek (fr' := [(2, aI)]) rfl rfl <| w_ret <| e_seq_r ?_
  obtain rfl := sy h3
  exact e_ret (rs' := [.tmp 2]) rfl <| r_tmp (v := aI) rfl <| r_nil <| fin_gen [] rfl rfl rfl lr st_nil
 ·
  exact w_skip <| e_kw <| w_seqw <| w_seqw <| w_planT [.q 0, .q 1, .q 2, .q 3, .q 4, .q 5, .q 6, .q 7, .q 8, .q 9] [(some 9, [0]), (some 10, [9]), (some 11, [10]), (some 12, [11]), (some 13, [0]), (some 14, [13]), (some 15, [14]), (some 16, [15]), (some 17, [16]), (some 18, [12, 17])] [0, 1, 3, 7, 0, 16, 48, 112, 240, 511] (by kernel_rfl) <| dq rfl rfl (p_move (v := .nilptr) rfl) <| none_ne h3
noncomputable def law01xWireOwn_l1 (x5 : (List UInt8)) (s14 : ((List UInt8) × Int)) : Option (Step ((List UInt8) × Int) Unit) :=
 cond (decide (s14.2 < ((x5).length : Int))) ((idx s14.1 s14.2).bind fun (x16 : UInt8) => (byteOf (255 : Int)).bind fun (x18 : UInt8) => some (Step.next ((List.set s14.1 (Int.toNat s14.2) x18), (IntKind.wrap .i64 (s14.2 + (1 : Int)))))) (some (Step.out ()))
noncomputable def law01xWireOwn (p0b : (List UInt8)) (p1n : Int) : Option Bool :=
 cond (decide ((100 : Int) < ((p0b).length : Int))) ((law01xworks).bind fun (x2 : Bool) => some x2) ((app 1 ([] : List UInt8) p0b).bind fun (x5 : (List UInt8)) => (wire_PutInt x5 p1n).bind fun (x7 : (List UInt8)) => (wire_Open_own x5).bind fun (x9 : WireReader) => ((loopO (law01xWireOwn_l1 x5) ((x5, (0 : Int)))) : Option Unit).bind fun (x11 : Unit) => ((wire_Reader_Fail_nil (2 : Int)).bind fun (x22 : Unit) => (wire_Reader_Fail_zero (2 : Int) (0 : Int) (0 : Int) false).bind fun (x24 : WireReader) => (((wire_Reader_Err_nil).bind fun (x29 : Int) => cond (!decide (x29 = (1 : Int))) (some (Fl.done false)) ((wire_Reader_Err x24).bind fun (x34 : Int) => cond (!decide (x34 = (1 : Int))) (some (Fl.done false)) ((wire_Reader_End_nil).bind fun (x39 : Int) => cond (!decide (x39 = (1 : Int))) (some (Fl.done false)) ((wire_Reader_End x24).bind fun (x44 : Int) => cond (!decide (x44 = (1 : Int))) (some (Fl.done false)) ((wire_Reader_Int_nil (0 : Int) (9 : Int)).bind fun (x49 : Int) => cond (!decide (x49 = (0 : Int))) (some (Fl.done false)) ((wire_Reader_Text (9 : Int) x24).bind fun (x54 : ((List UInt8) × WireReader)) => cond (!decide (x54.1 = ([] : List UInt8))) (some (Fl.done false)) ((wire_Reader_Bool_nil).bind fun (x59 : Bool) => cond x59 (some (Fl.done false)) ((wire_Reader_Left x54.2).bind fun (x64 : Int) => cond (!decide (x64 = (0 : Int))) (some (Fl.done false)) (some (Fl.go x54.2)))))))))) : Option (Fl Bool WireReader)).bind fun (x26 : (Fl Bool WireReader)) => Fl.next x26 (fun (j28 : WireReader) => ((ref01xPutInt p0b p1n).bind fun (x70 : (List UInt8)) => (law01xequal x7 x70).bind fun (x72 : Bool) => cond x72 ((wire_Reader_Int (-9223372036854775808 : Int) (9223372036854775807 : Int) x9).bind fun (x75 : (Int × WireReader)) => (ref01xOpen p0b).bind fun (x77 : Ref01Reader) => (ref01xReader_Int (-9223372036854775808 : Int) (9223372036854775807 : Int) x77).bind fun (x79 : (Int × Ref01Reader)) => cond (decide (x75.1 = x79.1)) ((law01xworks).bind fun (x82 : Bool) => some x82) (some false)) (some false)))))
theorem w_law01xWireOwn {p0b : (List UInt8)} {p1n : Int} {res : Bool} (h : law01xWireOwn p0b p1n = some res) : ACalls Try.prog 3 [.c (PV.ls 1 brow p0b), ci p1n] [] (.c (.bool res)) [] := by
 unfold law01xWireOwn at h
 refine acalls (fn := Try.f3) [0, 1, 4, 5, 6, 7, 8, 9, 10, 13, 24, 26, 27, 28, 76] (by kernel_rfl) Try.func3 rfl (by kernel_rfl) (by kernel_rfl) <| w_sr <| sB rfl <| o_ek (fr' := [(0, aL), (1, aI)]) rfl rfl <| w_seqw <| w_sr <| mL rfl <| o_p rfl (p_len ti22 (isl_c rfl)) <| o_p rfl (p_gtr rfl rfl) <| o_ek (fr' := [(0, aL), (1, aI), (13, aB)]) rfl rfl <| w_ch h rfl (fun hb1 h1 => ?_) (fun hb1 h1 => ?_)
 ·
  refine w_seqw <| w_region ?_
  obtain ⟨x2, hx2, h3⟩ := bind_s h1
  refine o_v (ov_call (v := aB) rfl (w_law01xworks hx2) trivial rfl rfl rfl) <| sB rfl <| o_ek (fr' := [(4, aB)]) rfl rfl <| w_ret <| e_seq_r ?_
  obtain rfl := sy h3
  exact e_ret (rs' := [.tmp 4]) rfl <| r_tmp (v := aB) rfl <| r_nil <| fin_gen [] rfl rfl rfl lr st_nil
 ·
  refine w_skip <| e_kw <| w_sr <| o_rows (row := brow) (xs := ([] : List UInt8)) (rows := []) (σ' := []) [0] ts22 rfl rfl rfl arow_nil rfl rfl <| mL rfl ?_
  obtain ⟨x5, hx5, h6⟩ := bind_s h1
  refine o_appm (row := brow) ts22 rfl ti22 rfl (isl_c rfl) (fun _ => rfl) hx5 <| sV (v := aM) rfl <| o_ek (fr' := [(0, aL), (1, aI), (5, aM)]) rfl rfl <| w_sr <| mV (v := aM) rfl <| mI rfl ?_
  obtain ⟨x7, hx7, h8⟩ := bind_s h6
  refine o_callB (v := aO) (σ' := []) [] 20 (fz_1 272 1 brow x5 rfl rfl fz_0) rfl (w_wire_PutInt hx7) ⟨lr, lr, trivial⟩ lite_b trivial rfl rfl rfl <| sV (v := aO) rfl <| o_ek (fr' := [(0, aL), (1, aI), (5, aM), (6, aO)]) rfl rfl <| w_sr <| mV (v := aM) rfl ?_
  obtain ⟨x9, hx9, h10⟩ := bind_s h8
  refine o_callB (v := .box 0 0) (σ' := [[aO, aI, aI, aB]]) [] 22 (fz_1 272 1 brow x5 rfl rfl fz_0) rfl (w_wire_Open_own hx9) ⟨lr, trivial⟩ trivial ⟨⟨lite_b, rfl, rfl, rfl, trivial⟩, trivial⟩ rfl rfl rfl <| sV (v := .box 0 0) rfl <| o_ek (fr' := [(0, aL), (1, aI), (5, aM), (6, aO), (7, .box 0 0)]) rfl rfl <| w_seqw <| w_sr <| mV (v := .box 0 0) rfl <| o_p rfl (p_peql ti25 rfl rfl) <| o_ek (fr' := [(0, aL), (1, aI), (5, aM), (6, aO), (7, .box 0 0), (24, aB)]) rfl rfl <| w_cond_f rfl <| w_skip <| e_kw <| w_seqw ?_
  refine w_sr <| mV (v := aM) rfl <| o_p rfl (p_lenm ti22 rfl) <| mI rfl <| o_ek (fr' := [(0, aL), (1, aI), (5, aM), (6, aO), (7, .box 0 0), (26, aI), (27, aI)]) rfl rfl ?_
  obtain ⟨x11, hx11, h12⟩ := bind_s h10
  refine w_jtail cl_kw (fun j13 => x11 = j13) (fun (j13 : Unit) => ([(0, .c (PV.ls 1 brow p0b)), (1, ci p1n), (6, AV.os 0 1 brow x7), (7, .box 0 0)] : Fr)) (fun (j13 : Unit) => ([[AV.os 1 1 brow x9.b_, ci x9.at_, ci x9.err_, .c (.bool x9.made_)]] : St)) ?_ ?_
  ·
   refine w_block <| w_loopo _ (fun (s14 : ((List UInt8) × Int)) => ([(0, .c (PV.ls 1 brow p0b)), (1, ci p1n), (5, AV.ms 0 1 brow s14.1), (6, AV.os 1 1 brow x7), (7, .box 0 0), (26, ci ((x5).length : Int)), (27, ci s14.2)] : Fr)) (fun (s14 : ((List UInt8) × Int)) => ([[AV.os 2 1 brow x9.b_, ci x9.at_, ci x9.err_, .c (.bool x9.made_)]] : St)) hx11 (w_weak [272, 320, 352] 1 rfl rfl rfl rfl ⟨lr, lr, lr, lr, lr, lr, lr, trivial⟩ (st_r rfl st_nil)) ?_
   intro s14 st14 hs14 ho14
   unfold law01xWireOwn_l1 at hs14
   refine w_sr <| o_p rfl (p_lss rfl rfl) <| o_ek (fr' := [(0, aL), (1, aI), (5, aM), (6, aO), (7, .box 0 0), (26, aI), (27, aI), (28, aB)]) rfl rfl <| w_seqw <| w_ch hs14 rfl (fun hb15 h15 => ?_) (fun hb15 h15 => ?_)
   ·
    refine w_skip <| e_kw <| w_seqw <| w_block <| w_sr <| mI rfl <| sI rfl <| o_ek (fr' := [(0, aL), (1, aI), (5, aM), (6, aO), (7, .box 0 0), (8, aI), (26, aI), (27, aI)]) rfl rfl <| w_region <| mV (v := aM) rfl <| mI rfl ?_
    obtain ⟨x16, hx16, h17⟩ := bind_s h15
    refine o_p rfl (p_iam (cs := [PV.int _ _]) ts22 rfl rfl hx16 rfl) ?_
    obtain ⟨x18, hx18, h19⟩ := bind_s h17
    exact o_mst (v := aI) (cs := [PV.int _ _]) (row := brow) (xs := s14.1) (u := x18) [] [(32, 0)] tv5 rfl rfl rfl rfl rfl rfl (brow_of hx18) ⟨rfl, trivial⟩ rfl rfl <| o_end (fr' := [(0, aL), (1, aI), (5, aM), (6, aO), (7, .box 0 0), (8, aI), (26, aI), (27, aI)]) rfl <| e_blk_n <| e_kw <| w_region <| o_p rfl (p_add rfl rfl) <| mI rfl <| o_end (fr' := [(0, aL), (1, aI), (5, aM), (6, aO), (7, .box 0 0), (8, aI), (26, aI), (27, aI)]) rfl <| e_l _ (sy h19) (w_weak [0, 1, 2] 1 rfl rfl rfl rfl ⟨lr, lr, lr, lr, lr, lr, lr, trivial⟩ (st_r rfl st_nil))
   ·
    refine w_exit <| e_seq_x <| e_seq_x <| e_blk_h ?_
    have h20 := un_out h15 ho14
    exact e_j _ (sy h20) (w_weak [1, 2] 1 rfl rfl rfl rfl ⟨lr, lr, lr, lr, trivial⟩ (st_r rfl st_nil))
  ·
   intro j13 hj21
   subst hj21
   refine e_kw <| w_sr <| sV (v := .nilptr) rfl <| o_ek (fr' := [(0, aL), (1, aI), (6, aO), (7, .box 0 0), (9, .nilptr)]) rfl rfl <| w_sr <| o_p rfl (p_build (cs := aNIIB) tb29 rfl) <| o_box (v := .agg aNIIB) (n := 1) (cs := aNIIB) (σ' := [[aO, aI, aI, aB], aNIIB]) rfl rfl rfl rfl rfl <| sV (v := .box 1 0) rfl <| o_ek (fr' := [(0, aL), (1, aI), (6, aO), (7, .box 0 0), (9, .nilptr), (10, .box 1 0)]) rfl rfl <| w_seqw <| w_region ?_
   refine mV (v := .nilptr) rfl ?_
   obtain ⟨x22, hx22, h23⟩ := bind_s h12
   refine o_v (ov_call (v := .any) rfl (w_wire_Reader_Fail_nil hx22) ⟨lr, lr, trivial⟩ rfl rfl rfl) <| o_ek (fr' := [(0, aL), (1, aI), (6, aO), (7, .box 0 0), (9, .nilptr), (10, .box 1 0)]) rfl rfl <| w_sr <| mV (v := .box 1 0) rfl ?_
   obtain ⟨x24, hx24, h25⟩ := bind_s h23
   refine o_call (v := _) (σ' := [[aO, aI, aI, aB], aLIIB]) [1] rfl (w_wire_Reader_Fail_zero hx24) rfl rfl ⟨lr, lr, trivial⟩ (st_p ⟨lr, lr, lr, lr, trivial⟩ st_nil) rfl rfl rfl <| o_ek (fr' := [(0, aL), (1, aI), (6, aO), (7, .box 0 0), (9, .nilptr), (10, .box 1 0)]) rfl rfl ?_
   obtain ⟨x26, hx26, h27⟩ := bind_s h25
   refine w_join (fun j28 => x26 = Fl.go j28) (fun (j28 : WireReader) => ([(0, .c (PV.ls 1 brow p0b)), (1, ci p1n), (6, AV.os 0 1 brow x7), (7, .box 0 0)] : Fr)) (fun (j28 : WireReader) => ([[AV.os 1 1 brow x9.b_, ci x9.at_, ci x9.err_, .c (.bool x9.made_)], [.c (PV.ls 1 brow j28.b_), ci j28.at_, ci j28.err_, .c (.bool j28.made_)]] : St)) ?_ ?_
   ·
    refine w_sr <| mV (v := .nilptr) rfl ?_
    obtain ⟨x29, hx29, h30⟩ := bind_s hx26
    refine o_v (ov_call (v := aI) rfl (w_wire_Reader_Err_nil hx29) ⟨lr, trivial⟩ rfl rfl rfl) <| o_p rfl (p_neq rfl rfl) <| mB rfl <| r_ch h30 (fun hb31 h31 => ?_) (fun hb31 h31 => ?_)
    ·
     refine o_no rfl rfl hb31 <| o_no rfl rfl hb31 <| o_no rfl rfl hb31 <| o_p rfl (p_pick_t rfl hb31 rfl) <| mB rfl <| o_no rfl rfl rfl <| o_no rfl rfl rfl <| o_no rfl rfl rfl <| o_p rfl (p_pick_t rfl rfl rfl) <| mB rfl <| o_no rfl rfl rfl <| o_no rfl rfl rfl <| o_no rfl rfl rfl ?_
     refine o_p rfl (p_pick_t rfl rfl rfl) <| mB rfl <| o_no rfl rfl rfl <| o_no rfl rfl rfl <| o_no rfl rfl rfl <| o_p rfl (p_pick_t rfl rfl rfl) <| mB rfl <| o_no rfl rfl rfl <| o_no rfl rfl rfl <| o_no rfl rfl rfl <| o_p rfl (p_pick_t rfl rfl rfl) <| mB rfl <| o_no rfl rfl rfl ?_
     refine o_no rfl rfl rfl <| o_p rfl (p_pick_t rfl rfl rfl) <| mB rfl <| o_no rfl rfl rfl <| o_no rfl rfl rfl <| o_no rfl rfl rfl <| o_p rfl (p_pick_t rfl rfl rfl) <| o_ek (fr' := [(0, aL), (1, aI), (6, aO), (7, .box 0 0), (76, aB)]) rfl rfl <| w_cond_t rfl <| w_sr <| sB rfl <| o_ek (fr' := [(4, aB)]) rfl rfl ?_
     refine w_ret <| e_seq_r ?_
     have h32 := un_done h31 h27
     obtain rfl := sy h32
     exact e_ret (rs' := [.tmp 4]) rfl <| r_tmp (v := aB) rfl <| r_nil <| fin_gen [] rfl rfl rfl lr st_nil
    ·
     refine o_yes rfl rfl hb31 <| mV (v := .box 1 0) rfl <| o_yes rfl rfl hb31 ?_
     obtain ⟨x34, hx34, h35⟩ := bind_s h31
     refine o_call (v := aI) (σ' := [[aO, aI, aI, aB], aLIIB]) [1] rfl (w_wire_Reader_Err hx34) rfl rfl ⟨lr, trivial⟩ (st_c ⟨rfl, rfl, rfl, rfl, trivial⟩ st_nil) rfl rfl rfl <| o_yes rfl rfl hb31 <| o_p rfl (p_neq rfl rfl) <| o_p rfl (p_pick_f rfl hb31 rfl) <| mB rfl <| r_ch h35 (fun hb36 h36 => ?_) (fun hb36 h36 => ?_)
     ·
      refine o_no rfl rfl hb36 <| o_no rfl rfl hb36 <| o_no rfl rfl hb36 <| o_p rfl (p_pick_t rfl hb36 rfl) <| mB rfl <| o_no rfl rfl rfl <| o_no rfl rfl rfl <| o_no rfl rfl rfl <| o_p rfl (p_pick_t rfl rfl rfl) <| mB rfl <| o_no rfl rfl rfl <| o_no rfl rfl rfl <| o_no rfl rfl rfl ?_
      refine o_p rfl (p_pick_t rfl rfl rfl) <| mB rfl <| o_no rfl rfl rfl <| o_no rfl rfl rfl <| o_no rfl rfl rfl <| o_p rfl (p_pick_t rfl rfl rfl) <| mB rfl <| o_no rfl rfl rfl <| o_no rfl rfl rfl <| o_p rfl (p_pick_t rfl rfl rfl) <| mB rfl <| o_no rfl rfl rfl <| o_no rfl rfl rfl ?_
      refine o_no rfl rfl rfl <| o_p rfl (p_pick_t rfl rfl rfl) <| o_ek (fr' := [(0, aL), (1, aI), (6, aO), (7, .box 0 0), (76, aB)]) rfl rfl <| w_cond_t rfl <| w_sr <| sB rfl <| o_ek (fr' := [(4, aB)]) rfl rfl <| w_ret <| e_seq_r ?_
      have h37 := un_done h36 h27
      obtain rfl := sy h37
      exact e_ret (rs' := [.tmp 4]) rfl <| r_tmp (v := aB) rfl <| r_nil <| fin_gen [] rfl rfl rfl lr st_nil
     ·
      refine o_yes rfl rfl hb36 <| mV (v := .nilptr) rfl <| o_yes rfl rfl hb36 ?_
      obtain ⟨x39, hx39, h40⟩ := bind_s h36
      refine o_v (ov_call (v := aI) rfl (w_wire_Reader_End_nil hx39) ⟨lr, trivial⟩ rfl rfl rfl) <| o_yes rfl rfl hb36 <| o_p rfl (p_neq rfl rfl) <| o_p rfl (p_pick_f rfl hb36 rfl) <| mB rfl <| r_ch h40 (fun hb41 h41 => ?_) (fun hb41 h41 => ?_)
      ·
       refine o_no rfl rfl hb41 <| o_no rfl rfl hb41 <| o_no rfl rfl hb41 <| o_p rfl (p_pick_t rfl hb41 rfl) <| mB rfl <| o_no rfl rfl rfl <| o_no rfl rfl rfl <| o_no rfl rfl rfl <| o_p rfl (p_pick_t rfl rfl rfl) <| mB rfl <| o_no rfl rfl rfl <| o_no rfl rfl rfl <| o_no rfl rfl rfl ?_
       refine o_p rfl (p_pick_t rfl rfl rfl) <| mB rfl <| o_no rfl rfl rfl <| o_no rfl rfl rfl <| o_p rfl (p_pick_t rfl rfl rfl) <| mB rfl <| o_no rfl rfl rfl <| o_no rfl rfl rfl <| o_no rfl rfl rfl <| o_p rfl (p_pick_t rfl rfl rfl) <| o_ek (fr' := [(0, aL), (1, aI), (6, aO), (7, .box 0 0), (76, aB)]) rfl rfl <| w_cond_t rfl <| w_seqw ?_
       refine w_region <| sB rfl <| o_ek (fr' := [(4, aB)]) rfl rfl <| w_ret <| e_seq_r ?_
       have h42 := un_done h41 h27
       obtain rfl := sy h42
       exact e_ret (rs' := [.tmp 4]) rfl <| r_tmp (v := aB) rfl <| r_nil <| fin_gen [] rfl rfl rfl lr st_nil
      ·
       refine o_yes rfl rfl hb41 <| mV (v := .box 1 0) rfl <| o_yes rfl rfl hb41 ?_
       obtain ⟨x44, hx44, h45⟩ := bind_s h41
       refine o_call (v := aI) (σ' := [[aO, aI, aI, aB], aLIIB]) [1] rfl (w_wire_Reader_End hx44) rfl rfl ⟨lr, trivial⟩ (st_c ⟨rfl, rfl, rfl, rfl, trivial⟩ st_nil) rfl rfl rfl <| o_yes rfl rfl hb41 <| o_p rfl (p_neq rfl rfl) <| o_p rfl (p_pick_f rfl hb41 rfl) <| mB rfl <| r_ch h45 (fun hb46 h46 => ?_) (fun hb46 h46 => ?_)
       ·
        refine o_no rfl rfl hb46 <| o_no rfl rfl hb46 <| o_no rfl rfl hb46 <| o_p rfl (p_pick_t rfl hb46 rfl) <| mB rfl <| o_no rfl rfl rfl <| o_no rfl rfl rfl <| o_no rfl rfl rfl <| o_p rfl (p_pick_t rfl rfl rfl) <| mB rfl <| o_no rfl rfl rfl <| o_no rfl rfl rfl <| o_p rfl (p_pick_t rfl rfl rfl) ?_
        refine mB rfl <| o_no rfl rfl rfl <| o_no rfl rfl rfl <| o_no rfl rfl rfl <| o_p rfl (p_pick_t rfl rfl rfl) <| o_ek (fr' := [(0, aL), (1, aI), (6, aO), (7, .box 0 0), (76, aB)]) rfl rfl <| w_cond_t rfl <| w_sr <| sB rfl <| o_ek (fr' := [(4, aB)]) rfl rfl <| w_ret <| e_seq_r ?_
        have h47 := un_done h46 h27
        obtain rfl := sy h47
        exact e_ret (rs' := [.tmp 4]) rfl <| r_tmp (v := aB) rfl <| r_nil <| fin_gen [] rfl rfl rfl lr st_nil
       ·
        refine o_yes rfl rfl hb46 <| mV (v := .nilptr) rfl <| o_yes rfl rfl hb46 ?_
        obtain ⟨x49, hx49, h50⟩ := bind_s h46
        refine o_v (ov_call (v := aI) rfl (w_wire_Reader_Int_nil hx49) ⟨lr, lr, lr, trivial⟩ rfl rfl rfl) <| o_yes rfl rfl hb46 <| o_p rfl (p_neq rfl rfl) <| o_p rfl (p_pick_f rfl hb46 rfl) <| mB rfl <| r_ch h50 (fun hb51 h51 => ?_) (fun hb51 h51 => ?_)
        ·
         refine o_no rfl rfl hb51 <| o_no rfl rfl hb51 <| o_no rfl rfl hb51 <| o_p rfl (p_pick_t rfl hb51 rfl) <| mB rfl <| o_no rfl rfl rfl <| o_no rfl rfl rfl <| o_p rfl (p_pick_t rfl rfl rfl) <| mB rfl <| o_no rfl rfl rfl <| o_no rfl rfl rfl <| o_no rfl rfl rfl <| o_p rfl (p_pick_t rfl rfl rfl) ?_
         refine o_ek (fr' := [(0, aL), (1, aI), (6, aO), (7, .box 0 0), (76, aB)]) rfl rfl <| w_cond_t rfl <| w_sr <| sB rfl <| o_ek (fr' := [(4, aB)]) rfl rfl <| w_ret <| e_seq_r ?_
         have h52 := un_done h51 h27
         obtain rfl := sy h52
         exact e_ret (rs' := [.tmp 4]) rfl <| r_tmp (v := aB) rfl <| r_nil <| fin_gen [] rfl rfl rfl lr st_nil
        ·
         refine o_yes rfl rfl hb51 <| mV (v := .box 1 0) rfl <| o_yes rfl rfl hb51 ?_
         obtain ⟨x54, hx54, h55⟩ := bind_s h51
         refine o_call (v := aS) (σ' := [[aO, aI, aI, aB], aLIIB]) [1] rfl (w_wire_Reader_Text hx54) rfl rfl ⟨lr, lr, trivial⟩ (st_c ⟨rfl, rfl, rfl, rfl, trivial⟩ st_nil) rfl rfl rfl <| o_yes rfl rfl hb51 <| o_p rfl (p_sneq rfl rfl) <| o_p rfl (p_pick_f rfl hb51 rfl) <| mB rfl <| r_ch h55 (fun hb56 h56 => ?_) (fun hb56 h56 => ?_)
         ·
          refine o_no rfl rfl hb56 <| o_no rfl rfl hb56 <| o_p rfl (p_pick_t rfl hb56 rfl) <| mB rfl <| o_no rfl rfl rfl <| o_no rfl rfl rfl <| o_no rfl rfl rfl <| o_p rfl (p_pick_t rfl rfl rfl) <| o_ek (fr' := [(0, aL), (1, aI), (6, aO), (7, .box 0 0), (76, aB)]) rfl rfl <| w_cond_t rfl <| w_sr <| sB rfl ?_
          refine o_ek (fr' := [(4, aB)]) rfl rfl <| w_ret <| e_seq_r ?_
          have h57 := un_done h56 h27
          obtain rfl := sy h57
          exact e_ret (rs' := [.tmp 4]) rfl <| r_tmp (v := aB) rfl <| r_nil <| fin_gen [] rfl rfl rfl lr st_nil
         ·
          refine o_yes rfl rfl hb56 <| mV (v := .nilptr) rfl <| o_yes rfl rfl hb56 ?_
          obtain ⟨x59, hx59, h60⟩ := bind_s h56
          refine o_v (ov_call (v := aB) rfl (w_wire_Reader_Bool_nil hx59) ⟨lr, trivial⟩ rfl rfl rfl) <| o_p rfl (p_pick_f rfl hb56 rfl) <| mB rfl <| r_ch h60 (fun hb61 h61 => ?_) (fun hb61 h61 => ?_)
          ·
           refine o_no rfl rfl hb61 <| o_no rfl rfl hb61 <| o_no rfl rfl hb61 <| o_p rfl (p_pick_t rfl hb61 rfl) <| o_ek (fr' := [(0, aL), (1, aI), (6, aO), (7, .box 0 0), (76, aB)]) rfl rfl <| w_cond_t rfl <| w_sr <| sB rfl <| o_ek (fr' := [(4, aB)]) rfl rfl <| w_ret <| e_seq_r ?_
           have h62 := un_done h61 h27
           obtain rfl := sy h62
           exact e_ret (rs' := [.tmp 4]) rfl <| r_tmp (v := aB) rfl <| r_nil <| fin_gen [] rfl rfl rfl lr st_nil
          ·
           refine o_yes rfl rfl hb61 <| mV (v := .box 1 0) rfl <| o_yes rfl rfl hb61 ?_
           obtain ⟨x64, hx64, h65⟩ := bind_s h61
           refine o_call (v := aI) (σ' := [[aO, aI, aI, aB], aLIIB]) [1] rfl (w_wire_Reader_Left hx64) rfl rfl ⟨lr, trivial⟩ (st_c ⟨rfl, rfl, rfl, rfl, trivial⟩ st_nil) rfl rfl rfl <| o_yes rfl rfl hb61 <| o_p rfl (p_neq rfl rfl) <| o_p rfl (p_pick_f rfl hb61 rfl) <| o_ek (fr' := [(0, aL), (1, aI), (6, aO), (7, .box 0 0), (76, aB)]) rfl rfl <| w_ch h65 rfl (fun hb66 h66 => ?_) (fun hb66 h66 => ?_)
           ·
            refine w_sr <| sB rfl <| o_ek (fr' := [(4, aB)]) rfl rfl <| w_ret <| e_seq_r ?_
            have h67 := un_done h66 h27
            obtain rfl := sy h67
            exact e_ret (rs' := [.tmp 4]) rfl <| r_tmp (v := aB) rfl <| r_nil <| fin_gen [] rfl rfl rfl lr st_nil
           ·
            exact w_skip <| e_j _ (sy h66) (w_weak [0, 1] 2 rfl rfl rfl rfl ⟨lr, lr, lr, lr, trivial⟩ (st_r rfl (st_r rfl st_nil)))
   ·
    intro j28 hj69
    have h69 := un_go hj69 h27
    refine w_sr <| mV (v := aO) rfl <| mL rfl <| mI rfl ?_
    obtain ⟨x70, hx70, h71⟩ := bind_s h69
    refine o_v (ov_call (v := aO) rfl (w_ref01xPutInt hx70) ⟨lr, lr, trivial⟩ rfl rfl rfl) ?_
    obtain ⟨x72, hx72, h73⟩ := bind_s h71
    refine o_v (ov_call (v := aB) rfl (w_law01xequal hx72) ⟨lr, lr, trivial⟩ rfl rfl rfl) <| mB rfl <| r_ch h73 (fun hb74 h74 => ?_) (fun hb74 h74 => ?_)
    ·
     refine o_yes rfl rfl hb74 <| mV (v := .box 0 0) rfl <| o_yes rfl rfl hb74 ?_
     obtain ⟨x75, hx75, h76⟩ := bind_s h74
     refine o_call (v := aI) (σ' := [aLIIB, aLIIB]) [0] rfl (w_wire_Reader_Int hx75) rfl rfl ⟨lr, lr, lr, trivial⟩ (st_c ⟨rfl, rfl, rfl, rfl, trivial⟩ st_nil) rfl rfl rfl <| o_yes rfl rfl hb74 <| mL rfl <| o_yes rfl rfl hb74 ?_
     obtain ⟨x77, hx77, h78⟩ := bind_s h76
     refine o_call (v := .box 2 0) (σ' := [aLIIB, aLIIB, aBLI]) [] rfl (w_ref01xOpen hx77) rfl rfl ⟨lr, trivial⟩ st_nil rfl rfl rfl <| o_yes rfl rfl hb74 ?_
     obtain ⟨x79, hx79, h80⟩ := bind_s h78
     refine o_call (v := aI) (σ' := [aLIIB, aLIIB, aBLI]) [2] rfl (w_ref01xReader_Int hx79) rfl rfl ⟨lr, lr, lr, trivial⟩ (st_c ⟨rfl, rfl, rfl, trivial⟩ st_nil) rfl rfl rfl <| o_yes rfl rfl hb74 <| o_p rfl (p_eql rfl rfl) <| o_p rfl (p_pick_t rfl hb74 rfl) <| mB rfl <| r_ch h80 (fun hb81 h81 => ?_) (fun hb81 h81 => ?_)
     ·
      refine o_yes rfl rfl hb81 ?_
      obtain ⟨x82, hx82, h83⟩ := bind_s h81
      refine o_v (ov_call (v := aB) rfl (w_law01xworks hx82) trivial rfl rfl rfl) <| o_p rfl (p_pick_t rfl hb81 rfl) <| sB rfl <| o_ek (fr' := [(4, aB)]) rfl rfl <| w_ret ?_
      obtain rfl := sy h83
      exact e_ret (rs' := [.tmp 4]) rfl <| r_tmp (v := aB) rfl <| r_nil <| fin_gen [] rfl rfl rfl lr st_nil
     ·
      refine o_no rfl rfl hb81 <| o_p rfl (p_pick_f rfl hb81 rfl) <| sB rfl <| o_ek (fr' := [(4, aB)]) rfl rfl <| w_ret ?_
      obtain rfl := sy h81
      exact e_ret (rs' := [.tmp 4]) rfl <| r_tmp (v := aB) rfl <| r_nil <| fin_gen [] rfl rfl rfl lr st_nil
    ·
     refine o_no rfl rfl hb74 <| o_no rfl rfl hb74 <| o_no rfl rfl hb74 <| o_no rfl rfl hb74 <| o_no rfl rfl hb74 <| o_no rfl rfl hb74 <| o_p rfl (p_pick_f rfl hb74 rfl) <| mB rfl <| o_no rfl rfl rfl <| o_p rfl (p_pick_f rfl rfl rfl) <| sB rfl <| o_ek (fr' := [(4, aB)]) rfl rfl <| w_ret ?_
     obtain rfl := sy h74
     exact e_ret (rs' := [.tmp 4]) rfl <| r_tmp (v := aB) rfl <| r_nil <| fin_gen [] rfl rfl rfl lr st_nil
noncomputable def wire_Reader_Bool (p100v : WireReader) : Option (Bool × WireReader) :=
 (wire_Reader_dead p100v).bind fun (x1 : Bool) => cond x1 (some (false, p100v)) (cond (decide (((p100v.b_).length : Int) ≤ p100v.at_)) (some (false, (WireReader.mk p100v.b_ p100v.at_ (4 : Int) p100v.made_))) ((idx p100v.b_ p100v.at_).bind fun (x7 : UInt8) => cond (decide ((1 : Int) < ((x7).toNat : Int))) (some (false, (WireReader.mk p100v.b_ p100v.at_ (3 : Int) p100v.made_))) (some ((decide (((x7).toNat : Int) = (1 : Int))), (WireReader.mk p100v.b_ (IntKind.wrap .i64 (p100v.at_ + (1 : Int))) p100v.err_ p100v.made_)))))
noncomputable def wire_Reader_Fail (p1e : Int) (p100v : WireReader) : Option WireReader :=
 (wire_Reader_dead p100v).bind fun (x1 : Bool) => cond (!x1) (some (WireReader.mk p100v.b_ p100v.at_ p1e p100v.made_)) (some p100v)
end Go.Proofs.Ytlfggjfndmfblaa

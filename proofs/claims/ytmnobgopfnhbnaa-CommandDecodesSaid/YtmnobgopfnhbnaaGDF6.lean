import Derived.Test.YtmnobgopfnhbnaaGDTy
import Derived.Test.YtmnobgopfnhbnaaGDF0
import Derived.Test.YtmnobgopfnhbnaaGDF2
import Derived.Test.YtmnobgopfnhbnaaGDF5
namespace Go.Proofs.Ytmnobgopfnhbnaa
open Go Abs
set_option maxRecDepth 100000
set_option linter.unusedVariables false
set_option linter.unusedSimpArgs false
noncomputable def command_DecodePolicy_nil_l1 (x22 : Int) (s38 : (Int × (List (List UInt8)))) : Option (Step (Int × (List (List UInt8))) (List (List UInt8))) :=
 ((cond (decide (s38.1 < x22)) ((wire_Reader_Err_nil).bind fun (x43 : Int) => cond (decide (x43 = (0 : Int))) (some (Fl.go ())) (some (Fl.done (Step.out s38.2)))) (some (Fl.done (Step.out s38.2)))) : Option (Fl (Step (Int × (List (List UInt8))) (List (List UInt8))) Unit)).bind fun (x39 : (Fl (Step (Int × (List (List UInt8))) (List (List UInt8))) Unit)) => Fl.next x39 (fun (j41 : Unit) => ((wire_Reader_Text_nil (4096 : Int)).bind fun (x51 : (List UInt8)) => (app 16 s38.2 ([x51] : List (List UInt8))).bind fun (x53 : (List (List UInt8))) => some (Step.next ((IntKind.wrap .i64 (s38.1 + (1 : Int))), x53))))
noncomputable def command_DecodePolicy_nil  : Option ApiPolicy :=
 (wire_Reader_Text_nil (4096 : Int)).bind fun (x1 : (List UInt8)) => (command_numbers x1 (0 : Int) (0 : Int) (0 : Int) (0 : Int) (0 : Int) (0 : Int) (0 : Int) (0 : Int)).bind fun (x3 : Unit) => (command_number64_nil).bind fun (x6 : Int) => (command_number64_nil).bind fun (x8 : Int) => (command_number64_nil).bind fun (x10 : Int) => (command_number64_nil).bind fun (x12 : Int) => (command_number64_nil).bind fun (x14 : Int) => (command_number64_nil).bind fun (x16 : Int) => (command_number64_nil).bind fun (x18 : Int) => (command_number64_nil).bind fun (x20 : Int) => (command_number64_nil).bind fun (x22 : Int) => (((wire_Reader_Err_nil).bind fun (x27 : Int) => (gd ((decide (x27 = (0 : Int))) == true) (command_in x22 (0 : Int) (64 : Int))).bind fun (x29 : Bool) => cond (cond (decide (x27 = (0 : Int))) (!x29) false) ((wire_Reader_Fail_nil (3 : Int)).bind fun (x32 : Unit) => some ()) (some ())) : Option Unit).bind fun (x24 : Unit) => (((loopO (command_DecodePolicy_nil_l1 x22) (((0 : Int), ([] : (List (List UInt8)))))) : Option (List (List UInt8))).bind fun (x35 : (List (List UInt8))) => ((((wire_Reader_Err_nil).bind fun (x59 : Int) => (gd ((decide (x59 = (0 : Int))) == true) (command_RightPolicy (ApiPolicy.mk x1 x6 x8 x10 x12 x14 x16 x18 x20 x35))).bind fun (x61 : Bool) => cond (cond (decide (x59 = (0 : Int))) (!x61) false) ((wire_Reader_Fail_nil (3 : Int)).bind fun (x64 : Unit) => some ()) (some ())) : Option Unit).bind fun (x56 : Unit) => ((wire_Reader_Err_nil).bind fun (x67 : Int) => cond (!decide (x67 = (0 : Int))) (some (ApiPolicy.mk ([] : List UInt8) (0 : Int) (0 : Int) (0 : Int) (0 : Int) (0 : Int) (0 : Int) (0 : Int) (0 : Int) ([] : (List (List UInt8))))) (some (ApiPolicy.mk x1 x6 x8 x10 x12 x14 x16 x18 x20 x35)))))
theorem w_command_DecodePolicy_nil  {res : ApiPolicy} (h : command_DecodePolicy_nil = some res) : ACalls Try.prog 31 [.nilptr] [] (.agg (AV.cs (rowApiPolicy res))) [] := by
 unfold command_DecodePolicy_nil at h
 refine acalls (fn := Try.f31) [0, 2, 3, 5, 6, 7, 11, 12, 13, 14, 31, 41, 58, 63] (by kernel_rfl) Try.func31 rfl (by kernel_rfl) (by kernel_rfl) <| w_sr <| o_alloc (n := 0) (cs := [aS, aI, aI, aI, aI, aI, aI, aI, aI, .nil]) (σ' := [[aS, aI, aI, aI, aI, aI, aI, aI, aI, .nil]]) tz27 rfl rfl rfl <| o_ek (fr' := [(0, .nilptr), (2, .box 0 0)]) rfl rfl <| w_sr <| o_alloc (n := 1) (cs := [aS, aI, aI, aI, aI, aI, aI, aI, aI, .nil]) (σ' := [[aS, aI, aI, aI, aI, aI, aI, aI, aI, .nil], [aS, aI, aI, aI, aI, aI, aI, aI, aI, .nil]]) tz27 rfl rfl rfl <| o_ek (fr' := [(0, .nilptr), (2, .box 0 0), (3, .box 1 0)]) rfl rfl <| w_sr <| mV (v := .nilptr) rfl ?_
 obtain ⟨x1, hx1, h2⟩ := bind_s h
 refine o_v (ov_call (v := aS) rfl (w_wire_Reader_Text_nil hx1) ⟨lr, lr, trivial⟩ rfl rfl rfl) <| o_p rfl (p_fa tf27x0 rfl) <| o_store (v := aS) (us := [aS]) (cs := [aS, aI, aI, aI, aI, aI, aI, aI, aI, .nil]) (σ' := [[aS, aI, aI, aI, aI, aI, aI, aI, aI, .nil], [aS, aI, aI, aI, aI, aI, aI, aI, aI, .nil]]) rfl tv9 rfl rfl rfl rfl rfl rfl rfl rfl <| o_ek (fr' := [(0, .nilptr), (2, .box 0 0), (3, .box 1 0)]) rfl rfl <| w_seqw <| w_seqw <| w_region ?_
 obtain ⟨x3, hx3, h4⟩ := bind_s h2
 refine o_callT (v := .ptrs [(1, 1), (1, 2), (1, 3), (1, 4), (1, 5), (1, 6), (1, 7), (1, 8)]) (σ' := [[aS, aI, aI, aI, aI, aI, aI, aI, aI, .nil], [aS, aI, aI, aI, aI, aI, aI, aI, aI, .nil]]) 11 [1] [] rfl (w_command_numbers hx3) rfl rfl rfl ⟨lr, trivial⟩ (st_p ⟨lr, lr, lr, lr, lr, lr, lr, lr, lr, lr, trivial⟩ st_nil) rfl rfl rfl <| o_p rfl (p_lenp ti70 rfl) <| mI rfl <| o_ek (fr' := [(0, .nilptr), (2, .box 0 0), (3, .box 1 0), (11, .ptrs [(1, 1), (1, 2), (1, 3), (1, 4), (1, 5), (1, 6), (1, 7), (1, 8)]), (12, aI), (13, aI)]) rfl rfl <| w_block <| w_unr 64 <| lu_s <| w_sr <| o_p rfl (p_k (p_lss rfl rfl) (show _ = .bool true from rfl)) <| o_ek (fr' := [(0, .nilptr), (2, .box 0 0), (3, .box 1 0), (11, .ptrs [(1, 1), (1, 2), (1, 3), (1, 4), (1, 5), (1, 6), (1, 7), (1, 8)]), (12, aI), (13, aI), (14, aB)]) rfl rfl <| w_seqw <| w_cond_t rfl ?_
 refine w_skip <| e_kw <| w_seqw <| w_block <| w_sr <| o_p rfl (p_iap (p := (1, 1)) ts70 rfl rfl rfl) <| o_p rfl (p_loadp tv69 rfl) <| sV (v := .box 1 1) rfl <| o_ek (fr' := [(0, .nilptr), (2, .box 0 0), (3, .box 1 0), (5, .box 1 1), (11, .ptrs [(1, 1), (1, 2), (1, 3), (1, 4), (1, 5), (1, 6), (1, 7), (1, 8)]), (12, aI), (13, aI)]) rfl rfl <| w_region <| mV (v := .box 1 1) rfl <| mV (v := .nilptr) rfl ?_
 obtain ⟨x6, hx6, h7⟩ := bind_s h4
 refine o_v (ov_call (v := aI) rfl (w_command_number64_nil hx6) ⟨lr, trivial⟩ rfl rfl rfl) <| o_p rfl (p_nc rfl) <| o_store (v := aI) (us := [aI]) (cs := [aS, aI, aI, aI, aI, aI, aI, aI, aI, .nil]) (σ' := [[aS, aI, aI, aI, aI, aI, aI, aI, aI, .nil], [aS, aI, aI, aI, aI, aI, aI, aI, aI, .nil]]) rfl tv3 rfl rfl rfl rfl rfl rfl rfl rfl <| o_end (fr' := [(0, .nilptr), (2, .box 0 0), (3, .box 1 0), (5, .box 1 1), (11, .ptrs [(1, 1), (1, 2), (1, 3), (1, 4), (1, 5), (1, 6), (1, 7), (1, 8)]), (12, aI), (13, aI)]) rfl <| e_blk_n <| e_kw <| w_region <| o_p rfl (p_k (p_add rfl rfl) (show _ = .int .i64 (1 : Int) from rfl)) <| mI rfl <| o_end (fr' := [(0, .nilptr), (2, .box 0 0), (3, .box 1 0), (5, .box 1 1), (11, .ptrs [(1, 1), (1, 2), (1, 3), (1, 4), (1, 5), (1, 6), (1, 7), (1, 8)]), (12, aI), (13, aI)]) rfl <| e_seq_n <| lu_s <| w_seqw ?_
 refine w_region <| o_p rfl (p_k (p_lss rfl rfl) (show _ = .bool true from rfl)) <| o_ek (fr' := [(0, .nilptr), (2, .box 0 0), (3, .box 1 0), (11, .ptrs [(1, 1), (1, 2), (1, 3), (1, 4), (1, 5), (1, 6), (1, 7), (1, 8)]), (12, aI), (13, aI), (14, aB)]) rfl rfl <| w_seqw <| w_cond_t rfl <| w_skip <| e_kw <| w_seqw <| w_block <| w_sr <| o_p rfl (p_iap (p := (1, 2)) ts70 rfl rfl rfl) <| o_p rfl (p_loadp tv69 rfl) ?_
 refine sV (v := .box 1 2) rfl <| o_ek (fr' := [(0, .nilptr), (2, .box 0 0), (3, .box 1 0), (5, .box 1 2), (11, .ptrs [(1, 1), (1, 2), (1, 3), (1, 4), (1, 5), (1, 6), (1, 7), (1, 8)]), (12, aI), (13, aI)]) rfl rfl <| w_region <| mV (v := .box 1 2) rfl <| mV (v := .nilptr) rfl ?_
 obtain ⟨x8, hx8, h9⟩ := bind_s h7
 refine o_v (ov_call (v := aI) rfl (w_command_number64_nil hx8) ⟨lr, trivial⟩ rfl rfl rfl) <| o_p rfl (p_nc rfl) <| o_store (v := aI) (us := [aI]) (cs := [aS, aI, aI, aI, aI, aI, aI, aI, aI, .nil]) (σ' := [[aS, aI, aI, aI, aI, aI, aI, aI, aI, .nil], [aS, aI, aI, aI, aI, aI, aI, aI, aI, .nil]]) rfl tv3 rfl rfl rfl rfl rfl rfl rfl rfl <| o_end (fr' := [(0, .nilptr), (2, .box 0 0), (3, .box 1 0), (5, .box 1 2), (11, .ptrs [(1, 1), (1, 2), (1, 3), (1, 4), (1, 5), (1, 6), (1, 7), (1, 8)]), (12, aI), (13, aI)]) rfl <| e_blk_n <| e_kw <| w_region <| o_p rfl (p_k (p_add rfl rfl) (show _ = .int .i64 (2 : Int) from rfl)) <| mI rfl <| o_end (fr' := [(0, .nilptr), (2, .box 0 0), (3, .box 1 0), (5, .box 1 2), (11, .ptrs [(1, 1), (1, 2), (1, 3), (1, 4), (1, 5), (1, 6), (1, 7), (1, 8)]), (12, aI), (13, aI)]) rfl <| e_seq_n <| lu_s <| w_seqw ?_
 refine w_region <| o_p rfl (p_k (p_lss rfl rfl) (show _ = .bool true from rfl)) <| o_ek (fr' := [(0, .nilptr), (2, .box 0 0), (3, .box 1 0), (11, .ptrs [(1, 1), (1, 2), (1, 3), (1, 4), (1, 5), (1, 6), (1, 7), (1, 8)]), (12, aI), (13, aI), (14, aB)]) rfl rfl <| w_seqw <| w_cond_t rfl <| w_skip <| e_kw <| w_seqw <| w_block <| w_sr <| o_p rfl (p_iap (p := (1, 3)) ts70 rfl rfl rfl) <| o_p rfl (p_loadp tv69 rfl) ?_
 refine sV (v := .box 1 3) rfl <| o_ek (fr' := [(0, .nilptr), (2, .box 0 0), (3, .box 1 0), (5, .box 1 3), (11, .ptrs [(1, 1), (1, 2), (1, 3), (1, 4), (1, 5), (1, 6), (1, 7), (1, 8)]), (12, aI), (13, aI)]) rfl rfl <| w_region <| mV (v := .box 1 3) rfl <| mV (v := .nilptr) rfl ?_
 obtain ⟨x10, hx10, h11⟩ := bind_s h9
 refine o_v (ov_call (v := aI) rfl (w_command_number64_nil hx10) ⟨lr, trivial⟩ rfl rfl rfl) <| o_p rfl (p_nc rfl) <| o_store (v := aI) (us := [aI]) (cs := [aS, aI, aI, aI, aI, aI, aI, aI, aI, .nil]) (σ' := [[aS, aI, aI, aI, aI, aI, aI, aI, aI, .nil], [aS, aI, aI, aI, aI, aI, aI, aI, aI, .nil]]) rfl tv3 rfl rfl rfl rfl rfl rfl rfl rfl <| o_end (fr' := [(0, .nilptr), (2, .box 0 0), (3, .box 1 0), (5, .box 1 3), (11, .ptrs [(1, 1), (1, 2), (1, 3), (1, 4), (1, 5), (1, 6), (1, 7), (1, 8)]), (12, aI), (13, aI)]) rfl <| e_blk_n <| e_kw <| w_region <| o_p rfl (p_k (p_add rfl rfl) (show _ = .int .i64 (3 : Int) from rfl)) <| mI rfl <| o_end (fr' := [(0, .nilptr), (2, .box 0 0), (3, .box 1 0), (5, .box 1 3), (11, .ptrs [(1, 1), (1, 2), (1, 3), (1, 4), (1, 5), (1, 6), (1, 7), (1, 8)]), (12, aI), (13, aI)]) rfl <| e_seq_n <| lu_s <| w_seqw ?_
 refine w_region <| o_p rfl (p_k (p_lss rfl rfl) (show _ = .bool true from rfl)) <| o_ek (fr' := [(0, .nilptr), (2, .box 0 0), (3, .box 1 0), (11, .ptrs [(1, 1), (1, 2), (1, 3), (1, 4), (1, 5), (1, 6), (1, 7), (1, 8)]), (12, aI), (13, aI), (14, aB)]) rfl rfl <| w_seqw <| w_cond_t rfl <| w_skip <| e_kw <| w_seqw <| w_block <| w_sr <| o_p rfl (p_iap (p := (1, 4)) ts70 rfl rfl rfl) <| o_p rfl (p_loadp tv69 rfl) ?_
 refine sV (v := .box 1 4) rfl <| o_ek (fr' := [(0, .nilptr), (2, .box 0 0), (3, .box 1 0), (5, .box 1 4), (11, .ptrs [(1, 1), (1, 2), (1, 3), (1, 4), (1, 5), (1, 6), (1, 7), (1, 8)]), (12, aI), (13, aI)]) rfl rfl <| w_region <| mV (v := .box 1 4) rfl <| mV (v := .nilptr) rfl ?_
 obtain ⟨x12, hx12, h13⟩ := bind_s h11
 refine o_v (ov_call (v := aI) rfl (w_command_number64_nil hx12) ⟨lr, trivial⟩ rfl rfl rfl) <| o_p rfl (p_nc rfl) <| o_store (v := aI) (us := [aI]) (cs := [aS, aI, aI, aI, aI, aI, aI, aI, aI, .nil]) (σ' := [[aS, aI, aI, aI, aI, aI, aI, aI, aI, .nil], [aS, aI, aI, aI, aI, aI, aI, aI, aI, .nil]]) rfl tv3 rfl rfl rfl rfl rfl rfl rfl rfl <| o_end (fr' := [(0, .nilptr), (2, .box 0 0), (3, .box 1 0), (5, .box 1 4), (11, .ptrs [(1, 1), (1, 2), (1, 3), (1, 4), (1, 5), (1, 6), (1, 7), (1, 8)]), (12, aI), (13, aI)]) rfl <| e_blk_n <| e_kw <| w_region <| o_p rfl (p_k (p_add rfl rfl) (show _ = .int .i64 (4 : Int) from rfl)) <| mI rfl <| o_end (fr' := [(0, .nilptr), (2, .box 0 0), (3, .box 1 0), (5, .box 1 4), (11, .ptrs [(1, 1), (1, 2), (1, 3), (1, 4), (1, 5), (1, 6), (1, 7), (1, 8)]), (12, aI), (13, aI)]) rfl <| e_seq_n <| lu_s <| w_seqw ?_
 refine w_region <| o_p rfl (p_k (p_lss rfl rfl) (show _ = .bool true from rfl)) <| o_ek (fr' := [(0, .nilptr), (2, .box 0 0), (3, .box 1 0), (11, .ptrs [(1, 1), (1, 2), (1, 3), (1, 4), (1, 5), (1, 6), (1, 7), (1, 8)]), (12, aI), (13, aI), (14, aB)]) rfl rfl <| w_seqw <| w_cond_t rfl <| w_skip <| e_kw <| w_seqw <| w_block <| w_sr <| o_p rfl (p_iap (p := (1, 5)) ts70 rfl rfl rfl) <| o_p rfl (p_loadp tv69 rfl) ?_
 refine sV (v := .box 1 5) rfl <| o_ek (fr' := [(0, .nilptr), (2, .box 0 0), (3, .box 1 0), (5, .box 1 5), (11, .ptrs [(1, 1), (1, 2), (1, 3), (1, 4), (1, 5), (1, 6), (1, 7), (1, 8)]), (12, aI), (13, aI)]) rfl rfl <| w_region <| mV (v := .box 1 5) rfl <| mV (v := .nilptr) rfl ?_
 obtain ⟨x14, hx14, h15⟩ := bind_s h13
 refine o_v (ov_call (v := aI) rfl (w_command_number64_nil hx14) ⟨lr, trivial⟩ rfl rfl rfl) <| o_p rfl (p_nc rfl) <| o_store (v := aI) (us := [aI]) (cs := [aS, aI, aI, aI, aI, aI, aI, aI, aI, .nil]) (σ' := [[aS, aI, aI, aI, aI, aI, aI, aI, aI, .nil], [aS, aI, aI, aI, aI, aI, aI, aI, aI, .nil]]) rfl tv3 rfl rfl rfl rfl rfl rfl rfl rfl <| o_end (fr' := [(0, .nilptr), (2, .box 0 0), (3, .box 1 0), (5, .box 1 5), (11, .ptrs [(1, 1), (1, 2), (1, 3), (1, 4), (1, 5), (1, 6), (1, 7), (1, 8)]), (12, aI), (13, aI)]) rfl <| e_blk_n <| e_kw <| w_region <| o_p rfl (p_k (p_add rfl rfl) (show _ = .int .i64 (5 : Int) from rfl)) <| mI rfl <| o_end (fr' := [(0, .nilptr), (2, .box 0 0), (3, .box 1 0), (5, .box 1 5), (11, .ptrs [(1, 1), (1, 2), (1, 3), (1, 4), (1, 5), (1, 6), (1, 7), (1, 8)]), (12, aI), (13, aI)]) rfl <| e_seq_n <| lu_s <| w_seqw ?_
 refine w_region <| o_p rfl (p_k (p_lss rfl rfl) (show _ = .bool true from rfl)) <| o_ek (fr' := [(0, .nilptr), (2, .box 0 0), (3, .box 1 0), (11, .ptrs [(1, 1), (1, 2), (1, 3), (1, 4), (1, 5), (1, 6), (1, 7), (1, 8)]), (12, aI), (13, aI), (14, aB)]) rfl rfl <| w_seqw <| w_cond_t rfl <| w_skip <| e_kw <| w_seqw <| w_block <| w_sr <| o_p rfl (p_iap (p := (1, 6)) ts70 rfl rfl rfl) <| o_p rfl (p_loadp tv69 rfl) ?_
 refine sV (v := .box 1 6) rfl <| o_ek (fr' := [(0, .nilptr), (2, .box 0 0), (3, .box 1 0), (5, .box 1 6), (11, .ptrs [(1, 1), (1, 2), (1, 3), (1, 4), (1, 5), (1, 6), (1, 7), (1, 8)]), (12, aI), (13, aI)]) rfl rfl <| w_region <| mV (v := .box 1 6) rfl <| mV (v := .nilptr) rfl ?_
 obtain ⟨x16, hx16, h17⟩ := bind_s h15
 refine o_v (ov_call (v := aI) rfl (w_command_number64_nil hx16) ⟨lr, trivial⟩ rfl rfl rfl) <| o_p rfl (p_nc rfl) <| o_store (v := aI) (us := [aI]) (cs := [aS, aI, aI, aI, aI, aI, aI, aI, aI, .nil]) (σ' := [[aS, aI, aI, aI, aI, aI, aI, aI, aI, .nil], [aS, aI, aI, aI, aI, aI, aI, aI, aI, .nil]]) rfl tv3 rfl rfl rfl rfl rfl rfl rfl rfl <| o_end (fr' := [(0, .nilptr), (2, .box 0 0), (3, .box 1 0), (5, .box 1 6), (11, .ptrs [(1, 1), (1, 2), (1, 3), (1, 4), (1, 5), (1, 6), (1, 7), (1, 8)]), (12, aI), (13, aI)]) rfl <| e_blk_n <| e_kw <| w_region <| o_p rfl (p_k (p_add rfl rfl) (show _ = .int .i64 (6 : Int) from rfl)) <| mI rfl <| o_end (fr' := [(0, .nilptr), (2, .box 0 0), (3, .box 1 0), (5, .box 1 6), (11, .ptrs [(1, 1), (1, 2), (1, 3), (1, 4), (1, 5), (1, 6), (1, 7), (1, 8)]), (12, aI), (13, aI)]) rfl <| e_seq_n <| lu_s <| w_seqw ?_
 refine w_region <| o_p rfl (p_k (p_lss rfl rfl) (show _ = .bool true from rfl)) <| o_ek (fr' := [(0, .nilptr), (2, .box 0 0), (3, .box 1 0), (11, .ptrs [(1, 1), (1, 2), (1, 3), (1, 4), (1, 5), (1, 6), (1, 7), (1, 8)]), (12, aI), (13, aI), (14, aB)]) rfl rfl <| w_seqw <| w_cond_t rfl <| w_skip <| e_kw <| w_seqw <| w_block <| w_sr <| o_p rfl (p_iap (p := (1, 7)) ts70 rfl rfl rfl) <| o_p rfl (p_loadp tv69 rfl) ?_
 refine sV (v := .box 1 7) rfl <| o_ek (fr' := [(0, .nilptr), (2, .box 0 0), (3, .box 1 0), (5, .box 1 7), (11, .ptrs [(1, 1), (1, 2), (1, 3), (1, 4), (1, 5), (1, 6), (1, 7), (1, 8)]), (12, aI), (13, aI)]) rfl rfl <| w_region <| mV (v := .box 1 7) rfl <| mV (v := .nilptr) rfl ?_
 obtain ⟨x18, hx18, h19⟩ := bind_s h17
 refine o_v (ov_call (v := aI) rfl (w_command_number64_nil hx18) ⟨lr, trivial⟩ rfl rfl rfl) <| o_p rfl (p_nc rfl) <| o_store (v := aI) (us := [aI]) (cs := [aS, aI, aI, aI, aI, aI, aI, aI, aI, .nil]) (σ' := [[aS, aI, aI, aI, aI, aI, aI, aI, aI, .nil], [aS, aI, aI, aI, aI, aI, aI, aI, aI, .nil]]) rfl tv3 rfl rfl rfl rfl rfl rfl rfl rfl <| o_end (fr' := [(0, .nilptr), (2, .box 0 0), (3, .box 1 0), (5, .box 1 7), (11, .ptrs [(1, 1), (1, 2), (1, 3), (1, 4), (1, 5), (1, 6), (1, 7), (1, 8)]), (12, aI), (13, aI)]) rfl <| e_blk_n <| e_kw <| w_region <| o_p rfl (p_k (p_add rfl rfl) (show _ = .int .i64 (7 : Int) from rfl)) <| mI rfl <| o_end (fr' := [(0, .nilptr), (2, .box 0 0), (3, .box 1 0), (5, .box 1 7), (11, .ptrs [(1, 1), (1, 2), (1, 3), (1, 4), (1, 5), (1, 6), (1, 7), (1, 8)]), (12, aI), (13, aI)]) rfl <| e_seq_n <| lu_s <| w_seqw ?_
 refine w_region <| o_p rfl (p_k (p_lss rfl rfl) (show _ = .bool true from rfl)) <| o_ek (fr' := [(0, .nilptr), (2, .box 0 0), (3, .box 1 0), (11, .ptrs [(1, 1), (1, 2), (1, 3), (1, 4), (1, 5), (1, 6), (1, 7), (1, 8)]), (12, aI), (13, aI), (14, aB)]) rfl rfl <| w_seqw <| w_cond_t rfl <| w_skip <| e_kw <| w_seqw <| w_block <| w_sr <| o_p rfl (p_iap (p := (1, 8)) ts70 rfl rfl rfl) <| o_p rfl (p_loadp tv69 rfl) ?_
 refine sV (v := .box 1 8) rfl <| o_ek (fr' := [(0, .nilptr), (2, .box 0 0), (3, .box 1 0), (5, .box 1 8), (11, .ptrs [(1, 1), (1, 2), (1, 3), (1, 4), (1, 5), (1, 6), (1, 7), (1, 8)]), (12, aI), (13, aI)]) rfl rfl <| w_region <| mV (v := .box 1 8) rfl <| mV (v := .nilptr) rfl ?_
 obtain ⟨x20, hx20, h21⟩ := bind_s h19
 refine o_v (ov_call (v := aI) rfl (w_command_number64_nil hx20) ⟨lr, trivial⟩ rfl rfl rfl) <| o_p rfl (p_nc rfl) <| o_store (v := aI) (us := [aI]) (cs := [aS, aI, aI, aI, aI, aI, aI, aI, aI, .nil]) (σ' := [[aS, aI, aI, aI, aI, aI, aI, aI, aI, .nil], [aS, aI, aI, aI, aI, aI, aI, aI, aI, .nil]]) rfl tv3 rfl rfl rfl rfl rfl rfl rfl rfl <| o_end (fr' := [(0, .nilptr), (2, .box 0 0), (3, .box 1 0), (5, .box 1 8), (11, .ptrs [(1, 1), (1, 2), (1, 3), (1, 4), (1, 5), (1, 6), (1, 7), (1, 8)]), (12, aI), (13, aI)]) rfl <| e_blk_n <| e_kw <| w_region <| o_p rfl (p_k (p_add rfl rfl) (show _ = .int .i64 (8 : Int) from rfl)) <| mI rfl <| o_end (fr' := [(0, .nilptr), (2, .box 0 0), (3, .box 1 0), (5, .box 1 8), (11, .ptrs [(1, 1), (1, 2), (1, 3), (1, 4), (1, 5), (1, 6), (1, 7), (1, 8)]), (12, aI), (13, aI)]) rfl <| e_seq_n <| lu_s <| w_seqw ?_
 refine w_region <| o_p rfl (p_k (p_lss rfl rfl) (show _ = .bool false from rfl)) <| o_ek (fr' := [(0, .nilptr), (2, .box 0 0), (3, .box 1 0), (11, .ptrs [(1, 1), (1, 2), (1, 3), (1, 4), (1, 5), (1, 6), (1, 7), (1, 8)]), (12, aI), (13, aI), (14, aB)]) rfl rfl <| w_seqw <| w_cond_f rfl <| w_exit <| e_seq_x <| e_seq_x <| e_blk_h <| e_kw <| w_sr <| mV (v := .nilptr) rfl ?_
 obtain ⟨x22, hx22, h23⟩ := bind_s h21
 refine o_v (ov_call (v := aI) rfl (w_command_number64_nil hx22) ⟨lr, trivial⟩ rfl rfl rfl) <| sI rfl <| o_ek (fr' := [(0, .nilptr), (2, .box 0 0), (3, .box 1 0), (6, aI)]) rfl rfl ?_
 obtain ⟨x24, hx24, h25⟩ := bind_s h23
 refine w_join (fun j26 => x24 = j26) (fun (j26 : Unit) => ([(0, .nilptr), (2, .box 0 0), (3, .box 1 0), (6, .c (.int .i64 x22))] : Fr)) (fun (j26 : Unit) => ([[.c (.str ([] : List UInt8)), .c (.int .i64 (0 : Int)), .c (.int .i64 (0 : Int)), .c (.int .i64 (0 : Int)), .c (.int .i64 (0 : Int)), .c (.int .i64 (0 : Int)), .c (.int .i64 (0 : Int)), .c (.int .i64 (0 : Int)), .c (.int .i64 (0 : Int)), .nil], [.c (.str x1), .c (.int .i64 x6), .c (.int .i64 x8), .c (.int .i64 x10), .c (.int .i64 x12), .c (.int .i64 x14), .c (.int .i64 x16), .c (.int .i64 x18), .c (.int .i64 x20), .nil]] : St)) ?_ ?_
 ·
  refine w_sr <| mV (v := .nilptr) rfl ?_
  obtain ⟨x27, hx27, h28⟩ := bind_s hx24
  refine o_v (ov_call (v := aI) rfl (w_wire_Reader_Err_nil hx27) ⟨lr, trivial⟩ rfl rfl rfl) <| o_p rfl (p_eql rfl rfl) <| mB rfl <| og rfl rfl rfl (fun hc => (p_move (v := aI) rfl)) ?_
  obtain ⟨x29, hx29, h30⟩ := bind_s h28
  refine o_g rfl rfl (fun hc => ov_call (v := aB) rfl (w_command_in (gd_some hx29 hc)) ⟨(le_gv (gx rfl hc) lr), lr, lr, trivial⟩ (ok_eq (by repeat (first | exact ok_nil | refine ok_cons rfl ?_ | refine ok_cons (dgv rfl) ?_))) rfl rfl) ?_
  refine og rfl rfl rfl (fun hc => (p_not (gx rfl hc))) <| o_p rfl (p_picky rfl rfl rfl (fun e => keq e)) <| o_ek (fr' := [(0, .nilptr), (2, .box 0 0), (3, .box 1 0), (6, aI), (31, aB)]) rfl rfl <| w_ch h30 rfl (fun hb31 h31 => ?_) (fun hb31 h31 => ?_)
  ·
   refine w_region <| mV (v := .nilptr) rfl ?_
   obtain ⟨x32, hx32, h33⟩ := bind_s h31
   exact o_v (ov_call (v := .any) rfl (w_wire_Reader_Fail_nil hx32) ⟨lr, lr, trivial⟩ rfl rfl rfl) <| o_end (fr' := [(0, .nilptr), (2, .box 0 0), (3, .box 1 0), (6, aI), (31, aB)]) rfl <| e_j _ (sy h33) (w_weak [] 2 rfl rfl rfl rfl ⟨lr, lr, lr, lr, trivial⟩ (st_r rfl (st_r rfl st_nil)))
  ·
   exact w_skip <| e_j _ (sy h31) (w_weak [] 2 rfl rfl rfl rfl ⟨lr, lr, lr, lr, trivial⟩ (st_r rfl (st_r rfl st_nil)))
 ·
  intro j26 hj34
  subst hj34
  refine w_seqw <| w_sr <| sI rfl <| o_ek (fr' := [(0, .nilptr), (2, .box 0 0), (3, .box 1 0), (6, aI), (7, aI)]) rfl rfl ?_
  obtain ⟨x35, hx35, h36⟩ := bind_s h25
  refine w_jtail cl_kw (fun j37 => x35 = j37) (fun (j37 : (List (List UInt8))) => ([(0, .nilptr), (2, .box 0 0), (3, .box 1 0)] : Fr)) (fun (j37 : (List (List UInt8))) => ([[.c (.str ([] : List UInt8)), .c (.int .i64 (0 : Int)), .c (.int .i64 (0 : Int)), .c (.int .i64 (0 : Int)), .c (.int .i64 (0 : Int)), .c (.int .i64 (0 : Int)), .c (.int .i64 (0 : Int)), .c (.int .i64 (0 : Int)), .c (.int .i64 (0 : Int)), .nil], [.c (.str x1), .c (.int .i64 x6), .c (.int .i64 x8), .c (.int .i64 x10), .c (.int .i64 x12), .c (.int .i64 x14), .c (.int .i64 x16), .c (.int .i64 x18), .c (.int .i64 x20), AV.os 0 1 rowS j37]] : St)) ?_ ?_
  ·
   refine w_block <| w_loopo _ (fun (s38 : (Int × (List (List UInt8)))) => ([(0, .nilptr), (2, .box 0 0), (3, .box 1 0), (6, .c (.int .i64 x22)), (7, .c (.int .i64 s38.1))] : Fr)) (fun (s38 : (Int × (List (List UInt8)))) => ([[.c (.str ([] : List UInt8)), .c (.int .i64 (0 : Int)), .c (.int .i64 (0 : Int)), .c (.int .i64 (0 : Int)), .c (.int .i64 (0 : Int)), .c (.int .i64 (0 : Int)), .c (.int .i64 (0 : Int)), .c (.int .i64 (0 : Int)), .c (.int .i64 (0 : Int)), .nil], [.c (.str x1), .c (.int .i64 x6), .c (.int .i64 x8), .c (.int .i64 x10), .c (.int .i64 x12), .c (.int .i64 x14), .c (.int .i64 x16), .c (.int .i64 x18), .c (.int .i64 x20), AV.os 0 1 rowS s38.2]] : St)) hx35 (w_weak [1000000] 2 rfl rfl rfl rfl ⟨lr, lr, lr, lr, lr, trivial⟩ (st_r rfl (st_p ⟨lr, lr, lr, lr, lr, lr, lr, lr, lr, (le_nos rfl), trivial⟩ st_nil))) ?_
   intro s38 st38 hs38 ho38
   unfold command_DecodePolicy_nil_l1 at hs38
   obtain ⟨x39, hx39, h40⟩ := bind_s hs38
   refine w_join (fun j41 => x39 = Fl.go j41) (fun (j41 : Unit) => ([(0, .nilptr), (2, .box 0 0), (3, .box 1 0), (6, .c (.int .i64 x22)), (7, .c (.int .i64 s38.1))] : Fr)) (fun (j41 : Unit) => ([[.c (.str ([] : List UInt8)), .c (.int .i64 (0 : Int)), .c (.int .i64 (0 : Int)), .c (.int .i64 (0 : Int)), .c (.int .i64 (0 : Int)), .c (.int .i64 (0 : Int)), .c (.int .i64 (0 : Int)), .c (.int .i64 (0 : Int)), .c (.int .i64 (0 : Int)), .nil], [.c (.str x1), .c (.int .i64 x6), .c (.int .i64 x8), .c (.int .i64 x10), .c (.int .i64 x12), .c (.int .i64 x14), .c (.int .i64 x16), .c (.int .i64 x18), .c (.int .i64 x20), AV.os 0 1 rowS s38.2]] : St)) ?_ ?_
   ·
    refine w_sr <| mI rfl <| mI rfl <| o_p rfl (p_lss rfl rfl) <| mB rfl <| r_ch hx39 (fun hb42 h42 => ?_) (fun hb42 h42 => ?_)
    ·
     refine o_yes rfl rfl hb42 <| mV (v := .nilptr) rfl <| o_yes rfl rfl hb42 ?_
     obtain ⟨x43, hx43, h44⟩ := bind_s h42
     refine o_v (ov_call (v := aI) rfl (w_wire_Reader_Err_nil hx43) ⟨lr, trivial⟩ rfl rfl rfl) <| o_yes rfl rfl hb42 <| o_p rfl (p_eql rfl rfl) <| o_p rfl (p_pick_t rfl hb42 rfl) <| o_ek (fr' := [(0, .nilptr), (2, .box 0 0), (3, .box 1 0), (6, aI), (7, aI), (41, aB)]) rfl rfl <| w_ch h44 rfl (fun hb45 h45 => ?_) (fun hb45 h45 => ?_)
     ·
      exact w_skip <| e_j _ (sy h45) (w_weak [0] 2 rfl rfl rfl rfl ⟨lr, lr, lr, lr, lr, trivial⟩ (st_r rfl (st_r rfl st_nil)))
     ·
      refine w_exit <| e_seq_x <| e_seq_x <| e_blk_h ?_
      have h46 := un_done h45 h40
      have h47 := un_out h46 ho38
      exact e_j _ (sy h47) (w_weak [0] 2 rfl rfl rfl rfl ⟨lr, lr, lr, trivial⟩ (st_r rfl (st_r rfl st_nil)))
    ·
     refine o_no rfl rfl hb42 <| o_no rfl rfl hb42 <| o_no rfl rfl hb42 <| o_p rfl (p_pick_f rfl hb42 rfl) <| o_ek (fr' := [(0, .nilptr), (2, .box 0 0), (3, .box 1 0), (6, aI), (7, aI), (41, aB)]) rfl rfl <| w_cond_f rfl <| w_exit <| e_seq_x <| e_seq_x <| e_blk_h ?_
     have h48 := un_done h42 h40
     have h49 := un_out h48 ho38
     exact e_j _ (sy h49) (w_weak [0] 2 rfl rfl rfl rfl ⟨lr, lr, lr, trivial⟩ (st_r rfl (st_r rfl st_nil)))
   ·
    intro j41 hj50
    have h50 := un_go hj50 h40
    refine w_seqw <| w_block <| w_planT [.q 0, .q 1, .q 2, .n 3 [0, 1], .n 4 [0, 1], .n 5 [], .q 6, .n 7 []] [(some 44, [3]), (some 45, [44]), (some 46, [0]), (some 47, [46]), (some 48, [47]), (some 49, [45, 48]), (some 50, [3]), (none, [50, 49])] [0, 1, 0, 4, 12, 31, 63, 127] (by kernel_rfl) <| dq rfl rfl (p_fa tf27x9 rfl) <| dq rfl rfl (p_load (v := aO) tv23 rfl rfl rfl) <| dq rfl rfl (p_move (v := .nilptr) rfl) <| d_n rfl ?_ rfl
    obtain ⟨x51, hx51, h52⟩ := bind_s h50
    refine o_v (ov_call (v := aS) rfl (w_wire_Reader_Text_nil hx51) ⟨lr, lr, trivial⟩ rfl rfl rfl) <| o_rc <| ⟨(rc_q (v := .box 1 9) rfl rfl (qv_p rfl (p_fa tf27x9 rfl)) (rc_q (v := aO) rfl rfl (qv_p rfl (p_load (v := aO) tv23 rfl rfl rfl)) rc_nil)), ?_⟩
    refine d_n rfl ?_ rfl
    refine o_rows (row := rowS) (xs := ([x51] : List (List UInt8))) (rows := [[_]]) (σ' := [[aS, aI, aI, aI, aI, aI, aI, aI, aI, .nil], [aS, aI, aI, aI, aI, aI, aI, aI, aI, aO]]) [0] ts23 rfl rfl rfl (arow_cons rfl arow_nil) rfl rfl <| o_rc <| ⟨(rc_q (v := .box 1 9) rfl rfl (qv_p rfl (p_fa tf27x9 rfl)) (rc_q (v := aO) rfl rfl (qv_p rfl (p_load (v := aO) tv23 rfl rfl rfl)) rc_nil)), ?_⟩
    refine d_n rfl ?_ rfl
    obtain ⟨x53, hx53, h54⟩ := bind_s h52
    refine o_app (row := rowS) ts23 rfl ti23 rfl (isl_o rfl) (fun _ => rfl) hx53 <| o_rc <| ⟨rc_nil, ?_⟩
    refine dq rfl rfl (p_fa tf27x9 rfl) <| d_n rfl ?_ rfl
    refine o_store (v := aO) (us := [aO]) (cs := aSIIIIIIIIL) (σ' := [[aS, aI, aI, aI, aI, aI, aI, aI, aI, .nil], [aS, aI, aI, aI, aI, aI, aI, aI, aI, aO]]) rfl tv23 rfl rfl rfl rfl rfl rfl rfl rfl <| o_rc <| ⟨rc_nil, ?_⟩
    exact d_end (fr' := [(0, .nilptr), (2, .box 0 0), (3, .box 1 0), (6, aI), (7, aI)]) rfl <| e_blk_n <| e_kw <| w_region <| mI rfl <| o_p rfl (p_add rfl rfl) <| sI rfl <| o_end (fr' := [(0, .nilptr), (2, .box 0 0), (3, .box 1 0), (6, aI), (7, aI)]) rfl <| e_l _ (sy h54) (w_weak [784] 2 rfl rfl rfl rfl ⟨lr, lr, lr, lr, lr, trivial⟩ (st_r rfl (st_r rfl st_nil)))
  ·
   intro j37 hj55
   subst hj55
   refine e_kw ?_
   obtain ⟨x56, hx56, h57⟩ := bind_s h36
   refine w_join (fun j58 => x56 = j58) (fun (j58 : Unit) => ([(0, .nilptr), (2, .box 0 0), (3, .box 1 0)] : Fr)) (fun (j58 : Unit) => ([[.c (.str ([] : List UInt8)), .c (.int .i64 (0 : Int)), .c (.int .i64 (0 : Int)), .c (.int .i64 (0 : Int)), .c (.int .i64 (0 : Int)), .c (.int .i64 (0 : Int)), .c (.int .i64 (0 : Int)), .c (.int .i64 (0 : Int)), .c (.int .i64 (0 : Int)), .nil], [.c (.str x1), .c (.int .i64 x6), .c (.int .i64 x8), .c (.int .i64 x10), .c (.int .i64 x12), .c (.int .i64 x14), .c (.int .i64 x16), .c (.int .i64 x18), .c (.int .i64 x20), AV.os 0 1 rowS x35]] : St)) ?_ ?_
   ·
    refine w_sr <| mV (v := .nilptr) rfl ?_
    obtain ⟨x59, hx59, h60⟩ := bind_s hx56
    refine o_v (ov_call (v := aI) rfl (w_wire_Reader_Err_nil hx59) ⟨lr, trivial⟩ rfl rfl rfl) <| o_p rfl (p_eql rfl rfl) <| mB rfl <| og rfl rfl rfl (fun hc => (p_loads (us := [aS, aI, aI, aI, aI, aI, aI, aI, aI, aO]) tv27 rfl rfl rfl rfl)) ?_
    obtain ⟨x61, hx61, h62⟩ := bind_s h60
    refine o_g rfl rfl (fun hc => ov_call (v := aB) rfl (w_command_RightPolicy (gd_some hx61 hc)) ⟨(le_gv (gx rfl hc) (le_aggc rfl ⟨rfl, rfl, rfl, rfl, rfl, rfl, rfl, rfl, rfl, rfl, trivial⟩)), trivial⟩ (ok_eq (by repeat (first | exact ok_nil | refine ok_cons rfl ?_ | refine ok_cons (dgv rfl) ?_))) rfl rfl) ?_
    refine og rfl rfl rfl (fun hc => (p_not (gx rfl hc))) <| o_p rfl (p_picky rfl rfl rfl (fun e => keq e)) <| o_ek (fr' := [(0, .nilptr), (2, .box 0 0), (3, .box 1 0), (58, aB)]) rfl rfl <| w_ch h62 rfl (fun hb63 h63 => ?_) (fun hb63 h63 => ?_)
    ·
     refine w_region <| mV (v := .nilptr) rfl ?_
     obtain ⟨x64, hx64, h65⟩ := bind_s h63
     exact o_v (ov_call (v := .any) rfl (w_wire_Reader_Fail_nil hx64) ⟨lr, lr, trivial⟩ rfl rfl rfl) <| o_end (fr' := [(0, .nilptr), (2, .box 0 0), (3, .box 1 0), (58, aB)]) rfl <| e_j _ (sy h65) (w_weak [0] 2 rfl rfl rfl rfl ⟨lr, lr, lr, trivial⟩ (st_r rfl (st_r rfl st_nil)))
    ·
     exact w_skip <| e_j _ (sy h63) (w_weak [0] 2 rfl rfl rfl rfl ⟨lr, lr, lr, trivial⟩ (st_r rfl (st_r rfl st_nil)))
   ·
    intro j58 hj66
    subst hj66
    refine w_seqw <| w_sr <| mV (v := .nilptr) rfl ?_
    obtain ⟨x67, hx67, h68⟩ := bind_s h57
    refine o_v (ov_call (v := aI) rfl (w_wire_Reader_Err_nil hx67) ⟨lr, trivial⟩ rfl rfl rfl) <| o_p rfl (p_neq rfl rfl) <| o_ek (fr' := [(2, .box 0 0), (3, .box 1 0), (63, aB)]) rfl rfl <| w_ch h68 rfl (fun hb69 h69 => ?_) (fun hb69 h69 => ?_)
    ·
     refine w_sr <| o_p rfl (p_buildc (c0 := [aS, aI, aI, aI, aI, aI, aI, aI, aI, .nil]) (cs := [aS, aI, aI, aI, aI, aI, aI, aI, aI, .nil]) tb27 rfl fill_nil) <| o_store (v := .agg [aS, aI, aI, aI, aI, aI, aI, aI, aI, .nil]) (us := [aS, aI, aI, aI, aI, aI, aI, aI, aI, .nil]) (cs := [aS, aI, aI, aI, aI, aI, aI, aI, aI, .nil]) (σ' := [[aS, aI, aI, aI, aI, aI, aI, aI, aI, .nil], [aS, aI, aI, aI, aI, aI, aI, aI, aI, aO]]) rfl tv27 rfl rfl rfl rfl rfl rfl rfl rfl <| o_ek (fr' := [(2, .box 0 0)]) rfl rfl <| w_ret <| e_seq_r ?_
     obtain rfl := sy h69
     exact e_ret (rs' := [.cell 2 27]) rfl <| r_cells (us := [aS, aI, aI, aI, aI, aI, aI, aI, aI, .nil]) (cs := [aS, aI, aI, aI, aI, aI, aI, aI, aI, .nil]) tv27 rfl rfl rfl rfl <| r_nil <| fin_gen [] rfl rfl rfl (le_aggc rfl ⟨rfl, rfl, rfl, rfl, rfl, rfl, rfl, rfl, rfl, ⟨_, rfl⟩, trivial⟩) st_nil
    ·
     refine w_skip <| e_kw <| w_sr <| o_p rfl (p_loads (us := [aS, aI, aI, aI, aI, aI, aI, aI, aI, aO]) tv27 rfl rfl rfl rfl) <| o_store (v := .agg [aS, aI, aI, aI, aI, aI, aI, aI, aI, aO]) (us := [aS, aI, aI, aI, aI, aI, aI, aI, aI, aO]) (cs := [aS, aI, aI, aI, aI, aI, aI, aI, aI, .nil]) (σ' := [[aS, aI, aI, aI, aI, aI, aI, aI, aI, aO], [aS, aI, aI, aI, aI, aI, aI, aI, aI, aO]]) rfl tv27 rfl rfl rfl rfl rfl rfl rfl rfl <| o_ek (fr' := [(2, .box 0 0)]) rfl rfl <| w_ret ?_
     obtain rfl := sy h69
     exact e_ret (rs' := [.cell 2 27]) rfl <| r_cells (us := [aS, aI, aI, aI, aI, aI, aI, aI, aI, aO]) (cs := [aS, aI, aI, aI, aI, aI, aI, aI, aI, aO]) tv27 rfl rfl rfl rfl <| r_nil <| fin_gen [] rfl rfl rfl (le_aggc rfl ⟨rfl, rfl, rfl, rfl, rfl, rfl, rfl, rfl, rfl, rfl, trivial⟩) st_nil
noncomputable def value_Decode_nil  : Option ApiValue :=
 ((some (Fl.done (ApiValue.mk (0 : Int) (0 : Int) ([] : List UInt8) ([] : (List ApiValue)) ([] : (List (List UInt8)))))) : Option (Fl ApiValue Unit)).bind fun (x1 : (Fl ApiValue Unit)) => Fl.next x1 (fun (j3 : Unit) => (none))
theorem w_value_Decode_nil  {res : ApiValue} (h : value_Decode_nil = some res) : ACalls Try.prog 66 [.nilptr] [] (.agg (AV.cs (exApiValue res))) [] := by
 unfold value_Decode_nil at h
 refine acalls (fn := Try.f66) [0, 2, 3, 4, 11, 20] (by kernel_rfl) Try.func66 rfl (by kernel_rfl) (by kernel_rfl) <| w_sr <| o_alloc (n := 0) (cs := [aI, aI, aS, .nil, .nil]) (σ' := [[aI, aI, aS, .nil, .nil]]) tz25 rfl rfl rfl <| o_ek (fr' := [(0, .nilptr), (2, .box 0 0)]) rfl rfl ?_
 obtain ⟨x1, hx1, h2⟩ := bind_s h
 refine w_join (fun _ => False) (fun (j3 : Unit) => ([] : Fr)) (fun (j3 : Unit) => ([] : St)) ?_ ?_
 ·
  refine w_sr <| mV (v := .nilptr) rfl <| o_p rfl (p_neql ti41 rfl rfl) <| mB rfl <| o_no rfl rfl rfl <| o_no rfl rfl rfl <| o_no rfl rfl rfl <| o_p rfl (p_pick_t rfl rfl rfl) <| o_ek (fr' := [(0, .nilptr), (2, .box 0 0), (11, aB)]) rfl rfl <| w_cond_t rfl <| w_seqw <| w_region ?_
  refine o_p rfl (p_build (cs := [aI, aI, aS, .nil, .nil]) tb25 rfl) <| o_store (v := .agg [aI, aI, aS, .nil, .nil]) (us := [aI, aI, aS, .nil, .nil]) (cs := [aI, aI, aS, .nil, .nil]) (σ' := [[aI, aI, aS, .nil, .nil]]) rfl tv25 rfl rfl rfl rfl rfl rfl rfl rfl <| o_ek (fr' := [(2, .box 0 0)]) rfl rfl <| w_ret <| e_seq_r ?_
  have h4 := un_done hx1 h2
  obtain rfl := sy h4
  exact e_ret (rs' := [.cell 2 25]) rfl <| r_cells (us := [aI, aI, aS, .nil, .nil]) (cs := [aI, aI, aS, .nil, .nil]) tv25 rfl rfl rfl rfl <| r_nil <| fin_gen [] rfl rfl rfl (le_aggc rfl ⟨rfl, rfl, rfl, ⟨_, rfl⟩, ⟨_, rfl⟩, trivial⟩) st_nil
 ·
  intro j3 hj6
  exact hj6.elim
noncomputable def command_Decode_nil  : Option ApiCommand :=
 (command_number64_nil).bind fun (x1 : Int) => (command_number64_nil).bind fun (x3 : Int) => (wire_Reader_Text_nil (4096 : Int)).bind fun (x5 : (List UInt8)) => (wire_Reader_Text_nil (4096 : Int)).bind fun (x7 : (List UInt8)) => (command_number64_nil).bind fun (x9 : Int) => (value_Decode_nil).bind fun (x11 : ApiValue) => (command_DecodePolicy_nil).bind fun (x13 : ApiPolicy) => (((wire_Reader_Err_nil).bind fun (x18 : Int) => (gd ((decide (x18 = (0 : Int))) == true) (command_Right (ApiCommand.mk x1 x3 x5 x7 x9 x11 x13))).bind fun (x20 : Bool) => cond (cond (decide (x18 = (0 : Int))) (!x20) false) ((wire_Reader_Fail_nil (3 : Int)).bind fun (x23 : Unit) => some ()) (some ())) : Option Unit).bind fun (x15 : Unit) => ((wire_Reader_Err_nil).bind fun (x26 : Int) => cond (!decide (x26 = (0 : Int))) (some (ApiCommand.mk (0 : Int) (0 : Int) ([] : List UInt8) ([] : List UInt8) (0 : Int) (ApiValue.mk (0 : Int) (0 : Int) ([] : List UInt8) ([] : (List ApiValue)) ([] : (List (List UInt8)))) (ApiPolicy.mk ([] : List UInt8) (0 : Int) (0 : Int) (0 : Int) (0 : Int) (0 : Int) (0 : Int) (0 : Int) (0 : Int) ([] : (List (List UInt8)))))) (some (ApiCommand.mk x1 x3 x5 x7 x9 x11 x13)))
theorem w_command_Decode_nil  {res : ApiCommand} (h : command_Decode_nil = some res) : ACalls Try.prog 25 [.nilptr] [] (.agg (AV.cs (rowApiCommand res))) [] := by
 unfold command_Decode_nil at h
 refine acalls (fn := Try.f25) [0, 2, 3, 32, 37] (by kernel_rfl) Try.func25 rfl (by kernel_rfl) (by kernel_rfl) <| w_sr <| o_alloc (n := 0) (cs := [aI, aI, aS, aS, aI, aI, aI, aS, .nil, .nil, aS, aI, aI, aI, aI, aI, aI, aI, aI, .nil]) (σ' := [[aI, aI, aS, aS, aI, aI, aI, aS, .nil, .nil, aS, aI, aI, aI, aI, aI, aI, aI, aI, .nil]]) tz29 rfl rfl rfl <| o_ek (fr' := [(0, .nilptr), (2, .box 0 0)]) rfl rfl <| w_sr <| o_alloc (n := 1) (cs := [aI, aI, aS, aS, aI, aI, aI, aS, .nil, .nil, aS, aI, aI, aI, aI, aI, aI, aI, aI, .nil]) (σ' := [[aI, aI, aS, aS, aI, aI, aI, aS, .nil, .nil, aS, aI, aI, aI, aI, aI, aI, aI, aI, .nil], [aI, aI, aS, aS, aI, aI, aI, aS, .nil, .nil, aS, aI, aI, aI, aI, aI, aI, aI, aI, .nil]]) tz29 rfl rfl rfl <| o_ek (fr' := [(0, .nilptr), (2, .box 0 0), (3, .box 1 0)]) rfl rfl <| w_sr <| mV (v := .nilptr) rfl ?_
 obtain ⟨x1, hx1, h2⟩ := bind_s h
 refine o_v (ov_call (v := aI) rfl (w_command_number64_nil hx1) ⟨lr, trivial⟩ rfl rfl rfl) <| mV (v := .nilptr) rfl ?_
 obtain ⟨x3, hx3, h4⟩ := bind_s h2
 refine o_v (ov_call (v := aI) rfl (w_command_number64_nil hx3) ⟨lr, trivial⟩ rfl rfl rfl) <| o_p rfl (p_fa tf29x0 rfl) <| o_store (v := aI) (us := [aI]) (cs := [aI, aI, aS, aS, aI, aI, aI, aS, .nil, .nil, aS, aI, aI, aI, aI, aI, aI, aI, aI, .nil]) (σ' := [[aI, aI, aS, aS, aI, aI, aI, aS, .nil, .nil, aS, aI, aI, aI, aI, aI, aI, aI, aI, .nil], [aI, aI, aS, aS, aI, aI, aI, aS, .nil, .nil, aS, aI, aI, aI, aI, aI, aI, aI, aI, .nil]]) rfl tv3 rfl rfl rfl rfl rfl rfl rfl rfl <| o_p rfl (p_fa tf29x1 rfl) <| o_store (v := aI) (us := [aI]) (cs := [aI, aI, aS, aS, aI, aI, aI, aS, .nil, .nil, aS, aI, aI, aI, aI, aI, aI, aI, aI, .nil]) (σ' := [[aI, aI, aS, aS, aI, aI, aI, aS, .nil, .nil, aS, aI, aI, aI, aI, aI, aI, aI, aI, .nil], [aI, aI, aS, aS, aI, aI, aI, aS, .nil, .nil, aS, aI, aI, aI, aI, aI, aI, aI, aI, .nil]]) rfl tv3 rfl rfl rfl rfl rfl rfl rfl rfl <| o_ek (fr' := [(0, .nilptr), (2, .box 0 0), (3, .box 1 0)]) rfl rfl <| w_sr <| mV (v := .nilptr) rfl ?_
 obtain ⟨x5, hx5, h6⟩ := bind_s h4
 refine o_v (ov_call (v := aS) rfl (w_wire_Reader_Text_nil hx5) ⟨lr, lr, trivial⟩ rfl rfl rfl) <| mV (v := .nilptr) rfl ?_
 obtain ⟨x7, hx7, h8⟩ := bind_s h6
 refine o_v (ov_call (v := aS) rfl (w_wire_Reader_Text_nil hx7) ⟨lr, lr, trivial⟩ rfl rfl rfl) <| o_p rfl (p_fa tf29x2 rfl) <| o_store (v := aS) (us := [aS]) (cs := [aI, aI, aS, aS, aI, aI, aI, aS, .nil, .nil, aS, aI, aI, aI, aI, aI, aI, aI, aI, .nil]) (σ' := [[aI, aI, aS, aS, aI, aI, aI, aS, .nil, .nil, aS, aI, aI, aI, aI, aI, aI, aI, aI, .nil], [aI, aI, aS, aS, aI, aI, aI, aS, .nil, .nil, aS, aI, aI, aI, aI, aI, aI, aI, aI, .nil]]) rfl tv9 rfl rfl rfl rfl rfl rfl rfl rfl <| o_p rfl (p_fa tf29x3 rfl) <| o_store (v := aS) (us := [aS]) (cs := [aI, aI, aS, aS, aI, aI, aI, aS, .nil, .nil, aS, aI, aI, aI, aI, aI, aI, aI, aI, .nil]) (σ' := [[aI, aI, aS, aS, aI, aI, aI, aS, .nil, .nil, aS, aI, aI, aI, aI, aI, aI, aI, aI, .nil], [aI, aI, aS, aS, aI, aI, aI, aS, .nil, .nil, aS, aI, aI, aI, aI, aI, aI, aI, aI, .nil]]) rfl tv9 rfl rfl rfl rfl rfl rfl rfl rfl <| o_ek (fr' := [(0, .nilptr), (2, .box 0 0), (3, .box 1 0)]) rfl rfl <| w_sr <| mV (v := .nilptr) rfl ?_
 obtain ⟨x9, hx9, h10⟩ := bind_s h8
 refine o_v (ov_call (v := aI) rfl (w_command_number64_nil hx9) ⟨lr, trivial⟩ rfl rfl rfl) <| o_p rfl (p_fa tf29x4 rfl) <| o_store (v := aI) (us := [aI]) (cs := [aI, aI, aS, aS, aI, aI, aI, aS, .nil, .nil, aS, aI, aI, aI, aI, aI, aI, aI, aI, .nil]) (σ' := [[aI, aI, aS, aS, aI, aI, aI, aS, .nil, .nil, aS, aI, aI, aI, aI, aI, aI, aI, aI, .nil], [aI, aI, aS, aS, aI, aI, aI, aS, .nil, .nil, aS, aI, aI, aI, aI, aI, aI, aI, aI, .nil]]) rfl tv3 rfl rfl rfl rfl rfl rfl rfl rfl <| o_ek (fr' := [(0, .nilptr), (2, .box 0 0), (3, .box 1 0)]) rfl rfl <| w_sr <| mV (v := .nilptr) rfl ?_
 obtain ⟨x11, hx11, h12⟩ := bind_s h10
 refine o_v (ov_call (v := .agg aIISLL) rfl (w_value_Decode_nil hx11) ⟨lr, trivial⟩ rfl rfl rfl) <| o_p rfl (p_fa tf29x5 rfl) <| o_store (v := .agg aIISLL) (us := aIISLL) (cs := [aI, aI, aS, aS, aI, aI, aI, aS, .nil, .nil, aS, aI, aI, aI, aI, aI, aI, aI, aI, .nil]) (σ' := [[aI, aI, aS, aS, aI, aI, aI, aS, .nil, .nil, aS, aI, aI, aI, aI, aI, aI, aI, aI, .nil], [aI, aI, aS, aS, aI, aI, aI, aS, aL, aL, aS, aI, aI, aI, aI, aI, aI, aI, aI, .nil]]) rfl tv25 rfl rfl rfl rfl rfl rfl rfl rfl <| o_ek (fr' := [(0, .nilptr), (2, .box 0 0), (3, .box 1 0)]) rfl rfl <| w_sr <| mV (v := .nilptr) rfl ?_
 obtain ⟨x13, hx13, h14⟩ := bind_s h12
 refine o_v (ov_call (v := .agg aSIIIIIIIIL) rfl (w_command_DecodePolicy_nil hx13) ⟨lr, trivial⟩ rfl rfl rfl) <| o_p rfl (p_fa tf29x6 rfl) <| o_store (v := .agg aSIIIIIIIIL) (us := aSIIIIIIIIL) (cs := [aI, aI, aS, aS, aI, aI, aI, aS, aL, aL, aS, aI, aI, aI, aI, aI, aI, aI, aI, .nil]) (σ' := [[aI, aI, aS, aS, aI, aI, aI, aS, .nil, .nil, aS, aI, aI, aI, aI, aI, aI, aI, aI, .nil], aIISSIIISLLSIIIIIIIIL]) rfl tv27 rfl rfl rfl rfl rfl rfl rfl rfl <| o_ek (fr' := [(0, .nilptr), (2, .box 0 0), (3, .box 1 0)]) rfl rfl ?_
 obtain ⟨x15, hx15, h16⟩ := bind_s h14
 refine w_join (fun j17 => x15 = j17) (fun (j17 : Unit) => ([(0, .nilptr), (2, .box 0 0), (3, .box 1 0)] : Fr)) (fun (j17 : Unit) => ([[.c (.int .i64 (0 : Int)), .c (.int .i64 (0 : Int)), .c (.str ([] : List UInt8)), .c (.str ([] : List UInt8)), .c (.int .i64 (0 : Int)), .c (.int .i64 (0 : Int)), .c (.int .i64 (0 : Int)), .c (.str ([] : List UInt8)), .nil, .nil, .c (.str ([] : List UInt8)), .c (.int .i64 (0 : Int)), .c (.int .i64 (0 : Int)), .c (.int .i64 (0 : Int)), .c (.int .i64 (0 : Int)), .c (.int .i64 (0 : Int)), .c (.int .i64 (0 : Int)), .c (.int .i64 (0 : Int)), .c (.int .i64 (0 : Int)), .nil], [.c (.int .i64 x1), .c (.int .i64 x3), .c (.str x5), .c (.str x7), .c (.int .i64 x9), .c (.int .i64 x11.Kind), .c (.int .i64 x11.Int), .c (.str x11.Text), .c (PV.ls 5 rowApiValue x11.Items), .c (PV.ls 1 rowS x11.Keys), .c (.str x13.Queue), .c (.int .i64 x13.ToStart), .c (.int .i64 x13.ToClose), .c (.int .i64 x13.Total), .c (.int .i64 x13.Beat), .c (.int .i64 x13.First), .c (.int .i64 x13.Coef), .c (.int .i64 x13.Most), .c (.int .i64 x13.Attempts), .c (PV.ls 1 rowS x13.Fatal)]] : St)) ?_ ?_
 ·
  refine w_sr <| mV (v := .nilptr) rfl ?_
  obtain ⟨x18, hx18, h19⟩ := bind_s hx15
  refine o_v (ov_call (v := aI) rfl (w_wire_Reader_Err_nil hx18) ⟨lr, trivial⟩ rfl rfl rfl) <| o_p rfl (p_eql rfl rfl) <| mB rfl <| og rfl rfl rfl (fun hc => (p_loads (us := aIISSIIISLLSIIIIIIIIL) tv29 rfl rfl rfl rfl)) ?_
  obtain ⟨x20, hx20, h21⟩ := bind_s h19
  refine o_g rfl rfl (fun hc => ov_call (v := aB) rfl (w_command_Right (gd_some hx20 hc)) ⟨(le_gv (gx rfl hc) (le_aggc rfl ⟨rfl, rfl, rfl, rfl, rfl, rfl, rfl, rfl, rfl, rfl, rfl, rfl, rfl, rfl, rfl, rfl, rfl, rfl, rfl, rfl, trivial⟩)), trivial⟩ (ok_eq (by repeat (first | exact ok_nil | refine ok_cons rfl ?_ | refine ok_cons (dgv rfl) ?_))) rfl rfl) ?_
  refine og rfl rfl rfl (fun hc => (p_not (gx rfl hc))) <| o_p rfl (p_picky rfl rfl rfl (fun e => keq e)) <| o_ek (fr' := [(0, .nilptr), (2, .box 0 0), (3, .box 1 0), (32, aB)]) rfl rfl <| w_ch h21 rfl (fun hb22 h22 => ?_) (fun hb22 h22 => ?_)
  ·
   refine w_region <| mV (v := .nilptr) rfl ?_
   obtain ⟨x23, hx23, h24⟩ := bind_s h22
   exact o_v (ov_call (v := .any) rfl (w_wire_Reader_Fail_nil hx23) ⟨lr, lr, trivial⟩ rfl rfl rfl) <| o_end (fr' := [(0, .nilptr), (2, .box 0 0), (3, .box 1 0), (32, aB)]) rfl <| e_j _ (sy h24) (w_weak [] 2 rfl rfl rfl rfl ⟨lr, lr, lr, trivial⟩ (st_r rfl (st_r rfl st_nil)))
  ·
   exact w_skip <| e_j _ (sy h22) (w_weak [] 2 rfl rfl rfl rfl ⟨lr, lr, lr, trivial⟩ (st_r rfl (st_r rfl st_nil)))
 ·
  intro j17 hj25
  subst hj25
  refine w_seqw <| w_sr <| mV (v := .nilptr) rfl ?_
  obtain ⟨x26, hx26, h27⟩ := bind_s h16
  refine o_v (ov_call (v := aI) rfl (w_wire_Reader_Err_nil hx26) ⟨lr, trivial⟩ rfl rfl rfl) <| o_p rfl (p_neq rfl rfl) <| o_ek (fr' := [(2, .box 0 0), (3, .box 1 0), (37, aB)]) rfl rfl <| w_ch h27 rfl (fun hb28 h28 => ?_) (fun hb28 h28 => ?_)
  ·
   refine w_sr <| o_p rfl (p_buildc (c0 := [aI, aI, aS, aS, aI, aI, aI, aS, .nil, .nil, aS, aI, aI, aI, aI, aI, aI, aI, aI, .nil]) (cs := [aI, aI, aS, aS, aI, aI, aI, aS, .nil, .nil, aS, aI, aI, aI, aI, aI, aI, aI, aI, .nil]) tb29 rfl fill_nil) <| o_store (v := .agg [aI, aI, aS, aS, aI, aI, aI, aS, .nil, .nil, aS, aI, aI, aI, aI, aI, aI, aI, aI, .nil]) (us := [aI, aI, aS, aS, aI, aI, aI, aS, .nil, .nil, aS, aI, aI, aI, aI, aI, aI, aI, aI, .nil]) (cs := [aI, aI, aS, aS, aI, aI, aI, aS, .nil, .nil, aS, aI, aI, aI, aI, aI, aI, aI, aI, .nil]) (σ' := [[aI, aI, aS, aS, aI, aI, aI, aS, .nil, .nil, aS, aI, aI, aI, aI, aI, aI, aI, aI, .nil], aIISSIIISLLSIIIIIIIIL]) rfl tv29 rfl rfl rfl rfl rfl rfl rfl rfl <| o_ek (fr' := [(2, .box 0 0)]) rfl rfl <| w_ret <| e_seq_r ?_
   obtain rfl := sy h28
   exact e_ret (rs' := [.cell 2 29]) rfl <| r_cells (us := [aI, aI, aS, aS, aI, aI, aI, aS, .nil, .nil, aS, aI, aI, aI, aI, aI, aI, aI, aI, .nil]) (cs := [aI, aI, aS, aS, aI, aI, aI, aS, .nil, .nil, aS, aI, aI, aI, aI, aI, aI, aI, aI, .nil]) tv29 rfl rfl rfl rfl <| r_nil <| fin_gen [] rfl rfl rfl (le_aggc rfl ⟨rfl, rfl, rfl, rfl, rfl, rfl, rfl, rfl, ⟨_, rfl⟩, ⟨_, rfl⟩, rfl, rfl, rfl, rfl, rfl, rfl, rfl, rfl, rfl, ⟨_, rfl⟩, trivial⟩) st_nil
  ·
   refine w_skip <| e_kw <| w_sr <| o_p rfl (p_loads (us := aIISSIIISLLSIIIIIIIIL) tv29 rfl rfl rfl rfl) <| o_store (v := .agg aIISSIIISLLSIIIIIIIIL) (us := aIISSIIISLLSIIIIIIIIL) (cs := [aI, aI, aS, aS, aI, aI, aI, aS, .nil, .nil, aS, aI, aI, aI, aI, aI, aI, aI, aI, .nil]) (σ' := [aIISSIIISLLSIIIIIIIIL, aIISSIIISLLSIIIIIIIIL]) rfl tv29 rfl rfl rfl rfl rfl rfl rfl rfl <| o_ek (fr' := [(2, .box 0 0)]) rfl rfl <| w_ret ?_
   obtain rfl := sy h28
   exact e_ret (rs' := [.cell 2 29]) rfl <| r_cells (us := aIISSIIISLLSIIIIIIIIL) (cs := aIISSIIISLLSIIIIIIIIL) tv29 rfl rfl rfl rfl <| r_nil <| fin_gen [] rfl rfl rfl (le_aggc rfl ⟨rfl, rfl, rfl, rfl, rfl, rfl, rfl, rfl, rfl, rfl, rfl, rfl, rfl, rfl, rfl, rfl, rfl, rfl, rfl, rfl, trivial⟩) st_nil
noncomputable def ref20xin (p0n : Int) (p1low : Int) (p2high : Int) : Option Bool :=
 some (cond (decide (p1low ≤ p0n)) (decide (p0n ≤ p2high)) false)
theorem w_ref20xin {p0n : Int} {p1low : Int} {p2high : Int} {res : Bool} (h : ref20xin p0n p1low p2high = some res) : ACalls Try.prog 48 [.c (.int .i64 p0n), .c (.int .i64 p1low), .c (.int .i64 p2high)] [] (.c (.bool res)) [] := by
 unfold ref20xin at h
 refine acalls (fn := Try.f48) [0, 1, 2, 6] (by kernel_rfl) Try.func48 rfl (by kernel_rfl) (by kernel_rfl) <| w_sr <| sB rfl <| o_ek (fr' := [(0, aI), (1, aI), (2, aI)]) rfl rfl <| w_sr <| mI rfl <| mI rfl <| o_p rfl (p_geq rfl rfl) <| mB rfl <| og rfl rfl rfl (fun hc => (p_move (v := aI) rfl)) <| og rfl rfl rfl (fun hc => (p_move (v := aI) rfl)) ?_
 refine og rfl rfl rfl (fun hc => (p_leq (gx rfl hc) (gx rfl hc))) <| o_p rfl (p_picky rfl rfl rfl (fun e => keq e)) <| sB rfl <| o_ek (fr' := [(6, aB)]) rfl rfl <| w_ret ?_
 obtain rfl := sy h
 exact e_ret (rs' := [.tmp 6]) rfl <| r_tmp (v := aB) rfl <| r_nil <| fin_gen [] rfl rfl rfl lr st_nil
noncomputable def ref06xletter (p0c : Int) : Option Bool :=
 some (cond (cond (cond (cond (decide ((97 : Int) ≤ p0c)) (decide (p0c ≤ (122 : Int))) false) true (cond (decide ((65 : Int) ≤ p0c)) (decide (p0c ≤ (90 : Int))) false)) true (cond (decide ((48 : Int) ≤ p0c)) (decide (p0c ≤ (57 : Int))) false)) true (decide (p0c = (95 : Int))))
theorem w_ref06xletter {p0c : Int} {res : Bool} (h : ref06xletter p0c = some res) : ACalls Try.prog 88 [.c (.int .u8 p0c)] [] (.c (.bool res)) [] := by
 unfold ref06xletter at h
 refine acalls (fn := Try.f88) [0, 2] (by kernel_rfl) Try.func88 rfl (by kernel_rfl) (by kernel_rfl) <| w_sr <| sB rfl <| o_ek (fr' := [(0, aI)]) rfl rfl <| w_sr <| mI rfl <| o_p rfl (p_geq rfl rfl) <| mB rfl <| og rfl rfl rfl (fun hc => (p_move (v := aI) rfl)) <| og rfl rfl rfl (fun hc => (p_leq (gx rfl hc) rfl)) <| o_p rfl (p_picky rfl rfl rfl (fun e => keq e)) ?_
 refine mB rfl <| og rfl rfl rfl (fun hc => (p_move (v := aI) rfl)) <| og rfl rfl rfl (fun hc => (p_geq (gx rfl hc) rfl)) <| og rfl rfl rfl (fun hc => (p_move (v := aB) (gx rfl hc))) <| o_gg rfl rfl (fun hc => ov_p rfl (p_move (v := aI) rfl)) <| o_gg rfl rfl (fun hc => ov_p rfl (p_leq (gx rfl hc) rfl)) <| og rfl rfl rfl (fun hc => (p_picky (gx rfl hc) rfl rfl (fun e => band hc (keq e)))) <| o_p rfl (p_pickz rfl rfl rfl (fun e => keq e)) <| mB rfl <| og rfl rfl rfl (fun hc => (p_move (v := aI) rfl)) <| og rfl rfl rfl (fun hc => (p_geq (gx rfl hc) rfl)) <| og rfl rfl rfl (fun hc => (p_move (v := aB) (gx rfl hc))) <| o_gg rfl rfl (fun hc => ov_p rfl (p_move (v := aI) rfl)) ?_
 refine o_gg rfl rfl (fun hc => ov_p rfl (p_leq (gx rfl hc) rfl)) <| og rfl rfl rfl (fun hc => (p_picky (gx rfl hc) rfl rfl (fun e => band hc (keq e)))) <| o_p rfl (p_pickz rfl rfl rfl (fun e => keq e)) <| mB rfl <| og rfl rfl rfl (fun hc => (p_move (v := aI) rfl)) <| og rfl rfl rfl (fun hc => (p_eql (gx rfl hc) rfl)) <| o_p rfl (p_pickz rfl rfl rfl (fun e => keq e)) <| sB rfl <| o_ek (fr' := [(2, aB)]) rfl rfl <| w_ret ?_
 obtain rfl := sy h
 exact e_ret (rs' := [.tmp 2]) rfl <| r_tmp (v := aB) rfl <| r_nil <| fin_gen [] rfl rfl rfl lr st_nil
noncomputable def ref06xRight_l1 (p0s : (List UInt8)) (s10 : Int) : Option (Step Int (Fl Bool Unit)) :=
 cond (decide (s10 < ((p0s).length : Int))) ((idx p0s s10).bind fun (x12 : UInt8) => (ref06xletter ((x12).toNat : Int)).bind fun (x14 : Bool) => cond (!x14) (some (Step.out (Fl.done false))) (some (Step.next (IntKind.wrap .i64 (s10 + (1 : Int)))))) (some (Step.out (Fl.go ())))
noncomputable def ref06xRight (p0s : (List UInt8)) : Option Bool :=
 (gd ((cond (decide (((p0s).length : Int) < (1 : Int))) true (decide ((64 : Int) < ((p0s).length : Int)))) == false) (idx p0s (0 : Int))).bind fun (x1 : UInt8) => (gd (((cond (decide (((p0s).length : Int) < (1 : Int))) true (decide ((64 : Int) < ((p0s).length : Int)))) == false) && ((decide ((48 : Int) ≤ ((x1).toNat : Int))) == true)) (idx p0s (0 : Int))).bind fun (x3 : UInt8) => cond (cond (cond (decide (((p0s).length : Int) < (1 : Int))) true (decide ((64 : Int) < ((p0s).length : Int)))) true (cond (decide ((48 : Int) ≤ ((x1).toNat : Int))) (decide (((x3).toNat : Int) ≤ (57 : Int))) false)) (some false) (((loopO (ref06xRight_l1 p0s) ((0 : Int))) : Option (Fl Bool Unit)).bind fun (x7 : (Fl Bool Unit)) => Fl.next x7 (fun (j9 : Unit) => (some true)))
theorem w_ref06xRight {p0s : (List UInt8)} {res : Bool} (h : ref06xRight p0s = some res) : ACalls Try.prog 51 [.c (.str p0s)] [] (.c (.bool res)) [] := by
 unfold ref06xRight at h
 refine acalls (fn := Try.f51) [0, 2, 3, 21, 25, 32] (by kernel_rfl) Try.func51 rfl (by kernel_rfl) (by kernel_rfl) <| w_sr <| sB rfl <| o_ek (fr' := [(0, aS)]) rfl rfl <| w_seqw <| w_sr <| mS rfl <| o_p rfl (p_lens ti9 rfl) <| o_p rfl (p_lss rfl rfl) <| mB rfl <| og rfl rfl rfl (fun hc => (p_move (v := aS) rfl)) ?_
 refine og rfl rfl rfl (fun hc => (p_lens ti9 (gx rfl hc))) <| og rfl rfl rfl (fun hc => (p_gtr (gx rfl hc) rfl)) <| o_p rfl (p_pickz rfl rfl rfl (fun e => keq e)) <| mB rfl <| og rfl rfl rfl (fun hc => (p_move (v := aS) rfl)) ?_
 obtain ⟨x1, hx1, h2⟩ := bind_s h
 refine og rfl rfl rfl (fun hc => (p_is ti9 (gx rfl hc) rfl (gd_some hx1 hc))) <| og rfl rfl rfl (fun hc => (p_geq (gx rfl hc) rfl)) <| og rfl rfl rfl (fun hc => (p_move (v := aB) (gx rfl hc))) <| o_gg rfl rfl (fun hc => ov_p rfl (p_move (v := aS) rfl)) ?_
 obtain ⟨x3, hx3, h4⟩ := bind_s h2
 refine o_gg rfl rfl (fun hc => ov_p rfl (p_is ti9 (gx rfl hc) rfl (gd_some hx3 hc))) <| o_gg rfl rfl (fun hc => ov_p rfl (p_leq (gx rfl hc) rfl)) <| og rfl rfl rfl (fun hc => (p_picky (gx rfl hc) rfl rfl (fun e => band hc (keq e)))) <| o_p rfl (p_pickz rfl rfl rfl (fun e => keq e)) <| o_ek (fr' := [(0, aS), (21, aB)]) rfl rfl <| w_ch h4 rfl (fun hb5 h5 => ?_) (fun hb5 h5 => ?_)
 ·
  refine w_sr <| sB rfl <| o_ek (fr' := [(2, aB)]) rfl rfl <| w_ret <| e_seq_r ?_
  obtain rfl := sy h5
  exact e_ret (rs' := [.tmp 2]) rfl <| r_tmp (v := aB) rfl <| r_nil <| fin_gen [] rfl rfl rfl lr st_nil
 ·
  refine w_skip <| e_kw <| w_seqw <| w_sr <| sI rfl <| o_ek (fr' := [(0, aS), (3, aI)]) rfl rfl ?_
  obtain ⟨x7, hx7, h8⟩ := bind_s h5
  refine w_jtail cl_kw (fun j9 => x7 = Fl.go j9) (fun (j9 : Unit) => ([] : Fr)) (fun (j9 : Unit) => ([] : St)) ?_ ?_
  ·
   refine w_block <| w_loopo _ (fun (s10 : Int) => ([(0, .c (.str p0s)), (3, .c (.int .i64 s10))] : Fr)) (fun (s10 : Int) => ([] : St)) hx7 (w_weak [] 0 rfl rfl rfl rfl ⟨lr, lr, trivial⟩ st_nil) ?_
   intro s10 st10 hs10 ho10
   unfold ref06xRight_l1 at hs10
   refine w_seqw <| w_sr <| mI rfl <| mS rfl <| o_p rfl (p_lens ti9 rfl) <| o_p rfl (p_lss rfl rfl) <| o_ek (fr' := [(0, aS), (3, aI), (25, aB)]) rfl rfl <| w_ch hs10 rfl (fun hb11 h11 => ?_) (fun hb11 h11 => ?_)
   ·
    refine w_skip <| e_kw <| w_seqw <| w_block <| w_sr <| mS rfl <| mI rfl ?_
    obtain ⟨x12, hx12, h13⟩ := bind_s h11
    refine o_p rfl (p_is ti9 rfl rfl hx12) ?_
    obtain ⟨x14, hx14, h15⟩ := bind_s h13
    refine o_v (ov_call (v := aB) rfl (w_ref06xletter hx14) ⟨lr, trivial⟩ rfl rfl rfl) <| o_p rfl (p_not rfl) <| o_ek (fr' := [(0, aS), (3, aI), (32, aB)]) rfl rfl <| w_ch h15 rfl (fun hb16 h16 => ?_) (fun hb16 h16 => ?_)
    ·
     refine w_sr <| sB rfl <| o_ek (fr' := [(2, aB)]) rfl rfl <| w_ret <| e_blk_r <| e_seq_r <| e_seq_r <| e_blk_r <| e_seq_r <| e_seq_r ?_
     have h17 := un_out h16 ho10
     have h18 := un_done h17 h8
     obtain rfl := sy h18
     exact e_ret (rs' := [.tmp 2]) rfl <| r_tmp (v := aB) rfl <| r_nil <| fin_gen [] rfl rfl rfl lr st_nil
    ·
     exact w_skip <| e_blk_n <| e_kw <| w_region <| mI rfl <| o_p rfl (p_add rfl rfl) <| sI rfl <| o_end (fr' := [(0, aS), (3, aI), (32, aB)]) rfl <| e_l _ (sy h16) (w_weak [] 0 rfl rfl rfl rfl ⟨lr, lr, trivial⟩ st_nil)
   ·
    refine w_exit <| e_seq_x <| e_seq_x <| e_blk_h ?_
    have h20 := un_out h11 ho10
    exact e_j _ (sy h20) (w_weak [] 0 rfl rfl rfl rfl trivial st_nil)
  ·
   intro j9 hj21
   have h21 := un_go hj21 h8
   refine e_kw <| w_sr <| sB rfl <| o_ek (fr' := [(2, aB)]) rfl rfl <| w_ret ?_
   obtain rfl := sy h21
   exact e_ret (rs' := [.tmp 2]) rfl <| r_tmp (v := aB) rfl <| r_nil <| fin_gen [] rfl rfl rfl lr st_nil
noncomputable def ref20xRightPolicy_l1 (p0o : ApiPolicy) (s4 : Int) : Option (Step Int (Fl Bool Unit)) :=
 cond (decide (s4 < ((([p0o.ToStart, p0o.ToClose, p0o.Total, p0o.Beat, p0o.First, p0o.Most] : List Int)).length : Int))) ((idx ([p0o.ToStart, p0o.ToClose, p0o.Total, p0o.Beat, p0o.First, p0o.Most] : List Int) s4).bind fun (x6 : Int) => (ref20xin x6 (0 : Int) (1099511627776 : Int)).bind fun (x8 : Bool) => cond (!x8) (some (Step.out (Fl.done false))) (some (Step.next (IntKind.wrap .i64 (s4 + (1 : Int)))))) (some (Step.out (Fl.go ())))
noncomputable def ref20xRightPolicy_l2 (p0o : ApiPolicy) (s19 : Int) : Option (Step Int (Fl Bool Unit)) :=
 cond (decide (s19 < ((p0o.Fatal).length : Int))) ((idx p0o.Fatal s19).bind fun (x21 : (List UInt8)) => cond (decide ((4096 : Int) < ((x21).length : Int))) (some (Step.out (Fl.done false))) (some (Step.next (IntKind.wrap .i64 (s19 + (1 : Int)))))) (some (Step.out (Fl.go ())))
noncomputable def ref20xRightPolicy (p0o : ApiPolicy) : Option Bool :=
 ((loopO (ref20xRightPolicy_l1 p0o) ((0 : Int))) : Option (Fl Bool Unit)).bind fun (x1 : (Fl Bool Unit)) => Fl.next x1 (fun (j3 : Unit) => (((loopO (ref20xRightPolicy_l2 p0o) ((0 : Int))) : Option (Fl Bool Unit)).bind fun (x16 : (Fl Bool Unit)) => Fl.next x16 (fun (j18 : Unit) => ((gd ((decide (p0o.Queue = ([] : List UInt8))) == false) (ref06xRight p0o.Queue)).bind fun (x29 : Bool) => (gd ((cond (decide (p0o.Queue = ([] : List UInt8))) true x29) == true) (ref20xin p0o.Coef (0 : Int) (10000 : Int))).bind fun (x31 : Bool) => (gd ((cond (cond (decide (p0o.Queue = ([] : List UInt8))) true x29) x31 false) == true) (ref20xin p0o.Attempts (0 : Int) (1000 : Int))).bind fun (x33 : Bool) => some (cond (cond (cond (cond (decide (p0o.Queue = ([] : List UInt8))) true x29) x31 false) x33 false) (decide (((p0o.Fatal).length : Int) ≤ (64 : Int))) false)))))
theorem w_ref20xRightPolicy {p0o : ApiPolicy} {res : Bool} (h : ref20xRightPolicy p0o = some res) : ACalls Try.prog 15 [.agg (AV.cs (rowApiPolicy p0o))] [] (.c (.bool res)) [] := by
 unfold ref20xRightPolicy at h
 refine acalls (fn := Try.f15) [0, 1, 2, 3, 4, 5, 22, 30, 35, 44] (by kernel_rfl) Try.func15 rfl (by kernel_rfl) (by kernel_rfl) <| w_sr <| o_box (v := .agg aSIIIIIIIIL) (n := 0) (cs := aSIIIIIIIIL) (σ' := [aSIIIIIIIIL]) rfl rfl rfl rfl rfl <| sB rfl <| o_ek (fr' := [(1, .box 0 0)]) rfl rfl <| w_sr <| o_p rfl (p_fa tf27x1 rfl) <| o_p rfl (p_load (v := aI) tv3 rfl rfl rfl) <| o_p rfl (p_fa tf27x2 rfl) <| o_p rfl (p_load (v := aI) tv3 rfl rfl rfl) <| o_p rfl (p_fa tf27x3 rfl) ?_
 refine o_p rfl (p_load (v := aI) tv3 rfl rfl rfl) <| o_p rfl (p_fa tf27x4 rfl) <| o_p rfl (p_load (v := aI) tv3 rfl rfl rfl) <| o_p rfl (p_fa tf27x5 rfl) <| o_p rfl (p_load (v := aI) tv3 rfl rfl rfl) <| o_p rfl (p_fa tf27x7 rfl) <| o_p rfl (p_load (v := aI) tv3 rfl rfl rfl) <| o_rows (row := (rowI .i64)) (xs := ([p0o.ToStart, p0o.ToClose, p0o.Total, p0o.Beat, p0o.First, p0o.Most] : List Int)) (rows := [[_], [_], [_], [_], [_], [_]]) (σ' := [aSIIIIIIIIL]) [0] ts65 rfl rfl rfl (arow_cons rfl (arow_cons rfl (arow_cons rfl (arow_cons rfl (arow_cons rfl (arow_cons rfl arow_nil)))))) rfl rfl <| sV (v := aO) rfl <| o_ek (fr' := [(1, .box 0 0), (3, aO)]) rfl rfl <| w_seqw <| w_seqw <| w_region ?_
 refine sI rfl <| o_ek (fr' := [(1, .box 0 0), (3, aO), (4, aI)]) rfl rfl ?_
 obtain ⟨x1, hx1, h2⟩ := bind_s h
 refine w_jtail cl_kw (fun j3 => x1 = Fl.go j3) (fun (j3 : Unit) => ([(1, .box 0 0)] : Fr)) (fun (j3 : Unit) => ([[.c (.str p0o.Queue), .c (.int .i64 p0o.ToStart), .c (.int .i64 p0o.ToClose), .c (.int .i64 p0o.Total), .c (.int .i64 p0o.Beat), .c (.int .i64 p0o.First), .c (.int .i64 p0o.Coef), .c (.int .i64 p0o.Most), .c (.int .i64 p0o.Attempts), .c (PV.ls 1 rowS p0o.Fatal)]] : St)) ?_ ?_
 ·
  refine w_block <| w_loopo _ (fun (s4 : Int) => ([(1, .box 0 0), (3, AV.os 0 1 (rowI .i64) ([p0o.ToStart, p0o.ToClose, p0o.Total, p0o.Beat, p0o.First, p0o.Most] : List Int)), (4, .c (.int .i64 s4))] : Fr)) (fun (s4 : Int) => ([[.c (.str p0o.Queue), .c (.int .i64 p0o.ToStart), .c (.int .i64 p0o.ToClose), .c (.int .i64 p0o.Total), .c (.int .i64 p0o.Beat), .c (.int .i64 p0o.First), .c (.int .i64 p0o.Coef), .c (.int .i64 p0o.Most), .c (.int .i64 p0o.Attempts), .c (PV.ls 1 rowS p0o.Fatal)]] : St)) hx1 (w_weak [288] 1 rfl rfl rfl rfl ⟨lr, lr, lr, trivial⟩ (st_r rfl st_nil)) ?_
  intro s4 st4 hs4 ho4
  unfold ref20xRightPolicy_l1 at hs4
  refine w_seqw <| w_sr <| mI rfl <| mV (v := aO) rfl <| o_p rfl (p_len ti65 (isl_o rfl)) <| o_p rfl (p_lss rfl rfl) <| o_ek (fr' := [(1, .box 0 0), (3, aO), (4, aI), (22, aB)]) rfl rfl <| w_ch hs4 rfl (fun hb5 h5 => ?_) (fun hb5 h5 => ?_)
  ·
   refine w_skip <| e_kw <| w_seqw <| w_block <| w_sr <| mV (v := aO) rfl <| mI rfl ?_
   obtain ⟨x6, hx6, h7⟩ := bind_s h5
   refine o_p rfl (p_ia (cs := [.int _ _]) ts65 (isl_o rfl) rfl hx6 rfl) <| o_p rfl (p_loade (p := .int _ _) tv3 rfl rfl) ?_
   obtain ⟨x8, hx8, h9⟩ := bind_s h7
   refine o_v (ov_call (v := aB) rfl (w_ref20xin hx8) ⟨lr, lr, lr, trivial⟩ rfl rfl rfl) <| o_p rfl (p_not rfl) <| o_ek (fr' := [(1, .box 0 0), (3, aO), (4, aI), (30, aB)]) rfl rfl <| w_ch h9 rfl (fun hb10 h10 => ?_) (fun hb10 h10 => ?_)
   ·
    refine w_sr <| sB rfl <| o_ek (fr' := [(2, aB)]) rfl rfl <| w_ret <| e_blk_r <| e_seq_r <| e_seq_r <| e_blk_r <| e_seq_r <| e_seq_r ?_
    have h11 := un_out h10 ho4
    have h12 := un_done h11 h2
    obtain rfl := sy h12
    exact e_ret (rs' := [.tmp 2]) rfl <| r_tmp (v := aB) rfl <| r_nil <| fin_gen [] rfl rfl rfl lr st_nil
   ·
    exact w_skip <| e_blk_n <| e_kw <| w_region <| mI rfl <| o_p rfl (p_add rfl rfl) <| sI rfl <| o_end (fr' := [(1, .box 0 0), (3, aO), (4, aI), (30, aB)]) rfl <| e_l _ (sy h10) (w_weak [0] 1 rfl rfl rfl rfl ⟨lr, lr, lr, trivial⟩ (st_r rfl st_nil))
  ·
   refine w_exit <| e_seq_x <| e_seq_x <| e_blk_h ?_
   have h14 := un_out h5 ho4
   exact e_j _ (sy h14) (w_weak [] 1 rfl rfl rfl rfl ⟨lr, trivial⟩ (st_r rfl st_nil))
 ·
  intro j3 hj15
  have h15 := un_go hj15 h2
  refine e_kw <| w_seqw <| w_sr <| sI rfl <| o_ek (fr' := [(1, .box 0 0), (5, aI)]) rfl rfl ?_
  obtain ⟨x16, hx16, h17⟩ := bind_s h15
  refine w_jtail cl_kw (fun j18 => x16 = Fl.go j18) (fun (j18 : Unit) => ([(1, .box 0 0)] : Fr)) (fun (j18 : Unit) => ([[.c (.str p0o.Queue), .c (.int .i64 p0o.ToStart), .c (.int .i64 p0o.ToClose), .c (.int .i64 p0o.Total), .c (.int .i64 p0o.Beat), .c (.int .i64 p0o.First), .c (.int .i64 p0o.Coef), .c (.int .i64 p0o.Most), .c (.int .i64 p0o.Attempts), .c (PV.ls 1 rowS p0o.Fatal)]] : St)) ?_ ?_
  ·
   refine w_block <| w_loopo _ (fun (s19 : Int) => ([(1, .box 0 0), (5, .c (.int .i64 s19))] : Fr)) (fun (s19 : Int) => ([[.c (.str p0o.Queue), .c (.int .i64 p0o.ToStart), .c (.int .i64 p0o.ToClose), .c (.int .i64 p0o.Total), .c (.int .i64 p0o.Beat), .c (.int .i64 p0o.First), .c (.int .i64 p0o.Coef), .c (.int .i64 p0o.Most), .c (.int .i64 p0o.Attempts), .c (PV.ls 1 rowS p0o.Fatal)]] : St)) hx16 (w_weak [] 1 rfl rfl rfl rfl ⟨lr, lr, trivial⟩ (st_r rfl st_nil)) ?_
   intro s19 st19 hs19 ho19
   unfold ref20xRightPolicy_l2 at hs19
   refine w_seqw <| w_sr <| mI rfl <| o_p rfl (p_fa tf27x9 rfl) <| o_p rfl (p_load (v := aL) tv23 rfl rfl rfl) <| o_p rfl (p_len ti23 (isl_c rfl)) <| o_p rfl (p_lss rfl rfl) <| o_ek (fr' := [(1, .box 0 0), (5, aI), (35, aB)]) rfl rfl <| w_ch hs19 rfl (fun hb20 h20 => ?_) (fun hb20 h20 => ?_)
   ·
    refine w_skip <| e_kw <| w_seqw <| w_block <| w_sr <| o_p rfl (p_fa tf27x9 rfl) <| o_p rfl (p_load (v := aL) tv23 rfl rfl rfl) <| mI rfl ?_
    obtain ⟨x21, hx21, h22⟩ := bind_s h20
    refine o_p rfl (p_ia (cs := [.str _]) ts23 (isl_c rfl) rfl hx21 rfl) <| o_p rfl (p_loade (p := .str _) tv9 rfl rfl) <| o_p rfl (p_lens ti9 rfl) <| o_p rfl (p_gtr rfl rfl) <| o_ek (fr' := [(1, .box 0 0), (5, aI), (44, aB)]) rfl rfl <| w_ch h22 rfl (fun hb23 h23 => ?_) (fun hb23 h23 => ?_)
    ·
     refine w_sr <| sB rfl <| o_ek (fr' := [(2, aB)]) rfl rfl <| w_ret <| e_blk_r <| e_seq_r <| e_seq_r <| e_blk_r <| e_seq_r <| e_seq_r ?_
     have h24 := un_out h23 ho19
     have h25 := un_done h24 h17
     obtain rfl := sy h25
     exact e_ret (rs' := [.tmp 2]) rfl <| r_tmp (v := aB) rfl <| r_nil <| fin_gen [] rfl rfl rfl lr st_nil
    ·
     exact w_skip <| e_blk_n <| e_kw <| w_region <| mI rfl <| o_p rfl (p_add rfl rfl) <| sI rfl <| o_end (fr' := [(1, .box 0 0), (5, aI), (44, aB)]) rfl <| e_l _ (sy h23) (w_weak [] 1 rfl rfl rfl rfl ⟨lr, lr, trivial⟩ (st_r rfl st_nil))
   ·
    refine w_exit <| e_seq_x <| e_seq_x <| e_blk_h ?_
    have h27 := un_out h20 ho19
    exact e_j _ (sy h27) (w_weak [] 1 rfl rfl rfl rfl ⟨lr, trivial⟩ (st_r rfl st_nil))
  ·
   intro j18 hj28
   have h28 := un_go hj28 h17
   refine e_kw <| w_sr <| o_p rfl (p_fa tf27x0 rfl) <| o_p rfl (p_load (v := aS) tv9 rfl rfl rfl) <| o_p rfl (p_seql rfl rfl) <| mB rfl <| og rfl rfl rfl (fun hc => (p_fa tf27x0 rfl)) <| og rfl rfl rfl (fun hc => (p_load (v := aS) tv9 (gx rfl hc) rfl rfl)) ?_
   obtain ⟨x29, hx29, h30⟩ := bind_s h28
   refine o_g rfl rfl (fun hc => ov_call (v := aB) rfl (w_ref06xRight (gd_some hx29 hc)) ⟨(le_gv (gx rfl hc) lr), trivial⟩ (ok_eq (by repeat (first | exact ok_nil | refine ok_cons rfl ?_ | refine ok_cons (dgv rfl) ?_))) rfl rfl) ?_
   refine o_p rfl (p_pickz rfl rfl rfl (fun e => keq e)) <| mB rfl <| og rfl rfl rfl (fun hc => (p_fa tf27x6 rfl)) <| og rfl rfl rfl (fun hc => (p_load (v := aI) tv3 (gx rfl hc) rfl rfl)) ?_
   obtain ⟨x31, hx31, h32⟩ := bind_s h30
   refine o_g rfl rfl (fun hc => ov_call (v := aB) rfl (w_ref20xin (gd_some hx31 hc)) ⟨(le_gv (gx rfl hc) lr), lr, lr, trivial⟩ (ok_eq (by repeat (first | exact ok_nil | refine ok_cons rfl ?_ | refine ok_cons (dgv rfl) ?_))) rfl rfl) ?_
   refine o_p rfl (p_picky rfl rfl rfl (fun e => keq e)) <| mB rfl <| og rfl rfl rfl (fun hc => (p_fa tf27x8 rfl)) <| og rfl rfl rfl (fun hc => (p_load (v := aI) tv3 (gx rfl hc) rfl rfl)) ?_
   obtain ⟨x33, hx33, h34⟩ := bind_s h32
   refine o_g rfl rfl (fun hc => ov_call (v := aB) rfl (w_ref20xin (gd_some hx33 hc)) ⟨(le_gv (gx rfl hc) lr), lr, lr, trivial⟩ (ok_eq (by repeat (first | exact ok_nil | refine ok_cons rfl ?_ | refine ok_cons (dgv rfl) ?_))) rfl rfl) ?_
   refine o_p rfl (p_picky rfl rfl rfl (fun e => keq e)) <| mB rfl <| og rfl rfl rfl (fun hc => (p_fa tf27x9 rfl)) <| og rfl rfl rfl (fun hc => (p_load (v := aL) tv23 (gx rfl hc) rfl rfl)) <| og rfl rfl rfl (fun hc => (p_len ti23 (isl_c (gx rfl hc)))) <| og rfl rfl rfl (fun hc => (p_leq (gx rfl hc) rfl)) <| o_p rfl (p_picky rfl rfl rfl (fun e => keq e)) <| sB rfl <| o_ek (fr' := [(2, aB)]) rfl rfl <| w_ret ?_
   obtain rfl := sy h34
   exact e_ret (rs' := [.tmp 2]) rfl <| r_tmp (v := aB) rfl <| r_nil <| fin_gen [] rfl rfl rfl lr st_nil
end Go.Proofs.Ytmnobgopfnhbnaa

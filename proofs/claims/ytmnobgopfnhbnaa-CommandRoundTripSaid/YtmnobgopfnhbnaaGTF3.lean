import Derived.Test.YtmnobgopfnhbnaaGTTy
import Derived.Test.YtmnobgopfnhbnaaGTF0
import Derived.Test.YtmnobgopfnhbnaaGTF1
import Derived.Test.YtmnobgopfnhbnaaGTF2
namespace Go.Proofs.Ytmnobgopfnhbnaa
open Go Abs
set_option maxRecDepth 100000
set_option linter.unusedVariables false
set_option linter.unusedSimpArgs false
noncomputable def command_Policy_l2 (x12 : ApiValue) (s33 : (Int × (List (List UInt8)))) : Option (Step (Int × (List (List UInt8))) (Fl (Step (Int × (List UInt8) × Int × Int × Int × Int × Int × Int × Int × Int × (List (List UInt8))) (Fl (ApiPolicy × Int) ((List UInt8) × Int × Int × Int × Int × Int × Int × Int × Int × (List (List UInt8))))) (List (List UInt8)))) :=
 cond (decide (s33.1 < ((x12.Items).length : Int))) ((idx x12.Items s33.1).bind fun (x35 : ApiValue) => cond (!decide (x35.Kind = (3 : Int))) (some (Step.out (Fl.done (Step.out (Fl.done ((ApiPolicy.mk ([] : List UInt8) (0 : Int) (0 : Int) (0 : Int) (0 : Int) (0 : Int) (0 : Int) (0 : Int) (0 : Int) ([] : (List (List UInt8)))), (12 : Int))))))) ((app 16 s33.2 ([x35.Text] : List (List UInt8))).bind fun (x43 : (List (List UInt8))) => some (Step.next ((IntKind.wrap .i64 (s33.1 + (1 : Int))), x43)))) (some (Step.out (Fl.go s33.2)))
noncomputable def command_Policy_l1 (p0v : ApiValue) (s8 : (Int × (List UInt8) × Int × Int × Int × Int × Int × Int × Int × Int × (List (List UInt8)))) : Option (Step (Int × (List UInt8) × Int × Int × Int × Int × Int × Int × Int × Int × (List (List UInt8))) (Fl (ApiPolicy × Int) ((List UInt8) × Int × Int × Int × Int × Int × Int × Int × Int × (List (List UInt8))))) :=
 cond (decide (s8.1 < ((p0v.Keys).length : Int))) ((idx p0v.Keys s8.1).bind fun (x10 : (List UInt8)) => (idx p0v.Items s8.1).bind fun (x12 : ApiValue) => (slices_Index_string_string ([([116, 111, 83, 116, 97, 114, 116] : List UInt8), ([116, 111, 67, 108, 111, 115, 101] : List UInt8), ([116, 111, 116, 97, 108] : List UInt8), ([98, 101, 97, 116] : List UInt8), ([102, 105, 114, 115, 116] : List UInt8), ([99, 111, 101, 102] : List UInt8), ([109, 111, 115, 116] : List UInt8), ([97, 116, 116, 101, 109, 112, 116, 115] : List UInt8)] : List (List UInt8)) x10).bind fun (x14 : Int) => cond (cond (decide ((0 : Int) ≤ x14)) (decide (x12.Kind = (2 : Int))) false) ((command_numbers_v2 s8.2.1 s8.2.2.1 s8.2.2.2.1 s8.2.2.2.2.1 s8.2.2.2.2.2.1 s8.2.2.2.2.2.2.1 s8.2.2.2.2.2.2.2.1 s8.2.2.2.2.2.2.2.2.1 s8.2.2.2.2.2.2.2.2.2.1 s8.2.2.2.2.2.2.2.2.2.2).bind fun (x17 : ((List UInt8) × Int × Int × Int × Int × Int × Int × Int × Int × (List (List UInt8)))) => cond (decide (x14 = (0 : Int))) (some (Step.next ((IntKind.wrap .i64 (s8.1 + (1 : Int))), x17.1, x12.Int, x17.2.2.1, x17.2.2.2.1, x17.2.2.2.2.1, x17.2.2.2.2.2.1, x17.2.2.2.2.2.2.1, x17.2.2.2.2.2.2.2.1, x17.2.2.2.2.2.2.2.2.1, x17.2.2.2.2.2.2.2.2.2))) (cond (decide (x14 = (1 : Int))) (some (Step.next ((IntKind.wrap .i64 (s8.1 + (1 : Int))), x17.1, x17.2.1, x12.Int, x17.2.2.2.1, x17.2.2.2.2.1, x17.2.2.2.2.2.1, x17.2.2.2.2.2.2.1, x17.2.2.2.2.2.2.2.1, x17.2.2.2.2.2.2.2.2.1, x17.2.2.2.2.2.2.2.2.2))) (cond (decide (x14 = (2 : Int))) (some (Step.next ((IntKind.wrap .i64 (s8.1 + (1 : Int))), x17.1, x17.2.1, x17.2.2.1, x12.Int, x17.2.2.2.2.1, x17.2.2.2.2.2.1, x17.2.2.2.2.2.2.1, x17.2.2.2.2.2.2.2.1, x17.2.2.2.2.2.2.2.2.1, x17.2.2.2.2.2.2.2.2.2))) (cond (decide (x14 = (3 : Int))) (some (Step.next ((IntKind.wrap .i64 (s8.1 + (1 : Int))), x17.1, x17.2.1, x17.2.2.1, x17.2.2.2.1, x12.Int, x17.2.2.2.2.2.1, x17.2.2.2.2.2.2.1, x17.2.2.2.2.2.2.2.1, x17.2.2.2.2.2.2.2.2.1, x17.2.2.2.2.2.2.2.2.2))) (cond (decide (x14 = (4 : Int))) (some (Step.next ((IntKind.wrap .i64 (s8.1 + (1 : Int))), x17.1, x17.2.1, x17.2.2.1, x17.2.2.2.1, x17.2.2.2.2.1, x12.Int, x17.2.2.2.2.2.2.1, x17.2.2.2.2.2.2.2.1, x17.2.2.2.2.2.2.2.2.1, x17.2.2.2.2.2.2.2.2.2))) (cond (decide (x14 = (5 : Int))) (some (Step.next ((IntKind.wrap .i64 (s8.1 + (1 : Int))), x17.1, x17.2.1, x17.2.2.1, x17.2.2.2.1, x17.2.2.2.2.1, x17.2.2.2.2.2.1, x12.Int, x17.2.2.2.2.2.2.2.1, x17.2.2.2.2.2.2.2.2.1, x17.2.2.2.2.2.2.2.2.2))) (cond (decide (x14 = (6 : Int))) (some (Step.next ((IntKind.wrap .i64 (s8.1 + (1 : Int))), x17.1, x17.2.1, x17.2.2.1, x17.2.2.2.1, x17.2.2.2.2.1, x17.2.2.2.2.2.1, x17.2.2.2.2.2.2.1, x12.Int, x17.2.2.2.2.2.2.2.2.1, x17.2.2.2.2.2.2.2.2.2))) (cond (decide (x14 = (7 : Int))) (some (Step.next ((IntKind.wrap .i64 (s8.1 + (1 : Int))), x17.1, x17.2.1, x17.2.2.1, x17.2.2.2.1, x17.2.2.2.2.1, x17.2.2.2.2.2.1, x17.2.2.2.2.2.2.1, x17.2.2.2.2.2.2.2.1, x12.Int, x17.2.2.2.2.2.2.2.2.2))) (none))))))))) (cond (cond (decide (x10 = ([113, 117, 101, 117, 101] : List UInt8))) (decide (x12.Kind = (3 : Int))) false) (some (Step.next ((IntKind.wrap .i64 (s8.1 + (1 : Int))), x12.Text, s8.2.2.1, s8.2.2.2.1, s8.2.2.2.2.1, s8.2.2.2.2.2.1, s8.2.2.2.2.2.2.1, s8.2.2.2.2.2.2.2.1, s8.2.2.2.2.2.2.2.2.1, s8.2.2.2.2.2.2.2.2.2.1, s8.2.2.2.2.2.2.2.2.2.2))) (cond (cond (decide (x10 = ([102, 97, 116, 97, 108] : List UInt8))) (decide (x12.Kind = (4 : Int))) false) (((loopO (command_Policy_l2 x12) (((0 : Int), s8.2.2.2.2.2.2.2.2.2.2))) : Option (Fl (Step (Int × (List UInt8) × Int × Int × Int × Int × Int × Int × Int × Int × (List (List UInt8))) (Fl (ApiPolicy × Int) ((List UInt8) × Int × Int × Int × Int × Int × Int × Int × Int × (List (List UInt8))))) (List (List UInt8)))).bind fun (x30 : (Fl (Step (Int × (List UInt8) × Int × Int × Int × Int × Int × Int × Int × Int × (List (List UInt8))) (Fl (ApiPolicy × Int) ((List UInt8) × Int × Int × Int × Int × Int × Int × Int × Int × (List (List UInt8))))) (List (List UInt8)))) => Fl.next x30 (fun (j32 : (List (List UInt8))) => (some (Step.next ((IntKind.wrap .i64 (s8.1 + (1 : Int))), s8.2.1, s8.2.2.1, s8.2.2.2.1, s8.2.2.2.2.1, s8.2.2.2.2.2.1, s8.2.2.2.2.2.2.1, s8.2.2.2.2.2.2.2.1, s8.2.2.2.2.2.2.2.2.1, s8.2.2.2.2.2.2.2.2.2.1, j32))))) (cond (cond (cond (decide ((0 : Int) ≤ x14)) true (decide (x10 = ([113, 117, 101, 117, 101] : List UInt8)))) true (decide (x10 = ([102, 97, 116, 97, 108] : List UInt8)))) (some (Step.out (Fl.done ((ApiPolicy.mk ([] : List UInt8) (0 : Int) (0 : Int) (0 : Int) (0 : Int) (0 : Int) (0 : Int) (0 : Int) (0 : Int) ([] : (List (List UInt8)))), (12 : Int))))) (some (Step.out (Fl.done ((ApiPolicy.mk ([] : List UInt8) (0 : Int) (0 : Int) (0 : Int) (0 : Int) (0 : Int) (0 : Int) (0 : Int) (0 : Int) ([] : (List (List UInt8)))), (8 : Int))))))))) (some (Step.out (Fl.go (s8.2.1, s8.2.2.1, s8.2.2.2.1, s8.2.2.2.2.1, s8.2.2.2.2.2.1, s8.2.2.2.2.2.2.1, s8.2.2.2.2.2.2.2.1, s8.2.2.2.2.2.2.2.2.1, s8.2.2.2.2.2.2.2.2.2.1, s8.2.2.2.2.2.2.2.2.2.2))))
noncomputable def command_Policy (p0v : ApiValue) : Option (ApiPolicy × Int) :=
 (gd ((!decide (p0v.Kind = (5 : Int))) == false) (value_Right p0v)).bind fun (x1 : Bool) => cond (cond (!decide (p0v.Kind = (5 : Int))) true (!x1)) (some ((ApiPolicy.mk ([] : List UInt8) (0 : Int) (0 : Int) (0 : Int) (0 : Int) (0 : Int) (0 : Int) (0 : Int) (0 : Int) ([] : (List (List UInt8)))), (12 : Int))) (((loopO (command_Policy_l1 p0v) (((0 : Int), ([] : List UInt8), (0 : Int), (0 : Int), (0 : Int), (0 : Int), (0 : Int), (0 : Int), (0 : Int), (0 : Int), ([] : (List (List UInt8)))))) : Option (Fl (ApiPolicy × Int) ((List UInt8) × Int × Int × Int × Int × Int × Int × Int × Int × (List (List UInt8))))).bind fun (x5 : (Fl (ApiPolicy × Int) ((List UInt8) × Int × Int × Int × Int × Int × Int × Int × Int × (List (List UInt8))))) => Fl.next x5 (fun (j7 : ((List UInt8) × Int × Int × Int × Int × Int × Int × Int × Int × (List (List UInt8)))) => ((command_RightPolicy (ApiPolicy.mk j7.1 j7.2.1 j7.2.2.1 j7.2.2.2.1 j7.2.2.2.2.1 j7.2.2.2.2.2.1 j7.2.2.2.2.2.2.1 j7.2.2.2.2.2.2.2.1 j7.2.2.2.2.2.2.2.2.1 j7.2.2.2.2.2.2.2.2.2)).bind fun (x56 : Bool) => cond (!x56) (some ((ApiPolicy.mk ([] : List UInt8) (0 : Int) (0 : Int) (0 : Int) (0 : Int) (0 : Int) (0 : Int) (0 : Int) (0 : Int) ([] : (List (List UInt8)))), (2 : Int))) (some ((ApiPolicy.mk j7.1 j7.2.1 j7.2.2.1 j7.2.2.2.1 j7.2.2.2.2.1 j7.2.2.2.2.2.1 j7.2.2.2.2.2.2.1 j7.2.2.2.2.2.2.2.1 j7.2.2.2.2.2.2.2.2.1 j7.2.2.2.2.2.2.2.2.2), (0 : Int))))))
theorem w_command_Policy {p0v : ApiValue} {res : (ApiPolicy × Int)} (h : command_Policy p0v = some res) : ACalls Try.prog 17 [.agg (AV.cs (exApiValue p0v))] [] (.tup [.agg (AV.cs (rowApiPolicy res.1)), .c (.int .i64 res.2)]) [] := by
 unfold command_Policy at h
 refine acalls (fn := Try.f17) [0, 1, 2, 3, 4, 5, 6, 7, 8, 9, 11, 19, 23, 24, 25, 26, 39, 54, 65, 74, 75, 76, 77, 82, 92, 107] (by kernel_rfl) Try.func17 rfl (by kernel_rfl) (by kernel_rfl) <| w_sr <| o_box (v := .agg aIISLL) (n := 0) (cs := aIISLL) (σ' := [aIISLL]) rfl rfl rfl rfl rfl <| o_alloc (n := 1) (cs := [aS, aI, aI, aI, aI, aI, aI, aI, aI, .nil]) (σ' := [aIISLL, [aS, aI, aI, aI, aI, aI, aI, aI, aI, .nil]]) tz27 rfl rfl rfl <| sI rfl <| o_ek (fr' := [(1, .box 0 0), (2, .box 1 0)]) rfl rfl <| w_seqw <| w_sr <| o_p rfl (p_fa tf25x0 rfl) <| o_p rfl (p_load (v := aI) tv3 rfl rfl rfl) <| o_p rfl (p_neq rfl rfl) ?_
 refine mB rfl <| og rfl rfl rfl (fun hc => (p_loads (us := aIISLL) tv25 rfl rfl rfl rfl)) ?_
 obtain ⟨x1, hx1, h2⟩ := bind_s h
 refine o_g rfl rfl (fun hc => ov_call (v := aB) rfl (w_value_Right (gd_some hx1 hc)) ⟨(le_gv (gx rfl hc) (le_aggc rfl ⟨rfl, rfl, rfl, rfl, rfl, trivial⟩)), trivial⟩ (ok_eq (by repeat (first | exact ok_nil | refine ok_cons rfl ?_ | refine ok_cons (dgv rfl) ?_))) rfl rfl) ?_
 refine og rfl rfl rfl (fun hc => (p_not (gx rfl hc))) <| o_p rfl (p_pickz rfl rfl rfl (fun e => keq e)) <| o_ek (fr' := [(1, .box 0 0), (2, .box 1 0), (19, aB)]) rfl rfl <| w_ch h2 rfl (fun hb3 h3 => ?_) (fun hb3 h3 => ?_)
 ·
  refine w_sr <| o_p rfl (p_buildc (c0 := [aS, aI, aI, aI, aI, aI, aI, aI, aI, .nil]) (cs := [aS, aI, aI, aI, aI, aI, aI, aI, aI, .nil]) tb27 rfl fill_nil) <| o_store (v := .agg [aS, aI, aI, aI, aI, aI, aI, aI, aI, .nil]) (us := [aS, aI, aI, aI, aI, aI, aI, aI, aI, .nil]) (cs := [aS, aI, aI, aI, aI, aI, aI, aI, aI, .nil]) (σ' := [aIISLL, [aS, aI, aI, aI, aI, aI, aI, aI, aI, .nil]]) rfl tv27 rfl rfl rfl rfl rfl rfl rfl rfl <| sI rfl <| o_ek (fr' := [(2, .box 1 0), (3, aI)]) rfl rfl <| w_ret <| e_seq_r ?_
  obtain rfl := sy h3
  exact e_ret (rs' := [.cell 2 27, .tmp 3]) rfl <| r_cells (us := [aS, aI, aI, aI, aI, aI, aI, aI, aI, .nil]) (cs := [aS, aI, aI, aI, aI, aI, aI, aI, aI, .nil]) tv27 rfl rfl rfl rfl <| r_tmp (v := aI) rfl <| r_nil <| fin_gen [] rfl rfl rfl (le_tupp rfl ⟨(le_aggc rfl ⟨rfl, rfl, rfl, rfl, rfl, rfl, rfl, rfl, rfl, ⟨_, rfl⟩, trivial⟩), lr, trivial⟩) st_nil
 ·
  refine w_skip <| e_kw <| w_sr <| o_alloc (n := 2) (cs := [aS, aI, aI, aI, aI, aI, aI, aI, aI, .nil]) (σ' := [aIISLL, [aS, aI, aI, aI, aI, aI, aI, aI, aI, .nil], [aS, aI, aI, aI, aI, aI, aI, aI, aI, .nil]]) tz27 rfl rfl rfl <| o_ek (fr' := [(1, .box 0 0), (2, .box 1 0), (4, .box 2 0)]) rfl rfl <| w_sr <| o_rows (row := rowS) (xs := ([([116, 111, 83, 116, 97, 114, 116] : List UInt8), ([116, 111, 67, 108, 111, 115, 101] : List UInt8), ([116, 111, 116, 97, 108] : List UInt8), ([98, 101, 97, 116] : List UInt8), ([102, 105, 114, 115, 116] : List UInt8), ([99, 111, 101, 102] : List UInt8), ([109, 111, 115, 116] : List UInt8), ([97, 116, 116, 101, 109, 112, 116, 115] : List UInt8)] : List (List UInt8))) (rows := [[_], [_], [_], [_], [_], [_], [_], [_]]) (σ' := [aIISLL, [aS, aI, aI, aI, aI, aI, aI, aI, aI, .nil], [aS, aI, aI, aI, aI, aI, aI, aI, aI, .nil]]) [0] ts23 rfl rfl rfl (arow_cons rfl (arow_cons rfl (arow_cons rfl (arow_cons rfl (arow_cons rfl (arow_cons rfl (arow_cons rfl (arow_cons rfl arow_nil)))))))) rfl rfl <| sV (v := aO) rfl <| o_ek (fr' := [(1, .box 0 0), (2, .box 1 0), (4, .box 2 0), (5, aO)]) rfl rfl <| w_seqw <| w_seqw ?_
  refine w_region <| o_p rfl (p_fa tf25x4 rfl) <| o_p rfl (p_load (v := aL) tv23 rfl rfl rfl) <| o_p rfl (p_len ti23 (isl_c rfl)) <| mI rfl <| o_ek (fr' := [(1, .box 0 0), (2, .box 1 0), (4, .box 2 0), (5, aO), (23, aL), (24, aI), (25, aI)]) rfl rfl ?_
  obtain ⟨x5, hx5, h6⟩ := bind_s h3
  refine w_jtail cl_kw (fun j7 => x5 = Fl.go j7) (fun (j7 : ((List UInt8) × Int × Int × Int × Int × Int × Int × Int × Int × (List (List UInt8)))) => ([(2, .box 1 0), (4, .box 2 0)] : Fr)) (fun (j7 : ((List UInt8) × Int × Int × Int × Int × Int × Int × Int × Int × (List (List UInt8)))) => ([[.c (.int .i64 p0v.Kind), .c (.int .i64 p0v.Int), .c (.str p0v.Text), .c (PV.ls 5 rowApiValue p0v.Items), .c (PV.ls 1 rowS p0v.Keys)], [.c (.str ([] : List UInt8)), .c (.int .i64 (0 : Int)), .c (.int .i64 (0 : Int)), .c (.int .i64 (0 : Int)), .c (.int .i64 (0 : Int)), .c (.int .i64 (0 : Int)), .c (.int .i64 (0 : Int)), .c (.int .i64 (0 : Int)), .c (.int .i64 (0 : Int)), .nil], [.c (.str j7.1), .c (.int .i64 j7.2.1), .c (.int .i64 j7.2.2.1), .c (.int .i64 j7.2.2.2.1), .c (.int .i64 j7.2.2.2.2.1), .c (.int .i64 j7.2.2.2.2.2.1), .c (.int .i64 j7.2.2.2.2.2.2.1), .c (.int .i64 j7.2.2.2.2.2.2.2.1), .c (.int .i64 j7.2.2.2.2.2.2.2.2.1), AV.os 0 1 rowS j7.2.2.2.2.2.2.2.2.2]] : St)) ?_ ?_
  ·
   refine w_block <| w_loopo _ (fun (s8 : (Int × (List UInt8) × Int × Int × Int × Int × Int × Int × Int × Int × (List (List UInt8)))) => ([(1, .box 0 0), (2, .box 1 0), (4, .box 2 0), (5, AV.os 0 1 rowS ([([116, 111, 83, 116, 97, 114, 116] : List UInt8), ([116, 111, 67, 108, 111, 115, 101] : List UInt8), ([116, 111, 116, 97, 108] : List UInt8), ([98, 101, 97, 116] : List UInt8), ([102, 105, 114, 115, 116] : List UInt8), ([99, 111, 101, 102] : List UInt8), ([109, 111, 115, 116] : List UInt8), ([97, 116, 116, 101, 109, 112, 116, 115] : List UInt8)] : List (List UInt8))), (23, .c (PV.ls 1 rowS p0v.Keys)), (24, .c (.int .i64 ((p0v.Keys).length : Int))), (25, .c (.int .i64 s8.1))] : Fr)) (fun (s8 : (Int × (List UInt8) × Int × Int × Int × Int × Int × Int × Int × Int × (List (List UInt8)))) => ([[.c (.int .i64 p0v.Kind), .c (.int .i64 p0v.Int), .c (.str p0v.Text), .c (PV.ls 5 rowApiValue p0v.Items), .c (PV.ls 1 rowS p0v.Keys)], [.c (.str ([] : List UInt8)), .c (.int .i64 (0 : Int)), .c (.int .i64 (0 : Int)), .c (.int .i64 (0 : Int)), .c (.int .i64 (0 : Int)), .c (.int .i64 (0 : Int)), .c (.int .i64 (0 : Int)), .c (.int .i64 (0 : Int)), .c (.int .i64 (0 : Int)), .nil], [.c (.str s8.2.1), .c (.int .i64 s8.2.2.1), .c (.int .i64 s8.2.2.2.1), .c (.int .i64 s8.2.2.2.2.1), .c (.int .i64 s8.2.2.2.2.2.1), .c (.int .i64 s8.2.2.2.2.2.2.1), .c (.int .i64 s8.2.2.2.2.2.2.2.1), .c (.int .i64 s8.2.2.2.2.2.2.2.2.1), .c (.int .i64 s8.2.2.2.2.2.2.2.2.2.1), AV.os 1 1 rowS s8.2.2.2.2.2.2.2.2.2.2]] : St)) hx5 (w_weak [336, 1000001] 3 rfl rfl rfl rfl ⟨lr, lr, lr, lr, lr, lr, lr, trivial⟩ (st_r rfl (st_r rfl (st_p ⟨lr, lr, lr, lr, lr, lr, lr, lr, lr, (le_nos rfl), trivial⟩ st_nil)))) ?_
   intro s8 st8 hs8 ho8
   unfold command_Policy_l1 at hs8
   refine w_sr <| o_p rfl (p_lss rfl rfl) <| o_ek (fr' := [(1, .box 0 0), (2, .box 1 0), (4, .box 2 0), (5, aO), (23, aL), (24, aI), (25, aI), (26, aB)]) rfl rfl <| w_seqw <| w_ch hs8 rfl (fun hb9 h9 => ?_) (fun hb9 h9 => ?_)
   ·
    refine w_skip <| e_kw <| w_seqw <| w_block <| w_sr <| mI rfl ?_
    obtain ⟨x10, hx10, h11⟩ := bind_s h9
    refine o_p rfl (p_ia (cs := [.str _]) ts23 (isl_c rfl) rfl hx10 rfl) <| o_p rfl (p_loade (p := .str _) tv9 rfl rfl) <| sI rfl <| sS rfl <| o_ek (fr' := [(1, .box 0 0), (2, .box 1 0), (4, .box 2 0), (5, aO), (6, aI), (7, aS), (23, aL), (24, aI), (25, aI)]) rfl rfl <| w_sr <| o_p rfl (p_fa tf25x3 rfl) <| o_p rfl (p_load (v := aL) tv22 rfl rfl rfl) <| mI rfl ?_
    obtain ⟨x12, hx12, h13⟩ := bind_s h11
    refine o_p rfl (p_ia (cs := [.int _ _, .int _ _, .str _, PV.ls _ _ _, PV.ls _ _ _]) ts22 (isl_c rfl) rfl hx12 (rowApiValue_eq _)) <| o_p rfl (p_loades (us := [.int _ _, .int _ _, .str _, PV.ls _ _ _, PV.ls _ _ _]) tv25 rfl rfl rfl) <| o_alloc (n := 3) (cs := [aI, aI, aS, .nil, .nil]) (σ' := [aIISLL, [aS, aI, aI, aI, aI, aI, aI, aI, aI, .nil], [aS, aI, aI, aI, aI, aI, aI, aI, aI, aO], [aI, aI, aS, .nil, .nil]]) tz25 rfl rfl rfl <| o_store (v := .agg aIISLL) (us := aIISLL) (cs := [aI, aI, aS, .nil, .nil]) (σ' := [aIISLL, [aS, aI, aI, aI, aI, aI, aI, aI, aI, .nil], [aS, aI, aI, aI, aI, aI, aI, aI, aI, aO], aIISLL]) rfl tv25 rfl rfl rfl rfl rfl rfl rfl rfl <| o_ek (fr' := [(1, .box 0 0), (2, .box 1 0), (4, .box 2 0), (5, aO), (7, aS), (8, .box 3 0), (23, aL), (24, aI), (25, aI)]) rfl rfl <| w_sr <| mV (v := aO) rfl <| mS rfl ?_
    obtain ⟨x14, hx14, h15⟩ := bind_s h13
    refine o_v (ov_call (v := aI) rfl (w_slices_Index_string_string hx14) ⟨lr, lr, trivial⟩ rfl rfl rfl) <| sI rfl <| o_ek (fr' := [(1, .box 0 0), (2, .box 1 0), (4, .box 2 0), (5, aO), (7, aS), (8, .box 3 0), (9, aI), (23, aL), (24, aI), (25, aI)]) rfl rfl <| w_block <| w_sr <| mI rfl <| o_p rfl (p_geq rfl rfl) <| mB rfl <| og rfl rfl rfl (fun hc => (p_fa tf25x0 rfl)) <| og rfl rfl rfl (fun hc => (p_load (v := aI) tv3 (gx rfl hc) rfl rfl)) <| og rfl rfl rfl (fun hc => (p_eql (gx rfl hc) rfl)) <| o_p rfl (p_picky rfl rfl rfl (fun e => keq e)) ?_
    refine sB rfl <| o_ek (fr' := [(1, .box 0 0), (2, .box 1 0), (4, .box 2 0), (5, aO), (7, aS), (8, .box 3 0), (9, aI), (23, aL), (24, aI), (25, aI), (39, aB)]) rfl rfl <| w_ch h15 rfl (fun hb16 h16 => ?_) (fun hb16 h16 => ?_)
    ·
     refine w_planT [.q 1, .q 4, .q 5, .n 0 [1, 4, 5], .q 2, .q 3, .q 6, .n 7 []] [(some 47, [4]), (some 48, [9]), (some 49, [47, 48]), (some 50, [49]), (some 51, [8]), (some 52, [51]), (some 53, [50]), (none, [53, 52])] [0, 0, 3, 7, 0, 16, 63, 127] (by kernel_rfl) <| dq rfl rfl (p_move (v := aI) rfl) <| dq rfl rfl (p_fa tf25x1 rfl) <| dq rfl rfl (p_load (v := aI) tv3 rfl rfl rfl) <| d_n rfl ?_ rfl
     obtain ⟨x17, hx17, h18⟩ := bind_s h16
     refine o_callT (v := .ptrs [(2, 1), (2, 2), (2, 3), (2, 4), (2, 5), (2, 6), (2, 7), (2, 8)]) (σ' := [aIISLL, [aS, aI, aI, aI, aI, aI, aI, aI, aI, .nil], [aS, aI, aI, aI, aI, aI, aI, aI, aI, aO], aIISLL]) 47 [2] [1] rfl (w_command_numbers_v2 hx17) rfl rfl rfl ⟨lr, trivial⟩ (st_p ⟨lr, lr, lr, lr, lr, lr, lr, lr, lr, lr, trivial⟩ st_nil) rfl rfl rfl <| o_rc <| ⟨(rc_q (v := aI) rfl rfl (qv_p rfl (p_move (v := aI) rfl)) (rc_q (v := .box 3 1) rfl rfl (qv_p rfl (p_fa tf25x1 rfl)) (rc_q (v := aI) rfl rfl (qv_p rfl (p_load (v := aI) tv3 rfl rfl rfl)) rc_nil))), ?_⟩
     refine r_ch h18 (fun hb20 h20 => ?_) (fun hb20 h20 => ?_)
     ·
      refine dq rfl rfl (p_iap (p := (2, 1)) ts70 rfl rfl (by rw [of_dec hb20]; rfl)) <| dq rfl rfl (p_loadp tv69 rfl) <| dq rfl rfl (p_nc rfl) <| d_n rfl ?_ rfl
      refine o_store (v := aI) (us := [aI]) (cs := [aS, aI, aI, aI, aI, aI, aI, aI, aI, aO]) (σ' := [aIISLL, [aS, aI, aI, aI, aI, aI, aI, aI, aI, .nil], [aS, aI, aI, aI, aI, aI, aI, aI, aI, aO], aIISLL]) rfl tv3 rfl rfl rfl rfl rfl rfl rfl rfl <| o_rc <| ⟨rc_nil, ?_⟩
      exact d_end (fr' := [(1, .box 0 0), (2, .box 1 0), (4, .box 2 0), (5, aO), (7, aS), (8, .box 3 0), (9, aI), (23, aL), (24, aI), (25, aI), (39, aB)]) rfl <| e_blk_n <| e_blk_n <| e_kw <| w_region <| o_p rfl (p_add rfl rfl) <| mI rfl <| o_end (fr' := [(1, .box 0 0), (2, .box 1 0), (4, .box 2 0), (5, aO), (7, aS), (8, .box 3 0), (9, aI), (23, aL), (24, aI), (25, aI), (39, aB)]) rfl <| e_l _ (sy h20) (w_weak [0, 752] 3 rfl rfl rfl rfl ⟨lr, lr, lr, lr, lr, lr, lr, trivial⟩ (st_r rfl (st_r rfl (st_r rfl st_nil))))
     ·
      refine r_ch h20 (fun hb21 h21 => ?_) (fun hb21 h21 => ?_)
      ·
       refine dq rfl rfl (p_iap (p := (2, 2)) ts70 rfl rfl (by rw [of_dec hb21]; rfl)) <| dq rfl rfl (p_loadp tv69 rfl) <| dq rfl rfl (p_nc rfl) <| d_n rfl ?_ rfl
       refine o_store (v := aI) (us := [aI]) (cs := [aS, aI, aI, aI, aI, aI, aI, aI, aI, aO]) (σ' := [aIISLL, [aS, aI, aI, aI, aI, aI, aI, aI, aI, .nil], [aS, aI, aI, aI, aI, aI, aI, aI, aI, aO], aIISLL]) rfl tv3 rfl rfl rfl rfl rfl rfl rfl rfl <| o_rc <| ⟨rc_nil, ?_⟩
       exact d_end (fr' := [(1, .box 0 0), (2, .box 1 0), (4, .box 2 0), (5, aO), (7, aS), (8, .box 3 0), (9, aI), (23, aL), (24, aI), (25, aI), (39, aB)]) rfl <| e_blk_n <| e_blk_n <| e_kw <| w_region <| o_p rfl (p_add rfl rfl) <| mI rfl <| o_end (fr' := [(1, .box 0 0), (2, .box 1 0), (4, .box 2 0), (5, aO), (7, aS), (8, .box 3 0), (9, aI), (23, aL), (24, aI), (25, aI), (39, aB)]) rfl <| e_l _ (sy h21) (w_weak [0, 752] 3 rfl rfl rfl rfl ⟨lr, lr, lr, lr, lr, lr, lr, trivial⟩ (st_r rfl (st_r rfl (st_r rfl st_nil))))
      ·
       refine r_ch h21 (fun hb22 h22 => ?_) (fun hb22 h22 => ?_)
       ·
        refine dq rfl rfl (p_iap (p := (2, 3)) ts70 rfl rfl (by rw [of_dec hb22]; rfl)) <| dq rfl rfl (p_loadp tv69 rfl) <| dq rfl rfl (p_nc rfl) <| d_n rfl ?_ rfl
        refine o_store (v := aI) (us := [aI]) (cs := [aS, aI, aI, aI, aI, aI, aI, aI, aI, aO]) (σ' := [aIISLL, [aS, aI, aI, aI, aI, aI, aI, aI, aI, .nil], [aS, aI, aI, aI, aI, aI, aI, aI, aI, aO], aIISLL]) rfl tv3 rfl rfl rfl rfl rfl rfl rfl rfl <| o_rc <| ⟨rc_nil, ?_⟩
        exact d_end (fr' := [(1, .box 0 0), (2, .box 1 0), (4, .box 2 0), (5, aO), (7, aS), (8, .box 3 0), (9, aI), (23, aL), (24, aI), (25, aI), (39, aB)]) rfl <| e_blk_n <| e_blk_n <| e_kw <| w_region <| o_p rfl (p_add rfl rfl) <| mI rfl <| o_end (fr' := [(1, .box 0 0), (2, .box 1 0), (4, .box 2 0), (5, aO), (7, aS), (8, .box 3 0), (9, aI), (23, aL), (24, aI), (25, aI), (39, aB)]) rfl <| e_l _ (sy h22) (w_weak [0, 752] 3 rfl rfl rfl rfl ⟨lr, lr, lr, lr, lr, lr, lr, trivial⟩ (st_r rfl (st_r rfl (st_r rfl st_nil))))
       ·
        refine r_ch h22 (fun hb23 h23 => ?_) (fun hb23 h23 => ?_)
        ·
         refine dq rfl rfl (p_iap (p := (2, 4)) ts70 rfl rfl (by rw [of_dec hb23]; rfl)) <| dq rfl rfl (p_loadp tv69 rfl) <| dq rfl rfl (p_nc rfl) <| d_n rfl ?_ rfl
         refine o_store (v := aI) (us := [aI]) (cs := [aS, aI, aI, aI, aI, aI, aI, aI, aI, aO]) (σ' := [aIISLL, [aS, aI, aI, aI, aI, aI, aI, aI, aI, .nil], [aS, aI, aI, aI, aI, aI, aI, aI, aI, aO], aIISLL]) rfl tv3 rfl rfl rfl rfl rfl rfl rfl rfl <| o_rc <| ⟨rc_nil, ?_⟩
         exact d_end (fr' := [(1, .box 0 0), (2, .box 1 0), (4, .box 2 0), (5, aO), (7, aS), (8, .box 3 0), (9, aI), (23, aL), (24, aI), (25, aI), (39, aB)]) rfl <| e_blk_n <| e_blk_n <| e_kw <| w_region <| o_p rfl (p_add rfl rfl) <| mI rfl <| o_end (fr' := [(1, .box 0 0), (2, .box 1 0), (4, .box 2 0), (5, aO), (7, aS), (8, .box 3 0), (9, aI), (23, aL), (24, aI), (25, aI), (39, aB)]) rfl <| e_l _ (sy h23) (w_weak [0, 752] 3 rfl rfl rfl rfl ⟨lr, lr, lr, lr, lr, lr, lr, trivial⟩ (st_r rfl (st_r rfl (st_r rfl st_nil))))
        ·
         refine r_ch h23 (fun hb24 h24 => ?_) (fun hb24 h24 => ?_)
         ·
          refine dq rfl rfl (p_iap (p := (2, 5)) ts70 rfl rfl (by rw [of_dec hb24]; rfl)) <| dq rfl rfl (p_loadp tv69 rfl) <| dq rfl rfl (p_nc rfl) <| d_n rfl ?_ rfl
          refine o_store (v := aI) (us := [aI]) (cs := [aS, aI, aI, aI, aI, aI, aI, aI, aI, aO]) (σ' := [aIISLL, [aS, aI, aI, aI, aI, aI, aI, aI, aI, .nil], [aS, aI, aI, aI, aI, aI, aI, aI, aI, aO], aIISLL]) rfl tv3 rfl rfl rfl rfl rfl rfl rfl rfl <| o_rc <| ⟨rc_nil, ?_⟩
          exact d_end (fr' := [(1, .box 0 0), (2, .box 1 0), (4, .box 2 0), (5, aO), (7, aS), (8, .box 3 0), (9, aI), (23, aL), (24, aI), (25, aI), (39, aB)]) rfl <| e_blk_n <| e_blk_n <| e_kw <| w_region <| o_p rfl (p_add rfl rfl) <| mI rfl <| o_end (fr' := [(1, .box 0 0), (2, .box 1 0), (4, .box 2 0), (5, aO), (7, aS), (8, .box 3 0), (9, aI), (23, aL), (24, aI), (25, aI), (39, aB)]) rfl <| e_l _ (sy h24) (w_weak [0, 752] 3 rfl rfl rfl rfl ⟨lr, lr, lr, lr, lr, lr, lr, trivial⟩ (st_r rfl (st_r rfl (st_r rfl st_nil))))
         ·
          refine r_ch h24 (fun hb25 h25 => ?_) (fun hb25 h25 => ?_)
          ·
           refine dq rfl rfl (p_iap (p := (2, 6)) ts70 rfl rfl (by rw [of_dec hb25]; rfl)) <| dq rfl rfl (p_loadp tv69 rfl) <| dq rfl rfl (p_nc rfl) <| d_n rfl ?_ rfl
           refine o_store (v := aI) (us := [aI]) (cs := [aS, aI, aI, aI, aI, aI, aI, aI, aI, aO]) (σ' := [aIISLL, [aS, aI, aI, aI, aI, aI, aI, aI, aI, .nil], [aS, aI, aI, aI, aI, aI, aI, aI, aI, aO], aIISLL]) rfl tv3 rfl rfl rfl rfl rfl rfl rfl rfl <| o_rc <| ⟨rc_nil, ?_⟩
           exact d_end (fr' := [(1, .box 0 0), (2, .box 1 0), (4, .box 2 0), (5, aO), (7, aS), (8, .box 3 0), (9, aI), (23, aL), (24, aI), (25, aI), (39, aB)]) rfl <| e_blk_n <| e_blk_n <| e_kw <| w_region <| o_p rfl (p_add rfl rfl) <| mI rfl <| o_end (fr' := [(1, .box 0 0), (2, .box 1 0), (4, .box 2 0), (5, aO), (7, aS), (8, .box 3 0), (9, aI), (23, aL), (24, aI), (25, aI), (39, aB)]) rfl <| e_l _ (sy h25) (w_weak [0, 752] 3 rfl rfl rfl rfl ⟨lr, lr, lr, lr, lr, lr, lr, trivial⟩ (st_r rfl (st_r rfl (st_r rfl st_nil))))
          ·
           refine r_ch h25 (fun hb26 h26 => ?_) (fun hb26 h26 => ?_)
           ·
            refine dq rfl rfl (p_iap (p := (2, 7)) ts70 rfl rfl (by rw [of_dec hb26]; rfl)) <| dq rfl rfl (p_loadp tv69 rfl) <| dq rfl rfl (p_nc rfl) <| d_n rfl ?_ rfl
            refine o_store (v := aI) (us := [aI]) (cs := [aS, aI, aI, aI, aI, aI, aI, aI, aI, aO]) (σ' := [aIISLL, [aS, aI, aI, aI, aI, aI, aI, aI, aI, .nil], [aS, aI, aI, aI, aI, aI, aI, aI, aI, aO], aIISLL]) rfl tv3 rfl rfl rfl rfl rfl rfl rfl rfl <| o_rc <| ⟨rc_nil, ?_⟩
            exact d_end (fr' := [(1, .box 0 0), (2, .box 1 0), (4, .box 2 0), (5, aO), (7, aS), (8, .box 3 0), (9, aI), (23, aL), (24, aI), (25, aI), (39, aB)]) rfl <| e_blk_n <| e_blk_n <| e_kw <| w_region <| o_p rfl (p_add rfl rfl) <| mI rfl <| o_end (fr' := [(1, .box 0 0), (2, .box 1 0), (4, .box 2 0), (5, aO), (7, aS), (8, .box 3 0), (9, aI), (23, aL), (24, aI), (25, aI), (39, aB)]) rfl <| e_l _ (sy h26) (w_weak [0, 752] 3 rfl rfl rfl rfl ⟨lr, lr, lr, lr, lr, lr, lr, trivial⟩ (st_r rfl (st_r rfl (st_r rfl st_nil))))
           ·
            refine r_ch h26 (fun hb27 h27 => ?_) (fun hb27 h27 => ?_)
            ·
             refine dq rfl rfl (p_iap (p := (2, 8)) ts70 rfl rfl (by rw [of_dec hb27]; rfl)) <| dq rfl rfl (p_loadp tv69 rfl) <| dq rfl rfl (p_nc rfl) <| d_n rfl ?_ rfl
             refine o_store (v := aI) (us := [aI]) (cs := [aS, aI, aI, aI, aI, aI, aI, aI, aI, aO]) (σ' := [aIISLL, [aS, aI, aI, aI, aI, aI, aI, aI, aI, .nil], [aS, aI, aI, aI, aI, aI, aI, aI, aI, aO], aIISLL]) rfl tv3 rfl rfl rfl rfl rfl rfl rfl rfl <| o_rc <| ⟨rc_nil, ?_⟩
             exact d_end (fr' := [(1, .box 0 0), (2, .box 1 0), (4, .box 2 0), (5, aO), (7, aS), (8, .box 3 0), (9, aI), (23, aL), (24, aI), (25, aI), (39, aB)]) rfl <| e_blk_n <| e_blk_n <| e_kw <| w_region <| o_p rfl (p_add rfl rfl) <| mI rfl <| o_end (fr' := [(1, .box 0 0), (2, .box 1 0), (4, .box 2 0), (5, aO), (7, aS), (8, .box 3 0), (9, aI), (23, aL), (24, aI), (25, aI), (39, aB)]) rfl <| e_l _ (sy h27) (w_weak [0, 752] 3 rfl rfl rfl rfl ⟨lr, lr, lr, lr, lr, lr, lr, trivial⟩ (st_r rfl (st_r rfl (st_r rfl st_nil))))
            ·
             exact none_ne h27
    ·
     refine w_sr <| mS rfl <| o_p rfl (p_seql rfl rfl) <| mB rfl <| og rfl rfl rfl (fun hc => (p_fa tf25x0 rfl)) <| og rfl rfl rfl (fun hc => (p_load (v := aI) tv3 (gx rfl hc) rfl rfl)) <| og rfl rfl rfl (fun hc => (p_eql (gx rfl hc) rfl)) <| o_p rfl (p_picky rfl rfl rfl (fun e => keq e)) <| sB rfl <| o_ek (fr' := [(1, .box 0 0), (2, .box 1 0), (4, .box 2 0), (5, aO), (7, aS), (8, .box 3 0), (9, aI), (23, aL), (24, aI), (25, aI), (54, aB)]) rfl rfl <| w_ch h16 rfl (fun hb28 h28 => ?_) (fun hb28 h28 => ?_)
     ·
      refine w_region <| o_p rfl (p_fa tf25x2 rfl) <| o_p rfl (p_load (v := aS) tv9 rfl rfl rfl) <| o_p rfl (p_fa tf27x0 rfl) <| o_store (v := aS) (us := [aS]) (cs := [aS, aI, aI, aI, aI, aI, aI, aI, aI, aO]) (σ' := [aIISLL, [aS, aI, aI, aI, aI, aI, aI, aI, aI, .nil], [aS, aI, aI, aI, aI, aI, aI, aI, aI, aO], aIISLL]) rfl tv9 rfl rfl rfl rfl rfl rfl rfl rfl <| o_end (fr' := [(1, .box 0 0), (2, .box 1 0), (4, .box 2 0), (5, aO), (7, aS), (8, .box 3 0), (9, aI), (23, aL), (24, aI), (25, aI), (54, aB)]) rfl <| e_blk_n <| e_blk_n <| e_kw <| w_region <| o_p rfl (p_add rfl rfl) <| mI rfl <| o_end (fr' := [(1, .box 0 0), (2, .box 1 0), (4, .box 2 0), (5, aO), (7, aS), (8, .box 3 0), (9, aI), (23, aL), (24, aI), (25, aI), (54, aB)]) rfl ?_
      exact e_l _ (sy h28) (w_weak [0, 1] 3 rfl rfl rfl rfl ⟨lr, lr, lr, lr, lr, lr, lr, trivial⟩ (st_r rfl (st_r rfl (st_r rfl st_nil))))
     ·
      refine w_sr <| mS rfl <| o_p rfl (p_seql rfl rfl) <| mB rfl <| og rfl rfl rfl (fun hc => (p_fa tf25x0 rfl)) <| og rfl rfl rfl (fun hc => (p_load (v := aI) tv3 (gx rfl hc) rfl rfl)) <| og rfl rfl rfl (fun hc => (p_eql (gx rfl hc) rfl)) <| o_p rfl (p_picky rfl rfl rfl (fun e => keq e)) <| sB rfl <| o_ek (fr' := [(1, .box 0 0), (2, .box 1 0), (4, .box 2 0), (5, aO), (7, aS), (8, .box 3 0), (9, aI), (23, aL), (24, aI), (25, aI), (65, aB)]) rfl rfl <| w_ch h28 rfl (fun hb29 h29 => ?_) (fun hb29 h29 => ?_)
      ·
       refine w_sr <| o_p rfl (p_fa tf25x3 rfl) <| o_p rfl (p_load (v := aL) tv22 rfl rfl rfl) <| o_p rfl (p_len ti22 (isl_c rfl)) <| mI rfl <| o_ek (fr' := [(1, .box 0 0), (2, .box 1 0), (4, .box 2 0), (5, aO), (23, aL), (24, aI), (25, aI), (74, aL), (75, aI), (76, aI)]) rfl rfl ?_
       obtain ⟨x30, hx30, h31⟩ := bind_s h29
       refine w_jtail (cl_b (cl_b cl_kw)) (fun j32 => x30 = Fl.go j32) (fun (j32 : (List (List UInt8))) => ([(1, .box 0 0), (2, .box 1 0), (4, .box 2 0), (5, AV.os 0 1 rowS ([([116, 111, 83, 116, 97, 114, 116] : List UInt8), ([116, 111, 67, 108, 111, 115, 101] : List UInt8), ([116, 111, 116, 97, 108] : List UInt8), ([98, 101, 97, 116] : List UInt8), ([102, 105, 114, 115, 116] : List UInt8), ([99, 111, 101, 102] : List UInt8), ([109, 111, 115, 116] : List UInt8), ([97, 116, 116, 101, 109, 112, 116, 115] : List UInt8)] : List (List UInt8))), (23, .c (PV.ls 1 rowS p0v.Keys)), (24, .c (.int .i64 ((p0v.Keys).length : Int))), (25, .c (.int .i64 s8.1))] : Fr)) (fun (j32 : (List (List UInt8))) => ([[.c (.int .i64 p0v.Kind), .c (.int .i64 p0v.Int), .c (.str p0v.Text), .c (PV.ls 5 rowApiValue p0v.Items), .c (PV.ls 1 rowS p0v.Keys)], [.c (.str ([] : List UInt8)), .c (.int .i64 (0 : Int)), .c (.int .i64 (0 : Int)), .c (.int .i64 (0 : Int)), .c (.int .i64 (0 : Int)), .c (.int .i64 (0 : Int)), .c (.int .i64 (0 : Int)), .c (.int .i64 (0 : Int)), .c (.int .i64 (0 : Int)), .nil], [.c (.str s8.2.1), .c (.int .i64 s8.2.2.1), .c (.int .i64 s8.2.2.2.1), .c (.int .i64 s8.2.2.2.2.1), .c (.int .i64 s8.2.2.2.2.2.1), .c (.int .i64 s8.2.2.2.2.2.2.1), .c (.int .i64 s8.2.2.2.2.2.2.2.1), .c (.int .i64 s8.2.2.2.2.2.2.2.2.1), .c (.int .i64 s8.2.2.2.2.2.2.2.2.2.1), AV.os 1 1 rowS j32], [.c (.int .i64 x12.Kind), .c (.int .i64 x12.Int), .c (.str x12.Text), .c (PV.ls 5 rowApiValue x12.Items), .c (PV.ls 1 rowS x12.Keys)]] : St)) ?_ ?_
       ·
        refine w_block <| w_loopo _ (fun (s33 : (Int × (List (List UInt8)))) => ([(1, .box 0 0), (2, .box 1 0), (4, .box 2 0), (5, AV.os 0 1 rowS ([([116, 111, 83, 116, 97, 114, 116] : List UInt8), ([116, 111, 67, 108, 111, 115, 101] : List UInt8), ([116, 111, 116, 97, 108] : List UInt8), ([98, 101, 97, 116] : List UInt8), ([102, 105, 114, 115, 116] : List UInt8), ([99, 111, 101, 102] : List UInt8), ([109, 111, 115, 116] : List UInt8), ([97, 116, 116, 101, 109, 112, 116, 115] : List UInt8)] : List (List UInt8))), (23, .c (PV.ls 1 rowS p0v.Keys)), (24, .c (.int .i64 ((p0v.Keys).length : Int))), (25, .c (.int .i64 s8.1)), (74, .c (PV.ls 5 rowApiValue x12.Items)), (75, .c (.int .i64 ((x12.Items).length : Int))), (76, .c (.int .i64 s33.1))] : Fr)) (fun (s33 : (Int × (List (List UInt8)))) => ([[.c (.int .i64 p0v.Kind), .c (.int .i64 p0v.Int), .c (.str p0v.Text), .c (PV.ls 5 rowApiValue p0v.Items), .c (PV.ls 1 rowS p0v.Keys)], [.c (.str ([] : List UInt8)), .c (.int .i64 (0 : Int)), .c (.int .i64 (0 : Int)), .c (.int .i64 (0 : Int)), .c (.int .i64 (0 : Int)), .c (.int .i64 (0 : Int)), .c (.int .i64 (0 : Int)), .c (.int .i64 (0 : Int)), .c (.int .i64 (0 : Int)), .nil], [.c (.str s8.2.1), .c (.int .i64 s8.2.2.1), .c (.int .i64 s8.2.2.2.1), .c (.int .i64 s8.2.2.2.2.1), .c (.int .i64 s8.2.2.2.2.2.1), .c (.int .i64 s8.2.2.2.2.2.2.1), .c (.int .i64 s8.2.2.2.2.2.2.2.1), .c (.int .i64 s8.2.2.2.2.2.2.2.2.1), .c (.int .i64 s8.2.2.2.2.2.2.2.2.2.1), AV.os 1 1 rowS s33.2], [.c (.int .i64 x12.Kind), .c (.int .i64 x12.Int), .c (.str x12.Text), .c (PV.ls 5 rowApiValue x12.Items), .c (PV.ls 1 rowS x12.Keys)]] : St)) hx30 (w_weak [0, 1] 4 rfl rfl rfl rfl ⟨lr, lr, lr, lr, lr, lr, lr, lr, lr, lr, trivial⟩ (st_r rfl (st_r rfl (st_r rfl (st_r rfl st_nil))))) ?_
        intro s33 st33 hs33 ho33
        unfold command_Policy_l2 at hs33
        refine w_sr <| o_p rfl (p_lss rfl rfl) <| o_ek (fr' := [(1, .box 0 0), (2, .box 1 0), (4, .box 2 0), (5, aO), (23, aL), (24, aI), (25, aI), (74, aL), (75, aI), (76, aI), (77, aB)]) rfl rfl <| w_seqw <| w_ch hs33 rfl (fun hb34 h34 => ?_) (fun hb34 h34 => ?_)
        ·
         refine w_skip <| e_kw <| w_seqw <| w_block <| w_seqw <| w_region ?_
         obtain ⟨x35, hx35, h36⟩ := bind_s h34
         refine o_p rfl (p_ia (cs := [.int _ _, .int _ _, .str _, PV.ls _ _ _, PV.ls _ _ _]) ts22 (isl_c rfl) rfl hx35 (rowApiValue_eq _)) <| o_p rfl (p_loades (us := [.int _ _, .int _ _, .str _, PV.ls _ _ _, PV.ls _ _ _]) tv25 rfl rfl rfl) <| o_alloc (n := 4) (cs := [aI, aI, aS, .nil, .nil]) (σ' := [aIISLL, [aS, aI, aI, aI, aI, aI, aI, aI, aI, .nil], [aS, aI, aI, aI, aI, aI, aI, aI, aI, aO], aIISLL, [aI, aI, aS, .nil, .nil]]) tz25 rfl rfl rfl <| o_store (v := .agg aIISLL) (us := aIISLL) (cs := [aI, aI, aS, .nil, .nil]) (σ' := [aIISLL, [aS, aI, aI, aI, aI, aI, aI, aI, aI, .nil], [aS, aI, aI, aI, aI, aI, aI, aI, aI, aO], aIISLL, aIISLL]) rfl tv25 rfl rfl rfl rfl rfl rfl rfl rfl <| o_ek (fr' := [(1, .box 0 0), (2, .box 1 0), (4, .box 2 0), (5, aO), (11, .box 4 0), (23, aL), (24, aI), (25, aI), (74, aL), (75, aI), (76, aI)]) rfl rfl <| w_seqw <| w_sr <| o_p rfl (p_fa tf25x0 rfl) <| o_p rfl (p_load (v := aI) tv3 rfl rfl rfl) <| o_p rfl (p_neq rfl rfl) <| o_ek (fr' := [(1, .box 0 0), (2, .box 1 0), (4, .box 2 0), (5, aO), (11, .box 4 0), (23, aL), (24, aI), (25, aI), (74, aL), (75, aI), (76, aI), (82, aB)]) rfl rfl <| w_ch h36 rfl (fun hb37 h37 => ?_) (fun hb37 h37 => ?_)
         ·
          refine w_sr <| o_p rfl (p_buildc (c0 := [aS, aI, aI, aI, aI, aI, aI, aI, aI, .nil]) (cs := [aS, aI, aI, aI, aI, aI, aI, aI, aI, .nil]) tb27 rfl fill_nil) <| o_store (v := .agg [aS, aI, aI, aI, aI, aI, aI, aI, aI, .nil]) (us := [aS, aI, aI, aI, aI, aI, aI, aI, aI, .nil]) (cs := [aS, aI, aI, aI, aI, aI, aI, aI, aI, .nil]) (σ' := [aIISLL, [aS, aI, aI, aI, aI, aI, aI, aI, aI, .nil], [aS, aI, aI, aI, aI, aI, aI, aI, aI, aO], aIISLL, aIISLL]) rfl tv27 rfl rfl rfl rfl rfl rfl rfl rfl <| sI rfl <| o_ek (fr' := [(2, .box 1 0), (3, aI)]) rfl rfl <| w_ret <| e_seq_r <| e_blk_r <| e_seq_r <| e_seq_r <| e_blk_r <| e_seq_r ?_
          refine e_blk_r <| e_blk_r <| e_seq_r <| e_seq_r <| e_blk_r <| e_seq_r <| e_seq_r ?_
          have h38 := un_out h37 ho33
          have h39 := un_done h38 h31
          have h40 := un_out h39 ho8
          have h41 := un_done h40 h6
          obtain rfl := sy h41
          exact e_ret (rs' := [.cell 2 27, .tmp 3]) rfl <| r_cells (us := [aS, aI, aI, aI, aI, aI, aI, aI, aI, .nil]) (cs := [aS, aI, aI, aI, aI, aI, aI, aI, aI, .nil]) tv27 rfl rfl rfl rfl <| r_tmp (v := aI) rfl <| r_nil <| fin_gen [] rfl rfl rfl (le_tupp rfl ⟨(le_aggc rfl ⟨rfl, rfl, rfl, rfl, rfl, rfl, rfl, rfl, rfl, ⟨_, rfl⟩, trivial⟩), lr, trivial⟩) st_nil
         ·
          refine w_skip <| e_kw <| w_region <| o_p rfl (p_fa tf27x9 rfl) <| o_p rfl (p_load (v := aO) tv23 rfl rfl rfl) <| o_p rfl (p_fa tf25x2 rfl) <| o_p rfl (p_load (v := aS) tv9 rfl rfl rfl) <| o_rows (row := rowS) (xs := ([x35.Text] : List (List UInt8))) (rows := [[_]]) (σ' := [aIISLL, [aS, aI, aI, aI, aI, aI, aI, aI, aI, .nil], [aS, aI, aI, aI, aI, aI, aI, aI, aI, aO], aIISLL, aIISLL]) [0] ts23 rfl rfl rfl (arow_cons rfl arow_nil) rfl rfl ?_
          obtain ⟨x43, hx43, h44⟩ := bind_s h37
          exact o_app (row := rowS) ts23 rfl ti23 rfl (isl_o rfl) (fun _ => rfl) hx43 <| o_p rfl (p_fa tf27x9 rfl) <| o_store (v := aO) (us := [aO]) (cs := aSIIIIIIIIL) (σ' := [aIISLL, [aS, aI, aI, aI, aI, aI, aI, aI, aI, .nil], [aS, aI, aI, aI, aI, aI, aI, aI, aI, aO], aIISLL, aIISLL]) rfl tv23 rfl rfl rfl rfl rfl rfl rfl rfl <| o_end (fr' := [(1, .box 0 0), (2, .box 1 0), (4, .box 2 0), (5, aO), (11, .box 4 0), (23, aL), (24, aI), (25, aI), (74, aL), (75, aI), (76, aI), (82, aB)]) rfl <| e_blk_n <| e_kw <| w_region <| o_p rfl (p_add rfl rfl) <| mI rfl <| o_end (fr' := [(1, .box 0 0), (2, .box 1 0), (4, .box 2 0), (5, aO), (11, .box 4 0), (23, aL), (24, aI), (25, aI), (74, aL), (75, aI), (76, aI), (82, aB)]) rfl <| e_l _ (sy h44) (w_weak [0, 1424] 4 rfl rfl rfl rfl ⟨lr, lr, lr, lr, lr, lr, lr, lr, lr, lr, trivial⟩ (st_r rfl (st_r rfl (st_r rfl (st_r rfl st_nil)))))
        ·
         refine w_exit <| e_seq_x <| e_seq_x <| e_blk_h ?_
         have h45 := un_out h34 ho33
         exact e_j _ (sy h45) (w_weak [0, 1] 4 rfl rfl rfl rfl ⟨lr, lr, lr, lr, lr, lr, lr, trivial⟩ (st_r rfl (st_r rfl (st_r rfl (st_r rfl st_nil)))))
       ·
        intro j32 hj46
        have h46 := un_go hj46 h31
        exact e_blk_n <| e_blk_n <| e_kw <| w_region <| o_p rfl (p_add rfl rfl) <| mI rfl <| o_end (fr' := [(1, .box 0 0), (2, .box 1 0), (4, .box 2 0), (5, aO), (23, aL), (24, aI), (25, aI)]) rfl <| e_l _ (sy h46) (w_weak [0, 1] 3 rfl rfl rfl rfl ⟨lr, lr, lr, lr, lr, lr, lr, trivial⟩ (st_r rfl (st_r rfl (st_r rfl st_nil))))
      ·
       refine w_sr <| mI rfl <| o_p rfl (p_geq rfl rfl) <| mB rfl <| og rfl rfl rfl (fun hc => (p_move (v := aS) rfl)) <| og rfl rfl rfl (fun hc => (p_seql (gx rfl hc) rfl)) <| o_p rfl (p_pickz rfl rfl rfl (fun e => keq e)) <| mB rfl <| og rfl rfl rfl (fun hc => (p_move (v := aS) rfl)) <| og rfl rfl rfl (fun hc => (p_seql (gx rfl hc) rfl)) <| o_p rfl (p_pickz rfl rfl rfl (fun e => keq e)) <| sB rfl ?_
       refine o_ek (fr' := [(2, .box 1 0), (92, aB)]) rfl rfl <| w_ch h29 rfl (fun hb47 h47 => ?_) (fun hb47 h47 => ?_)
       ·
        refine w_sr <| o_p rfl (p_buildc (c0 := [aS, aI, aI, aI, aI, aI, aI, aI, aI, .nil]) (cs := [aS, aI, aI, aI, aI, aI, aI, aI, aI, .nil]) tb27 rfl fill_nil) <| o_store (v := .agg [aS, aI, aI, aI, aI, aI, aI, aI, aI, .nil]) (us := [aS, aI, aI, aI, aI, aI, aI, aI, aI, .nil]) (cs := [aS, aI, aI, aI, aI, aI, aI, aI, aI, .nil]) (σ' := [aIISLL, [aS, aI, aI, aI, aI, aI, aI, aI, aI, .nil], [aS, aI, aI, aI, aI, aI, aI, aI, aI, aO], aIISLL]) rfl tv27 rfl rfl rfl rfl rfl rfl rfl rfl <| sI rfl <| o_ek (fr' := [(2, .box 1 0), (3, aI)]) rfl rfl <| w_ret <| e_blk_r <| e_blk_r <| e_seq_r <| e_seq_r <| e_blk_r <| e_seq_r ?_
        refine e_seq_r ?_
        have h48 := un_out h47 ho8
        have h49 := un_done h48 h6
        obtain rfl := sy h49
        exact e_ret (rs' := [.cell 2 27, .tmp 3]) rfl <| r_cells (us := [aS, aI, aI, aI, aI, aI, aI, aI, aI, .nil]) (cs := [aS, aI, aI, aI, aI, aI, aI, aI, aI, .nil]) tv27 rfl rfl rfl rfl <| r_tmp (v := aI) rfl <| r_nil <| fin_gen [] rfl rfl rfl (le_tupp rfl ⟨(le_aggc rfl ⟨rfl, rfl, rfl, rfl, rfl, rfl, rfl, rfl, rfl, ⟨_, rfl⟩, trivial⟩), lr, trivial⟩) st_nil
       ·
        refine w_sr <| o_p rfl (p_buildc (c0 := [aS, aI, aI, aI, aI, aI, aI, aI, aI, .nil]) (cs := [aS, aI, aI, aI, aI, aI, aI, aI, aI, .nil]) tb27 rfl fill_nil) <| o_store (v := .agg [aS, aI, aI, aI, aI, aI, aI, aI, aI, .nil]) (us := [aS, aI, aI, aI, aI, aI, aI, aI, aI, .nil]) (cs := [aS, aI, aI, aI, aI, aI, aI, aI, aI, .nil]) (σ' := [aIISLL, [aS, aI, aI, aI, aI, aI, aI, aI, aI, .nil], [aS, aI, aI, aI, aI, aI, aI, aI, aI, aO], aIISLL]) rfl tv27 rfl rfl rfl rfl rfl rfl rfl rfl <| sI rfl <| o_ek (fr' := [(2, .box 1 0), (3, aI)]) rfl rfl <| w_ret <| e_blk_r <| e_blk_r <| e_seq_r <| e_seq_r <| e_blk_r <| e_seq_r ?_
        refine e_seq_r ?_
        have h51 := un_out h47 ho8
        have h52 := un_done h51 h6
        obtain rfl := sy h52
        exact e_ret (rs' := [.cell 2 27, .tmp 3]) rfl <| r_cells (us := [aS, aI, aI, aI, aI, aI, aI, aI, aI, .nil]) (cs := [aS, aI, aI, aI, aI, aI, aI, aI, aI, .nil]) tv27 rfl rfl rfl rfl <| r_tmp (v := aI) rfl <| r_nil <| fin_gen [] rfl rfl rfl (le_tupp rfl ⟨(le_aggc rfl ⟨rfl, rfl, rfl, rfl, rfl, rfl, rfl, rfl, rfl, ⟨_, rfl⟩, trivial⟩), lr, trivial⟩) st_nil
   ·
    refine w_exit <| e_seq_x <| e_seq_x <| e_blk_h ?_
    have h54 := un_out h9 ho8
    exact e_j _ (sy h54) (w_weak [1] 3 rfl rfl rfl rfl ⟨lr, lr, trivial⟩ (st_r rfl (st_r rfl (st_r rfl st_nil))))
  ·
   intro j7 hj55
   have h55 := un_go hj55 h6
   refine e_kw <| w_seqw <| w_sr <| o_p rfl (p_loads (us := [aS, aI, aI, aI, aI, aI, aI, aI, aI, aO]) tv27 rfl rfl rfl rfl) ?_
   obtain ⟨x56, hx56, h57⟩ := bind_s h55
   refine o_v (ov_call (v := aB) rfl (w_command_RightPolicy hx56) ⟨(le_aggc rfl ⟨rfl, rfl, rfl, rfl, rfl, rfl, rfl, rfl, rfl, rfl, trivial⟩), trivial⟩ rfl rfl rfl) <| o_p rfl (p_not rfl) <| o_ek (fr' := [(2, .box 1 0), (4, .box 2 0), (107, aB)]) rfl rfl <| w_ch h57 rfl (fun hb58 h58 => ?_) (fun hb58 h58 => ?_)
   ·
    refine w_sr <| o_p rfl (p_buildc (c0 := [aS, aI, aI, aI, aI, aI, aI, aI, aI, .nil]) (cs := [aS, aI, aI, aI, aI, aI, aI, aI, aI, .nil]) tb27 rfl fill_nil) <| o_store (v := .agg [aS, aI, aI, aI, aI, aI, aI, aI, aI, .nil]) (us := [aS, aI, aI, aI, aI, aI, aI, aI, aI, .nil]) (cs := [aS, aI, aI, aI, aI, aI, aI, aI, aI, .nil]) (σ' := [aIISLL, [aS, aI, aI, aI, aI, aI, aI, aI, aI, .nil], [aS, aI, aI, aI, aI, aI, aI, aI, aI, aO]]) rfl tv27 rfl rfl rfl rfl rfl rfl rfl rfl <| sI rfl <| o_ek (fr' := [(2, .box 1 0), (3, aI)]) rfl rfl <| w_ret <| e_seq_r ?_
    obtain rfl := sy h58
    exact e_ret (rs' := [.cell 2 27, .tmp 3]) rfl <| r_cells (us := [aS, aI, aI, aI, aI, aI, aI, aI, aI, .nil]) (cs := [aS, aI, aI, aI, aI, aI, aI, aI, aI, .nil]) tv27 rfl rfl rfl rfl <| r_tmp (v := aI) rfl <| r_nil <| fin_gen [] rfl rfl rfl (le_tupp rfl ⟨(le_aggc rfl ⟨rfl, rfl, rfl, rfl, rfl, rfl, rfl, rfl, rfl, ⟨_, rfl⟩, trivial⟩), lr, trivial⟩) st_nil
   ·
    refine w_skip <| e_kw <| w_sr <| o_p rfl (p_loads (us := [aS, aI, aI, aI, aI, aI, aI, aI, aI, aO]) tv27 rfl rfl rfl rfl) <| o_store (v := .agg [aS, aI, aI, aI, aI, aI, aI, aI, aI, aO]) (us := [aS, aI, aI, aI, aI, aI, aI, aI, aI, aO]) (cs := [aS, aI, aI, aI, aI, aI, aI, aI, aI, .nil]) (σ' := [aIISLL, [aS, aI, aI, aI, aI, aI, aI, aI, aI, aO], [aS, aI, aI, aI, aI, aI, aI, aI, aI, aO]]) rfl tv27 rfl rfl rfl rfl rfl rfl rfl rfl <| sI rfl <| o_ek (fr' := [(2, .box 1 0), (3, aI)]) rfl rfl <| w_ret ?_
    obtain rfl := sy h58
    exact e_ret (rs' := [.cell 2 27, .tmp 3]) rfl <| r_cells (us := [aS, aI, aI, aI, aI, aI, aI, aI, aI, aO]) (cs := [aS, aI, aI, aI, aI, aI, aI, aI, aI, aO]) tv27 rfl rfl rfl rfl <| r_tmp (v := aI) rfl <| r_nil <| fin_gen [] rfl rfl rfl (le_tupp rfl ⟨(le_aggc rfl ⟨rfl, rfl, rfl, rfl, rfl, rfl, rfl, rfl, rfl, rfl, trivial⟩), lr, trivial⟩) st_nil
noncomputable def ref20xSamePolicy_l1 (p0a : ApiPolicy) (p1b : ApiPolicy) (s8 : Int) : Option (Step Int (Fl Bool Unit)) :=
 cond (decide (s8 < ((p0a.Fatal).length : Int))) ((idx p0a.Fatal s8).bind fun (x10 : (List UInt8)) => (idx p1b.Fatal s8).bind fun (x12 : (List UInt8)) => cond (!decide (x10 = x12)) (some (Step.out (Fl.done false))) (some (Step.next (IntKind.wrap .i64 (s8 + (1 : Int)))))) (some (Step.out (Fl.go ())))
noncomputable def ref20xSamePolicy (p0a : ApiPolicy) (p1b : ApiPolicy) : Option Bool :=
 cond (cond (cond (cond (cond (!decide (p0a.Queue = p1b.Queue)) true (!decide (p0a.ToStart = p1b.ToStart))) true (!decide (p0a.ToClose = p1b.ToClose))) true (!decide (p0a.Total = p1b.Total))) true (!decide (p0a.Beat = p1b.Beat))) (some false) (cond (cond (cond (cond (cond (!decide (p0a.First = p1b.First)) true (!decide (p0a.Coef = p1b.Coef))) true (!decide (p0a.Most = p1b.Most))) true (!decide (p0a.Attempts = p1b.Attempts))) true (!decide (((p0a.Fatal).length : Int) = ((p1b.Fatal).length : Int)))) (some false) (((loopO (ref20xSamePolicy_l1 p0a p1b) ((0 : Int))) : Option (Fl Bool Unit)).bind fun (x5 : (Fl Bool Unit)) => Fl.next x5 (fun (j7 : Unit) => (some true))))
theorem w_ref20xSamePolicy {p0a : ApiPolicy} {p1b : ApiPolicy} {res : Bool} (h : ref20xSamePolicy p0a p1b = some res) : ACalls Try.prog 19 [.agg (AV.cs (rowApiPolicy p0a)), .agg (AV.cs (rowApiPolicy p1b))] [] (.c (.bool res)) [] := by
 unfold ref20xSamePolicy at h
 refine acalls (fn := Try.f19) [0, 1, 2, 3, 4, 5, 38, 73, 78, 91] (by kernel_rfl) Try.func19 rfl (by kernel_rfl) (by kernel_rfl) <| w_sr <| o_box (v := .agg aSIIIIIIIIL) (n := 0) (cs := aSIIIIIIIIL) (σ' := [aSIIIIIIIIL]) rfl rfl rfl rfl rfl <| o_box (v := .agg aSIIIIIIIIL) (n := 1) (cs := aSIIIIIIIIL) (σ' := [aSIIIIIIIIL, aSIIIIIIIIL]) rfl rfl rfl rfl rfl <| sB rfl <| o_ek (fr' := [(2, .box 0 0), (3, .box 1 0)]) rfl rfl <| w_seqw <| w_sr <| o_p rfl (p_fa tf27x0 rfl) <| o_p rfl (p_load (v := aS) tv9 rfl rfl rfl) <| o_p rfl (p_fa tf27x0 rfl) ?_
 refine o_p rfl (p_load (v := aS) tv9 rfl rfl rfl) <| o_p rfl (p_sneq rfl rfl) <| mB rfl <| og rfl rfl rfl (fun hc => (p_fa tf27x1 rfl)) <| og rfl rfl rfl (fun hc => (p_load (v := aI) tv3 (gx rfl hc) rfl rfl)) <| og rfl rfl rfl (fun hc => (p_fa tf27x1 rfl)) <| og rfl rfl rfl (fun hc => (p_load (v := aI) tv3 (gx rfl hc) rfl rfl)) <| og rfl rfl rfl (fun hc => (p_neq (gx rfl hc) (gx rfl hc))) <| o_p rfl (p_pickz rfl rfl rfl (fun e => keq e)) <| mB rfl <| og rfl rfl rfl (fun hc => (p_fa tf27x2 rfl)) <| og rfl rfl rfl (fun hc => (p_load (v := aI) tv3 (gx rfl hc) rfl rfl)) <| og rfl rfl rfl (fun hc => (p_fa tf27x2 rfl)) ?_
 refine og rfl rfl rfl (fun hc => (p_load (v := aI) tv3 (gx rfl hc) rfl rfl)) <| og rfl rfl rfl (fun hc => (p_neq (gx rfl hc) (gx rfl hc))) <| o_p rfl (p_pickz rfl rfl rfl (fun e => keq e)) <| mB rfl <| og rfl rfl rfl (fun hc => (p_fa tf27x3 rfl)) <| og rfl rfl rfl (fun hc => (p_load (v := aI) tv3 (gx rfl hc) rfl rfl)) <| og rfl rfl rfl (fun hc => (p_fa tf27x3 rfl)) <| og rfl rfl rfl (fun hc => (p_load (v := aI) tv3 (gx rfl hc) rfl rfl)) <| og rfl rfl rfl (fun hc => (p_neq (gx rfl hc) (gx rfl hc))) <| o_p rfl (p_pickz rfl rfl rfl (fun e => keq e)) <| mB rfl <| og rfl rfl rfl (fun hc => (p_fa tf27x4 rfl)) <| og rfl rfl rfl (fun hc => (p_load (v := aI) tv3 (gx rfl hc) rfl rfl)) ?_
 refine og rfl rfl rfl (fun hc => (p_fa tf27x4 rfl)) <| og rfl rfl rfl (fun hc => (p_load (v := aI) tv3 (gx rfl hc) rfl rfl)) <| og rfl rfl rfl (fun hc => (p_neq (gx rfl hc) (gx rfl hc))) <| o_p rfl (p_pickz rfl rfl rfl (fun e => keq e)) <| o_ek (fr' := [(2, .box 0 0), (3, .box 1 0), (38, aB)]) rfl rfl <| w_ch h rfl (fun hb1 h1 => ?_) (fun hb1 h1 => ?_)
 ·
  refine w_sr <| sB rfl <| o_ek (fr' := [(4, aB)]) rfl rfl <| w_ret <| e_seq_r ?_
  obtain rfl := sy h1
  exact e_ret (rs' := [.tmp 4]) rfl <| r_tmp (v := aB) rfl <| r_nil <| fin_gen [] rfl rfl rfl lr st_nil
 ·
  refine w_skip <| e_kw <| w_seqw <| w_sr <| o_p rfl (p_fa tf27x5 rfl) <| o_p rfl (p_load (v := aI) tv3 rfl rfl rfl) <| o_p rfl (p_fa tf27x5 rfl) <| o_p rfl (p_load (v := aI) tv3 rfl rfl rfl) <| o_p rfl (p_neq rfl rfl) <| mB rfl <| og rfl rfl rfl (fun hc => (p_fa tf27x6 rfl)) <| og rfl rfl rfl (fun hc => (p_load (v := aI) tv3 (gx rfl hc) rfl rfl)) ?_
  refine og rfl rfl rfl (fun hc => (p_fa tf27x6 rfl)) <| og rfl rfl rfl (fun hc => (p_load (v := aI) tv3 (gx rfl hc) rfl rfl)) <| og rfl rfl rfl (fun hc => (p_neq (gx rfl hc) (gx rfl hc))) <| o_p rfl (p_pickz rfl rfl rfl (fun e => keq e)) <| mB rfl <| og rfl rfl rfl (fun hc => (p_fa tf27x7 rfl)) <| og rfl rfl rfl (fun hc => (p_load (v := aI) tv3 (gx rfl hc) rfl rfl)) <| og rfl rfl rfl (fun hc => (p_fa tf27x7 rfl)) <| og rfl rfl rfl (fun hc => (p_load (v := aI) tv3 (gx rfl hc) rfl rfl)) <| og rfl rfl rfl (fun hc => (p_neq (gx rfl hc) (gx rfl hc))) <| o_p rfl (p_pickz rfl rfl rfl (fun e => keq e)) <| mB rfl <| og rfl rfl rfl (fun hc => (p_fa tf27x8 rfl)) ?_
  refine og rfl rfl rfl (fun hc => (p_load (v := aI) tv3 (gx rfl hc) rfl rfl)) <| og rfl rfl rfl (fun hc => (p_fa tf27x8 rfl)) <| og rfl rfl rfl (fun hc => (p_load (v := aI) tv3 (gx rfl hc) rfl rfl)) <| og rfl rfl rfl (fun hc => (p_neq (gx rfl hc) (gx rfl hc))) <| o_p rfl (p_pickz rfl rfl rfl (fun e => keq e)) <| mB rfl <| og rfl rfl rfl (fun hc => (p_fa tf27x9 rfl)) <| og rfl rfl rfl (fun hc => (p_load (v := aL) tv23 (gx rfl hc) rfl rfl)) <| og rfl rfl rfl (fun hc => (p_len ti23 (isl_c (gx rfl hc)))) <| og rfl rfl rfl (fun hc => (p_fa tf27x9 rfl)) <| og rfl rfl rfl (fun hc => (p_load (v := aL) tv23 (gx rfl hc) rfl rfl)) <| og rfl rfl rfl (fun hc => (p_len ti23 (isl_c (gx rfl hc)))) <| og rfl rfl rfl (fun hc => (p_neq (gx rfl hc) (gx rfl hc))) ?_
  refine o_p rfl (p_pickz rfl rfl rfl (fun e => keq e)) <| o_ek (fr' := [(2, .box 0 0), (3, .box 1 0), (73, aB)]) rfl rfl <| w_ch h1 rfl (fun hb3 h3 => ?_) (fun hb3 h3 => ?_)
  ·
   refine w_sr <| sB rfl <| o_ek (fr' := [(4, aB)]) rfl rfl <| w_ret <| e_seq_r ?_
   obtain rfl := sy h3
   exact e_ret (rs' := [.tmp 4]) rfl <| r_tmp (v := aB) rfl <| r_nil <| fin_gen [] rfl rfl rfl lr st_nil
  ·
   refine w_skip <| e_kw <| w_seqw <| w_sr <| sI rfl <| o_ek (fr' := [(2, .box 0 0), (3, .box 1 0), (5, aI)]) rfl rfl ?_
   obtain ⟨x5, hx5, h6⟩ := bind_s h3
   refine w_jtail cl_kw (fun j7 => x5 = Fl.go j7) (fun (j7 : Unit) => ([] : Fr)) (fun (j7 : Unit) => ([[.c (.str p0a.Queue), .c (.int .i64 p0a.ToStart), .c (.int .i64 p0a.ToClose), .c (.int .i64 p0a.Total), .c (.int .i64 p0a.Beat), .c (.int .i64 p0a.First), .c (.int .i64 p0a.Coef), .c (.int .i64 p0a.Most), .c (.int .i64 p0a.Attempts), .c (PV.ls 1 rowS p0a.Fatal)], [.c (.str p1b.Queue), .c (.int .i64 p1b.ToStart), .c (.int .i64 p1b.ToClose), .c (.int .i64 p1b.Total), .c (.int .i64 p1b.Beat), .c (.int .i64 p1b.First), .c (.int .i64 p1b.Coef), .c (.int .i64 p1b.Most), .c (.int .i64 p1b.Attempts), .c (PV.ls 1 rowS p1b.Fatal)]] : St)) ?_ ?_
   ·
    refine w_block <| w_loopo _ (fun (s8 : Int) => ([(2, .box 0 0), (3, .box 1 0), (5, .c (.int .i64 s8))] : Fr)) (fun (s8 : Int) => ([[.c (.str p0a.Queue), .c (.int .i64 p0a.ToStart), .c (.int .i64 p0a.ToClose), .c (.int .i64 p0a.Total), .c (.int .i64 p0a.Beat), .c (.int .i64 p0a.First), .c (.int .i64 p0a.Coef), .c (.int .i64 p0a.Most), .c (.int .i64 p0a.Attempts), .c (PV.ls 1 rowS p0a.Fatal)], [.c (.str p1b.Queue), .c (.int .i64 p1b.ToStart), .c (.int .i64 p1b.ToClose), .c (.int .i64 p1b.Total), .c (.int .i64 p1b.Beat), .c (.int .i64 p1b.First), .c (.int .i64 p1b.Coef), .c (.int .i64 p1b.Most), .c (.int .i64 p1b.Attempts), .c (PV.ls 1 rowS p1b.Fatal)]] : St)) hx5 (w_weak [] 2 rfl rfl rfl rfl ⟨lr, lr, lr, trivial⟩ (st_r rfl (st_r rfl st_nil))) ?_
    intro s8 st8 hs8 ho8
    unfold ref20xSamePolicy_l1 at hs8
    refine w_seqw <| w_sr <| mI rfl <| o_p rfl (p_fa tf27x9 rfl) <| o_p rfl (p_load (v := aL) tv23 rfl rfl rfl) <| o_p rfl (p_len ti23 (isl_c rfl)) <| o_p rfl (p_lss rfl rfl) <| o_ek (fr' := [(2, .box 0 0), (3, .box 1 0), (5, aI), (78, aB)]) rfl rfl <| w_ch hs8 rfl (fun hb9 h9 => ?_) (fun hb9 h9 => ?_)
    ·
     refine w_skip <| e_kw <| w_seqw <| w_block <| w_seqw <| w_planT [.q 0, .q 1, .q 2, .q 3, .q 4, .q 5, .q 6, .q 7, .q 8, .q 9, .q 10] [(some 81, [2]), (some 82, [81]), (some 83, [5]), (some 84, [82, 83]), (some 85, [84]), (some 86, [3]), (some 87, [86]), (some 88, [5]), (some 89, [87, 88]), (some 90, [89]), (some 91, [85, 90])] [0, 1, 0, 7, 15, 0, 32, 0, 224, 480, 1023] (by kernel_rfl) <| dq rfl rfl (p_fa tf27x9 rfl) <| dq rfl rfl (p_load (v := aL) tv23 rfl rfl rfl) <| dq rfl rfl (p_move (v := aI) rfl) ?_
     obtain ⟨x10, hx10, h11⟩ := bind_s h9
     refine dq rfl rfl (p_ia (cs := [.str _]) ts23 (isl_c rfl) rfl hx10 rfl) <| dq rfl rfl (p_loade (p := .str _) tv9 rfl rfl) <| dq rfl rfl (p_fa tf27x9 rfl) <| dq rfl rfl (p_load (v := aL) tv23 rfl rfl rfl) <| dq rfl rfl (p_move (v := aI) rfl) ?_
     obtain ⟨x12, hx12, h13⟩ := bind_s h11
     refine dq rfl rfl (p_ia (cs := [.str _]) ts23 (isl_c rfl) rfl hx12 rfl) <| dq rfl rfl (p_loade (p := .str _) tv9 rfl rfl) <| dq rfl rfl (p_sneq rfl rfl) <| d_ek (fr' := [(2, .box 0 0), (3, .box 1 0), (5, aI), (91, aB)]) rfl rfl <| w_ch h13 rfl (fun hb14 h14 => ?_) (fun hb14 h14 => ?_)
     ·
      refine w_sr <| sB rfl <| o_ek (fr' := [(4, aB)]) rfl rfl <| w_ret <| e_blk_r <| e_seq_r <| e_seq_r <| e_blk_r <| e_seq_r <| e_seq_r ?_
      have h15 := un_out h14 ho8
      have h16 := un_done h15 h6
      obtain rfl := sy h16
      exact e_ret (rs' := [.tmp 4]) rfl <| r_tmp (v := aB) rfl <| r_nil <| fin_gen [] rfl rfl rfl lr st_nil
     ·
      exact w_skip <| e_blk_n <| e_kw <| w_region <| mI rfl <| o_p rfl (p_add rfl rfl) <| sI rfl <| o_end (fr' := [(2, .box 0 0), (3, .box 1 0), (5, aI), (91, aB)]) rfl <| e_l _ (sy h14) (w_weak [] 2 rfl rfl rfl rfl ⟨lr, lr, lr, trivial⟩ (st_r rfl (st_r rfl st_nil)))
    ·
     refine w_exit <| e_seq_x <| e_seq_x <| e_blk_h ?_
     have h18 := un_out h9 ho8
     exact e_j _ (sy h18) (w_weak [] 2 rfl rfl rfl rfl trivial (st_r rfl (st_r rfl st_nil)))
   ·
    intro j7 hj19
    have h19 := un_go hj19 h6
    refine e_kw <| w_sr <| sB rfl <| o_ek (fr' := [(4, aB)]) rfl rfl <| w_ret ?_
    obtain rfl := sy h19
    exact e_ret (rs' := [.tmp 4]) rfl <| r_tmp (v := aB) rfl <| r_nil <| fin_gen [] rfl rfl rfl lr st_nil
noncomputable def ref02xSame_l1 (p0a : ApiValue) (p1b : ApiValue) (s6 : Int) : Option (Step Int (Fl Bool Unit)) :=
 cond (decide (s6 < ((p0a.Keys).length : Int))) ((idx p0a.Keys s6).bind fun (x8 : (List UInt8)) => (idx p1b.Keys s6).bind fun (x10 : (List UInt8)) => cond (!decide (x8 = x10)) (some (Step.out (Fl.done false))) (some (Step.next (IntKind.wrap .i64 (s6 + (1 : Int)))))) (some (Step.out (Fl.go ())))
noncomputable def ref02xSame_l2 (rec_ref02xSame : ApiValue → ApiValue → Option Bool) (p0a : ApiValue) (p1b : ApiValue) (s21 : Int) : Option (Step Int (Fl Bool Unit)) :=
 cond (decide (s21 < ((p0a.Items).length : Int))) ((idx p0a.Items s21).bind fun (x23 : ApiValue) => (idx p1b.Items s21).bind fun (x25 : ApiValue) => (rec_ref02xSame x23 x25).bind fun (x27 : Bool) => cond (!x27) (some (Step.out (Fl.done false))) (some (Step.next (IntKind.wrap .i64 (s21 + (1 : Int)))))) (some (Step.out (Fl.go ())))
noncomputable def ref02xSameF : Nat → ApiValue → ApiValue → Option Bool
 | 0, _, _ => none
 | n + 1, p0a, p1b =>
  cond (cond (cond (cond (cond (!decide (p0a.Kind = p1b.Kind)) true (!decide (p0a.Int = p1b.Int))) true (!decide (p0a.Text = p1b.Text))) true (!decide (((p0a.Items).length : Int) = ((p1b.Items).length : Int)))) true (!decide (((p0a.Keys).length : Int) = ((p1b.Keys).length : Int)))) (some false) (((loopO (ref02xSame_l1 p0a p1b) ((0 : Int))) : Option (Fl Bool Unit)).bind fun (x3 : (Fl Bool Unit)) => Fl.next x3 (fun (j5 : Unit) => (((loopO (ref02xSame_l2 (ref02xSameF n) p0a p1b) ((0 : Int))) : Option (Fl Bool Unit)).bind fun (x18 : (Fl Bool Unit)) => Fl.next x18 (fun (j20 : Unit) => (some true)))))
theorem wF_ref02xSame : ∀ n : Nat, (∀ {p0a : ApiValue} {p1b : ApiValue} {res : Bool}, ref02xSameF n p0a p1b = some res → ACalls Try.prog 61 [.agg (AV.cs (exApiValue p0a)), .agg (AV.cs (exApiValue p1b))] [] (.c (.bool res)) []) := by
 intro n
 induction n with
 | zero => exact fun {p0a p1b res} h => absurd h (by simp [ref02xSameF])
 | succ n ih =>
  have ih_ref02xSame := @ih
  intro p0a p1b res h
  rw [ref02xSameF] at h
  refine acalls (fn := Try.f61) [0, 1, 2, 3, 4, 5, 6, 43, 48, 61, 66, 80] (by kernel_rfl) Try.func61 rfl (by kernel_rfl) (by kernel_rfl) <| w_sr <| o_box (v := .agg aIISLL) (n := 0) (cs := aIISLL) (σ' := [aIISLL]) rfl rfl rfl rfl rfl <| o_box (v := .agg aIISLL) (n := 1) (cs := aIISLL) (σ' := [aIISLL, aIISLL]) rfl rfl rfl rfl rfl <| sB rfl <| o_ek (fr' := [(2, .box 0 0), (3, .box 1 0)]) rfl rfl <| w_seqw <| w_sr <| o_p rfl (p_fa tf25x0 rfl) <| o_p rfl (p_load (v := aI) tv3 rfl rfl rfl) <| o_p rfl (p_fa tf25x0 rfl) ?_
  refine o_p rfl (p_load (v := aI) tv3 rfl rfl rfl) <| o_p rfl (p_neq rfl rfl) <| mB rfl <| og rfl rfl rfl (fun hc => (p_fa tf25x1 rfl)) <| og rfl rfl rfl (fun hc => (p_load (v := aI) tv3 (gx rfl hc) rfl rfl)) <| og rfl rfl rfl (fun hc => (p_fa tf25x1 rfl)) <| og rfl rfl rfl (fun hc => (p_load (v := aI) tv3 (gx rfl hc) rfl rfl)) <| og rfl rfl rfl (fun hc => (p_neq (gx rfl hc) (gx rfl hc))) <| o_p rfl (p_pickz rfl rfl rfl (fun e => keq e)) <| mB rfl <| og rfl rfl rfl (fun hc => (p_fa tf25x2 rfl)) <| og rfl rfl rfl (fun hc => (p_load (v := aS) tv9 (gx rfl hc) rfl rfl)) <| og rfl rfl rfl (fun hc => (p_fa tf25x2 rfl)) ?_
  refine og rfl rfl rfl (fun hc => (p_load (v := aS) tv9 (gx rfl hc) rfl rfl)) <| og rfl rfl rfl (fun hc => (p_sneq (gx rfl hc) (gx rfl hc))) <| o_p rfl (p_pickz rfl rfl rfl (fun e => keq e)) <| mB rfl <| og rfl rfl rfl (fun hc => (p_fa tf25x3 rfl)) <| og rfl rfl rfl (fun hc => (p_load (v := aL) tv22 (gx rfl hc) rfl rfl)) <| og rfl rfl rfl (fun hc => (p_len ti22 (isl_c (gx rfl hc)))) <| og rfl rfl rfl (fun hc => (p_fa tf25x3 rfl)) <| og rfl rfl rfl (fun hc => (p_load (v := aL) tv22 (gx rfl hc) rfl rfl)) <| og rfl rfl rfl (fun hc => (p_len ti22 (isl_c (gx rfl hc)))) <| og rfl rfl rfl (fun hc => (p_neq (gx rfl hc) (gx rfl hc))) <| o_p rfl (p_pickz rfl rfl rfl (fun e => keq e)) <| mB rfl ?_
  refine og rfl rfl rfl (fun hc => (p_fa tf25x4 rfl)) <| og rfl rfl rfl (fun hc => (p_load (v := aL) tv23 (gx rfl hc) rfl rfl)) <| og rfl rfl rfl (fun hc => (p_len ti23 (isl_c (gx rfl hc)))) <| og rfl rfl rfl (fun hc => (p_fa tf25x4 rfl)) <| og rfl rfl rfl (fun hc => (p_load (v := aL) tv23 (gx rfl hc) rfl rfl)) <| og rfl rfl rfl (fun hc => (p_len ti23 (isl_c (gx rfl hc)))) <| og rfl rfl rfl (fun hc => (p_neq (gx rfl hc) (gx rfl hc))) <| o_p rfl (p_pickz rfl rfl rfl (fun e => keq e)) <| o_ek (fr' := [(2, .box 0 0), (3, .box 1 0), (43, aB)]) rfl rfl <| w_ch h rfl (fun hb1 h1 => ?_) (fun hb1 h1 => ?_)
  ·
   refine w_sr <| sB rfl <| o_ek (fr' := [(4, aB)]) rfl rfl <| w_ret <| e_seq_r ?_
   obtain rfl := sy h1
   exact e_ret (rs' := [.tmp 4]) rfl <| r_tmp (v := aB) rfl <| r_nil <| fin_gen [] rfl rfl rfl lr st_nil
  ·
   refine w_skip <| e_kw <| w_seqw <| w_sr <| sI rfl <| o_ek (fr' := [(2, .box 0 0), (3, .box 1 0), (5, aI)]) rfl rfl ?_
   obtain ⟨x3, hx3, h4⟩ := bind_s h1
   refine w_jtail cl_kw (fun j5 => x3 = Fl.go j5) (fun (j5 : Unit) => ([(2, .box 0 0), (3, .box 1 0)] : Fr)) (fun (j5 : Unit) => ([[.c (.int .i64 p0a.Kind), .c (.int .i64 p0a.Int), .c (.str p0a.Text), .c (PV.ls 5 rowApiValue p0a.Items), .c (PV.ls 1 rowS p0a.Keys)], [.c (.int .i64 p1b.Kind), .c (.int .i64 p1b.Int), .c (.str p1b.Text), .c (PV.ls 5 rowApiValue p1b.Items), .c (PV.ls 1 rowS p1b.Keys)]] : St)) ?_ ?_
   ·
    refine w_block <| w_loopo _ (fun (s6 : Int) => ([(2, .box 0 0), (3, .box 1 0), (5, .c (.int .i64 s6))] : Fr)) (fun (s6 : Int) => ([[.c (.int .i64 p0a.Kind), .c (.int .i64 p0a.Int), .c (.str p0a.Text), .c (PV.ls 5 rowApiValue p0a.Items), .c (PV.ls 1 rowS p0a.Keys)], [.c (.int .i64 p1b.Kind), .c (.int .i64 p1b.Int), .c (.str p1b.Text), .c (PV.ls 5 rowApiValue p1b.Items), .c (PV.ls 1 rowS p1b.Keys)]] : St)) hx3 (w_weak [] 2 rfl rfl rfl rfl ⟨lr, lr, lr, trivial⟩ (st_r rfl (st_r rfl st_nil))) ?_
    intro s6 st6 hs6 ho6
    unfold ref02xSame_l1 at hs6
    refine w_seqw <| w_sr <| mI rfl <| o_p rfl (p_fa tf25x4 rfl) <| o_p rfl (p_load (v := aL) tv23 rfl rfl rfl) <| o_p rfl (p_len ti23 (isl_c rfl)) <| o_p rfl (p_lss rfl rfl) <| o_ek (fr' := [(2, .box 0 0), (3, .box 1 0), (5, aI), (48, aB)]) rfl rfl <| w_ch hs6 rfl (fun hb7 h7 => ?_) (fun hb7 h7 => ?_)
    ·
     refine w_skip <| e_kw <| w_seqw <| w_block <| w_seqw <| w_planT [.q 0, .q 1, .q 2, .q 3, .q 4, .q 5, .q 6, .q 7, .q 8, .q 9, .q 10] [(some 51, [2]), (some 52, [51]), (some 53, [5]), (some 54, [52, 53]), (some 55, [54]), (some 56, [3]), (some 57, [56]), (some 58, [5]), (some 59, [57, 58]), (some 60, [59]), (some 61, [55, 60])] [0, 1, 0, 7, 15, 0, 32, 0, 224, 480, 1023] (by kernel_rfl) <| dq rfl rfl (p_fa tf25x4 rfl) <| dq rfl rfl (p_load (v := aL) tv23 rfl rfl rfl) <| dq rfl rfl (p_move (v := aI) rfl) ?_
     obtain ⟨x8, hx8, h9⟩ := bind_s h7
     refine dq rfl rfl (p_ia (cs := [.str _]) ts23 (isl_c rfl) rfl hx8 rfl) <| dq rfl rfl (p_loade (p := .str _) tv9 rfl rfl) <| dq rfl rfl (p_fa tf25x4 rfl) <| dq rfl rfl (p_load (v := aL) tv23 rfl rfl rfl) <| dq rfl rfl (p_move (v := aI) rfl) ?_
     obtain ⟨x10, hx10, h11⟩ := bind_s h9
     refine dq rfl rfl (p_ia (cs := [.str _]) ts23 (isl_c rfl) rfl hx10 rfl) <| dq rfl rfl (p_loade (p := .str _) tv9 rfl rfl) <| dq rfl rfl (p_sneq rfl rfl) <| d_ek (fr' := [(2, .box 0 0), (3, .box 1 0), (5, aI), (61, aB)]) rfl rfl <| w_ch h11 rfl (fun hb12 h12 => ?_) (fun hb12 h12 => ?_)
     ·
      refine w_sr <| sB rfl <| o_ek (fr' := [(4, aB)]) rfl rfl <| w_ret <| e_blk_r <| e_seq_r <| e_seq_r <| e_blk_r <| e_seq_r <| e_seq_r ?_
      have h13 := un_out h12 ho6
      have h14 := un_done h13 h4
      obtain rfl := sy h14
      exact e_ret (rs' := [.tmp 4]) rfl <| r_tmp (v := aB) rfl <| r_nil <| fin_gen [] rfl rfl rfl lr st_nil
     ·
      exact w_skip <| e_blk_n <| e_kw <| w_region <| mI rfl <| o_p rfl (p_add rfl rfl) <| sI rfl <| o_end (fr' := [(2, .box 0 0), (3, .box 1 0), (5, aI), (61, aB)]) rfl <| e_l _ (sy h12) (w_weak [] 2 rfl rfl rfl rfl ⟨lr, lr, lr, trivial⟩ (st_r rfl (st_r rfl st_nil)))
    ·
     refine w_exit <| e_seq_x <| e_seq_x <| e_blk_h ?_
     have h16 := un_out h7 ho6
     exact e_j _ (sy h16) (w_weak [] 2 rfl rfl rfl rfl ⟨lr, lr, trivial⟩ (st_r rfl (st_r rfl st_nil)))
   ·
    intro j5 hj17
    have h17 := un_go hj17 h4
    refine e_kw <| w_seqw <| w_sr <| sI rfl <| o_ek (fr' := [(2, .box 0 0), (3, .box 1 0), (6, aI)]) rfl rfl ?_
    obtain ⟨x18, hx18, h19⟩ := bind_s h17
    refine w_jtail cl_kw (fun j20 => x18 = Fl.go j20) (fun (j20 : Unit) => ([] : Fr)) (fun (j20 : Unit) => ([[.c (.int .i64 p0a.Kind), .c (.int .i64 p0a.Int), .c (.str p0a.Text), .c (PV.ls 5 rowApiValue p0a.Items), .c (PV.ls 1 rowS p0a.Keys)], [.c (.int .i64 p1b.Kind), .c (.int .i64 p1b.Int), .c (.str p1b.Text), .c (PV.ls 5 rowApiValue p1b.Items), .c (PV.ls 1 rowS p1b.Keys)]] : St)) ?_ ?_
    ·
     refine w_block <| w_loopo _ (fun (s21 : Int) => ([(2, .box 0 0), (3, .box 1 0), (6, .c (.int .i64 s21))] : Fr)) (fun (s21 : Int) => ([[.c (.int .i64 p0a.Kind), .c (.int .i64 p0a.Int), .c (.str p0a.Text), .c (PV.ls 5 rowApiValue p0a.Items), .c (PV.ls 1 rowS p0a.Keys)], [.c (.int .i64 p1b.Kind), .c (.int .i64 p1b.Int), .c (.str p1b.Text), .c (PV.ls 5 rowApiValue p1b.Items), .c (PV.ls 1 rowS p1b.Keys)]] : St)) hx18 (w_weak [] 2 rfl rfl rfl rfl ⟨lr, lr, lr, trivial⟩ (st_r rfl (st_r rfl st_nil))) ?_
     intro s21 st21 hs21 ho21
     unfold ref02xSame_l2 at hs21
     refine w_seqw <| w_sr <| mI rfl <| o_p rfl (p_fa tf25x3 rfl) <| o_p rfl (p_load (v := aL) tv22 rfl rfl rfl) <| o_p rfl (p_len ti22 (isl_c rfl)) <| o_p rfl (p_lss rfl rfl) <| o_ek (fr' := [(2, .box 0 0), (3, .box 1 0), (6, aI), (66, aB)]) rfl rfl <| w_ch hs21 rfl (fun hb22 h22 => ?_) (fun hb22 h22 => ?_)
     ·
      refine w_skip <| e_kw <| w_seqw <| w_block <| w_seqw <| w_planT [.q 0, .q 1, .q 2, .q 3, .q 4, .q 5, .q 6, .q 7, .q 8, .q 9, .q 10, .q 11] [(some 69, [2]), (some 70, [69]), (some 71, [6]), (some 72, [70, 71]), (some 73, [72]), (some 74, [3]), (some 75, [74]), (some 76, [6]), (some 77, [75, 76]), (some 78, [77]), (some 79, [73, 78]), (some 80, [79])] [0, 1, 0, 7, 15, 0, 32, 0, 224, 480, 1023, 2047] (by kernel_rfl) <| dq rfl rfl (p_fa tf25x3 rfl) <| dq rfl rfl (p_load (v := aL) tv22 rfl rfl rfl) <| dq rfl rfl (p_move (v := aI) rfl) ?_
      obtain ⟨x23, hx23, h24⟩ := bind_s h22
      refine dq rfl rfl (p_ia (cs := [.int _ _, .int _ _, .str _, PV.ls _ _ _, PV.ls _ _ _]) ts22 (isl_c rfl) rfl hx23 (rowApiValue_eq _)) <| dq rfl rfl (p_loades (us := [.int _ _, .int _ _, .str _, PV.ls _ _ _, PV.ls _ _ _]) tv25 rfl rfl rfl) <| dq rfl rfl (p_fa tf25x3 rfl) <| dq rfl rfl (p_load (v := aL) tv22 rfl rfl rfl) <| dq rfl rfl (p_move (v := aI) rfl) ?_
      obtain ⟨x25, hx25, h26⟩ := bind_s h24
      refine dq rfl rfl (p_ia (cs := [.int _ _, .int _ _, .str _, PV.ls _ _ _, PV.ls _ _ _]) ts22 (isl_c rfl) rfl hx25 (rowApiValue_eq _)) <| dq rfl rfl (p_loades (us := [.int _ _, .int _ _, .str _, PV.ls _ _ _, PV.ls _ _ _]) tv25 rfl rfl rfl) ?_
      obtain ⟨x27, hx27, h28⟩ := bind_s h26
      refine d_q rfl (qv_call (v := aB) rfl (ih_ref02xSame hx27) ⟨(le_aggc rfl ⟨rfl, rfl, rfl, rfl, rfl, trivial⟩), (le_aggc rfl ⟨rfl, rfl, rfl, rfl, rfl, trivial⟩), trivial⟩ rfl) <| dq rfl rfl (p_not rfl) <| d_ek (fr' := [(2, .box 0 0), (3, .box 1 0), (6, aI), (80, aB)]) rfl rfl <| w_ch h28 rfl (fun hb29 h29 => ?_) (fun hb29 h29 => ?_)
      ·
       refine w_sr <| sB rfl <| o_ek (fr' := [(4, aB)]) rfl rfl <| w_ret <| e_blk_r <| e_seq_r <| e_seq_r <| e_blk_r <| e_seq_r <| e_seq_r ?_
       have h30 := un_out h29 ho21
       have h31 := un_done h30 h19
       obtain rfl := sy h31
       exact e_ret (rs' := [.tmp 4]) rfl <| r_tmp (v := aB) rfl <| r_nil <| fin_gen [] rfl rfl rfl lr st_nil
      ·
       exact w_skip <| e_blk_n <| e_kw <| w_region <| mI rfl <| o_p rfl (p_add rfl rfl) <| sI rfl <| o_end (fr' := [(2, .box 0 0), (3, .box 1 0), (6, aI), (80, aB)]) rfl <| e_l _ (sy h29) (w_weak [] 2 rfl rfl rfl rfl ⟨lr, lr, lr, trivial⟩ (st_r rfl (st_r rfl st_nil)))
     ·
      refine w_exit <| e_seq_x <| e_seq_x <| e_blk_h ?_
      have h33 := un_out h22 ho21
      exact e_j _ (sy h33) (w_weak [] 2 rfl rfl rfl rfl trivial (st_r rfl (st_r rfl st_nil)))
    ·
     intro j20 hj34
     have h34 := un_go hj34 h19
     refine e_kw <| w_sr <| sB rfl <| o_ek (fr' := [(4, aB)]) rfl rfl <| w_ret ?_
     obtain rfl := sy h34
     exact e_ret (rs' := [.tmp 4]) rfl <| r_tmp (v := aB) rfl <| r_nil <| fin_gen [] rfl rfl rfl lr st_nil
noncomputable def ref02xSame (p0a : ApiValue) (p1b : ApiValue) : Option Bool := lim fun n => ref02xSameF n p0a p1b
theorem w_ref02xSame {p0a : ApiValue} {p1b : ApiValue} {res : Bool} (h : ref02xSame p0a p1b = some res) : ACalls Try.prog 61 [.agg (AV.cs (exApiValue p0a)), .agg (AV.cs (exApiValue p1b))] [] (.c (.bool res)) [] := by
 obtain ⟨n, hn⟩ := lim_some h
 exact (wF_ref02xSame n) hn
noncomputable def ref20xSame (p0a : ApiCommand) (p1b : ApiCommand) : Option Bool :=
 (gd ((cond (cond (cond (cond (decide (p0a.Kind = p1b.Kind)) (decide (p0a.Seq = p1b.Seq)) false) (decide (p0a.Name = p1b.Name)) false) (decide (p0a.Key = p1b.Key)) false) (decide (p0a.N = p1b.N)) false) == true) (ref02xSame p0a.Data p1b.Data)).bind fun (x1 : Bool) => (gd ((cond (cond (cond (cond (cond (decide (p0a.Kind = p1b.Kind)) (decide (p0a.Seq = p1b.Seq)) false) (decide (p0a.Name = p1b.Name)) false) (decide (p0a.Key = p1b.Key)) false) (decide (p0a.N = p1b.N)) false) x1 false) == true) (ref20xSamePolicy p0a.Opts p1b.Opts)).bind fun (x3 : Bool) => some (cond (cond (cond (cond (cond (cond (decide (p0a.Kind = p1b.Kind)) (decide (p0a.Seq = p1b.Seq)) false) (decide (p0a.Name = p1b.Name)) false) (decide (p0a.Key = p1b.Key)) false) (decide (p0a.N = p1b.N)) false) x1 false) x3 false)
theorem w_ref20xSame {p0a : ApiCommand} {p1b : ApiCommand} {res : Bool} (h : ref20xSame p0a p1b = some res) : ACalls Try.prog 21 [.agg (AV.cs (rowApiCommand p0a)), .agg (AV.cs (rowApiCommand p1b))] [] (.c (.bool res)) [] := by
 unfold ref20xSame at h
 refine acalls (fn := Try.f21) [0, 1, 2, 3, 4] (by kernel_rfl) Try.func21 rfl (by kernel_rfl) (by kernel_rfl) <| w_sr <| o_box (v := .agg aIISSIIISLLSIIIIIIIIL) (n := 0) (cs := aIISSIIISLLSIIIIIIIIL) (σ' := [aIISSIIISLLSIIIIIIIIL]) rfl rfl rfl rfl rfl <| o_box (v := .agg aIISSIIISLLSIIIIIIIIL) (n := 1) (cs := aIISSIIISLLSIIIIIIIIL) (σ' := [aIISSIIISLLSIIIIIIIIL, aIISSIIISLLSIIIIIIIIL]) rfl rfl rfl rfl rfl <| sB rfl <| o_ek (fr' := [(2, .box 0 0), (3, .box 1 0)]) rfl rfl <| w_sr <| o_p rfl (p_fa tf29x0 rfl) <| o_p rfl (p_load (v := aI) tv3 rfl rfl rfl) <| o_p rfl (p_fa tf29x0 rfl) <| o_p rfl (p_load (v := aI) tv3 rfl rfl rfl) ?_
 refine o_p rfl (p_eql rfl rfl) <| mB rfl <| og rfl rfl rfl (fun hc => (p_fa tf29x1 rfl)) <| og rfl rfl rfl (fun hc => (p_load (v := aI) tv3 (gx rfl hc) rfl rfl)) <| og rfl rfl rfl (fun hc => (p_fa tf29x1 rfl)) <| og rfl rfl rfl (fun hc => (p_load (v := aI) tv3 (gx rfl hc) rfl rfl)) <| og rfl rfl rfl (fun hc => (p_eql (gx rfl hc) (gx rfl hc))) <| o_p rfl (p_picky rfl rfl rfl (fun e => keq e)) <| mB rfl <| og rfl rfl rfl (fun hc => (p_fa tf29x2 rfl)) <| og rfl rfl rfl (fun hc => (p_load (v := aS) tv9 (gx rfl hc) rfl rfl)) <| og rfl rfl rfl (fun hc => (p_fa tf29x2 rfl)) <| og rfl rfl rfl (fun hc => (p_load (v := aS) tv9 (gx rfl hc) rfl rfl)) ?_
 refine og rfl rfl rfl (fun hc => (p_seql (gx rfl hc) (gx rfl hc))) <| o_p rfl (p_picky rfl rfl rfl (fun e => keq e)) <| mB rfl <| og rfl rfl rfl (fun hc => (p_fa tf29x3 rfl)) <| og rfl rfl rfl (fun hc => (p_load (v := aS) tv9 (gx rfl hc) rfl rfl)) <| og rfl rfl rfl (fun hc => (p_fa tf29x3 rfl)) <| og rfl rfl rfl (fun hc => (p_load (v := aS) tv9 (gx rfl hc) rfl rfl)) <| og rfl rfl rfl (fun hc => (p_seql (gx rfl hc) (gx rfl hc))) <| o_p rfl (p_picky rfl rfl rfl (fun e => keq e)) <| mB rfl <| og rfl rfl rfl (fun hc => (p_fa tf29x4 rfl)) <| og rfl rfl rfl (fun hc => (p_load (v := aI) tv3 (gx rfl hc) rfl rfl)) <| og rfl rfl rfl (fun hc => (p_fa tf29x4 rfl)) ?_
 refine og rfl rfl rfl (fun hc => (p_load (v := aI) tv3 (gx rfl hc) rfl rfl)) <| og rfl rfl rfl (fun hc => (p_eql (gx rfl hc) (gx rfl hc))) <| o_p rfl (p_picky rfl rfl rfl (fun e => keq e)) <| mB rfl <| og rfl rfl rfl (fun hc => (p_fa tf29x5 rfl)) <| og rfl rfl rfl (fun hc => (p_loads (us := aIISLL) tv25 (gx rfl hc) rfl rfl rfl)) <| og rfl rfl rfl (fun hc => (p_fa tf29x5 rfl)) <| og rfl rfl rfl (fun hc => (p_loads (us := aIISLL) tv25 (gx rfl hc) rfl rfl rfl)) ?_
 obtain ⟨x1, hx1, h2⟩ := bind_s h
 refine o_g rfl rfl (fun hc => ov_call (v := aB) rfl (w_ref02xSame (gd_some hx1 hc)) ⟨(le_gv (gx rfl hc) (le_aggc rfl ⟨rfl, rfl, rfl, rfl, rfl, trivial⟩)), (le_gv (gx rfl hc) (le_aggc rfl ⟨rfl, rfl, rfl, rfl, rfl, trivial⟩)), trivial⟩ (ok_eq (by repeat (first | exact ok_nil | refine ok_cons rfl ?_ | refine ok_cons (dgv rfl) ?_))) rfl rfl) ?_
 refine o_p rfl (p_picky rfl rfl rfl (fun e => keq e)) <| mB rfl <| og rfl rfl rfl (fun hc => (p_fa tf29x6 rfl)) <| og rfl rfl rfl (fun hc => (p_loads (us := aSIIIIIIIIL) tv27 (gx rfl hc) rfl rfl rfl)) <| og rfl rfl rfl (fun hc => (p_fa tf29x6 rfl)) <| og rfl rfl rfl (fun hc => (p_loads (us := aSIIIIIIIIL) tv27 (gx rfl hc) rfl rfl rfl)) ?_
 obtain ⟨x3, hx3, h4⟩ := bind_s h2
 refine o_g rfl rfl (fun hc => ov_call (v := aB) rfl (w_ref20xSamePolicy (gd_some hx3 hc)) ⟨(le_gv (gx rfl hc) (le_aggc rfl ⟨rfl, rfl, rfl, rfl, rfl, rfl, rfl, rfl, rfl, rfl, trivial⟩)), (le_gv (gx rfl hc) (le_aggc rfl ⟨rfl, rfl, rfl, rfl, rfl, rfl, rfl, rfl, rfl, rfl, trivial⟩)), trivial⟩ (ok_eq (by repeat (first | exact ok_nil | refine ok_cons rfl ?_ | refine ok_cons (dgv rfl) ?_))) rfl rfl) ?_
 refine o_p rfl (p_picky rfl rfl rfl (fun e => keq e)) <| sB rfl <| o_ek (fr' := [(4, aB)]) rfl rfl <| w_ret ?_
 obtain rfl := sy h4
 exact e_ret (rs' := [.tmp 4]) rfl <| r_tmp (v := aB) rfl <| r_nil <| fin_gen [] rfl rfl rfl lr st_nil
noncomputable def slices_Clone_byte_byte (p0s : (List UInt8)) : Option (List UInt8) :=
 app 1 ([] : List UInt8) p0s
theorem w_slices_Clone_byte_byte {p0s : (List UInt8)} {res : (List UInt8)} (h : slices_Clone_byte_byte p0s = some res) : ACalls Try.prog 63 [.c (PV.ls 1 brow p0s)] [] (AV.os 0 1 brow res) [] := by
 unfold slices_Clone_byte_byte at h
 refine acalls (fn := Try.f63) [0, 2, 4] (by kernel_rfl) Try.func63 rfl (by kernel_rfl) (by kernel_rfl) ?_
 obtain ⟨hm, he⟩ := app_some h
 rw [List.nil_append] at he
 subst he
 refine w_sr <| o_p rfl (p_assign (v := .nil) rfl) <| o_end (fr' := [(0, .c (PV.ls _ _ _)), (2, .nil)]) rfl <| e_kw <| w_seqw <| w_sr <| o_p rfl (p_move (v := .c (PV.ls _ _ _)) rfl) <| o_nilc (row := brow) ti40 (isl_c rfl) (fun b hb => ?_)
 refine o_end (fr' := [(0, .c (PV.ls _ _ _)), (2, .nil), (4, .c (.bool _))]) rfl <| e_kw <| w_cond b rfl (fun e => ?_) (fun e => ?_)
 ·
  rw [hb e]
  exact w_sr <| o_p rfl (p_assign (v := .nil) rfl) <| o_end (fr' := [(0, .c (PV.ls _ _ _)), (2, .nil), (4, .c (.bool _))]) rfl <| e_kw <| w_ret <| e_seq_r <| e_ret (rs' := [.tmp 2]) rfl <| r_tmp (v := .nil) rfl <| r_nil <| fin_gen [] rfl rfl rfl (le_nos rfl) st_nil
 ·
  refine w_skip <| e_kw <| w_sr <| o_rows (row := brow) (xs := ([] : List UInt8)) (rows := []) (σ' := []) [] ts40 rfl rfl rfl arow_nil rfl rfl <| o_p rfl (p_move (v := .c (PV.ls _ _ _)) rfl) <| o_app (row := brow) ts40 rfl ti40 rfl (isl_c rfl) (fun _ => rfl) h <| o_p rfl (p_assign (v := AV.os _ _ _ _) rfl) <| o_end (fr' := [(0, .c (PV.ls _ _ _)), (2, AV.os _ _ _ _), (4, .c (.bool _))]) rfl <| e_kw <| w_ret <| e_ret (rs' := [.tmp 2]) rfl <| r_tmp (v := AV.os _ _ _ _) rfl ?_
  exact r_nil <| fin_gen [112] rfl rfl rfl lr st_nil
noncomputable def wire_Open (p0b : (List UInt8)) : Option WireReader :=
 (slices_Clone_byte_byte p0b).bind fun (x1 : (List UInt8)) => some (WireReader.mk x1 (0 : Int) (0 : Int) true)
theorem w_wire_Open {p0b : (List UInt8)} {res : WireReader} (h : wire_Open p0b = some res) : ACalls Try.prog 23 [.c (PV.ls 1 brow p0b)] [] (.box 0 0) [AV.cs (rowWireReader res)] := by
 unfold wire_Open at h
 refine acalls (fn := Try.f23) [0, 2] (by kernel_rfl) Try.func23 rfl (by kernel_rfl) (by kernel_rfl) <| w_sr <| sV (v := .nilptr) rfl <| o_ek (fr' := [(0, aL)]) rfl rfl <| w_sr <| mL rfl ?_
 obtain ⟨x1, hx1, h2⟩ := bind_s h
 refine o_v (ov_call (v := aO) rfl (w_slices_Clone_byte_byte hx1) ⟨lr, trivial⟩ rfl rfl rfl) <| o_p rfl (p_build (cs := [aO, aI, aI, aB]) tb78 rfl) <| o_box (v := .agg [aO, aI, aI, aB]) (n := 0) (cs := [aO, aI, aI, aB]) (σ' := [[aO, aI, aI, aB]]) rfl rfl rfl rfl rfl <| sV (v := .box 0 0) rfl <| o_ek (fr' := [(2, .box 0 0)]) rfl rfl <| w_ret ?_
 obtain rfl := sy h2
 exact e_ret (rs' := [.tmp 2]) rfl <| r_tmp (v := .box 0 0) rfl <| r_nil <| fin_new (off := 0) (j := 0) rfl rfl rfl rfl rfl (st_c ⟨rfl, rfl, rfl, rfl, trivial⟩ st_nil)
noncomputable def wire_Reader_Err (p100v : WireReader) : Option Int :=
 cond (!p100v.made_) (some (1 : Int)) (some p100v.err_)
theorem w_wire_Reader_Err {p100v : WireReader} {res : Int} (h : wire_Reader_Err p100v = some res) : ACalls Try.prog 27 [.box 0 0] [AV.cs (rowWireReader p100v)] (.c (.int .i64 res)) [AV.cs (rowWireReader p100v)] := by
 unfold wire_Reader_Err at h
 refine acalls (fn := Try.f27) [0, 2, 11] (by kernel_rfl) Try.func27 rfl (by kernel_rfl) (by kernel_rfl) <| w_sr <| sI rfl <| o_ek (fr' := [(0, .box 0 0)]) rfl rfl <| w_seqw <| w_sr <| mV (v := .box 0 0) rfl <| o_p rfl (p_peql ti41 rfl rfl) <| mB rfl <| o_yes rfl rfl rfl <| mV (v := .box 0 0) rfl ?_
 refine o_yes rfl rfl rfl <| o_p rfl (p_nc rfl) <| o_yes rfl rfl rfl <| o_p rfl (p_fa tf78x3 rfl) <| o_yes rfl rfl rfl <| o_p rfl (p_load (v := aB) tv4 rfl rfl rfl) <| o_yes rfl rfl rfl <| o_p rfl (p_not rfl) <| o_p rfl (p_pick_f rfl rfl rfl) <| o_ek (fr' := [(0, .box 0 0), (11, aB)]) rfl rfl <| w_ch h rfl (fun hb1 h1 => ?_) (fun hb1 h1 => ?_)
 ·
  refine w_sr <| sI rfl <| o_ek (fr' := [(2, aI)]) rfl rfl <| w_ret <| e_seq_r ?_
  obtain rfl := sy h1
  exact e_ret (rs' := [.tmp 2]) rfl <| r_tmp (v := aI) rfl <| r_nil <| fin_gen [] rfl rfl rfl lr (st_r rfl st_nil)
 ·
  refine w_skip <| e_kw <| w_sr <| mV (v := .box 0 0) rfl <| o_p rfl (p_nc rfl) <| o_p rfl (p_fa tf78x2 rfl) <| o_p rfl (p_load (v := aI) tv34 rfl rfl rfl) <| sI rfl <| o_ek (fr' := [(2, aI)]) rfl rfl <| w_ret ?_
  obtain rfl := sy h1
  exact e_ret (rs' := [.tmp 2]) rfl <| r_tmp (v := aI) rfl <| r_nil <| fin_gen [] rfl rfl rfl lr (st_r rfl st_nil)
noncomputable def wire_Reader_dead (p100v : WireReader) : Option Bool :=
 some (cond (!p100v.made_) true (!decide (p100v.err_ = (0 : Int))))
theorem w_wire_Reader_dead {p100v : WireReader} {res : Bool} (h : wire_Reader_dead p100v = some res) : ACalls Try.prog 72 [.box 0 0] [AV.cs (rowWireReader p100v)] (.c (.bool res)) [AV.cs (rowWireReader p100v)] := by
 unfold wire_Reader_dead at h
 refine acalls (fn := Try.f72) [0, 2] (by kernel_rfl) Try.func72 rfl (by kernel_rfl) (by kernel_rfl) <| w_sr <| sB rfl <| o_ek (fr' := [(0, .box 0 0)]) rfl rfl <| w_sr <| mV (v := .box 0 0) rfl <| o_p rfl (p_peql ti41 rfl rfl) <| mB rfl <| o_yes rfl rfl rfl <| mV (v := .box 0 0) rfl <| o_yes rfl rfl rfl ?_
 refine o_p rfl (p_nc rfl) <| o_yes rfl rfl rfl <| o_p rfl (p_fa tf78x3 rfl) <| o_yes rfl rfl rfl <| o_p rfl (p_load (v := aB) tv4 rfl rfl rfl) <| o_yes rfl rfl rfl <| o_p rfl (p_not rfl) <| o_p rfl (p_pick_f rfl rfl rfl) <| mB rfl <| og rfl rfl rfl (fun hc => (p_move (v := .box 0 0) rfl)) <| og rfl rfl rfl (fun hc => (p_nc (gx rfl hc))) <| og rfl rfl rfl (fun hc => (p_fa tf78x2 (gx rfl hc))) <| og rfl rfl rfl (fun hc => (p_load (v := aI) tv34 (gx rfl hc) rfl rfl)) ?_
 refine og rfl rfl rfl (fun hc => (p_neq (gx rfl hc) rfl)) <| o_p rfl (p_pickz rfl rfl rfl (fun e => keq e)) <| sB rfl <| o_ek (fr' := [(2, aB)]) rfl rfl <| w_ret ?_
 obtain rfl := sy h
 exact e_ret (rs' := [.tmp 2]) rfl <| r_tmp (v := aB) rfl <| r_nil <| fin_gen [] rfl rfl rfl lr (st_r rfl st_nil)
end Go.Proofs.Ytmnobgopfnhbnaa

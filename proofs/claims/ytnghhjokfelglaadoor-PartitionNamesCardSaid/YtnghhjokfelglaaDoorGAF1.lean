import Derived.Test.YtnghhjokfelglaaDoorGATy
import Derived.Test.YtnghhjokfelglaaDoorGAF0
namespace Go.Proofs.YtnghhjokfelglaaDoor
open Go Abs
set_option maxRecDepth 100000
set_option linter.unusedVariables false
set_option linter.unusedSimpArgs false
noncomputable def law39xPartitionTree (p0key : (List UInt8)) (p1i : Int) (p2degree : Int) (p3n : Int) : Option Bool :=
 cond (decide ((10000 : Int) < ((p0key).length : Int))) ((law39xlives).bind fun (x2 : Bool) => some x2) ((partition_Parent p1i p2degree).bind fun (x5 : (Int × Bool)) => (ref39xParent p1i p2degree).bind fun (x7 : (Int × Bool)) => (partition_Of p0key p3n).bind fun (x9 : Int) => (ref39xOf p0key p3n).bind fun (x11 : Int) => (gd ((cond (cond (decide (x9 = x11)) (decide (x5.1 = x7.1)) false) (x5.2 == x7.2) false) == true) (partition_Path p1i p2degree)).bind fun (x13 : (List Int)) => (gd ((cond (cond (decide (x9 = x11)) (decide (x5.1 = x7.1)) false) (x5.2 == x7.2) false) == true) (ref39xPath p1i p2degree)).bind fun (x15 : (List Int)) => (gd ((cond (cond (decide (x9 = x11)) (decide (x5.1 = x7.1)) false) (x5.2 == x7.2) false) == true) (ref15xSameInts x13 x15)).bind fun (x17 : Bool) => (gd ((cond (cond (cond (decide (x9 = x11)) (decide (x5.1 = x7.1)) false) (x5.2 == x7.2) false) x17 false) == true) (partition_Children p1i p2degree p3n)).bind fun (x19 : (List Int)) => (gd ((cond (cond (cond (decide (x9 = x11)) (decide (x5.1 = x7.1)) false) (x5.2 == x7.2) false) x17 false) == true) (ref39xChildren p1i p2degree p3n)).bind fun (x21 : (List Int)) => (gd ((cond (cond (cond (decide (x9 = x11)) (decide (x5.1 = x7.1)) false) (x5.2 == x7.2) false) x17 false) == true) (ref15xSameInts x19 x21)).bind fun (x23 : Bool) => (gd ((cond (cond (cond (cond (decide (x9 = x11)) (decide (x5.1 = x7.1)) false) (x5.2 == x7.2) false) x17 false) x23 false) == true) (law39xlives)).bind fun (x25 : Bool) => some (cond (cond (cond (cond (cond (decide (x9 = x11)) (decide (x5.1 = x7.1)) false) (x5.2 == x7.2) false) x17 false) x23 false) x25 false))
theorem w_law39xPartitionTree {p0key : (List UInt8)} {p1i : Int} {p2degree : Int} {p3n : Int} {res : Bool} (h : law39xPartitionTree p0key p1i p2degree p3n = some res) : ACalls Tryd.prog 5 [.c (.str p0key), .c (.int .i64 p1i), .c (.int .i64 p2degree), .c (.int .i64 p3n)] [] (.c (.bool res)) [] := by
 unfold law39xPartitionTree at h
 refine acalls (fn := Tryd.f5) [0, 1, 2, 3, 8, 9, 10, 11, 12, 15] (by kernel_rfl) Tryd.func5 rfl (by kernel_rfl) (by kernel_rfl) <| w_sr <| sB rfl <| o_ek (fr' := [(0, aS), (1, aI), (2, aI), (3, aI)]) rfl rfl <| w_seqw <| w_sr <| mS rfl <| o_p rfl (p_lens ti9 rfl) <| o_p rfl (p_gtr rfl rfl) <| o_ek (fr' := [(0, aS), (1, aI), (2, aI), (3, aI), (15, aB)]) rfl rfl <| w_ch h rfl (fun hb1 h1 => ?_) (fun hb1 h1 => ?_)
 ·
  refine w_seqw <| w_region ?_
  obtain ⟨x2, hx2, h3⟩ := bind_s h1
  refine o_v (ov_call (v := aB) rfl (w_law39xlives hx2) trivial rfl rfl rfl) <| sB rfl <| o_ek (fr' := [(8, aB)]) rfl rfl <| w_ret <| e_seq_r ?_
  obtain rfl := sy h3
  exact e_ret (rs' := [.tmp 8]) rfl <| r_tmp (v := aB) rfl <| r_nil <| fin_gen [] rfl rfl rfl lr st_nil
 ·
  refine w_skip <| e_kw <| w_sr <| mI rfl <| mI rfl ?_
  obtain ⟨x5, hx5, h6⟩ := bind_s h1
  refine o_v (ov_call (v := .tup [aI, aB]) rfl (w_partition_Parent hx5) ⟨lr, lr, trivial⟩ rfl rfl rfl) <| mV (v := .tup [aI, aB]) rfl <| o_p rfl (p_ex (v := aI) rfl rfl) <| o_p rfl (p_ex (v := aB) rfl rfl) <| sI rfl <| sB rfl <| o_ek (fr' := [(0, aS), (1, aI), (2, aI), (3, aI), (9, aI), (10, aB)]) rfl rfl <| w_sr <| mI rfl <| mI rfl ?_
  obtain ⟨x7, hx7, h8⟩ := bind_s h6
  refine o_v (ov_call (v := .tup [aI, aB]) rfl (w_ref39xParent hx7) ⟨lr, lr, trivial⟩ rfl rfl rfl) <| mV (v := .tup [aI, aB]) rfl <| o_p rfl (p_ex (v := aI) rfl rfl) <| o_p rfl (p_ex (v := aB) rfl rfl) <| sI rfl <| sB rfl <| o_ek (fr' := [(0, aS), (1, aI), (2, aI), (3, aI), (9, aI), (10, aB), (11, aI), (12, aB)]) rfl rfl <| w_sr <| mS rfl <| mI rfl ?_
  obtain ⟨x9, hx9, h10⟩ := bind_s h8
  refine o_v (ov_call (v := aI) rfl (w_partition_Of hx9) ⟨lr, lr, trivial⟩ rfl rfl rfl) <| mS rfl <| mI rfl ?_
  obtain ⟨x11, hx11, h12⟩ := bind_s h10
  refine o_v (ov_call (v := aI) rfl (w_ref39xOf hx11) ⟨lr, lr, trivial⟩ rfl rfl rfl) <| o_p rfl (p_eql rfl rfl) <| mB rfl <| og rfl rfl rfl (fun hc => (p_move (v := aI) rfl)) <| og rfl rfl rfl (fun hc => (p_move (v := aI) rfl)) <| og rfl rfl rfl (fun hc => (p_eql (gx rfl hc) (gx rfl hc))) <| o_p rfl (p_picky rfl rfl rfl (fun e => keq e)) <| mB rfl <| og rfl rfl rfl (fun hc => (p_move (v := aB) rfl)) <| og rfl rfl rfl (fun hc => (p_move (v := aB) rfl)) <| og rfl rfl rfl (fun hc => (p_beql ti4 (gx rfl hc) (gx rfl hc))) <| o_p rfl (p_picky rfl rfl rfl (fun e => keq e)) <| mB rfl ?_
  refine og rfl rfl rfl (fun hc => (p_move (v := aI) rfl)) <| og rfl rfl rfl (fun hc => (p_move (v := aI) rfl)) ?_
  obtain ⟨x13, hx13, h14⟩ := bind_s h12
  refine o_g rfl rfl (fun hc => ov_call (v := aO) rfl (w_partition_Path (gd_some hx13 hc)) ⟨(le_gv (gx rfl hc) lr), (le_gv (gx rfl hc) lr), trivial⟩ (ok_eq (by repeat (first | exact ok_nil | refine ok_cons rfl ?_ | refine ok_cons (dgv rfl) ?_ | refine ok_cons dar ?_))) rfl rfl) ?_
  refine og rfl rfl rfl (fun hc => (p_move (v := aI) rfl)) <| og rfl rfl rfl (fun hc => (p_move (v := aI) rfl)) ?_
  obtain ⟨x15, hx15, h16⟩ := bind_s h14
  refine o_g rfl rfl (fun hc => ov_call (v := aO) rfl (w_ref39xPath (gd_some hx15 hc)) ⟨(le_gv (gx rfl hc) lr), (le_gv (gx rfl hc) lr), trivial⟩ (ok_eq (by repeat (first | exact ok_nil | refine ok_cons rfl ?_ | refine ok_cons (dgv rfl) ?_ | refine ok_cons dar ?_))) rfl rfl) ?_
  obtain ⟨x17, hx17, h18⟩ := bind_s h16
  refine o_g rfl rfl (fun hc => ov_call (v := aB) rfl (w_ref15xSameInts (gd_some hx17 hc)) ⟨(le_gv (gx rfl hc) lr), (le_gv (gx rfl hc) lr), trivial⟩ (ok_eq (by repeat (first | exact ok_nil | refine ok_cons rfl ?_ | refine ok_cons (dgv rfl) ?_ | refine ok_cons dar ?_))) rfl rfl) ?_
  refine o_p rfl (p_picky rfl rfl rfl (fun e => keq e)) <| mB rfl <| og rfl rfl rfl (fun hc => (p_move (v := aI) rfl)) <| og rfl rfl rfl (fun hc => (p_move (v := aI) rfl)) <| og rfl rfl rfl (fun hc => (p_move (v := aI) rfl)) ?_
  obtain ⟨x19, hx19, h20⟩ := bind_s h18
  refine o_g rfl rfl (fun hc => ov_call (v := aO) rfl (w_partition_Children (gd_some hx19 hc)) ⟨(le_gv (gx rfl hc) lr), (le_gv (gx rfl hc) lr), (le_gv (gx rfl hc) lr), trivial⟩ (ok_eq (by repeat (first | exact ok_nil | refine ok_cons rfl ?_ | refine ok_cons (dgv rfl) ?_ | refine ok_cons dar ?_))) rfl rfl) ?_
  refine og rfl rfl rfl (fun hc => (p_move (v := aI) rfl)) <| og rfl rfl rfl (fun hc => (p_move (v := aI) rfl)) <| og rfl rfl rfl (fun hc => (p_move (v := aI) rfl)) ?_
  obtain ⟨x21, hx21, h22⟩ := bind_s h20
  refine o_g rfl rfl (fun hc => ov_call (v := aO) rfl (w_ref39xChildren (gd_some hx21 hc)) ⟨(le_gv (gx rfl hc) lr), (le_gv (gx rfl hc) lr), (le_gv (gx rfl hc) lr), trivial⟩ (ok_eq (by repeat (first | exact ok_nil | refine ok_cons rfl ?_ | refine ok_cons (dgv rfl) ?_ | refine ok_cons dar ?_))) rfl rfl) ?_
  obtain ⟨x23, hx23, h24⟩ := bind_s h22
  refine o_g rfl rfl (fun hc => ov_call (v := aB) rfl (w_ref15xSameInts (gd_some hx23 hc)) ⟨(le_gv (gx rfl hc) lr), (le_gv (gx rfl hc) lr), trivial⟩ (ok_eq (by repeat (first | exact ok_nil | refine ok_cons rfl ?_ | refine ok_cons (dgv rfl) ?_ | refine ok_cons dar ?_))) rfl rfl) ?_
  refine o_p rfl (p_picky rfl rfl rfl (fun e => keq e)) <| mB rfl ?_
  obtain ⟨x25, hx25, h26⟩ := bind_s h24
  refine o_g rfl rfl (fun hc => ov_call (v := aB) rfl (w_law39xlives (gd_some hx25 hc)) trivial (ok_eq (by repeat (first | exact ok_nil | refine ok_cons rfl ?_ | refine ok_cons (dgv rfl) ?_ | refine ok_cons dar ?_))) rfl rfl) ?_
  refine o_p rfl (p_picky rfl rfl rfl (fun e => keq e)) <| sB rfl <| o_ek (fr' := [(8, aB)]) rfl rfl <| w_ret ?_
  obtain rfl := sy h26
  exact e_ret (rs' := [.tmp 8]) rfl <| r_tmp (v := aB) rfl <| r_nil <| fin_gen [] rfl rfl rfl lr st_nil
end Go.Proofs.YtnghhjokfelglaaDoor

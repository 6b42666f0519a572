import Derived.Test.YtmnobgopfnhbnaaGDTy
import Derived.Test.YtmnobgopfnhbnaaGDF0
import Derived.Test.YtmnobgopfnhbnaaGDF1
import Derived.Test.YtmnobgopfnhbnaaGDF2
import Derived.Test.YtmnobgopfnhbnaaGDF3
import Derived.Test.YtmnobgopfnhbnaaGDF4
namespace Go.Proofs.Ytmnobgopfnhbnaa
open Go Abs
set_option maxRecDepth 100000
set_option linter.unusedVariables false
set_option linter.unusedSimpArgs false
noncomputable def command_Decode (p100v : WireReader) : Option (ApiCommand × WireReader) :=
 (command_number64 p100v).bind fun (x1 : (Int × WireReader)) => (command_number64 x1.2).bind fun (x3 : (Int × WireReader)) => (wire_Reader_Text (4096 : Int) x3.2).bind fun (x5 : ((List UInt8) × WireReader)) => (wire_Reader_Text (4096 : Int) x5.2).bind fun (x7 : ((List UInt8) × WireReader)) => (command_number64 x7.2).bind fun (x9 : (Int × WireReader)) => (value_Decode x9.2).bind fun (x11 : (ApiValue × WireReader)) => (command_DecodePolicy x11.2).bind fun (x13 : (ApiPolicy × WireReader)) => (((wire_Reader_Err x13.2).bind fun (x18 : Int) => (gd ((decide (x18 = (0 : Int))) == true) (command_Right (ApiCommand.mk x1.1 x3.1 x5.1 x7.1 x9.1 x11.1 x13.1))).bind fun (x20 : Bool) => cond (cond (decide (x18 = (0 : Int))) (!x20) false) ((wire_Reader_Fail (3 : Int) x13.2).bind fun (x23 : WireReader) => some x23) (some x13.2)) : Option WireReader).bind fun (x15 : WireReader) => ((wire_Reader_Err x15).bind fun (x26 : Int) => cond (!decide (x26 = (0 : Int))) (some ((ApiCommand.mk (0 : Int) (0 : Int) ([] : List UInt8) ([] : List UInt8) (0 : Int) (ApiValue.mk (0 : Int) (0 : Int) ([] : List UInt8) ([] : (List ApiValue)) ([] : (List (List UInt8)))) (ApiPolicy.mk ([] : List UInt8) (0 : Int) (0 : Int) (0 : Int) (0 : Int) (0 : Int) (0 : Int) (0 : Int) (0 : Int) ([] : (List (List UInt8))))), x15)) (some ((ApiCommand.mk x1.1 x3.1 x5.1 x7.1 x9.1 x11.1 x13.1), x15)))
theorem w_command_Decode {p100v : WireReader} {res : (ApiCommand × WireReader)} (h : command_Decode p100v = some res) : ACalls Try.prog 25 [.box 0 0] [AV.cs (rowWireReader p100v)] (.agg (AV.cs (rowApiCommand res.1))) [AV.cs (rowWireReader res.2)] := by
 unfold command_Decode at h
 refine acalls (fn := Try.f25) [0, 2, 3, 32, 37] (by kernel_rfl) Try.func25 rfl (by kernel_rfl) (by kernel_rfl) <| w_sr <| o_alloc (n := 1) (cs := [aI, aI, aS, aS, aI, aI, aI, aS, .nil, .nil, aS, aI, aI, aI, aI, aI, aI, aI, aI, .nil]) (σ' := [aLIIB, [aI, aI, aS, aS, aI, aI, aI, aS, .nil, .nil, aS, aI, aI, aI, aI, aI, aI, aI, aI, .nil]]) tz29 rfl rfl rfl <| o_ek (fr' := [(0, .box 0 0), (2, .box 1 0)]) rfl rfl <| w_sr <| o_alloc (n := 2) (cs := [aI, aI, aS, aS, aI, aI, aI, aS, .nil, .nil, aS, aI, aI, aI, aI, aI, aI, aI, aI, .nil]) (σ' := [aLIIB, [aI, aI, aS, aS, aI, aI, aI, aS, .nil, .nil, aS, aI, aI, aI, aI, aI, aI, aI, aI, .nil], [aI, aI, aS, aS, aI, aI, aI, aS, .nil, .nil, aS, aI, aI, aI, aI, aI, aI, aI, aI, .nil]]) tz29 rfl rfl rfl <| o_ek (fr' := [(0, .box 0 0), (2, .box 1 0), (3, .box 2 0)]) rfl rfl <| w_sr <| mV (v := .box 0 0) rfl ?_
 obtain ⟨x1, hx1, h2⟩ := bind_s h
 refine o_call (v := aI) (σ' := [aLIIB, [aI, aI, aS, aS, aI, aI, aI, aS, .nil, .nil, aS, aI, aI, aI, aI, aI, aI, aI, aI, .nil], [aI, aI, aS, aS, aI, aI, aI, aS, .nil, .nil, aS, aI, aI, aI, aI, aI, aI, aI, aI, .nil]]) [0] rfl (w_command_number64 hx1) rfl rfl ⟨lr, trivial⟩ (st_c ⟨rfl, rfl, rfl, rfl, trivial⟩ st_nil) rfl rfl rfl <| mV (v := .box 0 0) rfl ?_
 obtain ⟨x3, hx3, h4⟩ := bind_s h2
 refine o_call (v := aI) (σ' := [aLIIB, [aI, aI, aS, aS, aI, aI, aI, aS, .nil, .nil, aS, aI, aI, aI, aI, aI, aI, aI, aI, .nil], [aI, aI, aS, aS, aI, aI, aI, aS, .nil, .nil, aS, aI, aI, aI, aI, aI, aI, aI, aI, .nil]]) [0] rfl (w_command_number64 hx3) rfl rfl ⟨lr, trivial⟩ (st_c ⟨rfl, rfl, rfl, rfl, trivial⟩ st_nil) rfl rfl rfl <| o_p rfl (p_fa tf29x0 rfl) <| o_store (v := aI) (us := [aI]) (cs := [aI, aI, aS, aS, aI, aI, aI, aS, .nil, .nil, aS, aI, aI, aI, aI, aI, aI, aI, aI, .nil]) (σ' := [aLIIB, [aI, aI, aS, aS, aI, aI, aI, aS, .nil, .nil, aS, aI, aI, aI, aI, aI, aI, aI, aI, .nil], [aI, aI, aS, aS, aI, aI, aI, aS, .nil, .nil, aS, aI, aI, aI, aI, aI, aI, aI, aI, .nil]]) rfl tv3 rfl rfl rfl rfl rfl rfl rfl rfl <| o_p rfl (p_fa tf29x1 rfl) <| o_store (v := aI) (us := [aI]) (cs := [aI, aI, aS, aS, aI, aI, aI, aS, .nil, .nil, aS, aI, aI, aI, aI, aI, aI, aI, aI, .nil]) (σ' := [aLIIB, [aI, aI, aS, aS, aI, aI, aI, aS, .nil, .nil, aS, aI, aI, aI, aI, aI, aI, aI, aI, .nil], [aI, aI, aS, aS, aI, aI, aI, aS, .nil, .nil, aS, aI, aI, aI, aI, aI, aI, aI, aI, .nil]]) rfl tv3 rfl rfl rfl rfl rfl rfl rfl rfl <| o_ek (fr' := [(0, .box 0 0), (2, .box 1 0), (3, .box 2 0)]) rfl rfl <| w_sr <| mV (v := .box 0 0) rfl ?_
 obtain ⟨x5, hx5, h6⟩ := bind_s h4
 refine o_call (v := aS) (σ' := [aLIIB, [aI, aI, aS, aS, aI, aI, aI, aS, .nil, .nil, aS, aI, aI, aI, aI, aI, aI, aI, aI, .nil], [aI, aI, aS, aS, aI, aI, aI, aS, .nil, .nil, aS, aI, aI, aI, aI, aI, aI, aI, aI, .nil]]) [0] rfl (w_wire_Reader_Text hx5) rfl rfl ⟨lr, lr, trivial⟩ (st_c ⟨rfl, rfl, rfl, rfl, trivial⟩ st_nil) rfl rfl rfl <| mV (v := .box 0 0) rfl ?_
 obtain ⟨x7, hx7, h8⟩ := bind_s h6
 refine o_call (v := aS) (σ' := [aLIIB, [aI, aI, aS, aS, aI, aI, aI, aS, .nil, .nil, aS, aI, aI, aI, aI, aI, aI, aI, aI, .nil], [aI, aI, aS, aS, aI, aI, aI, aS, .nil, .nil, aS, aI, aI, aI, aI, aI, aI, aI, aI, .nil]]) [0] rfl (w_wire_Reader_Text hx7) rfl rfl ⟨lr, lr, trivial⟩ (st_c ⟨rfl, rfl, rfl, rfl, trivial⟩ st_nil) rfl rfl rfl <| o_p rfl (p_fa tf29x2 rfl) <| o_store (v := aS) (us := [aS]) (cs := [aI, aI, aS, aS, aI, aI, aI, aS, .nil, .nil, aS, aI, aI, aI, aI, aI, aI, aI, aI, .nil]) (σ' := [aLIIB, [aI, aI, aS, aS, aI, aI, aI, aS, .nil, .nil, aS, aI, aI, aI, aI, aI, aI, aI, aI, .nil], [aI, aI, aS, aS, aI, aI, aI, aS, .nil, .nil, aS, aI, aI, aI, aI, aI, aI, aI, aI, .nil]]) rfl tv9 rfl rfl rfl rfl rfl rfl rfl rfl <| o_p rfl (p_fa tf29x3 rfl) <| o_store (v := aS) (us := [aS]) (cs := [aI, aI, aS, aS, aI, aI, aI, aS, .nil, .nil, aS, aI, aI, aI, aI, aI, aI, aI, aI, .nil]) (σ' := [aLIIB, [aI, aI, aS, aS, aI, aI, aI, aS, .nil, .nil, aS, aI, aI, aI, aI, aI, aI, aI, aI, .nil], [aI, aI, aS, aS, aI, aI, aI, aS, .nil, .nil, aS, aI, aI, aI, aI, aI, aI, aI, aI, .nil]]) rfl tv9 rfl rfl rfl rfl rfl rfl rfl rfl <| o_ek (fr' := [(0, .box 0 0), (2, .box 1 0), (3, .box 2 0)]) rfl rfl <| w_sr <| mV (v := .box 0 0) rfl ?_
 obtain ⟨x9, hx9, h10⟩ := bind_s h8
 refine o_call (v := aI) (σ' := [aLIIB, [aI, aI, aS, aS, aI, aI, aI, aS, .nil, .nil, aS, aI, aI, aI, aI, aI, aI, aI, aI, .nil], [aI, aI, aS, aS, aI, aI, aI, aS, .nil, .nil, aS, aI, aI, aI, aI, aI, aI, aI, aI, .nil]]) [0] rfl (w_command_number64 hx9) rfl rfl ⟨lr, trivial⟩ (st_c ⟨rfl, rfl, rfl, rfl, trivial⟩ st_nil) rfl rfl rfl <| o_p rfl (p_fa tf29x4 rfl) <| o_store (v := aI) (us := [aI]) (cs := [aI, aI, aS, aS, aI, aI, aI, aS, .nil, .nil, aS, aI, aI, aI, aI, aI, aI, aI, aI, .nil]) (σ' := [aLIIB, [aI, aI, aS, aS, aI, aI, aI, aS, .nil, .nil, aS, aI, aI, aI, aI, aI, aI, aI, aI, .nil], [aI, aI, aS, aS, aI, aI, aI, aS, .nil, .nil, aS, aI, aI, aI, aI, aI, aI, aI, aI, .nil]]) rfl tv3 rfl rfl rfl rfl rfl rfl rfl rfl <| o_ek (fr' := [(0, .box 0 0), (2, .box 1 0), (3, .box 2 0)]) rfl rfl <| w_sr <| mV (v := .box 0 0) rfl ?_
 obtain ⟨x11, hx11, h12⟩ := bind_s h10
 refine o_call (v := .agg aIISLL) (σ' := [aLIIB, [aI, aI, aS, aS, aI, aI, aI, aS, .nil, .nil, aS, aI, aI, aI, aI, aI, aI, aI, aI, .nil], [aI, aI, aS, aS, aI, aI, aI, aS, .nil, .nil, aS, aI, aI, aI, aI, aI, aI, aI, aI, .nil]]) [0] rfl (w_value_Decode hx11) rfl rfl ⟨lr, trivial⟩ (st_c ⟨rfl, rfl, rfl, rfl, trivial⟩ st_nil) rfl rfl rfl <| o_p rfl (p_fa tf29x5 rfl) <| o_store (v := .agg aIISLL) (us := aIISLL) (cs := [aI, aI, aS, aS, aI, aI, aI, aS, .nil, .nil, aS, aI, aI, aI, aI, aI, aI, aI, aI, .nil]) (σ' := [aLIIB, [aI, aI, aS, aS, aI, aI, aI, aS, .nil, .nil, aS, aI, aI, aI, aI, aI, aI, aI, aI, .nil], [aI, aI, aS, aS, aI, aI, aI, aS, aL, aL, aS, aI, aI, aI, aI, aI, aI, aI, aI, .nil]]) rfl tv25 rfl rfl rfl rfl rfl rfl rfl rfl <| o_ek (fr' := [(0, .box 0 0), (2, .box 1 0), (3, .box 2 0)]) rfl rfl <| w_sr <| mV (v := .box 0 0) rfl ?_
 obtain ⟨x13, hx13, h14⟩ := bind_s h12
 refine o_call (v := .agg aSIIIIIIIIL) (σ' := [aLIIB, [aI, aI, aS, aS, aI, aI, aI, aS, .nil, .nil, aS, aI, aI, aI, aI, aI, aI, aI, aI, .nil], [aI, aI, aS, aS, aI, aI, aI, aS, aL, aL, aS, aI, aI, aI, aI, aI, aI, aI, aI, .nil]]) [0] rfl (w_command_DecodePolicy hx13) rfl rfl ⟨lr, trivial⟩ (st_c ⟨rfl, rfl, rfl, rfl, trivial⟩ st_nil) rfl rfl rfl <| o_p rfl (p_fa tf29x6 rfl) <| o_store (v := .agg aSIIIIIIIIL) (us := aSIIIIIIIIL) (cs := [aI, aI, aS, aS, aI, aI, aI, aS, aL, aL, aS, aI, aI, aI, aI, aI, aI, aI, aI, .nil]) (σ' := [aLIIB, [aI, aI, aS, aS, aI, aI, aI, aS, .nil, .nil, aS, aI, aI, aI, aI, aI, aI, aI, aI, .nil], aIISSIIISLLSIIIIIIIIL]) rfl tv27 rfl rfl rfl rfl rfl rfl rfl rfl <| o_ek (fr' := [(0, .box 0 0), (2, .box 1 0), (3, .box 2 0)]) rfl rfl ?_
 obtain ⟨x15, hx15, h16⟩ := bind_s h14
 refine w_join (fun j17 => x15 = j17) (fun (j17 : WireReader) => ([(0, .box 0 0), (2, .box 1 0), (3, .box 2 0)] : Fr)) (fun (j17 : WireReader) => ([[.c (PV.ls 1 brow j17.b_), .c (.int .i64 j17.at_), .c (.int .i64 j17.err_), .c (.bool j17.made_)], [.c (.int .i64 (0 : Int)), .c (.int .i64 (0 : Int)), .c (.str ([] : List UInt8)), .c (.str ([] : List UInt8)), .c (.int .i64 (0 : Int)), .c (.int .i64 (0 : Int)), .c (.int .i64 (0 : Int)), .c (.str ([] : List UInt8)), .nil, .nil, .c (.str ([] : List UInt8)), .c (.int .i64 (0 : Int)), .c (.int .i64 (0 : Int)), .c (.int .i64 (0 : Int)), .c (.int .i64 (0 : Int)), .c (.int .i64 (0 : Int)), .c (.int .i64 (0 : Int)), .c (.int .i64 (0 : Int)), .c (.int .i64 (0 : Int)), .nil], [.c (.int .i64 x1.1), .c (.int .i64 x3.1), .c (.str x5.1), .c (.str x7.1), .c (.int .i64 x9.1), .c (.int .i64 x11.1.Kind), .c (.int .i64 x11.1.Int), .c (.str x11.1.Text), .c (PV.ls 5 rowApiValue x11.1.Items), .c (PV.ls 1 rowS x11.1.Keys), .c (.str x13.1.Queue), .c (.int .i64 x13.1.ToStart), .c (.int .i64 x13.1.ToClose), .c (.int .i64 x13.1.Total), .c (.int .i64 x13.1.Beat), .c (.int .i64 x13.1.First), .c (.int .i64 x13.1.Coef), .c (.int .i64 x13.1.Most), .c (.int .i64 x13.1.Attempts), .c (PV.ls 1 rowS x13.1.Fatal)]] : St)) ?_ ?_
 ·
  refine w_sr <| mV (v := .box 0 0) rfl ?_
  obtain ⟨x18, hx18, h19⟩ := bind_s hx15
  refine o_call (v := aI) (σ' := [aLIIB, [aI, aI, aS, aS, aI, aI, aI, aS, .nil, .nil, aS, aI, aI, aI, aI, aI, aI, aI, aI, .nil], aIISSIIISLLSIIIIIIIIL]) [0] rfl (w_wire_Reader_Err hx18) rfl rfl ⟨lr, trivial⟩ (st_c ⟨rfl, rfl, rfl, rfl, trivial⟩ st_nil) rfl rfl rfl <| o_p rfl (p_eql rfl rfl) <| mB rfl <| og rfl rfl rfl (fun hc => (p_loads (us := aIISSIIISLLSIIIIIIIIL) tv29 rfl rfl rfl rfl)) ?_
  obtain ⟨x20, hx20, h21⟩ := bind_s h19
  refine o_g rfl rfl (fun hc => ov_call (v := aB) rfl (w_command_Right (gd_some hx20 hc)) ⟨(le_gv (gx rfl hc) (le_aggc rfl ⟨rfl, rfl, rfl, rfl, rfl, rfl, rfl, rfl, rfl, rfl, rfl, rfl, rfl, rfl, rfl, rfl, rfl, rfl, rfl, rfl, trivial⟩)), trivial⟩ (ok_eq (by repeat (first | exact ok_nil | refine ok_cons rfl ?_ | refine ok_cons (dgv rfl) ?_))) rfl rfl) ?_
  refine og rfl rfl rfl (fun hc => (p_not (gx rfl hc))) <| o_p rfl (p_picky rfl rfl rfl (fun e => keq e)) <| o_ek (fr' := [(0, .box 0 0), (2, .box 1 0), (3, .box 2 0), (32, aB)]) rfl rfl <| w_ch h21 rfl (fun hb22 h22 => ?_) (fun hb22 h22 => ?_)
  ·
   refine w_region <| mV (v := .box 0 0) rfl ?_
   obtain ⟨x23, hx23, h24⟩ := bind_s h22
   exact o_call (v := _) (σ' := [aLIIB, [aI, aI, aS, aS, aI, aI, aI, aS, .nil, .nil, aS, aI, aI, aI, aI, aI, aI, aI, aI, .nil], aIISSIIISLLSIIIIIIIIL]) [0] rfl (w_wire_Reader_Fail hx23) rfl rfl ⟨lr, lr, trivial⟩ (st_c ⟨rfl, rfl, rfl, rfl, trivial⟩ st_nil) rfl rfl rfl <| o_end (fr' := [(0, .box 0 0), (2, .box 1 0), (3, .box 2 0), (32, aB)]) rfl <| e_j _ (sy h24) (w_weak [] 3 rfl rfl rfl rfl ⟨lr, lr, lr, trivial⟩ (st_r rfl (st_r rfl (st_r rfl st_nil))))
  ·
   exact w_skip <| e_j _ (sy h22) (w_weak [] 3 rfl rfl rfl rfl ⟨lr, lr, lr, trivial⟩ (st_r rfl (st_r rfl (st_r rfl st_nil))))
 ·
  intro j17 hj25
  subst hj25
  refine w_seqw <| w_sr <| mV (v := .box 0 0) rfl ?_
  obtain ⟨x26, hx26, h27⟩ := bind_s h16
  refine o_call (v := aI) (σ' := [aLIIB, [aI, aI, aS, aS, aI, aI, aI, aS, .nil, .nil, aS, aI, aI, aI, aI, aI, aI, aI, aI, .nil], aIISSIIISLLSIIIIIIIIL]) [0] rfl (w_wire_Reader_Err hx26) rfl rfl ⟨lr, trivial⟩ (st_c ⟨rfl, rfl, rfl, rfl, trivial⟩ st_nil) rfl rfl rfl <| o_p rfl (p_neq rfl rfl) <| o_ek (fr' := [(2, .box 1 0), (3, .box 2 0), (37, aB)]) rfl rfl <| w_ch h27 rfl (fun hb28 h28 => ?_) (fun hb28 h28 => ?_)
  ·
   refine w_sr <| o_p rfl (p_buildc (c0 := [aI, aI, aS, aS, aI, aI, aI, aS, .nil, .nil, aS, aI, aI, aI, aI, aI, aI, aI, aI, .nil]) (cs := [aI, aI, aS, aS, aI, aI, aI, aS, .nil, .nil, aS, aI, aI, aI, aI, aI, aI, aI, aI, .nil]) tb29 rfl fill_nil) <| o_store (v := .agg [aI, aI, aS, aS, aI, aI, aI, aS, .nil, .nil, aS, aI, aI, aI, aI, aI, aI, aI, aI, .nil]) (us := [aI, aI, aS, aS, aI, aI, aI, aS, .nil, .nil, aS, aI, aI, aI, aI, aI, aI, aI, aI, .nil]) (cs := [aI, aI, aS, aS, aI, aI, aI, aS, .nil, .nil, aS, aI, aI, aI, aI, aI, aI, aI, aI, .nil]) (σ' := [aLIIB, [aI, aI, aS, aS, aI, aI, aI, aS, .nil, .nil, aS, aI, aI, aI, aI, aI, aI, aI, aI, .nil], aIISSIIISLLSIIIIIIIIL]) rfl tv29 rfl rfl rfl rfl rfl rfl rfl rfl <| o_ek (fr' := [(2, .box 1 0)]) rfl rfl <| w_ret <| e_seq_r ?_
   obtain rfl := sy h28
   exact e_ret (rs' := [.cell 2 29]) rfl <| r_cells (us := [aI, aI, aS, aS, aI, aI, aI, aS, .nil, .nil, aS, aI, aI, aI, aI, aI, aI, aI, aI, .nil]) (cs := [aI, aI, aS, aS, aI, aI, aI, aS, .nil, .nil, aS, aI, aI, aI, aI, aI, aI, aI, aI, .nil]) tv29 rfl rfl rfl rfl <| r_nil <| fin_gen [] rfl rfl rfl (le_aggc rfl ⟨rfl, rfl, rfl, rfl, rfl, rfl, rfl, rfl, ⟨_, rfl⟩, ⟨_, rfl⟩, rfl, rfl, rfl, rfl, rfl, rfl, rfl, rfl, rfl, ⟨_, rfl⟩, trivial⟩) (st_c ⟨rfl, rfl, rfl, rfl, trivial⟩ st_nil)
  ·
   refine w_skip <| e_kw <| w_sr <| o_p rfl (p_loads (us := aIISSIIISLLSIIIIIIIIL) tv29 rfl rfl rfl rfl) <| o_store (v := .agg aIISSIIISLLSIIIIIIIIL) (us := aIISSIIISLLSIIIIIIIIL) (cs := [aI, aI, aS, aS, aI, aI, aI, aS, .nil, .nil, aS, aI, aI, aI, aI, aI, aI, aI, aI, .nil]) (σ' := [aLIIB, aIISSIIISLLSIIIIIIIIL, aIISSIIISLLSIIIIIIIIL]) rfl tv29 rfl rfl rfl rfl rfl rfl rfl rfl <| o_ek (fr' := [(2, .box 1 0)]) rfl rfl <| w_ret ?_
   obtain rfl := sy h28
   exact e_ret (rs' := [.cell 2 29]) rfl <| r_cells (us := aIISSIIISLLSIIIIIIIIL) (cs := aIISSIIISLLSIIIIIIIIL) tv29 rfl rfl rfl rfl <| r_nil <| fin_gen [] rfl rfl rfl (le_aggc rfl ⟨rfl, rfl, rfl, rfl, rfl, rfl, rfl, rfl, rfl, rfl, rfl, rfl, rfl, rfl, rfl, rfl, rfl, rfl, rfl, rfl, trivial⟩) (st_c ⟨rfl, rfl, rfl, rfl, trivial⟩ st_nil)
noncomputable def wire_PutInt_l1  (s6 : ((List UInt8) × Int)) : Option (Step ((List UInt8) × Int) ((List UInt8) × Int)) :=
 cond (decide ((128 : Int) ≤ s6.2)) ((byteOf (abits .or .u8 (IntKind.wrap .u8 s6.2) (128 : Int))).bind fun (x8 : UInt8) => (app 1 s6.1 ([x8] : List UInt8)).bind fun (x10 : (List UInt8)) => some (Step.next (x10, (Int.fdiv s6.2 (2 ^ (min (Int.toNat (7 : Int)) (IntKind.bits .u64))))))) (some (Step.out (s6.1, s6.2)))
noncomputable def wire_PutInt (p0b : (List UInt8)) (p1n : Int) : Option (List UInt8) :=
 (slices_Clone_byte_byte p0b).bind fun (x1 : (List UInt8)) => ((loopO (wire_PutInt_l1) ((x1, (abits .xor .u64 (IntKind.wrap .u64 ((IntKind.wrap .u64 p1n) * 2 ^ (min (Int.toNat (1 : Int)) (IntKind.bits .u64)))) (IntKind.wrap .u64 (Int.fdiv p1n (2 ^ (min (Int.toNat (63 : Int)) (IntKind.bits .i64))))))))) : Option ((List UInt8) × Int)).bind fun (x3 : ((List UInt8) × Int)) => ((byteOf (IntKind.wrap .u8 x3.2)).bind fun (x14 : UInt8) => (app 1 x3.1 ([x14] : List UInt8)).bind fun (x16 : (List UInt8)) => some x16)
theorem w_wire_PutInt {p0b : (List UInt8)} {p1n : Int} {res : (List UInt8)} (h : wire_PutInt p0b p1n = some res) : ACalls Try.prog 74 [.c (PV.ls 1 brow p0b), .c (.int .i64 p1n)] [] (AV.os 0 1 brow res) [] := by
 unfold wire_PutInt at h
 refine acalls (fn := Try.f74) [0, 1, 4, 5, 6, 17] (by kernel_rfl) Try.func74 rfl (by kernel_rfl) (by kernel_rfl) <| w_sr <| sV (v := .nil) rfl <| o_ek (fr' := [(0, aL), (1, aI)]) rfl rfl <| w_sr <| mL rfl ?_
 obtain ⟨x1, hx1, h2⟩ := bind_s h
 refine o_v (ov_call (v := aO) rfl (w_slices_Clone_byte_byte hx1) ⟨lr, trivial⟩ rfl rfl rfl) <| sV (v := aO) rfl <| o_ek (fr' := [(1, aI), (5, aO)]) rfl rfl <| w_sr <| mI rfl <| o_p rfl (p_conv tk3 tk103 rfl) <| o_p rfl (p_shl rfl rfl (by decide)) <| mI rfl <| o_p rfl (p_shr rfl rfl (by decide)) <| o_p rfl (p_conv tk3 tk103 rfl) <| o_p rfl (p_xor rfl rfl) <| sI rfl ?_
 refine o_ek (fr' := [(5, aO), (6, aI)]) rfl rfl ?_
 obtain ⟨x3, hx3, h4⟩ := bind_s h2
 refine w_join (fun j5 => x3 = j5) (fun (j5 : ((List UInt8) × Int)) => ([(5, AV.os 0 1 brow j5.1), (6, .c (.int .u64 j5.2))] : Fr)) (fun (j5 : ((List UInt8) × Int)) => ([] : St)) ?_ ?_
 ·
  refine w_block <| w_loopo _ (fun (s6 : ((List UInt8) × Int)) => ([(5, AV.os 0 1 brow s6.1), (6, .c (.int .u64 s6.2))] : Fr)) (fun (s6 : ((List UInt8) × Int)) => ([] : St)) hx3 (w_weak [128] 0 rfl rfl rfl rfl ⟨lr, lr, trivial⟩ st_nil) ?_
  intro s6 st6 hs6 ho6
  unfold wire_PutInt_l1 at hs6
  refine w_seqw <| w_sr <| mI rfl <| o_p rfl (p_geq rfl rfl) <| o_ek (fr' := [(5, aO), (6, aI), (17, aB)]) rfl rfl <| w_ch hs6 rfl (fun hb7 h7 => ?_) (fun hb7 h7 => ?_)
  ·
   refine w_skip <| e_kw <| w_block <| w_sr <| mV (v := aO) rfl <| mI rfl <| o_p rfl (p_conv tk103 tk5 rfl) <| o_p rfl (p_or rfl rfl) ?_
   obtain ⟨x8, hx8, h9⟩ := bind_s h7
   refine o_rows (row := brow) (xs := ([x8] : List UInt8)) (rows := [[_]]) (σ' := []) [0] ts40 rfl rfl rfl (arow_cons (brow_of hx8) arow_nil) rfl rfl ?_
   obtain ⟨x10, hx10, h11⟩ := bind_s h9
   exact o_app (row := brow) ts40 rfl ti40 rfl (isl_o rfl) (fun _ => rfl) hx10 <| sV (v := aO) rfl <| o_ek (fr' := [(5, aO), (6, aI)]) rfl rfl <| w_region <| mI rfl <| o_p rfl (p_shr rfl rfl (by decide)) <| sI rfl <| o_end (fr' := [(5, aO), (6, aI)]) rfl <| e_blk_n <| e_l _ (sy h11) (w_weak [368] 0 rfl rfl rfl rfl ⟨lr, lr, trivial⟩ st_nil)
  ·
   refine w_exit <| e_seq_x <| e_seq_x <| e_blk_h ?_
   have h12 := un_out h7 ho6
   exact e_j _ (sy h12) (w_weak [0] 0 rfl rfl rfl rfl ⟨lr, lr, trivial⟩ st_nil)
 ·
  intro j5 hj13
  subst hj13
  refine w_sr <| mV (v := aO) rfl <| mI rfl <| o_p rfl (p_conv tk103 tk5 rfl) ?_
  obtain ⟨x14, hx14, h15⟩ := bind_s h4
  refine o_rows (row := brow) (xs := ([x14] : List UInt8)) (rows := [[_]]) (σ' := []) [0] ts40 rfl rfl rfl (arow_cons (brow_of hx14) arow_nil) rfl rfl ?_
  obtain ⟨x16, hx16, h17⟩ := bind_s h15
  refine o_app (row := brow) ts40 rfl ti40 rfl (isl_o rfl) (fun _ => rfl) hx16 <| sV (v := aO) rfl <| o_ek (fr' := [(4, aO)]) rfl rfl <| w_ret ?_
  obtain rfl := sy h17
  exact e_ret (rs' := [.tmp 4]) rfl <| r_tmp (v := aO) rfl <| r_nil <| fin_gen [480] rfl rfl rfl lr st_nil
noncomputable def wire_PutText (p0b : (List UInt8)) (p1s : (List UInt8)) : Option (List UInt8) :=
 (wire_PutInt p0b ((p1s).length : Int)).bind fun (x1 : (List UInt8)) => (app 1 x1 p1s).bind fun (x3 : (List UInt8)) => some x3
theorem w_wire_PutText {p0b : (List UInt8)} {p1s : (List UInt8)} {res : (List UInt8)} (h : wire_PutText p0b p1s = some res) : ACalls Try.prog 75 [.c (PV.ls 1 brow p0b), .c (.str p1s)] [] (AV.os 0 1 brow res) [] := by
 unfold wire_PutText at h
 refine acalls (fn := Try.f75) [0, 1, 4] (by kernel_rfl) Try.func75 rfl (by kernel_rfl) (by kernel_rfl) <| w_sr <| sV (v := .nil) rfl <| o_ek (fr' := [(0, aL), (1, aS)]) rfl rfl <| w_sr <| mL rfl <| mS rfl <| o_p rfl (p_lens ti9 rfl) ?_
 obtain ⟨x1, hx1, h2⟩ := bind_s h
 refine o_v (ov_call (v := aO) rfl (w_wire_PutInt hx1) ⟨lr, lr, trivial⟩ rfl rfl rfl) <| mS rfl ?_
 obtain ⟨x3, hx3, h4⟩ := bind_s h2
 refine o_appS ts40 rfl ti9 rfl rfl hx3 <| sV (v := aO) rfl <| o_ek (fr' := [(4, aO)]) rfl rfl <| w_ret ?_
 obtain rfl := sy h4
 exact e_ret (rs' := [.tmp 4]) rfl <| r_tmp (v := aO) rfl <| r_nil <| fin_gen [160] rfl rfl rfl lr st_nil
noncomputable def command_policy_l1 (p1o : ApiPolicy) (s31 : ((List UInt8) × Int)) : Option (Step ((List UInt8) × Int) (List UInt8)) :=
 cond (decide (s31.2 < ((p1o.Fatal).length : Int))) ((idx p1o.Fatal s31.2).bind fun (x33 : (List UInt8)) => (wire_PutText s31.1 x33).bind fun (x35 : (List UInt8)) => some (Step.next (x35, (IntKind.wrap .i64 (s31.2 + (1 : Int)))))) (some (Step.out s31.1))
noncomputable def command_policy (p0b : (List UInt8)) (p1o : ApiPolicy) : Option (List UInt8) :=
 (wire_PutText p0b p1o.Queue).bind fun (x1 : (List UInt8)) => (command_numbers_v3 p1o).bind fun (x3 : Unit) => (wire_PutInt x1 p1o.ToStart).bind fun (x6 : (List UInt8)) => (wire_PutInt x6 p1o.ToClose).bind fun (x8 : (List UInt8)) => (wire_PutInt x8 p1o.Total).bind fun (x11 : (List UInt8)) => (wire_PutInt x11 p1o.Beat).bind fun (x13 : (List UInt8)) => (wire_PutInt x13 p1o.First).bind fun (x16 : (List UInt8)) => (wire_PutInt x16 p1o.Coef).bind fun (x18 : (List UInt8)) => (wire_PutInt x18 p1o.Most).bind fun (x21 : (List UInt8)) => (wire_PutInt x21 p1o.Attempts).bind fun (x23 : (List UInt8)) => (wire_PutInt x23 ((p1o.Fatal).length : Int)).bind fun (x26 : (List UInt8)) => ((loopO (command_policy_l1 p1o) ((x26, (0 : Int)))) : Option (List UInt8)).bind fun (x28 : (List UInt8)) => (some x28)
theorem w_command_policy {p0b : (List UInt8)} {p1o : ApiPolicy} {res : (List UInt8)} (h : command_policy p0b p1o = some res) : ACalls Try.prog 76 [.c (PV.ls 1 brow p0b), .agg (AV.cs (rowApiPolicy p1o))] [] (AV.os 0 1 brow res) [] := by
 unfold command_policy at h
 refine acalls (fn := Try.f76) [0, 1, 3, 4, 6, 8, 13, 14, 15, 16, 31, 32, 33, 34] (by kernel_rfl) Try.func76 rfl (by kernel_rfl) (by kernel_rfl) <| w_sr <| o_box (v := .agg aSIIIIIIIIL) (n := 0) (cs := aSIIIIIIIIL) (σ' := [aSIIIIIIIIL]) rfl rfl rfl rfl rfl <| sV (v := .nil) rfl <| o_ek (fr' := [(0, aL), (3, .box 0 0)]) rfl rfl <| w_sr <| mL rfl <| o_p rfl (p_fa tf27x0 rfl) <| o_p rfl (p_load (v := aS) tv9 rfl rfl rfl) ?_
 obtain ⟨x1, hx1, h2⟩ := bind_s h
 refine o_v (ov_call (v := aO) rfl (w_wire_PutText hx1) ⟨lr, lr, trivial⟩ rfl rfl rfl) <| sV (v := aO) rfl <| o_ek (fr' := [(0, aO), (3, .box 0 0)]) rfl rfl <| w_seqw <| w_seqw <| w_region ?_
 obtain ⟨x3, hx3, h4⟩ := bind_s h2
 refine o_callT (v := .ptrs [(0, 1), (0, 2), (0, 3), (0, 4), (0, 5), (0, 6), (0, 7), (0, 8)]) (σ' := [aSIIIIIIIIL]) 13 [0] [] rfl (w_command_numbers_v3 hx3) rfl rfl rfl ⟨lr, trivial⟩ (st_c ⟨rfl, rfl, rfl, rfl, rfl, rfl, rfl, rfl, rfl, rfl, trivial⟩ st_nil) rfl rfl rfl <| o_p rfl (p_lenp ti70 rfl) <| mI rfl <| o_ek (fr' := [(0, aO), (3, .box 0 0), (13, .ptrs [(0, 1), (0, 2), (0, 3), (0, 4), (0, 5), (0, 6), (0, 7), (0, 8)]), (14, aI), (15, aI)]) rfl rfl <| w_block <| w_unr 64 <| lu_s <| w_sr <| o_p rfl (p_k (p_lss rfl rfl) (show _ = .bool true from rfl)) <| o_ek (fr' := [(0, aO), (3, .box 0 0), (13, .ptrs [(0, 1), (0, 2), (0, 3), (0, 4), (0, 5), (0, 6), (0, 7), (0, 8)]), (14, aI), (15, aI), (16, aB)]) rfl rfl <| w_seqw <| w_cond_t rfl ?_
 refine w_skip <| e_kw <| w_seqw <| w_block <| w_sr <| o_p rfl (p_iap (p := (0, 1)) ts70 rfl rfl rfl) <| o_p rfl (p_loadp tv69 rfl) <| sV (v := .box 0 1) rfl <| o_ek (fr' := [(0, aO), (3, .box 0 0), (6, .box 0 1), (13, .ptrs [(0, 1), (0, 2), (0, 3), (0, 4), (0, 5), (0, 6), (0, 7), (0, 8)]), (14, aI), (15, aI)]) rfl rfl <| w_region <| mV (v := aO) rfl <| mV (v := .box 0 1) rfl ?_
 refine o_p rfl (p_nc rfl) <| o_p rfl (p_load (v := aI) tv3 rfl rfl rfl) ?_
 obtain ⟨x6, hx6, h7⟩ := bind_s h4
 refine o_v (ov_call (v := aO) rfl (w_wire_PutInt hx6) ⟨lr, lr, trivial⟩ rfl rfl rfl) <| sV (v := aO) rfl <| o_end (fr' := [(0, aO), (3, .box 0 0), (6, .box 0 1), (13, .ptrs [(0, 1), (0, 2), (0, 3), (0, 4), (0, 5), (0, 6), (0, 7), (0, 8)]), (14, aI), (15, aI)]) rfl <| e_blk_n <| e_kw <| w_region <| o_p rfl (p_k (p_add rfl rfl) (show _ = .int .i64 (1 : Int) from rfl)) <| mI rfl <| o_end (fr' := [(0, aO), (3, .box 0 0), (6, .box 0 1), (13, .ptrs [(0, 1), (0, 2), (0, 3), (0, 4), (0, 5), (0, 6), (0, 7), (0, 8)]), (14, aI), (15, aI)]) rfl <| e_seq_n <| lu_s <| w_seqw <| w_region ?_
 refine o_p rfl (p_k (p_lss rfl rfl) (show _ = .bool true from rfl)) <| o_ek (fr' := [(0, aO), (3, .box 0 0), (13, .ptrs [(0, 1), (0, 2), (0, 3), (0, 4), (0, 5), (0, 6), (0, 7), (0, 8)]), (14, aI), (15, aI), (16, aB)]) rfl rfl <| w_seqw <| w_cond_t rfl <| w_skip <| e_kw <| w_seqw <| w_block <| w_sr <| o_p rfl (p_iap (p := (0, 2)) ts70 rfl rfl rfl) <| o_p rfl (p_loadp tv69 rfl) <| sV (v := .box 0 2) rfl ?_
 refine o_ek (fr' := [(0, aO), (3, .box 0 0), (6, .box 0 2), (13, .ptrs [(0, 1), (0, 2), (0, 3), (0, 4), (0, 5), (0, 6), (0, 7), (0, 8)]), (14, aI), (15, aI)]) rfl rfl <| w_region <| mV (v := aO) rfl <| mV (v := .box 0 2) rfl <| o_p rfl (p_nc rfl) <| o_p rfl (p_load (v := aI) tv3 rfl rfl rfl) ?_
 obtain ⟨x8, hx8, h9⟩ := bind_s h7
 refine o_callT (v := aO) (σ' := [aSIIIIIIIIL]) 50010 [] [] rfl (w_wire_PutInt hx8) rfl rfl rfl ⟨lr, lr, trivial⟩ st_nil rfl rfl rfl <| sV (v := aO) rfl <| o_end (fr' := [(0, aO), (3, .box 0 0), (6, .box 0 2), (13, .ptrs [(0, 1), (0, 2), (0, 3), (0, 4), (0, 5), (0, 6), (0, 7), (0, 8)]), (14, aI), (15, aI)]) rfl <| e_blk_n <| e_kw <| w_region <| o_p rfl (p_k (p_add rfl rfl) (show _ = .int .i64 (2 : Int) from rfl)) <| mI rfl <| o_end (fr' := [(0, aO), (3, .box 0 0), (6, .box 0 2), (13, .ptrs [(0, 1), (0, 2), (0, 3), (0, 4), (0, 5), (0, 6), (0, 7), (0, 8)]), (14, aI), (15, aI)]) rfl <| e_seq_n <| lu_s <| w_seqw <| w_region ?_
 refine o_p rfl (p_k (p_lss rfl rfl) (show _ = .bool true from rfl)) <| o_ek (fr' := [(0, aO), (3, .box 0 0), (13, .ptrs [(0, 1), (0, 2), (0, 3), (0, 4), (0, 5), (0, 6), (0, 7), (0, 8)]), (14, aI), (15, aI), (16, aB)]) rfl rfl <| w_seqw <| w_cond_t rfl <| w_skip <| e_kw <| w_seqw <| w_block <| w_sr <| o_p rfl (p_iap (p := (0, 3)) ts70 rfl rfl rfl) <| o_p rfl (p_loadp tv69 rfl) <| sV (v := .box 0 3) rfl ?_
 refine o_ek (fr' := [(0, aO), (3, .box 0 0), (6, .box 0 3), (13, .ptrs [(0, 1), (0, 2), (0, 3), (0, 4), (0, 5), (0, 6), (0, 7), (0, 8)]), (14, aI), (15, aI)]) rfl rfl <| w_region <| mV (v := aO) rfl <| mV (v := .box 0 3) rfl <| o_p rfl (p_nc rfl) <| o_p rfl (p_load (v := aI) tv3 rfl rfl rfl) ?_
 obtain ⟨x11, hx11, h12⟩ := bind_s h9
 refine o_v (ov_call (v := aO) rfl (w_wire_PutInt hx11) ⟨lr, lr, trivial⟩ rfl rfl rfl) <| sV (v := aO) rfl <| o_end (fr' := [(0, aO), (3, .box 0 0), (6, .box 0 3), (13, .ptrs [(0, 1), (0, 2), (0, 3), (0, 4), (0, 5), (0, 6), (0, 7), (0, 8)]), (14, aI), (15, aI)]) rfl <| e_blk_n <| e_kw <| w_region <| o_p rfl (p_k (p_add rfl rfl) (show _ = .int .i64 (3 : Int) from rfl)) <| mI rfl <| o_end (fr' := [(0, aO), (3, .box 0 0), (6, .box 0 3), (13, .ptrs [(0, 1), (0, 2), (0, 3), (0, 4), (0, 5), (0, 6), (0, 7), (0, 8)]), (14, aI), (15, aI)]) rfl <| e_seq_n <| lu_s <| w_seqw <| w_region ?_
 refine o_p rfl (p_k (p_lss rfl rfl) (show _ = .bool true from rfl)) <| o_ek (fr' := [(0, aO), (3, .box 0 0), (13, .ptrs [(0, 1), (0, 2), (0, 3), (0, 4), (0, 5), (0, 6), (0, 7), (0, 8)]), (14, aI), (15, aI), (16, aB)]) rfl rfl <| w_seqw <| w_cond_t rfl <| w_skip <| e_kw <| w_seqw <| w_block <| w_sr <| o_p rfl (p_iap (p := (0, 4)) ts70 rfl rfl rfl) <| o_p rfl (p_loadp tv69 rfl) <| sV (v := .box 0 4) rfl ?_
 refine o_ek (fr' := [(0, aO), (3, .box 0 0), (6, .box 0 4), (13, .ptrs [(0, 1), (0, 2), (0, 3), (0, 4), (0, 5), (0, 6), (0, 7), (0, 8)]), (14, aI), (15, aI)]) rfl rfl <| w_region <| mV (v := aO) rfl <| mV (v := .box 0 4) rfl <| o_p rfl (p_nc rfl) <| o_p rfl (p_load (v := aI) tv3 rfl rfl rfl) ?_
 obtain ⟨x13, hx13, h14⟩ := bind_s h12
 refine o_callT (v := aO) (σ' := [aSIIIIIIIIL]) 50015 [] [] rfl (w_wire_PutInt hx13) rfl rfl rfl ⟨lr, lr, trivial⟩ st_nil rfl rfl rfl <| sV (v := aO) rfl <| o_end (fr' := [(0, aO), (3, .box 0 0), (6, .box 0 4), (13, .ptrs [(0, 1), (0, 2), (0, 3), (0, 4), (0, 5), (0, 6), (0, 7), (0, 8)]), (14, aI), (15, aI)]) rfl <| e_blk_n <| e_kw <| w_region <| o_p rfl (p_k (p_add rfl rfl) (show _ = .int .i64 (4 : Int) from rfl)) <| mI rfl <| o_end (fr' := [(0, aO), (3, .box 0 0), (6, .box 0 4), (13, .ptrs [(0, 1), (0, 2), (0, 3), (0, 4), (0, 5), (0, 6), (0, 7), (0, 8)]), (14, aI), (15, aI)]) rfl <| e_seq_n <| lu_s <| w_seqw <| w_region ?_
 refine o_p rfl (p_k (p_lss rfl rfl) (show _ = .bool true from rfl)) <| o_ek (fr' := [(0, aO), (3, .box 0 0), (13, .ptrs [(0, 1), (0, 2), (0, 3), (0, 4), (0, 5), (0, 6), (0, 7), (0, 8)]), (14, aI), (15, aI), (16, aB)]) rfl rfl <| w_seqw <| w_cond_t rfl <| w_skip <| e_kw <| w_seqw <| w_block <| w_sr <| o_p rfl (p_iap (p := (0, 5)) ts70 rfl rfl rfl) <| o_p rfl (p_loadp tv69 rfl) <| sV (v := .box 0 5) rfl ?_
 refine o_ek (fr' := [(0, aO), (3, .box 0 0), (6, .box 0 5), (13, .ptrs [(0, 1), (0, 2), (0, 3), (0, 4), (0, 5), (0, 6), (0, 7), (0, 8)]), (14, aI), (15, aI)]) rfl rfl <| w_region <| mV (v := aO) rfl <| mV (v := .box 0 5) rfl <| o_p rfl (p_nc rfl) <| o_p rfl (p_load (v := aI) tv3 rfl rfl rfl) ?_
 obtain ⟨x16, hx16, h17⟩ := bind_s h14
 refine o_v (ov_call (v := aO) rfl (w_wire_PutInt hx16) ⟨lr, lr, trivial⟩ rfl rfl rfl) <| sV (v := aO) rfl <| o_end (fr' := [(0, aO), (3, .box 0 0), (6, .box 0 5), (13, .ptrs [(0, 1), (0, 2), (0, 3), (0, 4), (0, 5), (0, 6), (0, 7), (0, 8)]), (14, aI), (15, aI)]) rfl <| e_blk_n <| e_kw <| w_region <| o_p rfl (p_k (p_add rfl rfl) (show _ = .int .i64 (5 : Int) from rfl)) <| mI rfl <| o_end (fr' := [(0, aO), (3, .box 0 0), (6, .box 0 5), (13, .ptrs [(0, 1), (0, 2), (0, 3), (0, 4), (0, 5), (0, 6), (0, 7), (0, 8)]), (14, aI), (15, aI)]) rfl <| e_seq_n <| lu_s <| w_seqw <| w_region ?_
 refine o_p rfl (p_k (p_lss rfl rfl) (show _ = .bool true from rfl)) <| o_ek (fr' := [(0, aO), (3, .box 0 0), (13, .ptrs [(0, 1), (0, 2), (0, 3), (0, 4), (0, 5), (0, 6), (0, 7), (0, 8)]), (14, aI), (15, aI), (16, aB)]) rfl rfl <| w_seqw <| w_cond_t rfl <| w_skip <| e_kw <| w_seqw <| w_block <| w_sr <| o_p rfl (p_iap (p := (0, 6)) ts70 rfl rfl rfl) <| o_p rfl (p_loadp tv69 rfl) <| sV (v := .box 0 6) rfl ?_
 refine o_ek (fr' := [(0, aO), (3, .box 0 0), (6, .box 0 6), (13, .ptrs [(0, 1), (0, 2), (0, 3), (0, 4), (0, 5), (0, 6), (0, 7), (0, 8)]), (14, aI), (15, aI)]) rfl rfl <| w_region <| mV (v := aO) rfl <| mV (v := .box 0 6) rfl <| o_p rfl (p_nc rfl) <| o_p rfl (p_load (v := aI) tv3 rfl rfl rfl) ?_
 obtain ⟨x18, hx18, h19⟩ := bind_s h17
 refine o_callT (v := aO) (σ' := [aSIIIIIIIIL]) 50020 [] [] rfl (w_wire_PutInt hx18) rfl rfl rfl ⟨lr, lr, trivial⟩ st_nil rfl rfl rfl <| sV (v := aO) rfl <| o_end (fr' := [(0, aO), (3, .box 0 0), (6, .box 0 6), (13, .ptrs [(0, 1), (0, 2), (0, 3), (0, 4), (0, 5), (0, 6), (0, 7), (0, 8)]), (14, aI), (15, aI)]) rfl <| e_blk_n <| e_kw <| w_region <| o_p rfl (p_k (p_add rfl rfl) (show _ = .int .i64 (6 : Int) from rfl)) <| mI rfl <| o_end (fr' := [(0, aO), (3, .box 0 0), (6, .box 0 6), (13, .ptrs [(0, 1), (0, 2), (0, 3), (0, 4), (0, 5), (0, 6), (0, 7), (0, 8)]), (14, aI), (15, aI)]) rfl <| e_seq_n <| lu_s <| w_seqw <| w_region ?_
 refine o_p rfl (p_k (p_lss rfl rfl) (show _ = .bool true from rfl)) <| o_ek (fr' := [(0, aO), (3, .box 0 0), (13, .ptrs [(0, 1), (0, 2), (0, 3), (0, 4), (0, 5), (0, 6), (0, 7), (0, 8)]), (14, aI), (15, aI), (16, aB)]) rfl rfl <| w_seqw <| w_cond_t rfl <| w_skip <| e_kw <| w_seqw <| w_block <| w_sr <| o_p rfl (p_iap (p := (0, 7)) ts70 rfl rfl rfl) <| o_p rfl (p_loadp tv69 rfl) <| sV (v := .box 0 7) rfl ?_
 refine o_ek (fr' := [(0, aO), (3, .box 0 0), (6, .box 0 7), (13, .ptrs [(0, 1), (0, 2), (0, 3), (0, 4), (0, 5), (0, 6), (0, 7), (0, 8)]), (14, aI), (15, aI)]) rfl rfl <| w_region <| mV (v := aO) rfl <| mV (v := .box 0 7) rfl <| o_p rfl (p_nc rfl) <| o_p rfl (p_load (v := aI) tv3 rfl rfl rfl) ?_
 obtain ⟨x21, hx21, h22⟩ := bind_s h19
 refine o_v (ov_call (v := aO) rfl (w_wire_PutInt hx21) ⟨lr, lr, trivial⟩ rfl rfl rfl) <| sV (v := aO) rfl <| o_end (fr' := [(0, aO), (3, .box 0 0), (6, .box 0 7), (13, .ptrs [(0, 1), (0, 2), (0, 3), (0, 4), (0, 5), (0, 6), (0, 7), (0, 8)]), (14, aI), (15, aI)]) rfl <| e_blk_n <| e_kw <| w_region <| o_p rfl (p_k (p_add rfl rfl) (show _ = .int .i64 (7 : Int) from rfl)) <| mI rfl <| o_end (fr' := [(0, aO), (3, .box 0 0), (6, .box 0 7), (13, .ptrs [(0, 1), (0, 2), (0, 3), (0, 4), (0, 5), (0, 6), (0, 7), (0, 8)]), (14, aI), (15, aI)]) rfl <| e_seq_n <| lu_s <| w_seqw <| w_region ?_
 refine o_p rfl (p_k (p_lss rfl rfl) (show _ = .bool true from rfl)) <| o_ek (fr' := [(0, aO), (3, .box 0 0), (13, .ptrs [(0, 1), (0, 2), (0, 3), (0, 4), (0, 5), (0, 6), (0, 7), (0, 8)]), (14, aI), (15, aI), (16, aB)]) rfl rfl <| w_seqw <| w_cond_t rfl <| w_skip <| e_kw <| w_seqw <| w_block <| w_sr <| o_p rfl (p_iap (p := (0, 8)) ts70 rfl rfl rfl) <| o_p rfl (p_loadp tv69 rfl) <| sV (v := .box 0 8) rfl ?_
 refine o_ek (fr' := [(0, aO), (3, .box 0 0), (6, .box 0 8), (13, .ptrs [(0, 1), (0, 2), (0, 3), (0, 4), (0, 5), (0, 6), (0, 7), (0, 8)]), (14, aI), (15, aI)]) rfl rfl <| w_region <| mV (v := aO) rfl <| mV (v := .box 0 8) rfl <| o_p rfl (p_nc rfl) <| o_p rfl (p_load (v := aI) tv3 rfl rfl rfl) ?_
 obtain ⟨x23, hx23, h24⟩ := bind_s h22
 refine o_callT (v := aO) (σ' := [aSIIIIIIIIL]) 50025 [] [] rfl (w_wire_PutInt hx23) rfl rfl rfl ⟨lr, lr, trivial⟩ st_nil rfl rfl rfl <| sV (v := aO) rfl <| o_end (fr' := [(0, aO), (3, .box 0 0), (6, .box 0 8), (13, .ptrs [(0, 1), (0, 2), (0, 3), (0, 4), (0, 5), (0, 6), (0, 7), (0, 8)]), (14, aI), (15, aI)]) rfl <| e_blk_n <| e_kw <| w_region <| o_p rfl (p_k (p_add rfl rfl) (show _ = .int .i64 (8 : Int) from rfl)) <| mI rfl <| o_end (fr' := [(0, aO), (3, .box 0 0), (6, .box 0 8), (13, .ptrs [(0, 1), (0, 2), (0, 3), (0, 4), (0, 5), (0, 6), (0, 7), (0, 8)]), (14, aI), (15, aI)]) rfl <| e_seq_n <| lu_s <| w_seqw <| w_region ?_
 refine o_p rfl (p_k (p_lss rfl rfl) (show _ = .bool false from rfl)) <| o_ek (fr' := [(0, aO), (3, .box 0 0), (13, .ptrs [(0, 1), (0, 2), (0, 3), (0, 4), (0, 5), (0, 6), (0, 7), (0, 8)]), (14, aI), (15, aI), (16, aB)]) rfl rfl <| w_seqw <| w_cond_f rfl <| w_exit <| e_seq_x <| e_seq_x <| e_blk_h <| e_kw <| w_sr <| mV (v := aO) rfl <| o_p rfl (p_fa tf27x9 rfl) ?_
 refine o_p rfl (p_load (v := aL) tv23 rfl rfl rfl) <| o_p rfl (p_len ti23 (isl_c rfl)) ?_
 obtain ⟨x26, hx26, h27⟩ := bind_s h24
 refine o_v (ov_call (v := aO) rfl (w_wire_PutInt hx26) ⟨lr, lr, trivial⟩ rfl rfl rfl) <| sV (v := aO) rfl <| o_ek (fr' := [(0, aO), (3, .box 0 0)]) rfl rfl <| w_seqw <| w_sr <| o_p rfl (p_fa tf27x9 rfl) <| o_p rfl (p_load (v := aL) tv23 rfl rfl rfl) <| o_p rfl (p_len ti23 (isl_c rfl)) <| mI rfl <| o_ek (fr' := [(0, aO), (31, aL), (32, aI), (33, aI)]) rfl rfl ?_
 obtain ⟨x28, hx28, h29⟩ := bind_s h27
 refine w_jtail cl_kw (fun j30 => x28 = j30) (fun (j30 : (List UInt8)) => ([(0, AV.os 0 1 brow j30)] : Fr)) (fun (j30 : (List UInt8)) => ([[.c (.str p1o.Queue), .c (.int .i64 p1o.ToStart), .c (.int .i64 p1o.ToClose), .c (.int .i64 p1o.Total), .c (.int .i64 p1o.Beat), .c (.int .i64 p1o.First), .c (.int .i64 p1o.Coef), .c (.int .i64 p1o.Most), .c (.int .i64 p1o.Attempts), .c (PV.ls 1 rowS p1o.Fatal)]] : St)) ?_ ?_
 ·
  refine w_block <| w_loopo _ (fun (s31 : ((List UInt8) × Int)) => ([(0, AV.os 0 1 brow s31.1), (31, .c (PV.ls 1 rowS p1o.Fatal)), (32, .c (.int .i64 ((p1o.Fatal).length : Int))), (33, .c (.int .i64 s31.2))] : Fr)) (fun (s31 : ((List UInt8) × Int)) => ([[.c (.str p1o.Queue), .c (.int .i64 p1o.ToStart), .c (.int .i64 p1o.ToClose), .c (.int .i64 p1o.Total), .c (.int .i64 p1o.Beat), .c (.int .i64 p1o.First), .c (.int .i64 p1o.Coef), .c (.int .i64 p1o.Most), .c (.int .i64 p1o.Attempts), .c (PV.ls 1 rowS p1o.Fatal)]] : St)) hx28 (w_weak [464] 1 rfl rfl rfl rfl ⟨lr, lr, lr, lr, trivial⟩ (st_r rfl st_nil)) ?_
  intro s31 st31 hs31 ho31
  unfold command_policy_l1 at hs31
  refine w_sr <| o_p rfl (p_lss rfl rfl) <| o_ek (fr' := [(0, aO), (31, aL), (32, aI), (33, aI), (34, aB)]) rfl rfl <| w_seqw <| w_ch hs31 rfl (fun hb32 h32 => ?_) (fun hb32 h32 => ?_)
  ·
   refine w_skip <| e_kw <| w_seqw <| w_block <| w_seqw <| w_region ?_
   obtain ⟨x33, hx33, h34⟩ := bind_s h32
   refine o_p rfl (p_ia (cs := [.str _]) ts23 (isl_c rfl) rfl hx33 rfl) <| o_p rfl (p_loade (p := .str _) tv9 rfl rfl) <| sS rfl <| o_ek (fr' := [(0, aO), (8, aS), (31, aL), (32, aI), (33, aI)]) rfl rfl <| w_region <| mV (v := aO) rfl <| mS rfl ?_
   obtain ⟨x35, hx35, h36⟩ := bind_s h34
   exact o_v (ov_call (v := aO) rfl (w_wire_PutText hx35) ⟨lr, lr, trivial⟩ rfl rfl rfl) <| sV (v := aO) rfl <| o_end (fr' := [(0, aO), (8, aS), (31, aL), (32, aI), (33, aI)]) rfl <| e_blk_n <| e_kw <| w_region <| o_p rfl (p_add rfl rfl) <| mI rfl <| o_end (fr' := [(0, aO), (8, aS), (31, aL), (32, aI), (33, aI)]) rfl <| e_l _ (sy h36) (w_weak [624] 1 rfl rfl rfl rfl ⟨lr, lr, lr, lr, trivial⟩ (st_r rfl st_nil))
  ·
   refine w_exit <| e_seq_x <| e_seq_x <| e_blk_h ?_
   have h37 := un_out h32 ho31
   exact e_j _ (sy h37) (w_weak [0] 1 rfl rfl rfl rfl ⟨lr, trivial⟩ (st_r rfl st_nil))
 ·
  intro j30 hj38
  subst hj38
  refine e_kw <| w_sr <| mV (v := aO) rfl <| sV (v := aO) rfl <| o_ek (fr' := [(4, aO)]) rfl rfl <| w_ret ?_
  obtain rfl := sy h29
  exact e_ret (rs' := [.tmp 4]) rfl <| r_tmp (v := aO) rfl <| r_nil <| fin_gen [0] rfl rfl rfl lr st_nil
noncomputable def value_encode_l1 (rec_value_encode : (List UInt8) → ApiValue → Option (List UInt8)) (p1v : ApiValue) (s34 : ((List UInt8) × Int)) : Option (Step ((List UInt8) × Int) (List UInt8)) :=
 cond (decide (s34.2 < ((p1v.Items).length : Int))) ((idx p1v.Items s34.2).bind fun (x36 : ApiValue) => cond (decide (p1v.Kind = (5 : Int))) ((idx p1v.Keys s34.2).bind fun (x39 : (List UInt8)) => (wire_PutText s34.1 x39).bind fun (x41 : (List UInt8)) => (rec_value_encode x41 x36).bind fun (x43 : (List UInt8)) => some (Step.next (x43, (IntKind.wrap .i64 (s34.2 + (1 : Int)))))) ((rec_value_encode s34.1 x36).bind fun (x45 : (List UInt8)) => some (Step.next (x45, (IntKind.wrap .i64 (s34.2 + (1 : Int))))))) (some (Step.out s34.1))
noncomputable def value_encodeF : Nat → (List UInt8) → ApiValue → Option (List UInt8)
 | 0, _, _ => none
 | n + 1, p0b, p1v =>
  (wire_PutInt p0b p1v.Kind).bind fun (x1 : (List UInt8)) => ((((cond (decide (p1v.Kind = (1 : Int))) (some (decide (p1v.Kind = (1 : Int)))) (cond (decide (p1v.Kind = (2 : Int))) (some (decide (p1v.Kind = (2 : Int)))) (some (decide (p1v.Kind = (6 : Int)))))) : Option Bool).bind fun (x6 : Bool) => (cond x6 ((wire_PutInt x1 p1v.Int).bind fun (x13 : (List UInt8)) => some (Fl.done x13)) (cond (decide (p1v.Kind = (3 : Int))) ((wire_PutText x1 p1v.Text).bind fun (x18 : (List UInt8)) => some (Fl.done x18)) (((cond (decide (p1v.Kind = (4 : Int))) (some (decide (p1v.Kind = (4 : Int)))) (some (decide (p1v.Kind = (5 : Int))))) : Option Bool).bind fun (x22 : Bool) => (cond x22 ((wire_PutInt x1 ((p1v.Items).length : Int)).bind fun (x28 : (List UInt8)) => some (Fl.go x28)) (some (Fl.go x1))))))) : Option (Fl (List UInt8) (List UInt8))).bind fun (x3 : (Fl (List UInt8) (List UInt8))) => Fl.next x3 (fun (j5 : (List UInt8)) => (((loopO (value_encode_l1 (value_encodeF n) p1v) ((j5, (0 : Int)))) : Option (List UInt8)).bind fun (x31 : (List UInt8)) => (some x31)))
theorem wF_value_encode : ∀ n : Nat, (∀ {p0b : (List UInt8)} {p1v : ApiValue} {res : (List UInt8)}, value_encodeF n p0b p1v = some res → ACalls Try.prog 99 [.c (PV.ls 1 brow p0b), .agg (AV.cs (exApiValue p1v))] [] (AV.os 0 1 brow res) []) := by
 intro n
 induction n with
 | zero => exact fun {p0b p1v res} h => absurd h (by simp [value_encodeF])
 | succ n ih =>
  have ih_value_encode := @ih
  intro p0b p1v res h
  rw [value_encodeF] at h
  refine acalls (fn := Try.f99) [0, 1, 3, 4, 5, 6, 12, 13, 21, 27, 36, 37, 38, 39, 45] (by kernel_rfl) Try.func99 rfl (by kernel_rfl) (by kernel_rfl) <| w_sr <| o_box (v := .agg aIISLL) (n := 0) (cs := aIISLL) (σ' := [aIISLL]) rfl rfl rfl rfl rfl <| sV (v := .nil) rfl <| o_ek (fr' := [(0, aL), (3, .box 0 0)]) rfl rfl <| w_sr <| mL rfl <| o_p rfl (p_fa tf25x0 rfl) <| o_p rfl (p_load (v := aI) tv3 rfl rfl rfl) ?_
  obtain ⟨x1, hx1, h2⟩ := bind_s h
  refine o_v (ov_call (v := aO) rfl (w_wire_PutInt hx1) ⟨lr, lr, trivial⟩ rfl rfl rfl) <| sV (v := aO) rfl <| o_ek (fr' := [(0, aO), (3, .box 0 0)]) rfl rfl ?_
  obtain ⟨x3, hx3, h4⟩ := bind_s h2
  refine w_join (fun j5 => x3 = Fl.go j5) (fun (j5 : (List UInt8)) => ([(0, AV.os 0 1 brow j5), (3, .box 0 0)] : Fr)) (fun (j5 : (List UInt8)) => ([[.c (.int .i64 p1v.Kind), .c (.int .i64 p1v.Int), .c (.str p1v.Text), .c (PV.ls 5 rowApiValue p1v.Items), .c (PV.ls 1 rowS p1v.Keys)]] : St)) ?_ ?_
  ·
   refine w_sr <| o_p rfl (p_fa tf25x0 rfl) <| o_p rfl (p_load (v := aI) tv3 rfl rfl rfl) <| o_ek (fr' := [(0, aO), (3, .box 0 0), (12, aI)]) rfl rfl <| w_block ?_
   obtain ⟨x6, hx6, h7⟩ := bind_s hx3
   refine w_join (fun j8 => x6 = j8) (fun (j8 : Bool) => ([(0, AV.os 0 1 brow x1), (3, .box 0 0), (12, .c (.int .i64 p1v.Kind)), (13, .c (.bool j8))] : Fr)) (fun (j8 : Bool) => ([[.c (.int .i64 p1v.Kind), .c (.int .i64 p1v.Int), .c (.str p1v.Text), .c (PV.ls 5 rowApiValue p1v.Items), .c (PV.ls 1 rowS p1v.Keys)]] : St)) ?_ ?_
   ·
    refine w_sr <| o_p rfl (p_eql rfl rfl) <| sB rfl <| o_ek (fr' := [(0, aO), (3, .box 0 0), (12, aI), (13, aB)]) rfl rfl <| w_ch hx6 rfl (fun hb9 h9 => ?_) (fun hb9 h9 => ?_)
    ·
     exact w_skip <| e_j _ (sy h9) (w_weak [160] 1 rfl rfl rfl rfl ⟨lr, lr, lr, lr, trivial⟩ (st_r rfl st_nil))
    ·
     refine w_sr <| o_p rfl (p_eql rfl rfl) <| sB rfl <| o_ek (fr' := [(0, aO), (3, .box 0 0), (12, aI), (13, aB)]) rfl rfl <| w_ch h9 rfl (fun hb10 h10 => ?_) (fun hb10 h10 => ?_)
     ·
      exact w_skip <| e_j _ (sy h10) (w_weak [160] 1 rfl rfl rfl rfl ⟨lr, lr, lr, lr, trivial⟩ (st_r rfl st_nil))
     ·
      exact w_region <| o_p rfl (p_eql rfl rfl) <| sB rfl <| o_end (fr' := [(0, aO), (3, .box 0 0), (12, aI), (13, aB)]) rfl <| e_j _ (sy h10) (w_weak [160] 1 rfl rfl rfl rfl ⟨lr, lr, lr, lr, trivial⟩ (st_r rfl st_nil))
   ·
    intro j8 hj11
    subst hj11
    refine w_ch h7 rfl (fun hb12 h12 => ?_) (fun hb12 h12 => ?_)
    ·
     refine w_sr <| mV (v := aO) rfl <| o_p rfl (p_fa tf25x1 rfl) <| o_p rfl (p_load (v := aI) tv3 rfl rfl rfl) ?_
     obtain ⟨x13, hx13, h14⟩ := bind_s h12
     refine o_v (ov_call (v := aO) rfl (w_wire_PutInt hx13) ⟨lr, lr, trivial⟩ rfl rfl rfl) <| sV (v := aO) rfl <| o_ek (fr' := [(4, aO)]) rfl rfl <| w_ret <| e_blk_r <| e_seq_r ?_
     have h15 := un_done h14 h4
     obtain rfl := sy h15
     exact e_ret (rs' := [.tmp 4]) rfl <| r_tmp (v := aO) rfl <| r_nil <| fin_gen [320] rfl rfl rfl lr st_nil
    ·
     refine w_sr <| o_p rfl (p_eql rfl rfl) <| sB rfl <| o_ek (fr' := [(0, aO), (3, .box 0 0), (12, aI), (21, aB)]) rfl rfl <| w_ch h12 rfl (fun hb17 h17 => ?_) (fun hb17 h17 => ?_)
     ·
      refine w_sr <| mV (v := aO) rfl <| o_p rfl (p_fa tf25x2 rfl) <| o_p rfl (p_load (v := aS) tv9 rfl rfl rfl) ?_
      obtain ⟨x18, hx18, h19⟩ := bind_s h17
      refine o_v (ov_call (v := aO) rfl (w_wire_PutText hx18) ⟨lr, lr, trivial⟩ rfl rfl rfl) <| sV (v := aO) rfl <| o_ek (fr' := [(4, aO)]) rfl rfl <| w_ret <| e_blk_r <| e_seq_r ?_
      have h20 := un_done h19 h4
      obtain rfl := sy h20
      exact e_ret (rs' := [.tmp 4]) rfl <| r_tmp (v := aO) rfl <| r_nil <| fin_gen [416] rfl rfl rfl lr st_nil
     ·
      obtain ⟨x22, hx22, h23⟩ := bind_s h17
      refine w_join (fun j24 => x22 = j24) (fun (j24 : Bool) => ([(0, AV.os 0 1 brow x1), (3, .box 0 0), (27, .c (.bool j24))] : Fr)) (fun (j24 : Bool) => ([[.c (.int .i64 p1v.Kind), .c (.int .i64 p1v.Int), .c (.str p1v.Text), .c (PV.ls 5 rowApiValue p1v.Items), .c (PV.ls 1 rowS p1v.Keys)]] : St)) ?_ ?_
      ·
       refine w_sr <| o_p rfl (p_eql rfl rfl) <| sB rfl <| o_ek (fr' := [(0, aO), (3, .box 0 0), (12, aI), (27, aB)]) rfl rfl <| w_ch hx22 rfl (fun hb25 h25 => ?_) (fun hb25 h25 => ?_)
       ·
        exact w_skip <| e_j _ (sy h25) (w_weak [0] 1 rfl rfl rfl rfl ⟨lr, lr, lr, trivial⟩ (st_r rfl st_nil))
       ·
        exact w_region <| o_p rfl (p_eql rfl rfl) <| sB rfl <| o_end (fr' := [(0, aO), (3, .box 0 0), (12, aI), (27, aB)]) rfl <| e_j _ (sy h25) (w_weak [0] 1 rfl rfl rfl rfl ⟨lr, lr, lr, trivial⟩ (st_r rfl st_nil))
      ·
       intro j24 hj26
       subst hj26
       refine w_ch h23 rfl (fun hb27 h27 => ?_) (fun hb27 h27 => ?_)
       ·
        refine w_region <| mV (v := aO) rfl <| o_p rfl (p_fa tf25x3 rfl) <| o_p rfl (p_load (v := aL) tv22 rfl rfl rfl) <| o_p rfl (p_len ti22 (isl_c rfl)) ?_
        obtain ⟨x28, hx28, h29⟩ := bind_s h27
        exact o_v (ov_call (v := aO) rfl (w_wire_PutInt hx28) ⟨lr, lr, trivial⟩ rfl rfl rfl) <| sV (v := aO) rfl <| o_end (fr' := [(0, aO), (3, .box 0 0), (27, aB)]) rfl <| e_blk_n <| e_j _ (sy h29) (w_weak [544] 1 rfl rfl rfl rfl ⟨lr, lr, trivial⟩ (st_r rfl st_nil))
       ·
        exact w_skip <| e_blk_n <| e_j _ (sy h27) (w_weak [0] 1 rfl rfl rfl rfl ⟨lr, lr, trivial⟩ (st_r rfl st_nil))
  ·
   intro j5 hj30
   have h30 := un_go hj30 h4
   refine w_seqw <| w_sr <| o_p rfl (p_fa tf25x3 rfl) <| o_p rfl (p_load (v := aL) tv22 rfl rfl rfl) <| o_p rfl (p_len ti22 (isl_c rfl)) <| mI rfl <| o_ek (fr' := [(0, aO), (3, .box 0 0), (36, aL), (37, aI), (38, aI)]) rfl rfl ?_
   obtain ⟨x31, hx31, h32⟩ := bind_s h30
   refine w_jtail cl_kw (fun j33 => x31 = j33) (fun (j33 : (List UInt8)) => ([(0, AV.os 0 1 brow j33)] : Fr)) (fun (j33 : (List UInt8)) => ([[.c (.int .i64 p1v.Kind), .c (.int .i64 p1v.Int), .c (.str p1v.Text), .c (PV.ls 5 rowApiValue p1v.Items), .c (PV.ls 1 rowS p1v.Keys)]] : St)) ?_ ?_
   ·
    refine w_block <| w_loopo _ (fun (s34 : ((List UInt8) × Int)) => ([(0, AV.os 0 1 brow s34.1), (3, .box 0 0), (36, .c (PV.ls 5 rowApiValue p1v.Items)), (37, .c (.int .i64 ((p1v.Items).length : Int))), (38, .c (.int .i64 s34.2))] : Fr)) (fun (s34 : ((List UInt8) × Int)) => ([[.c (.int .i64 p1v.Kind), .c (.int .i64 p1v.Int), .c (.str p1v.Text), .c (PV.ls 5 rowApiValue p1v.Items), .c (PV.ls 1 rowS p1v.Keys)]] : St)) hx31 (w_weak [0] 1 rfl rfl rfl rfl ⟨lr, lr, lr, lr, lr, trivial⟩ (st_r rfl st_nil)) ?_
    intro s34 st34 hs34 ho34
    unfold value_encode_l1 at hs34
    refine w_sr <| o_p rfl (p_lss rfl rfl) <| o_ek (fr' := [(0, aO), (3, .box 0 0), (36, aL), (37, aI), (38, aI), (39, aB)]) rfl rfl <| w_seqw <| w_ch hs34 rfl (fun hb35 h35 => ?_) (fun hb35 h35 => ?_)
    ·
     refine w_skip <| e_kw <| w_seqw <| w_block <| w_sr <| mI rfl ?_
     obtain ⟨x36, hx36, h37⟩ := bind_s h35
     refine o_p rfl (p_ia (cs := [.int _ _, .int _ _, .str _, PV.ls _ _ _, PV.ls _ _ _]) ts22 (isl_c rfl) rfl hx36 (rowApiValue_eq _)) <| o_p rfl (p_loades (us := [.int _ _, .int _ _, .str _, PV.ls _ _ _, PV.ls _ _ _]) tv25 rfl rfl rfl) <| o_alloc (n := 1) (cs := [aI, aI, aS, .nil, .nil]) (σ' := [aIISLL, [aI, aI, aS, .nil, .nil]]) tz25 rfl rfl rfl <| sI rfl <| o_store (v := .agg aIISLL) (us := aIISLL) (cs := [aI, aI, aS, .nil, .nil]) (σ' := [aIISLL, aIISLL]) rfl tv25 rfl rfl rfl rfl rfl rfl rfl rfl <| o_ek (fr' := [(0, aO), (3, .box 0 0), (5, aI), (6, .box 1 0), (36, aL), (37, aI), (38, aI)]) rfl rfl <| w_seqw <| w_sr <| o_p rfl (p_fa tf25x0 rfl) <| o_p rfl (p_load (v := aI) tv3 rfl rfl rfl) <| o_p rfl (p_eql rfl rfl) <| o_ek (fr' := [(0, aO), (3, .box 0 0), (5, aI), (6, .box 1 0), (36, aL), (37, aI), (38, aI), (45, aB)]) rfl rfl ?_
     refine w_ch h37 rfl (fun hb38 h38 => ?_) (fun hb38 h38 => ?_)
     ·
      refine w_region <| mV (v := aO) rfl <| o_p rfl (p_fa tf25x4 rfl) <| o_p rfl (p_load (v := aL) tv23 rfl rfl rfl) <| mI rfl ?_
      obtain ⟨x39, hx39, h40⟩ := bind_s h38
      refine o_p rfl (p_ia (cs := [.str _]) ts23 (isl_c rfl) rfl hx39 rfl) <| o_p rfl (p_loade (p := .str _) tv9 rfl rfl) ?_
      obtain ⟨x41, hx41, h42⟩ := bind_s h40
      refine o_v (ov_call (v := aO) rfl (w_wire_PutText hx41) ⟨lr, lr, trivial⟩ rfl rfl rfl) <| sV (v := aO) rfl <| o_ek (fr' := [(0, aO), (3, .box 0 0), (6, .box 1 0), (36, aL), (37, aI), (38, aI)]) rfl rfl <| w_region <| mV (v := aO) rfl <| o_p rfl (p_loads (us := aIISLL) tv25 rfl rfl rfl rfl) ?_
      obtain ⟨x43, hx43, h44⟩ := bind_s h42
      exact o_v (ov_call (v := aO) rfl (ih_value_encode hx43) ⟨lr, (le_aggc rfl ⟨rfl, rfl, rfl, rfl, rfl, trivial⟩), trivial⟩ rfl rfl rfl) <| sV (v := aO) rfl <| o_end (fr' := [(0, aO), (3, .box 0 0), (6, .box 1 0), (36, aL), (37, aI), (38, aI)]) rfl <| e_blk_n <| e_kw <| w_region <| o_p rfl (p_add rfl rfl) <| mI rfl <| o_end (fr' := [(0, aO), (3, .box 0 0), (6, .box 1 0), (36, aL), (37, aI), (38, aI)]) rfl <| e_l _ (sy h44) (w_weak [880] 1 rfl rfl rfl rfl ⟨lr, lr, lr, lr, lr, trivial⟩ (st_r rfl st_nil))
     ·
      refine w_skip <| e_kw <| w_region <| mV (v := aO) rfl <| o_p rfl (p_loads (us := aIISLL) tv25 rfl rfl rfl rfl) ?_
      obtain ⟨x45, hx45, h46⟩ := bind_s h38
      exact o_v (ov_call (v := aO) rfl (ih_value_encode hx45) ⟨lr, (le_aggc rfl ⟨rfl, rfl, rfl, rfl, rfl, trivial⟩), trivial⟩ rfl rfl rfl) <| sV (v := aO) rfl <| o_end (fr' := [(0, aO), (3, .box 0 0), (5, aI), (6, .box 1 0), (36, aL), (37, aI), (38, aI), (45, aB)]) rfl <| e_blk_n <| e_kw <| w_region <| o_p rfl (p_add rfl rfl) <| mI rfl <| o_end (fr' := [(0, aO), (3, .box 0 0), (5, aI), (6, .box 1 0), (36, aL), (37, aI), (38, aI), (45, aB)]) rfl <| e_l _ (sy h46) (w_weak [880] 1 rfl rfl rfl rfl ⟨lr, lr, lr, lr, lr, trivial⟩ (st_r rfl st_nil))
    ·
     refine w_exit <| e_seq_x <| e_seq_x <| e_blk_h ?_
     have h47 := un_out h35 ho34
     exact e_j _ (sy h47) (w_weak [0] 1 rfl rfl rfl rfl ⟨lr, trivial⟩ (st_r rfl st_nil))
   ·
    intro j33 hj48
    subst hj48
    refine e_kw <| w_sr <| mV (v := aO) rfl <| sV (v := aO) rfl <| o_ek (fr' := [(4, aO)]) rfl rfl <| w_ret ?_
    obtain rfl := sy h32
    exact e_ret (rs' := [.tmp 4]) rfl <| r_tmp (v := aO) rfl <| r_nil <| fin_gen [0] rfl rfl rfl lr st_nil
noncomputable def value_encode (p0b : (List UInt8)) (p1v : ApiValue) : Option (List UInt8) := lim fun n => value_encodeF n p0b p1v
theorem w_value_encode {p0b : (List UInt8)} {p1v : ApiValue} {res : (List UInt8)} (h : value_encode p0b p1v = some res) : ACalls Try.prog 99 [.c (PV.ls 1 brow p0b), .agg (AV.cs (exApiValue p1v))] [] (AV.os 0 1 brow res) [] := by
 obtain ⟨n, hn⟩ := lim_some h
 exact (wF_value_encode n) hn
noncomputable def value_Encode (p0b : (List UInt8)) (p1v : ApiValue) : Option (List UInt8) :=
 (slices_Clone_byte_byte p0b).bind fun (x1 : (List UInt8)) => (value_formed p1v true).bind fun (x3 : Bool) => cond (!x3) (some x1) ((value_encode x1 p1v).bind fun (x7 : (List UInt8)) => some x7)
theorem w_value_Encode {p0b : (List UInt8)} {p1v : ApiValue} {res : (List UInt8)} (h : value_Encode p0b p1v = some res) : ACalls Try.prog 77 [.c (PV.ls 1 brow p0b), .agg (AV.cs (exApiValue p1v))] [] (AV.os 0 1 brow res) [] := by
 unfold value_Encode at h
 refine acalls (fn := Try.f77) [0, 1, 3, 4, 5, 10] (by kernel_rfl) Try.func77 rfl (by kernel_rfl) (by kernel_rfl) <| w_sr <| o_box (v := .agg aIISLL) (n := 0) (cs := aIISLL) (σ' := [aIISLL]) rfl rfl rfl rfl rfl <| sV (v := .nil) rfl <| o_ek (fr' := [(0, aL), (3, .box 0 0)]) rfl rfl <| w_sr <| mL rfl ?_
 obtain ⟨x1, hx1, h2⟩ := bind_s h
 refine o_v (ov_call (v := aO) rfl (w_slices_Clone_byte_byte hx1) ⟨lr, trivial⟩ rfl rfl rfl) <| sV (v := aO) rfl <| o_ek (fr' := [(3, .box 0 0), (5, aO)]) rfl rfl <| w_seqw <| w_sr <| o_p rfl (p_loads (us := aIISLL) tv25 rfl rfl rfl rfl) ?_
 obtain ⟨x3, hx3, h4⟩ := bind_s h2
 refine o_v (ov_call (v := aB) rfl (w_value_formed hx3) ⟨(le_aggc rfl ⟨rfl, rfl, rfl, rfl, rfl, trivial⟩), lr, trivial⟩ rfl rfl rfl) <| o_p rfl (p_not rfl) <| o_ek (fr' := [(3, .box 0 0), (5, aO), (10, aB)]) rfl rfl <| w_ch h4 rfl (fun hb5 h5 => ?_) (fun hb5 h5 => ?_)
 ·
  refine w_sr <| mV (v := aO) rfl <| sV (v := aO) rfl <| o_ek (fr' := [(4, aO)]) rfl rfl <| w_ret <| e_seq_r ?_
  obtain rfl := sy h5
  exact e_ret (rs' := [.tmp 4]) rfl <| r_tmp (v := aO) rfl <| r_nil <| fin_gen [112] rfl rfl rfl lr st_nil
 ·
  refine w_skip <| e_kw <| w_sr <| mV (v := aO) rfl <| o_p rfl (p_loads (us := aIISLL) tv25 rfl rfl rfl rfl) ?_
  obtain ⟨x7, hx7, h8⟩ := bind_s h5
  refine o_v (ov_call (v := aO) rfl (w_value_encode hx7) ⟨lr, (le_aggc rfl ⟨rfl, rfl, rfl, rfl, rfl, trivial⟩), trivial⟩ rfl rfl rfl) <| sV (v := aO) rfl <| o_ek (fr' := [(4, aO)]) rfl rfl <| w_ret ?_
  obtain rfl := sy h8
  exact e_ret (rs' := [.tmp 4]) rfl <| r_tmp (v := aO) rfl <| r_nil <| fin_gen [224] rfl rfl rfl lr st_nil
noncomputable def command_Encode (p0b : (List UInt8)) (p1c : ApiCommand) : Option (List UInt8) :=
 (slices_Clone_byte_byte p0b).bind fun (x1 : (List UInt8)) => (command_Right p1c).bind fun (x3 : Bool) => cond (!x3) (some x1) ((wire_PutInt x1 p1c.Kind).bind fun (x7 : (List UInt8)) => (wire_PutInt x7 p1c.Seq).bind fun (x9 : (List UInt8)) => (wire_PutText x9 p1c.Name).bind fun (x11 : (List UInt8)) => (wire_PutText x11 p1c.Key).bind fun (x13 : (List UInt8)) => (wire_PutInt x13 p1c.N).bind fun (x15 : (List UInt8)) => (value_Encode x15 p1c.Data).bind fun (x17 : (List UInt8)) => (command_policy x17 p1c.Opts).bind fun (x19 : (List UInt8)) => some x19)
theorem w_command_Encode {p0b : (List UInt8)} {p1c : ApiCommand} {res : (List UInt8)} (h : command_Encode p0b p1c = some res) : ACalls Try.prog 33 [.c (PV.ls 1 brow p0b), .agg (AV.cs (rowApiCommand p1c))] [] (AV.os 0 1 brow res) [] := by
 unfold command_Encode at h
 refine acalls (fn := Try.f33) [0, 1, 3, 4, 5, 10] (by kernel_rfl) Try.func33 rfl (by kernel_rfl) (by kernel_rfl) <| w_sr <| o_box (v := .agg aIISSIIISLLSIIIIIIIIL) (n := 0) (cs := aIISSIIISLLSIIIIIIIIL) (σ' := [aIISSIIISLLSIIIIIIIIL]) rfl rfl rfl rfl rfl <| sV (v := .nil) rfl <| o_ek (fr' := [(0, aL), (3, .box 0 0)]) rfl rfl <| w_sr <| mL rfl ?_
 obtain ⟨x1, hx1, h2⟩ := bind_s h
 refine o_v (ov_call (v := aO) rfl (w_slices_Clone_byte_byte hx1) ⟨lr, trivial⟩ rfl rfl rfl) <| sV (v := aO) rfl <| o_ek (fr' := [(3, .box 0 0), (5, aO)]) rfl rfl <| w_seqw <| w_sr <| o_p rfl (p_loads (us := aIISSIIISLLSIIIIIIIIL) tv29 rfl rfl rfl rfl) ?_
 obtain ⟨x3, hx3, h4⟩ := bind_s h2
 refine o_v (ov_call (v := aB) rfl (w_command_Right hx3) ⟨(le_aggc rfl ⟨rfl, rfl, rfl, rfl, rfl, rfl, rfl, rfl, rfl, rfl, rfl, rfl, rfl, rfl, rfl, rfl, rfl, rfl, rfl, rfl, trivial⟩), trivial⟩ rfl rfl rfl) <| o_p rfl (p_not rfl) <| o_ek (fr' := [(3, .box 0 0), (5, aO), (10, aB)]) rfl rfl <| w_ch h4 rfl (fun hb5 h5 => ?_) (fun hb5 h5 => ?_)
 ·
  refine w_sr <| mV (v := aO) rfl <| sV (v := aO) rfl <| o_ek (fr' := [(4, aO)]) rfl rfl <| w_ret <| e_seq_r ?_
  obtain rfl := sy h5
  exact e_ret (rs' := [.tmp 4]) rfl <| r_tmp (v := aO) rfl <| r_nil <| fin_gen [112] rfl rfl rfl lr st_nil
 ·
  refine w_skip <| e_kw <| w_sr <| mV (v := aO) rfl <| o_p rfl (p_fa tf29x0 rfl) <| o_p rfl (p_load (v := aI) tv3 rfl rfl rfl) ?_
  obtain ⟨x7, hx7, h8⟩ := bind_s h5
  refine o_v (ov_call (v := aO) rfl (w_wire_PutInt hx7) ⟨lr, lr, trivial⟩ rfl rfl rfl) <| sV (v := aO) rfl <| o_ek (fr' := [(3, .box 0 0), (5, aO)]) rfl rfl <| w_sr <| mV (v := aO) rfl <| o_p rfl (p_fa tf29x1 rfl) <| o_p rfl (p_load (v := aI) tv3 rfl rfl rfl) ?_
  obtain ⟨x9, hx9, h10⟩ := bind_s h8
  refine o_v (ov_call (v := aO) rfl (w_wire_PutInt hx9) ⟨lr, lr, trivial⟩ rfl rfl rfl) <| sV (v := aO) rfl <| o_ek (fr' := [(3, .box 0 0), (5, aO)]) rfl rfl <| w_sr <| mV (v := aO) rfl <| o_p rfl (p_fa tf29x2 rfl) <| o_p rfl (p_load (v := aS) tv9 rfl rfl rfl) ?_
  obtain ⟨x11, hx11, h12⟩ := bind_s h10
  refine o_v (ov_call (v := aO) rfl (w_wire_PutText hx11) ⟨lr, lr, trivial⟩ rfl rfl rfl) <| sV (v := aO) rfl <| o_ek (fr' := [(3, .box 0 0), (5, aO)]) rfl rfl <| w_sr <| mV (v := aO) rfl <| o_p rfl (p_fa tf29x3 rfl) <| o_p rfl (p_load (v := aS) tv9 rfl rfl rfl) ?_
  obtain ⟨x13, hx13, h14⟩ := bind_s h12
  refine o_v (ov_call (v := aO) rfl (w_wire_PutText hx13) ⟨lr, lr, trivial⟩ rfl rfl rfl) <| sV (v := aO) rfl <| o_ek (fr' := [(3, .box 0 0), (5, aO)]) rfl rfl <| w_sr <| mV (v := aO) rfl <| o_p rfl (p_fa tf29x4 rfl) <| o_p rfl (p_load (v := aI) tv3 rfl rfl rfl) ?_
  obtain ⟨x15, hx15, h16⟩ := bind_s h14
  refine o_v (ov_call (v := aO) rfl (w_wire_PutInt hx15) ⟨lr, lr, trivial⟩ rfl rfl rfl) <| sV (v := aO) rfl <| o_ek (fr' := [(3, .box 0 0), (5, aO)]) rfl rfl <| w_seqw <| w_planT [.q 0, .q 1, .q 2, .q 4, .q 5, .n 3 [4, 5], .n 6 [], .n 7 []] [(some 32, [5]), (some 33, [3]), (some 34, [33]), (some 35, [32, 34]), (some 36, [3]), (some 37, [36]), (some 38, [35, 37]), (some 4, [38])] [0, 0, 2, 7, 0, 16, 63, 127] (by kernel_rfl) <| dq rfl rfl (p_move (v := aO) rfl) <| dq rfl rfl (p_fa tf29x5 rfl) <| dq rfl rfl (p_loads (us := aIISLL) tv25 rfl rfl rfl rfl) <| dq rfl rfl (p_fa tf29x6 rfl) <| dq rfl rfl (p_loads (us := aSIIIIIIIIL) tv27 rfl rfl rfl rfl) <| d_n rfl ?_ rfl
  obtain ⟨x17, hx17, h18⟩ := bind_s h16
  refine o_v (ov_call (v := aO) rfl (w_value_Encode hx17) ⟨lr, (le_aggc rfl ⟨rfl, rfl, rfl, rfl, rfl, trivial⟩), trivial⟩ rfl rfl rfl) <| o_rc <| ⟨(rc_q (v := .box 0 10) rfl rfl (qv_p rfl (p_fa tf29x6 rfl)) (rc_q (v := .agg aSIIIIIIIIL) rfl rfl (qv_p rfl (p_loads (us := aSIIIIIIIIL) tv27 rfl rfl rfl rfl)) rc_nil)), ?_⟩
  refine d_n rfl ?_ rfl
  obtain ⟨x19, hx19, h20⟩ := bind_s h18
  refine o_v (ov_call (v := aO) rfl (w_command_policy hx19) ⟨lr, (le_aggc rfl ⟨rfl, rfl, rfl, rfl, rfl, rfl, rfl, rfl, rfl, rfl, trivial⟩), trivial⟩ rfl rfl rfl) <| o_rc <| ⟨rc_nil, ?_⟩
  refine d_n rfl ?_ rfl
  refine sV (v := aO) rfl <| o_rc <| ⟨rc_nil, ?_⟩
  refine d_ek (fr' := [(4, aO)]) rfl rfl <| w_ret ?_
  obtain rfl := sy h20
  exact e_ret (rs' := [.tmp 4]) rfl <| r_tmp (v := aO) rfl <| r_nil <| fin_gen [608] rfl rfl rfl lr st_nil
noncomputable def law20xworks  : Option Bool :=
 (command_Policy (ApiValue.mk (5 : Int) (0 : Int) ([] : List UInt8) ([(ApiValue.mk (2 : Int) (3 : Int) ([] : List UInt8) ([] : (List ApiValue)) ([] : (List (List UInt8)))), (ApiValue.mk (2 : Int) (2 : Int) ([] : List UInt8) ([] : (List ApiValue)) ([] : (List (List UInt8))))] : List ApiValue) ([([97, 116, 116, 101, 109, 112, 116, 115] : List UInt8), ([102, 105, 114, 115, 116] : List UInt8)] : List (List UInt8)))).bind fun (x1 : (ApiPolicy × Int)) => (command_Policy (ApiValue.mk (5 : Int) (0 : Int) ([] : List UInt8) ([(ApiValue.mk (0 : Int) (0 : Int) ([] : List UInt8) ([] : (List ApiValue)) ([] : (List (List UInt8))))] : List ApiValue) ([([102, 114, 105, 115, 116] : List UInt8)] : List (List UInt8)))).bind fun (x3 : (ApiPolicy × Int)) => cond (decide (x1.2 = (0 : Int))) ((ref20xSamePolicy x1.1 (ApiPolicy.mk ([] : List UInt8) (0 : Int) (0 : Int) (0 : Int) (0 : Int) (2 : Int) (0 : Int) (0 : Int) (3 : Int) ([] : (List (List UInt8))))).bind fun (x6 : Bool) => cond x6 (cond (decide (x3.2 = (8 : Int))) ((command_Right (ApiCommand.mk (3 : Int) (1 : Int) ([] : List UInt8) ([] : List UInt8) (5 : Int) (ApiValue.mk (0 : Int) (0 : Int) ([] : List UInt8) ([] : (List ApiValue)) ([] : (List (List UInt8)))) (ApiPolicy.mk ([] : List UInt8) (0 : Int) (0 : Int) (0 : Int) (0 : Int) (0 : Int) (0 : Int) (0 : Int) (0 : Int) ([] : (List (List UInt8)))))).bind fun (x10 : Bool) => cond x10 ((command_Right (ApiCommand.mk (3 : Int) (1 : Int) ([] : List UInt8) ([] : List UInt8) (0 : Int) (ApiValue.mk (0 : Int) (0 : Int) ([] : List UInt8) ([] : (List ApiValue)) ([] : (List (List UInt8)))) (ApiPolicy.mk ([] : List UInt8) (0 : Int) (0 : Int) (0 : Int) (0 : Int) (0 : Int) (0 : Int) (0 : Int) (0 : Int) ([] : (List (List UInt8)))))).bind fun (x13 : Bool) => cond (!x13) ((command_Encode ([] : List UInt8) (ApiCommand.mk (3 : Int) (1 : Int) ([] : List UInt8) ([] : List UInt8) (5 : Int) (ApiValue.mk (0 : Int) (0 : Int) ([] : List UInt8) ([] : (List ApiValue)) ([] : (List (List UInt8)))) (ApiPolicy.mk ([] : List UInt8) (0 : Int) (0 : Int) (0 : Int) (0 : Int) (0 : Int) (0 : Int) (0 : Int) (0 : Int) ([] : (List (List UInt8)))))).bind fun (x16 : (List UInt8)) => (wire_Open x16).bind fun (x18 : WireReader) => (command_Decode x18).bind fun (x20 : (ApiCommand × WireReader)) => (ref20xSame x20.1 (ApiCommand.mk (3 : Int) (1 : Int) ([] : List UInt8) ([] : List UInt8) (5 : Int) (ApiValue.mk (0 : Int) (0 : Int) ([] : List UInt8) ([] : (List ApiValue)) ([] : (List (List UInt8)))) (ApiPolicy.mk ([] : List UInt8) (0 : Int) (0 : Int) (0 : Int) (0 : Int) (0 : Int) (0 : Int) (0 : Int) (0 : Int) ([] : (List (List UInt8)))))).bind fun (x22 : Bool) => some x22) (some false)) (some false)) (some false)) (some false)) (some false)
theorem w_law20xworks  {res : Bool} (h : law20xworks = some res) : ACalls Try.prog 11 [] [] (.c (.bool res)) [] := by
 unfold law20xworks at h
 refine acalls (fn := Try.f11) [0, 1, 2, 3, 5, 6] (by kernel_rfl) Try.func11 rfl (by kernel_rfl) (by kernel_rfl) <| w_sr <| sB rfl <| o_ek (fr' := []) rfl rfl <| w_sr <| o_rows (row := rowS) (xs := ([([97, 116, 116, 101, 109, 112, 116, 115] : List UInt8), ([102, 105, 114, 115, 116] : List UInt8)] : List (List UInt8))) (rows := [[_], [_]]) (σ' := []) [0] ts23 rfl rfl rfl (arow_cons rfl (arow_cons rfl arow_nil)) rfl rfl <| o_p rfl (p_build (cs := [aI, aI, aS, .nil, .nil]) tb25 rfl) <| o_p rfl (p_build (cs := [aI, aI, aS, .nil, .nil]) tb25 rfl) <| o_rows (row := rowApiValue) (xs := ([(ApiValue.mk (2 : Int) (3 : Int) ([] : List UInt8) ([] : (List ApiValue)) ([] : (List (List UInt8)))), (ApiValue.mk (2 : Int) (2 : Int) ([] : List UInt8) ([] : (List ApiValue)) ([] : (List (List UInt8))))] : List ApiValue)) (rows := [[_, _, _, _, _], [_, _, _, _, _]]) (σ' := []) [0, 0, 0, 5, 1] ts22 rfl rfl rfl (arow_cons (rowApiValue_eq _) (arow_cons (rowApiValue_eq _) arow_nil)) rfl rfl <| o_p rfl (p_build (cs := [aI, aI, aS, aO, aO]) tb25 rfl) <| o_alloc (n := 0) (cs := [aI, aI, aS, .nil, .nil]) (σ' := [[aI, aI, aS, .nil, .nil]]) tz25 rfl rfl rfl ?_
 refine o_store (v := .agg [aI, aI, aS, aO, aO]) (us := [aI, aI, aS, aO, aO]) (cs := [aI, aI, aS, .nil, .nil]) (σ' := [[aI, aI, aS, aO, aO]]) rfl tv25 rfl rfl rfl rfl rfl rfl rfl rfl <| o_ek (fr' := [(1, .box 0 0)]) rfl rfl <| w_sr <| o_p rfl (p_loads (us := [aI, aI, aS, aO, aO]) tv25 rfl rfl rfl rfl) ?_
 obtain ⟨x1, hx1, h2⟩ := bind_s h
 refine o_v (ov_call (v := .tup [.agg aSIIIIIIIIL, aI]) rfl (w_command_Policy hx1) ⟨(le_aggc rfl ⟨rfl, rfl, rfl, rfl, rfl, trivial⟩), trivial⟩ rfl rfl rfl) <| mV (v := .tup [.agg aSIIIIIIIIL, aI]) rfl <| o_p rfl (p_ex (v := .agg aSIIIIIIIIL) rfl rfl) <| o_p rfl (p_ex (v := aI) rfl rfl) <| o_alloc (n := 1) (cs := [aS, aI, aI, aI, aI, aI, aI, aI, aI, .nil]) (σ' := [[aI, aI, aS, aO, aO], [aS, aI, aI, aI, aI, aI, aI, aI, aI, .nil]]) tz27 rfl rfl rfl <| o_store (v := .agg aSIIIIIIIIL) (us := aSIIIIIIIIL) (cs := [aS, aI, aI, aI, aI, aI, aI, aI, aI, .nil]) (σ' := [[aI, aI, aS, aO, aO], aSIIIIIIIIL]) rfl tv27 rfl rfl rfl rfl rfl rfl rfl rfl <| sI rfl <| o_ek (fr' := [(2, .box 1 0), (3, aI)]) rfl rfl <| w_sr <| o_rows (row := rowS) (xs := ([([102, 114, 105, 115, 116] : List UInt8)] : List (List UInt8))) (rows := [[_]]) (σ' := [[aI, aI, aS, aO, aO], aSIIIIIIIIL]) [0] ts23 rfl rfl rfl (arow_cons rfl arow_nil) rfl rfl <| o_p rfl (p_build (cs := [aI, aI, aS, .nil, .nil]) tb25 rfl) <| o_rows (row := rowApiValue) (xs := ([(ApiValue.mk (0 : Int) (0 : Int) ([] : List UInt8) ([] : (List ApiValue)) ([] : (List (List UInt8))))] : List ApiValue)) (rows := [[_, _, _, _, _]]) (σ' := [[aI, aI, aS, aO, aO], aSIIIIIIIIL]) [0, 0, 0, 5, 1] ts22 rfl rfl rfl (arow_cons (rowApiValue_eq _) arow_nil) rfl rfl ?_
 refine o_p rfl (p_build (cs := [aI, aI, aS, aO, aO]) tb25 rfl) ?_
 obtain ⟨x3, hx3, h4⟩ := bind_s h2
 refine o_v (ov_call (v := .tup [.agg aSIIIIIIIIL, aI]) rfl (w_command_Policy hx3) ⟨(le_aggc rfl ⟨rfl, rfl, rfl, rfl, rfl, trivial⟩), trivial⟩ rfl rfl rfl) <| mV (v := .tup [.agg aSIIIIIIIIL, aI]) rfl <| o_p rfl (p_ex (v := .agg aSIIIIIIIIL) rfl rfl) <| o_p rfl (p_ex (v := aI) rfl rfl) <| o_alloc (n := 2) (cs := [aS, aI, aI, aI, aI, aI, aI, aI, aI, .nil]) (σ' := [[aI, aI, aS, aO, aO], aSIIIIIIIIL, [aS, aI, aI, aI, aI, aI, aI, aI, aI, .nil]]) tz27 rfl rfl rfl <| o_store (v := .agg aSIIIIIIIIL) (us := aSIIIIIIIIL) (cs := [aS, aI, aI, aI, aI, aI, aI, aI, aI, .nil]) (σ' := [[aI, aI, aS, aO, aO], aSIIIIIIIIL, aSIIIIIIIIL]) rfl tv27 rfl rfl rfl rfl rfl rfl rfl rfl <| sI rfl <| o_ek (fr' := [(2, .box 1 0), (3, aI), (5, aI)]) rfl rfl <| w_sr <| o_p rfl (p_buildc (c0 := [aI, aI, aS, aS, aI, aI, aI, aS, .nil, .nil, aS, aI, aI, aI, aI, aI, aI, aI, aI, .nil]) (cs := [aI, aI, aS, aS, aI, aI, aI, aS, .nil, .nil, aS, aI, aI, aI, aI, aI, aI, aI, aI, .nil]) tb29 rfl (fill_cons (v := aI) (us := [_]) (cs' := u20) rfl rfl rfl rfl rfl rfl (fill_cons (v := aI) (us := [_]) (cs' := u20) rfl rfl rfl rfl rfl rfl (fill_cons (v := aI) (us := [_]) (cs' := u20) rfl rfl rfl rfl rfl rfl fill_nil)))) <| o_alloc (n := 3) (cs := [aI, aI, aS, aS, aI, aI, aI, aS, .nil, .nil, aS, aI, aI, aI, aI, aI, aI, aI, aI, .nil]) (σ' := [[aI, aI, aS, aO, aO], aSIIIIIIIIL, aSIIIIIIIIL, [aI, aI, aS, aS, aI, aI, aI, aS, .nil, .nil, aS, aI, aI, aI, aI, aI, aI, aI, aI, .nil]]) tz29 rfl rfl rfl <| o_store (v := .agg [aI, aI, aS, aS, aI, aI, aI, aS, .nil, .nil, aS, aI, aI, aI, aI, aI, aI, aI, aI, .nil]) (us := [aI, aI, aS, aS, aI, aI, aI, aS, .nil, .nil, aS, aI, aI, aI, aI, aI, aI, aI, aI, .nil]) (cs := [aI, aI, aS, aS, aI, aI, aI, aS, .nil, .nil, aS, aI, aI, aI, aI, aI, aI, aI, aI, .nil]) (σ' := [[aI, aI, aS, aO, aO], aSIIIIIIIIL, aSIIIIIIIIL, [aI, aI, aS, aS, aI, aI, aI, aS, .nil, .nil, aS, aI, aI, aI, aI, aI, aI, aI, aI, .nil]]) rfl tv29 rfl rfl rfl rfl rfl rfl rfl rfl ?_
 refine o_ek (fr' := [(2, .box 1 0), (3, aI), (5, aI), (6, .box 3 0)]) rfl rfl <| w_seqw <| w_planT [.q 0, .q 1, .q 2, .q 3, .q 4, .q 5, .q 6, .q 7, .q 8, .q 9, .q 10, .q 11, .q 12, .q 13, .q 14, .q 15, .q 16, .q 17, .q 18, .q 19, .q 20, .q 21, .q 22, .q 25, .n 23 [25], .n 24 [25], .q 26, .q 27, .n 28 []] [(some 26, [3]), (some 27, [26]), (some 28, [27]), (some 29, [2, 28]), (some 30, [28]), (some 31, [29, 30, 28]), (some 32, [28, 31]), (some 33, [32]), (some 34, [5, 33]), (some 35, [34, 33]), (some 36, [33, 35]), (some 37, [36]), (some 38, [6, 37]), (some 39, [38, 37]), (some 40, [37, 39]), (some 41, [40]), (some 42, [41]), (some 43, [42, 41]), (some 44, [43, 41]), (some 45, [41, 44]), (some 46, [45]), (some 47, [6, 46]), (some 48, [47, 46]), (some 49, [48, 46]), (some 50, [49, 46]), (some 51, [6, 46]), (some 52, [50, 51, 46]), (some 53, [46, 52]), (some 0, [53])] [0, 1, 3, 7, 7, 31, 63, 127, 255, 511, 1023, 2047, 4095, 8191, 16383, 32767, 65535, 131071, 262143, 524287, 1048575, 2097151, 4194303, 8388607, 16777215, 2097151, 67108863, 134217727, 268435455] (by kernel_rfl) <| dq rfl rfl (p_move (v := aI) rfl) <| dq rfl rfl (p_eql rfl rfl) <| dq rfl rfl (p_move (v := aB) rfl) <| r_ch h4 (fun hb5 h5 => ?_) (fun hb5 h5 => ?_)
 ·
  refine d_qyes rfl rfl rfl hb5 (qv_p rfl (p_loads (us := aSIIIIIIIIL) tv27 rfl rfl rfl rfl)) <| d_qyes rfl rfl rfl hb5 (qv_p rfl (p_buildc (c0 := [aS, aI, aI, aI, aI, aI, aI, aI, aI, .nil]) (cs := [aS, aI, aI, aI, aI, aI, aI, aI, aI, .nil]) tb27 rfl (fill_cons (v := aI) (us := [_]) (cs' := u10) rfl rfl rfl rfl rfl rfl (fill_cons (v := aI) (us := [_]) (cs' := u10) rfl rfl rfl rfl rfl rfl fill_nil)))) ?_
  obtain ⟨x6, hx6, h7⟩ := bind_s h5
  refine d_qyes rfl rfl rfl hb5 (qv_call (v := aB) rfl (w_ref20xSamePolicy hx6) ⟨(le_aggc rfl ⟨rfl, rfl, rfl, rfl, rfl, rfl, rfl, rfl, rfl, rfl, trivial⟩), (le_aggc rfl ⟨rfl, rfl, rfl, rfl, rfl, rfl, rfl, rfl, rfl, ⟨_, rfl⟩, trivial⟩), trivial⟩ rfl) <| dq rfl rfl (p_pick_t rfl hb5 rfl) <| dq rfl rfl (p_move (v := aB) rfl) <| r_ch h7 (fun hb8 h8 => ?_) (fun hb8 h8 => ?_)
  ·
   refine d_qyes rfl rfl rfl hb8 (qv_p rfl (p_move (v := aI) rfl)) <| d_qyes rfl rfl rfl hb8 (qv_p rfl (p_eql rfl rfl)) <| dq rfl rfl (p_pick_t rfl hb8 rfl) <| dq rfl rfl (p_move (v := aB) rfl) <| r_ch h8 (fun hb9 h9 => ?_) (fun hb9 h9 => ?_)
   ·
    refine d_qyes rfl rfl rfl hb9 (qv_p rfl (p_loads (us := [aI, aI, aS, aS, aI, aI, aI, aS, .nil, .nil, aS, aI, aI, aI, aI, aI, aI, aI, aI, .nil]) tv29 rfl rfl rfl rfl)) ?_
    obtain ⟨x10, hx10, h11⟩ := bind_s h9
    refine d_qyes rfl rfl rfl hb9 (qv_call (v := aB) rfl (w_command_Right hx10) ⟨(le_aggc rfl ⟨rfl, rfl, rfl, rfl, rfl, rfl, rfl, rfl, ⟨_, rfl⟩, ⟨_, rfl⟩, rfl, rfl, rfl, rfl, rfl, rfl, rfl, rfl, rfl, ⟨_, rfl⟩, trivial⟩), trivial⟩ rfl) <| dq rfl rfl (p_pick_t rfl hb9 rfl) <| dq rfl rfl (p_move (v := aB) rfl) <| r_ch h11 (fun hb12 h12 => ?_) (fun hb12 h12 => ?_)
    ·
     refine d_qyes rfl rfl rfl hb12 (qv_p rfl (p_buildc (c0 := [aI, aI, aS, aS, aI, aI, aI, aS, .nil, .nil, aS, aI, aI, aI, aI, aI, aI, aI, aI, .nil]) (cs := [aI, aI, aS, aS, aI, aI, aI, aS, .nil, .nil, aS, aI, aI, aI, aI, aI, aI, aI, aI, .nil]) tb29 rfl (fill_cons (v := aI) (us := [_]) (cs' := u20) rfl rfl rfl rfl rfl rfl (fill_cons (v := aI) (us := [_]) (cs' := u20) rfl rfl rfl rfl rfl rfl fill_nil)))) ?_
     obtain ⟨x13, hx13, h14⟩ := bind_s h12
     refine d_qyes rfl rfl rfl hb12 (qv_call (v := aB) rfl (w_command_Right hx13) ⟨(le_aggc rfl ⟨rfl, rfl, rfl, rfl, rfl, rfl, rfl, rfl, ⟨_, rfl⟩, ⟨_, rfl⟩, rfl, rfl, rfl, rfl, rfl, rfl, rfl, rfl, rfl, ⟨_, rfl⟩, trivial⟩), trivial⟩ rfl) <| d_qyes rfl rfl rfl hb12 (qv_p rfl (p_not rfl)) <| dq rfl rfl (p_pick_t rfl hb12 rfl) <| dq rfl rfl (p_move (v := aB) rfl) <| r_ch h14 (fun hb15 h15 => ?_) (fun hb15 h15 => ?_)
     ·
      refine d_qyes rfl rfl rfl hb15 (qv_p rfl (p_loads (us := [aI, aI, aS, aS, aI, aI, aI, aS, .nil, .nil, aS, aI, aI, aI, aI, aI, aI, aI, aI, .nil]) tv29 rfl rfl rfl rfl)) ?_
      obtain ⟨x16, hx16, h17⟩ := bind_s h15
      refine d_qyes rfl rfl rfl hb15 (qv_call (v := aL) rfl (w_command_Encode hx16) ⟨le_nls, (le_aggc rfl ⟨rfl, rfl, rfl, rfl, rfl, rfl, rfl, rfl, ⟨_, rfl⟩, ⟨_, rfl⟩, rfl, rfl, rfl, rfl, rfl, rfl, rfl, rfl, rfl, ⟨_, rfl⟩, trivial⟩), trivial⟩ rfl) <| d_qyes rfl rfl rfl hb15 (qv_p rfl (p_loads (us := [aI, aI, aS, aS, aI, aI, aI, aS, .nil, .nil, aS, aI, aI, aI, aI, aI, aI, aI, aI, .nil]) tv29 rfl rfl rfl rfl)) <| d_yes rfl rfl rfl hb15 ?_
      obtain ⟨x18, hx18, h19⟩ := bind_s h17
      refine o_call (v := .box 4 0) (σ' := [[aI, aI, aS, aO, aO], aSIIIIIIIIL, aSIIIIIIIIL, [aI, aI, aS, aS, aI, aI, aI, aS, .nil, .nil, aS, aI, aI, aI, aI, aI, aI, aI, aI, .nil], aLIIB]) [] rfl (w_wire_Open hx18) rfl rfl ⟨lr, trivial⟩ st_nil rfl rfl rfl <| o_rc <| ⟨(rc_yes (v := .agg [aI, aI, aS, aS, aI, aI, aI, aS, .nil, .nil, aS, aI, aI, aI, aI, aI, aI, aI, aI, .nil]) rfl rfl rfl hb15 rfl (qv_p rfl (p_loads (us := [aI, aI, aS, aS, aI, aI, aI, aS, .nil, .nil, aS, aI, aI, aI, aI, aI, aI, aI, aI, .nil]) tv29 rfl rfl rfl rfl)) rc_nil), ?_⟩
      refine d_yes rfl rfl rfl hb15 ?_
      obtain ⟨x20, hx20, h21⟩ := bind_s h19
      refine o_call (v := .agg aIISSIIISLLSIIIIIIIIL) (σ' := [[aI, aI, aS, aO, aO], aSIIIIIIIIL, aSIIIIIIIIL, [aI, aI, aS, aS, aI, aI, aI, aS, .nil, .nil, aS, aI, aI, aI, aI, aI, aI, aI, aI, .nil], aLIIB]) [4] rfl (w_command_Decode hx20) rfl rfl ⟨lr, trivial⟩ (st_c ⟨rfl, rfl, rfl, rfl, trivial⟩ st_nil) rfl rfl rfl <| o_rc <| ⟨(rc_yes (v := .agg [aI, aI, aS, aS, aI, aI, aI, aS, .nil, .nil, aS, aI, aI, aI, aI, aI, aI, aI, aI, .nil]) rfl rfl rfl hb15 rfl (qv_p rfl (p_loads (us := [aI, aI, aS, aS, aI, aI, aI, aS, .nil, .nil, aS, aI, aI, aI, aI, aI, aI, aI, aI, .nil]) tv29 rfl rfl rfl rfl)) rc_nil), ?_⟩
      obtain ⟨x22, hx22, h23⟩ := bind_s h21
      refine d_qyes rfl rfl rfl hb15 (qv_call (v := aB) rfl (w_ref20xSame hx22) ⟨(le_aggc rfl ⟨rfl, rfl, rfl, rfl, rfl, rfl, rfl, rfl, rfl, rfl, rfl, rfl, rfl, rfl, rfl, rfl, rfl, rfl, rfl, rfl, trivial⟩), (le_aggc rfl ⟨rfl, rfl, rfl, rfl, rfl, rfl, rfl, rfl, ⟨_, rfl⟩, ⟨_, rfl⟩, rfl, rfl, rfl, rfl, rfl, rfl, rfl, rfl, rfl, ⟨_, rfl⟩, trivial⟩), trivial⟩ rfl) <| dq rfl rfl (p_pick_t rfl hb15 rfl) <| d_n rfl ?_ rfl
      refine sB rfl <| o_rc <| ⟨rc_nil, ?_⟩
      refine d_ek (fr' := [(0, aB)]) rfl rfl <| w_ret ?_
      obtain rfl := sy h23
      exact e_ret (rs' := [.tmp 0]) rfl <| r_tmp (v := aB) rfl <| r_nil <| fin_gen [] rfl rfl rfl lr st_nil
     ·
      refine d_qno rfl rfl rfl hb15 <| d_qno rfl rfl rfl hb15 <| d_qno rfl rfl rfl hb15 <| d_no rfl rfl rfl hb15 <| d_no rfl rfl rfl hb15 <| d_qno rfl rfl rfl hb15 <| dq rfl rfl (p_pick_f rfl hb15 rfl) <| d_n rfl ?_ rfl
      refine sB rfl <| o_rc <| ⟨rc_nil, ?_⟩
      refine d_ek (fr' := [(0, aB)]) rfl rfl <| w_ret ?_
      obtain rfl := sy h15
      exact e_ret (rs' := [.tmp 0]) rfl <| r_tmp (v := aB) rfl <| r_nil <| fin_gen [] rfl rfl rfl lr st_nil
    ·
     refine d_qno rfl rfl rfl hb12 <| d_qno rfl rfl rfl hb12 <| d_qno rfl rfl rfl hb12 <| dq rfl rfl (p_pick_f rfl hb12 rfl) <| dq rfl rfl (p_move (v := aB) rfl) <| d_qno rfl rfl rfl rfl <| d_qno rfl rfl rfl rfl <| d_qno rfl rfl rfl rfl <| d_no rfl rfl rfl rfl <| d_no rfl rfl rfl rfl <| d_qno rfl rfl rfl rfl <| dq rfl rfl (p_pick_f rfl rfl rfl) <| d_n rfl ?_ rfl
     refine sB rfl <| o_rc <| ⟨rc_nil, ?_⟩
     refine d_ek (fr' := [(0, aB)]) rfl rfl <| w_ret ?_
     obtain rfl := sy h12
     exact e_ret (rs' := [.tmp 0]) rfl <| r_tmp (v := aB) rfl <| r_nil <| fin_gen [] rfl rfl rfl lr st_nil
   ·
    refine d_qno rfl rfl rfl hb9 <| d_qno rfl rfl rfl hb9 <| dq rfl rfl (p_pick_f rfl hb9 rfl) <| dq rfl rfl (p_move (v := aB) rfl) <| d_qno rfl rfl rfl rfl <| d_qno rfl rfl rfl rfl <| d_qno rfl rfl rfl rfl <| dq rfl rfl (p_pick_f rfl rfl rfl) <| dq rfl rfl (p_move (v := aB) rfl) <| d_qno rfl rfl rfl rfl <| d_qno rfl rfl rfl rfl <| d_qno rfl rfl rfl rfl <| d_no rfl rfl rfl rfl ?_
    refine d_no rfl rfl rfl rfl <| d_qno rfl rfl rfl rfl <| dq rfl rfl (p_pick_f rfl rfl rfl) <| d_n rfl ?_ rfl
    refine sB rfl <| o_rc <| ⟨rc_nil, ?_⟩
    refine d_ek (fr' := [(0, aB)]) rfl rfl <| w_ret ?_
    obtain rfl := sy h9
    exact e_ret (rs' := [.tmp 0]) rfl <| r_tmp (v := aB) rfl <| r_nil <| fin_gen [] rfl rfl rfl lr st_nil
  ·
   refine d_qno rfl rfl rfl hb8 <| d_qno rfl rfl rfl hb8 <| dq rfl rfl (p_pick_f rfl hb8 rfl) <| dq rfl rfl (p_move (v := aB) rfl) <| d_qno rfl rfl rfl rfl <| d_qno rfl rfl rfl rfl <| dq rfl rfl (p_pick_f rfl rfl rfl) <| dq rfl rfl (p_move (v := aB) rfl) <| d_qno rfl rfl rfl rfl <| d_qno rfl rfl rfl rfl <| d_qno rfl rfl rfl rfl <| dq rfl rfl (p_pick_f rfl rfl rfl) <| dq rfl rfl (p_move (v := aB) rfl) ?_
   refine d_qno rfl rfl rfl rfl <| d_qno rfl rfl rfl rfl <| d_qno rfl rfl rfl rfl <| d_no rfl rfl rfl rfl <| d_no rfl rfl rfl rfl <| d_qno rfl rfl rfl rfl <| dq rfl rfl (p_pick_f rfl rfl rfl) <| d_n rfl ?_ rfl
   refine sB rfl <| o_rc <| ⟨rc_nil, ?_⟩
   refine d_ek (fr' := [(0, aB)]) rfl rfl <| w_ret ?_
   obtain rfl := sy h8
   exact e_ret (rs' := [.tmp 0]) rfl <| r_tmp (v := aB) rfl <| r_nil <| fin_gen [] rfl rfl rfl lr st_nil
 ·
  refine d_qno rfl rfl rfl hb5 <| d_qno rfl rfl rfl hb5 <| d_qno rfl rfl rfl hb5 <| dq rfl rfl (p_pick_f rfl hb5 rfl) <| dq rfl rfl (p_move (v := aB) rfl) <| d_qno rfl rfl rfl rfl <| d_qno rfl rfl rfl rfl <| dq rfl rfl (p_pick_f rfl rfl rfl) <| dq rfl rfl (p_move (v := aB) rfl) <| d_qno rfl rfl rfl rfl <| d_qno rfl rfl rfl rfl <| dq rfl rfl (p_pick_f rfl rfl rfl) <| dq rfl rfl (p_move (v := aB) rfl) ?_
  refine d_qno rfl rfl rfl rfl <| d_qno rfl rfl rfl rfl <| d_qno rfl rfl rfl rfl <| dq rfl rfl (p_pick_f rfl rfl rfl) <| dq rfl rfl (p_move (v := aB) rfl) <| d_qno rfl rfl rfl rfl <| d_qno rfl rfl rfl rfl <| d_qno rfl rfl rfl rfl <| d_no rfl rfl rfl rfl <| d_no rfl rfl rfl rfl <| d_qno rfl rfl rfl rfl <| dq rfl rfl (p_pick_f rfl rfl rfl) <| d_n rfl ?_ rfl
  refine sB rfl <| o_rc <| ⟨rc_nil, ?_⟩
  refine d_ek (fr' := [(0, aB)]) rfl rfl <| w_ret ?_
  obtain rfl := sy h5
  exact e_ret (rs' := [.tmp 0]) rfl <| r_tmp (v := aB) rfl <| r_nil <| fin_gen [] rfl rfl rfl lr st_nil
noncomputable def ref01xOpen (p0b : (List UInt8)) : Option Ref01Reader :=
 (app 1 ([] : List UInt8) p0b).bind fun (x1 : (List UInt8)) => some (Ref01Reader.mk true x1 (0 : Int))
theorem w_ref01xOpen {p0b : (List UInt8)} {res : Ref01Reader} (h : ref01xOpen p0b = some res) : ACalls Try.prog 24 [.c (PV.ls 1 brow p0b)] [] (.box 0 0) [AV.cs (rowRef01Reader res)] := by
 unfold ref01xOpen at h
 refine acalls (fn := Try.f24) [0, 2] (by kernel_rfl) Try.func24 rfl (by kernel_rfl) (by kernel_rfl) <| w_sr <| sV (v := .nilptr) rfl <| o_ek (fr' := [(0, aL)]) rfl rfl <| w_sr <| o_rows (row := brow) (xs := ([] : List UInt8)) (rows := []) (σ' := []) [0] ts40 rfl rfl rfl arow_nil rfl rfl <| mL rfl ?_
 obtain ⟨x1, hx1, h2⟩ := bind_s h
 refine o_app (row := brow) ts40 rfl ti40 rfl (isl_c rfl) (fun _ => rfl) hx1 <| o_p rfl (p_build (cs := [aB, aO, aI]) tb80 rfl) <| o_box (v := .agg [aB, aO, aI]) (n := 0) (cs := [aB, aO, aI]) (σ' := [[aB, aO, aI]]) rfl rfl rfl rfl rfl <| sV (v := .box 0 0) rfl <| o_ek (fr' := [(2, .box 0 0)]) rfl rfl <| w_ret ?_
 obtain rfl := sy h2
 exact e_ret (rs' := [.tmp 2]) rfl <| r_tmp (v := .box 0 0) rfl <| r_nil <| fin_new (off := 0) (j := 0) rfl rfl rfl rfl rfl (st_c ⟨rfl, rfl, rfl, trivial⟩ st_nil)
noncomputable def wire_Reader_Err_nil  : Option Int :=
 some (1 : Int)
theorem w_wire_Reader_Err_nil  {res : Int} (h : wire_Reader_Err_nil = some res) : ACalls Try.prog 27 [.nilptr] [] (.c (.int .i64 res)) [] := by
 unfold wire_Reader_Err_nil at h
 refine acalls (fn := Try.f27) [0, 2, 11] (by kernel_rfl) Try.func27 rfl (by kernel_rfl) (by kernel_rfl) <| w_sr <| sI rfl <| o_ek (fr' := [(0, .nilptr)]) rfl rfl <| w_seqw <| w_sr <| mV (v := .nilptr) rfl <| o_p rfl (p_neql ti41 rfl rfl) <| mB rfl <| o_no rfl rfl rfl <| o_no rfl rfl rfl ?_
 refine o_no rfl rfl rfl <| o_no rfl rfl rfl <| o_no rfl rfl rfl <| o_p rfl (p_pick_t rfl rfl rfl) <| o_ek (fr' := [(0, .nilptr), (11, aB)]) rfl rfl <| w_cond_t rfl <| w_sr <| sI rfl <| o_ek (fr' := [(2, aI)]) rfl rfl <| w_ret <| e_seq_r ?_
 obtain rfl := sy h
 exact e_ret (rs' := [.tmp 2]) rfl <| r_tmp (v := aI) rfl <| r_nil <| fin_gen [] rfl rfl rfl lr st_nil
noncomputable def wire_Reader_dead_nil  : Option Bool :=
 some true
theorem w_wire_Reader_dead_nil  {res : Bool} (h : wire_Reader_dead_nil = some res) : ACalls Try.prog 72 [.nilptr] [] (.c (.bool res)) [] := by
 unfold wire_Reader_dead_nil at h
 refine acalls (fn := Try.f72) [0, 2] (by kernel_rfl) Try.func72 rfl (by kernel_rfl) (by kernel_rfl) <| w_sr <| sB rfl <| o_ek (fr' := [(0, .nilptr)]) rfl rfl <| w_sr <| mV (v := .nilptr) rfl <| o_p rfl (p_neql ti41 rfl rfl) <| mB rfl <| o_no rfl rfl rfl <| o_no rfl rfl rfl <| o_no rfl rfl rfl ?_
 refine o_no rfl rfl rfl <| o_no rfl rfl rfl <| o_p rfl (p_pick_t rfl rfl rfl) <| mB rfl <| o_no rfl rfl rfl <| o_no rfl rfl rfl <| o_no rfl rfl rfl <| o_no rfl rfl rfl <| o_no rfl rfl rfl <| o_p rfl (p_pick_t rfl rfl rfl) <| sB rfl <| o_ek (fr' := [(2, aB)]) rfl rfl <| w_ret ?_
 obtain rfl := sy h
 exact e_ret (rs' := [.tmp 2]) rfl <| r_tmp (v := aB) rfl <| r_nil <| fin_gen [] rfl rfl rfl lr st_nil
noncomputable def wire_Reader_Int_nil (p1low : Int) (p2high : Int) : Option Int :=
 (wire_Reader_dead_nil).bind fun (x1 : Bool) => cond x1 (some (0 : Int)) (none)
theorem w_wire_Reader_Int_nil {p1low : Int} {p2high : Int} {res : Int} (h : wire_Reader_Int_nil p1low p2high = some res) : ACalls Try.prog 93 [.nilptr, .c (.int .i64 p1low), .c (.int .i64 p2high)] [] (.c (.int .i64 res)) [] := by
 unfold wire_Reader_Int_nil at h
 refine acalls (fn := Try.f93) [0, 1, 2, 6, 7, 8, 9, 10, 11, 13, 23, 24, 29, 46, 60, 88] (by kernel_rfl) Try.func93 rfl (by kernel_rfl) (by kernel_rfl) <| w_sr <| sI rfl <| o_ek (fr' := [(0, .nilptr), (1, aI), (2, aI)]) rfl rfl <| w_seqw <| w_sr <| mV (v := .nilptr) rfl ?_
 obtain ⟨x1, hx1, h2⟩ := bind_s h
 refine o_v (ov_call (v := aB) rfl (w_wire_Reader_dead_nil hx1) ⟨lr, trivial⟩ rfl rfl rfl) <| o_ek (fr' := [(0, .nilptr), (1, aI), (2, aI), (13, aB)]) rfl rfl <| w_ch h2 rfl (fun hb3 h3 => ?_) (fun hb3 h3 => ?_)
 ·
  refine w_sr <| sI rfl <| o_ek (fr' := [(6, aI)]) rfl rfl <| w_ret <| e_seq_r ?_
  obtain rfl := sy h3
  exact e_ret (rs' := [.tmp 6]) rfl <| r_tmp (v := aI) rfl <| r_nil <| fin_gen [] rfl rfl rfl lr st_nil
 ·
  exact w_skip <| e_kw <| w_seqw <| w_planT [.q 0, .q 1, .q 2, .q 3, .q 4, .q 5, .q 6, .q 7, .q 8, .n 9 []] [(some 14, [0]), (some 15, [14]), (some 16, [15]), (some 17, [16]), (some 18, [0]), (some 19, [18]), (some 20, [19]), (some 21, [20]), (some 22, [17, 21]), (some 7, [22])] [0, 1, 3, 7, 0, 16, 48, 112, 255, 511] (by kernel_rfl) <| dq rfl rfl (p_move (v := .nilptr) rfl) <| none_ne h3
noncomputable def command_number64_nil  : Option Int :=
 (wire_Reader_Int_nil (-9223372036854775808 : Int) (9223372036854775807 : Int)).bind fun (x1 : Int) => some x1
theorem w_command_number64_nil  {res : Int} (h : command_number64_nil = some res) : ACalls Try.prog 64 [.nilptr] [] (.c (.int .i64 res)) [] := by
 unfold command_number64_nil at h
 refine acalls (fn := Try.f64) [0, 2] (by kernel_rfl) Try.func64 rfl (by kernel_rfl) (by kernel_rfl) <| w_sr <| sI rfl <| o_ek (fr' := [(0, .nilptr)]) rfl rfl <| w_sr <| mV (v := .nilptr) rfl ?_
 obtain ⟨x1, hx1, h2⟩ := bind_s h
 refine o_v (ov_call (v := aI) rfl (w_wire_Reader_Int_nil hx1) ⟨lr, lr, lr, trivial⟩ rfl rfl rfl) <| sI rfl <| o_ek (fr' := [(2, aI)]) rfl rfl <| w_ret ?_
 obtain rfl := sy h2
 exact e_ret (rs' := [.tmp 2]) rfl <| r_tmp (v := aI) rfl <| r_nil <| fin_gen [] rfl rfl rfl lr st_nil
noncomputable def wire_Reader_Text_nil (p1most : Int) : Option (List UInt8) :=
 (wire_Reader_Int_nil (0 : Int) p1most).bind fun (x1 : Int) => (wire_Reader_dead_nil).bind fun (x3 : Bool) => cond x3 (some ([] : List UInt8)) (none)
theorem w_wire_Reader_Text_nil {p1most : Int} {res : (List UInt8)} (h : wire_Reader_Text_nil p1most = some res) : ACalls Try.prog 65 [.nilptr, .c (.int .i64 p1most)] [] (.c (.str res)) [] := by
 unfold wire_Reader_Text_nil at h
 refine acalls (fn := Try.f65) [0, 1, 4, 5, 6, 11, 23] (by kernel_rfl) Try.func65 rfl (by kernel_rfl) (by kernel_rfl) <| w_sr <| sS rfl <| o_ek (fr' := [(0, .nilptr), (1, aI)]) rfl rfl <| w_sr <| mV (v := .nilptr) rfl <| mI rfl ?_
 obtain ⟨x1, hx1, h2⟩ := bind_s h
 refine o_v (ov_call (v := aI) rfl (w_wire_Reader_Int_nil hx1) ⟨lr, lr, lr, trivial⟩ rfl rfl rfl) <| sI rfl <| o_ek (fr' := [(0, .nilptr), (5, aI)]) rfl rfl <| w_seqw <| w_sr <| mV (v := .nilptr) rfl ?_
 obtain ⟨x3, hx3, h4⟩ := bind_s h2
 refine o_v (ov_call (v := aB) rfl (w_wire_Reader_dead_nil hx3) ⟨lr, trivial⟩ rfl rfl rfl) <| o_ek (fr' := [(0, .nilptr), (5, aI), (11, aB)]) rfl rfl <| w_ch h4 rfl (fun hb5 h5 => ?_) (fun hb5 h5 => ?_)
 ·
  refine w_sr <| sS rfl <| o_ek (fr' := [(4, aS)]) rfl rfl <| w_ret <| e_seq_r ?_
  obtain rfl := sy h5
  exact e_ret (rs' := [.tmp 4]) rfl <| r_tmp (v := aS) rfl <| r_nil <| fin_gen [] rfl rfl rfl lr st_nil
 ·
  exact w_skip <| e_kw <| w_seqw <| w_seqw <| w_planT [.q 0, .q 1, .q 2, .q 3, .q 4, .q 5, .q 6, .q 7, .q 8, .q 9, .q 10, .q 11] [(some 12, [5]), (some 13, [0]), (some 14, [13]), (some 15, [14]), (some 16, [15]), (some 17, [16]), (some 18, [0]), (some 19, [18]), (some 20, [19]), (some 21, [20]), (some 22, [17, 21]), (some 23, [12, 22])] [0, 0, 2, 6, 14, 30, 0, 64, 192, 448, 1022, 2047] (by kernel_rfl) <| dq rfl rfl (p_move (v := aI) rfl) <| dq rfl rfl (p_move (v := .nilptr) rfl) <| none_ne h5
noncomputable def wire_Reader_Fail_nil (p1e : Int) : Option Unit :=
 (wire_Reader_dead_nil).bind fun (x1 : Bool) => cond (!x1) (none) (some ())
theorem w_wire_Reader_Fail_nil {p1e : Int} {res : Unit} (h : wire_Reader_Fail_nil p1e = some res) : ACalls Try.prog 67 [.nilptr, .c (.int .i64 p1e)] [] (.any) [] := by
 unfold wire_Reader_Fail_nil at h
 refine acalls (fn := Try.f67) [0, 1, 6] (by kernel_rfl) Try.func67 rfl (by kernel_rfl) (by kernel_rfl) <| w_sr <| mV (v := .nilptr) rfl ?_
 obtain ⟨x1, hx1, h2⟩ := bind_s h
 refine o_v (ov_call (v := aB) rfl (w_wire_Reader_dead_nil hx1) ⟨lr, trivial⟩ rfl rfl rfl) <| o_p rfl (p_not rfl) <| o_ek (fr' := [(0, .nilptr), (1, aI), (6, aB)]) rfl rfl <| w_ch h2 rfl (fun hb3 h3 => ?_) (fun hb3 h3 => ?_)
 ·
  exact w_region <| mV (v := .nilptr) rfl <| mI rfl <| none_ne h3
 ·
  refine w_skip ?_
  obtain rfl := sy h3
  exact e_fin (rs' := []) rfl <| r_nil <| fin_gen [] rfl rfl rfl (AV.le_any _) st_nil
end Go.Proofs.Ytmnobgopfnhbnaa

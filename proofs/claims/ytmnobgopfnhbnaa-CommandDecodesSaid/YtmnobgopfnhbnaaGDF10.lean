import Derived.Test.YtmnobgopfnhbnaaGDTy
import Derived.Test.YtmnobgopfnhbnaaGDF3
import Derived.Test.YtmnobgopfnhbnaaGDF4
import Derived.Test.YtmnobgopfnhbnaaGDF5
import Derived.Test.YtmnobgopfnhbnaaGDF6
import Derived.Test.YtmnobgopfnhbnaaGDF8
import Derived.Test.YtmnobgopfnhbnaaGDF9
namespace Go.Proofs.Ytmnobgopfnhbnaa
open Go Abs
set_option maxRecDepth 100000
set_option linter.unusedVariables false
set_option linter.unusedSimpArgs false
noncomputable def law20xCommandDecodes (p0b : (List UInt8)) : Option Bool :=
 cond (decide ((20000 : Int) < ((p0b).length : Int))) ((law20xworks).bind fun (x2 : Bool) => some x2) ((wire_Open p0b).bind fun (x5 : WireReader) => (ref01xOpen p0b).bind fun (x7 : Ref01Reader) => (command_Decode x5).bind fun (x9 : (ApiCommand × WireReader)) => (ref20xDecode x7).bind fun (x11 : (ApiCommand × Ref01Reader)) => (((ref20xSame x9.1 x11.1).bind fun (x16 : Bool) => cond (!x16) (some (Fl.done false)) ((wire_Reader_Err x9.2).bind fun (x21 : Int) => (ref01xReader_Err x11.2).bind fun (x23 : Int) => cond (!decide (x21 = x23)) (some (Fl.done false)) ((wire_Reader_Left x9.2).bind fun (x28 : Int) => (ref01xReader_Left x11.2).bind fun (x30 : Int) => cond (!decide (x28 = x30)) (some (Fl.done false)) (some (Fl.go ()))))) : Option (Fl Bool Unit)).bind fun (x13 : (Fl Bool Unit)) => Fl.next x13 (fun (j15 : Unit) => ((wire_Open p0b).bind fun (x36 : WireReader) => (ref01xOpen p0b).bind fun (x38 : Ref01Reader) => (command_DecodePolicy x36).bind fun (x40 : (ApiPolicy × WireReader)) => (ref20xDecodePolicy x38).bind fun (x42 : (ApiPolicy × Ref01Reader)) => (ref20xSamePolicy x40.1 x42.1).bind fun (x44 : Bool) => cond x44 ((wire_Reader_Err x40.2).bind fun (x47 : Int) => (ref01xReader_Err x42.2).bind fun (x49 : Int) => cond (decide (x47 = x49)) ((wire_Reader_Left x40.2).bind fun (x52 : Int) => (ref01xReader_Left x42.2).bind fun (x54 : Int) => cond (decide (x52 = x54)) ((command_Decode_nil).bind fun (x57 : ApiCommand) => (ref20xSame x57 (ApiCommand.mk (0 : Int) (0 : Int) ([] : List UInt8) ([] : List UInt8) (0 : Int) (ApiValue.mk (0 : Int) (0 : Int) ([] : List UInt8) ([] : (List ApiValue)) ([] : (List (List UInt8)))) (ApiPolicy.mk ([] : List UInt8) (0 : Int) (0 : Int) (0 : Int) (0 : Int) (0 : Int) (0 : Int) (0 : Int) (0 : Int) ([] : (List (List UInt8)))))).bind fun (x59 : Bool) => cond x59 ((law20xworks).bind fun (x62 : Bool) => some x62) (some false)) (some false)) (some false)) (some false))))
theorem w_law20xCommandDecodes {p0b : (List UInt8)} {res : Bool} (h : law20xCommandDecodes p0b = some res) : ACalls Try.prog 6 [.c (PV.ls 1 brow p0b)] [] (.c (.bool res)) [] := by
 unfold law20xCommandDecodes at h
 refine acalls (fn := Try.f6) [0, 2, 3, 4, 5, 6, 7, 8, 11, 38] (by kernel_rfl) Try.func6 rfl (by kernel_rfl) (by kernel_rfl) <| w_sr <| sB rfl <| o_ek (fr' := [(0, aL)]) rfl rfl <| w_seqw <| w_sr <| mL rfl <| o_p rfl (p_len ti40 (isl_c rfl)) <| o_p rfl (p_gtr rfl rfl) <| o_ek (fr' := [(0, aL), (11, aB)]) rfl rfl <| w_ch h rfl (fun hb1 h1 => ?_) (fun hb1 h1 => ?_)
 ·
  refine w_seqw <| w_region ?_
  obtain ⟨x2, hx2, h3⟩ := bind_s h1
  refine o_v (ov_call (v := aB) rfl (w_law20xworks hx2) trivial rfl rfl rfl) <| sB rfl <| o_ek (fr' := [(2, aB)]) rfl rfl <| w_ret <| e_seq_r ?_
  obtain rfl := sy h3
  exact e_ret (rs' := [.tmp 2]) rfl <| r_tmp (v := aB) rfl <| r_nil <| fin_gen [] rfl rfl rfl lr st_nil
 ·
  refine w_skip <| e_kw <| w_sr <| mL rfl ?_
  obtain ⟨x5, hx5, h6⟩ := bind_s h1
  refine o_call (v := .box 0 0) (σ' := [aLIIB]) [] rfl (w_wire_Open hx5) rfl rfl ⟨lr, trivial⟩ st_nil rfl rfl rfl <| mL rfl ?_
  obtain ⟨x7, hx7, h8⟩ := bind_s h6
  refine o_call (v := .box 1 0) (σ' := [aLIIB, aBLI]) [] rfl (w_ref01xOpen hx7) rfl rfl ⟨lr, trivial⟩ st_nil rfl rfl rfl <| sV (v := .box 0 0) rfl <| sV (v := .box 1 0) rfl <| o_ek (fr' := [(0, aL), (3, .box 0 0), (4, .box 1 0)]) rfl rfl <| w_sr <| mV (v := .box 0 0) rfl ?_
  obtain ⟨x9, hx9, h10⟩ := bind_s h8
  refine o_call (v := .agg aIISSIIISLLSIIIIIIIIL) (σ' := [aLIIB, aBLI]) [0] rfl (w_command_Decode hx9) rfl rfl ⟨lr, trivial⟩ (st_c ⟨rfl, rfl, rfl, rfl, trivial⟩ st_nil) rfl rfl rfl <| mV (v := .box 1 0) rfl ?_
  obtain ⟨x11, hx11, h12⟩ := bind_s h10
  refine o_call (v := .agg aIISSIIISLLSIIIIIIIIL) (σ' := [aLIIB, aBLI]) [1] rfl (w_ref20xDecode hx11) rfl rfl ⟨lr, trivial⟩ (st_c ⟨rfl, rfl, rfl, trivial⟩ st_nil) rfl rfl rfl <| o_alloc (n := 2) (cs := [aI, aI, aS, aS, aI, aI, aI, aS, .nil, .nil, aS, aI, aI, aI, aI, aI, aI, aI, aI, .nil]) (σ' := [aLIIB, aBLI, [aI, aI, aS, aS, aI, aI, aI, aS, .nil, .nil, aS, aI, aI, aI, aI, aI, aI, aI, aI, .nil]]) tz29 rfl rfl rfl <| o_alloc (n := 3) (cs := [aI, aI, aS, aS, aI, aI, aI, aS, .nil, .nil, aS, aI, aI, aI, aI, aI, aI, aI, aI, .nil]) (σ' := [aLIIB, aBLI, [aI, aI, aS, aS, aI, aI, aI, aS, .nil, .nil, aS, aI, aI, aI, aI, aI, aI, aI, aI, .nil], [aI, aI, aS, aS, aI, aI, aI, aS, .nil, .nil, aS, aI, aI, aI, aI, aI, aI, aI, aI, .nil]]) tz29 rfl rfl rfl <| o_store (v := .agg aIISSIIISLLSIIIIIIIIL) (us := aIISSIIISLLSIIIIIIIIL) (cs := [aI, aI, aS, aS, aI, aI, aI, aS, .nil, .nil, aS, aI, aI, aI, aI, aI, aI, aI, aI, .nil]) (σ' := [aLIIB, aBLI, aIISSIIISLLSIIIIIIIIL, [aI, aI, aS, aS, aI, aI, aI, aS, .nil, .nil, aS, aI, aI, aI, aI, aI, aI, aI, aI, .nil]]) rfl tv29 rfl rfl rfl rfl rfl rfl rfl rfl <| o_store (v := .agg aIISSIIISLLSIIIIIIIIL) (us := aIISSIIISLLSIIIIIIIIL) (cs := [aI, aI, aS, aS, aI, aI, aI, aS, .nil, .nil, aS, aI, aI, aI, aI, aI, aI, aI, aI, .nil]) (σ' := [aLIIB, aBLI, aIISSIIISLLSIIIIIIIIL, aIISSIIISLLSIIIIIIIIL]) rfl tv29 rfl rfl rfl rfl rfl rfl rfl rfl <| o_ek (fr' := [(0, aL), (3, .box 0 0), (4, .box 1 0), (5, .box 2 0), (6, .box 3 0)]) rfl rfl ?_
  obtain ⟨x13, hx13, h14⟩ := bind_s h12
  refine w_join (fun j15 => x13 = Fl.go j15) (fun (j15 : Unit) => ([(0, .c (PV.ls 1 brow p0b))] : Fr)) (fun (j15 : Unit) => ([[.c (PV.ls 1 brow x9.2.b_), .c (.int .i64 x9.2.at_), .c (.int .i64 x9.2.err_), .c (.bool x9.2.made_)], [.c (.bool x11.2.Made), .c (PV.ls 1 brow x11.2.Rest), .c (.int .i64 x11.2.Bad)], [.c (.int .i64 x9.1.Kind), .c (.int .i64 x9.1.Seq), .c (.str x9.1.Name), .c (.str x9.1.Key), .c (.int .i64 x9.1.N), .c (.int .i64 x9.1.Data.Kind), .c (.int .i64 x9.1.Data.Int), .c (.str x9.1.Data.Text), .c (PV.ls 5 rowApiValue x9.1.Data.Items), .c (PV.ls 1 rowS x9.1.Data.Keys), .c (.str x9.1.Opts.Queue), .c (.int .i64 x9.1.Opts.ToStart), .c (.int .i64 x9.1.Opts.ToClose), .c (.int .i64 x9.1.Opts.Total), .c (.int .i64 x9.1.Opts.Beat), .c (.int .i64 x9.1.Opts.First), .c (.int .i64 x9.1.Opts.Coef), .c (.int .i64 x9.1.Opts.Most), .c (.int .i64 x9.1.Opts.Attempts), .c (PV.ls 1 rowS x9.1.Opts.Fatal)], [.c (.int .i64 x11.1.Kind), .c (.int .i64 x11.1.Seq), .c (.str x11.1.Name), .c (.str x11.1.Key), .c (.int .i64 x11.1.N), .c (.int .i64 x11.1.Data.Kind), .c (.int .i64 x11.1.Data.Int), .c (.str x11.1.Data.Text), .c (PV.ls 5 rowApiValue x11.1.Data.Items), .c (PV.ls 1 rowS x11.1.Data.Keys), .c (.str x11.1.Opts.Queue), .c (.int .i64 x11.1.Opts.ToStart), .c (.int .i64 x11.1.Opts.ToClose), .c (.int .i64 x11.1.Opts.Total), .c (.int .i64 x11.1.Opts.Beat), .c (.int .i64 x11.1.Opts.First), .c (.int .i64 x11.1.Opts.Coef), .c (.int .i64 x11.1.Opts.Most), .c (.int .i64 x11.1.Opts.Attempts), .c (PV.ls 1 rowS x11.1.Opts.Fatal)]] : St)) ?_ ?_
  ·
   refine w_sr <| o_p rfl (p_loads (us := aIISSIIISLLSIIIIIIIIL) tv29 rfl rfl rfl rfl) <| o_p rfl (p_loads (us := aIISSIIISLLSIIIIIIIIL) tv29 rfl rfl rfl rfl) ?_
   obtain ⟨x16, hx16, h17⟩ := bind_s hx13
   refine o_v (ov_call (v := aB) rfl (w_ref20xSame hx16) ⟨(le_aggc rfl ⟨rfl, rfl, rfl, rfl, rfl, rfl, rfl, rfl, rfl, rfl, rfl, rfl, rfl, rfl, rfl, rfl, rfl, rfl, rfl, rfl, trivial⟩), (le_aggc rfl ⟨rfl, rfl, rfl, rfl, rfl, rfl, rfl, rfl, rfl, rfl, rfl, rfl, rfl, rfl, rfl, rfl, rfl, rfl, rfl, rfl, trivial⟩), trivial⟩ rfl rfl rfl) <| o_p rfl (p_not rfl) <| mB rfl <| r_ch h17 (fun hb18 h18 => ?_) (fun hb18 h18 => ?_)
   ·
    refine o_no rfl rfl hb18 <| o_no rfl rfl hb18 <| o_no rfl rfl hb18 <| o_no rfl rfl hb18 <| o_no rfl rfl hb18 <| o_p rfl (p_pick_t rfl hb18 rfl) <| mB rfl <| o_no rfl rfl rfl <| o_no rfl rfl rfl <| o_no rfl rfl rfl <| o_no rfl rfl rfl <| o_no rfl rfl rfl <| o_p rfl (p_pick_t rfl rfl rfl) ?_
    refine o_ek (fr' := [(0, aL), (38, aB)]) rfl rfl <| w_cond_t rfl <| w_sr <| sB rfl <| o_ek (fr' := [(2, aB)]) rfl rfl <| w_ret <| e_seq_r ?_
    have h19 := un_done h18 h14
    obtain rfl := sy h19
    exact e_ret (rs' := [.tmp 2]) rfl <| r_tmp (v := aB) rfl <| r_nil <| fin_gen [] rfl rfl rfl lr st_nil
   ·
    refine o_yes rfl rfl hb18 <| mV (v := .box 0 0) rfl <| o_yes rfl rfl hb18 ?_
    obtain ⟨x21, hx21, h22⟩ := bind_s h18
    refine o_call (v := aI) (σ' := [aLIIB, aBLI, aIISSIIISLLSIIIIIIIIL, aIISSIIISLLSIIIIIIIIL]) [0] rfl (w_wire_Reader_Err hx21) rfl rfl ⟨lr, trivial⟩ (st_c ⟨rfl, rfl, rfl, rfl, trivial⟩ st_nil) rfl rfl rfl <| o_yes rfl rfl hb18 <| mV (v := .box 1 0) rfl <| o_yes rfl rfl hb18 ?_
    obtain ⟨x23, hx23, h24⟩ := bind_s h22
    refine o_call (v := aI) (σ' := [aLIIB, aBLI, aIISSIIISLLSIIIIIIIIL, aIISSIIISLLSIIIIIIIIL]) [1] rfl (w_ref01xReader_Err hx23) rfl rfl ⟨lr, trivial⟩ (st_c ⟨rfl, rfl, rfl, trivial⟩ st_nil) rfl rfl rfl <| o_yes rfl rfl hb18 <| o_p rfl (p_neq rfl rfl) <| o_p rfl (p_pick_f rfl hb18 rfl) <| mB rfl <| r_ch h24 (fun hb25 h25 => ?_) (fun hb25 h25 => ?_)
    ·
     refine o_no rfl rfl hb25 <| o_no rfl rfl hb25 <| o_no rfl rfl hb25 <| o_no rfl rfl hb25 <| o_no rfl rfl hb25 <| o_p rfl (p_pick_t rfl hb25 rfl) <| o_ek (fr' := [(0, aL), (38, aB)]) rfl rfl <| w_cond_t rfl <| w_sr <| sB rfl <| o_ek (fr' := [(2, aB)]) rfl rfl <| w_ret ?_
     refine e_seq_r ?_
     have h26 := un_done h25 h14
     obtain rfl := sy h26
     exact e_ret (rs' := [.tmp 2]) rfl <| r_tmp (v := aB) rfl <| r_nil <| fin_gen [] rfl rfl rfl lr st_nil
    ·
     refine o_yes rfl rfl hb25 <| mV (v := .box 0 0) rfl <| o_yes rfl rfl hb25 ?_
     obtain ⟨x28, hx28, h29⟩ := bind_s h25
     refine o_call (v := aI) (σ' := [aLIIB, aBLI, aIISSIIISLLSIIIIIIIIL, aIISSIIISLLSIIIIIIIIL]) [0] rfl (w_wire_Reader_Left hx28) rfl rfl ⟨lr, trivial⟩ (st_c ⟨rfl, rfl, rfl, rfl, trivial⟩ st_nil) rfl rfl rfl <| o_yes rfl rfl hb25 <| mV (v := .box 1 0) rfl <| o_yes rfl rfl hb25 ?_
     obtain ⟨x30, hx30, h31⟩ := bind_s h29
     refine o_call (v := aI) (σ' := [aLIIB, aBLI, aIISSIIISLLSIIIIIIIIL, aIISSIIISLLSIIIIIIIIL]) [1] rfl (w_ref01xReader_Left hx30) rfl rfl ⟨lr, trivial⟩ (st_c ⟨rfl, rfl, rfl, trivial⟩ st_nil) rfl rfl rfl <| o_yes rfl rfl hb25 <| o_p rfl (p_neq rfl rfl) <| o_p rfl (p_pick_f rfl hb25 rfl) <| o_ek (fr' := [(0, aL), (38, aB)]) rfl rfl <| w_ch h31 rfl (fun hb32 h32 => ?_) (fun hb32 h32 => ?_)
     ·
      refine w_sr <| sB rfl <| o_ek (fr' := [(2, aB)]) rfl rfl <| w_ret <| e_seq_r ?_
      have h33 := un_done h32 h14
      obtain rfl := sy h33
      exact e_ret (rs' := [.tmp 2]) rfl <| r_tmp (v := aB) rfl <| r_nil <| fin_gen [] rfl rfl rfl lr st_nil
     ·
      exact w_skip <| e_j _ (sy h32) (w_weak [] 4 rfl rfl rfl rfl ⟨lr, trivial⟩ (st_r rfl (st_r rfl (st_r rfl (st_r rfl st_nil)))))
  ·
   intro j15 hj35
   have h35 := un_go hj35 h14
   refine w_sr <| mL rfl ?_
   obtain ⟨x36, hx36, h37⟩ := bind_s h35
   refine o_call (v := .box 4 0) (σ' := [aLIIB, aBLI, aIISSIIISLLSIIIIIIIIL, aIISSIIISLLSIIIIIIIIL, aLIIB]) [] rfl (w_wire_Open hx36) rfl rfl ⟨lr, trivial⟩ st_nil rfl rfl rfl <| mL rfl ?_
   obtain ⟨x38, hx38, h39⟩ := bind_s h37
   refine o_call (v := .box 5 0) (σ' := [aLIIB, aBLI, aIISSIIISLLSIIIIIIIIL, aIISSIIISLLSIIIIIIIIL, aLIIB, aBLI]) [] rfl (w_ref01xOpen hx38) rfl rfl ⟨lr, trivial⟩ st_nil rfl rfl rfl <| sV (v := .box 4 0) rfl <| sV (v := .box 5 0) rfl <| o_ek (fr' := [(3, .box 4 0), (4, .box 5 0)]) rfl rfl <| w_sr <| mV (v := .box 4 0) rfl ?_
   obtain ⟨x40, hx40, h41⟩ := bind_s h39
   refine o_call (v := .agg aSIIIIIIIIL) (σ' := [aLIIB, aBLI, aIISSIIISLLSIIIIIIIIL, aIISSIIISLLSIIIIIIIIL, aLIIB, aBLI]) [4] rfl (w_command_DecodePolicy hx40) rfl rfl ⟨lr, trivial⟩ (st_c ⟨rfl, rfl, rfl, rfl, trivial⟩ st_nil) rfl rfl rfl <| mV (v := .box 5 0) rfl ?_
   obtain ⟨x42, hx42, h43⟩ := bind_s h41
   refine o_call (v := .agg aSIIIIIIIIL) (σ' := [aLIIB, aBLI, aIISSIIISLLSIIIIIIIIL, aIISSIIISLLSIIIIIIIIL, aLIIB, aBLI]) [5] rfl (w_ref20xDecodePolicy hx42) rfl rfl ⟨lr, trivial⟩ (st_c ⟨rfl, rfl, rfl, trivial⟩ st_nil) rfl rfl rfl <| o_alloc (n := 6) (cs := [aS, aI, aI, aI, aI, aI, aI, aI, aI, .nil]) (σ' := [aLIIB, aBLI, aIISSIIISLLSIIIIIIIIL, aIISSIIISLLSIIIIIIIIL, aLIIB, aBLI, [aS, aI, aI, aI, aI, aI, aI, aI, aI, .nil]]) tz27 rfl rfl rfl <| o_alloc (n := 7) (cs := [aS, aI, aI, aI, aI, aI, aI, aI, aI, .nil]) (σ' := [aLIIB, aBLI, aIISSIIISLLSIIIIIIIIL, aIISSIIISLLSIIIIIIIIL, aLIIB, aBLI, [aS, aI, aI, aI, aI, aI, aI, aI, aI, .nil], [aS, aI, aI, aI, aI, aI, aI, aI, aI, .nil]]) tz27 rfl rfl rfl <| o_store (v := .agg aSIIIIIIIIL) (us := aSIIIIIIIIL) (cs := [aS, aI, aI, aI, aI, aI, aI, aI, aI, .nil]) (σ' := [aLIIB, aBLI, aIISSIIISLLSIIIIIIIIL, aIISSIIISLLSIIIIIIIIL, aLIIB, aBLI, aSIIIIIIIIL, [aS, aI, aI, aI, aI, aI, aI, aI, aI, .nil]]) rfl tv27 rfl rfl rfl rfl rfl rfl rfl rfl <| o_store (v := .agg aSIIIIIIIIL) (us := aSIIIIIIIIL) (cs := [aS, aI, aI, aI, aI, aI, aI, aI, aI, .nil]) (σ' := [aLIIB, aBLI, aIISSIIISLLSIIIIIIIIL, aIISSIIISLLSIIIIIIIIL, aLIIB, aBLI, aSIIIIIIIIL, aSIIIIIIIIL]) rfl tv27 rfl rfl rfl rfl rfl rfl rfl rfl <| o_ek (fr' := [(3, .box 4 0), (4, .box 5 0), (7, .box 6 0), (8, .box 7 0)]) rfl rfl <| w_sr <| o_p rfl (p_loads (us := aSIIIIIIIIL) tv27 rfl rfl rfl rfl) <| o_p rfl (p_loads (us := aSIIIIIIIIL) tv27 rfl rfl rfl rfl) ?_
   obtain ⟨x44, hx44, h45⟩ := bind_s h43
   refine o_v (ov_call (v := aB) rfl (w_ref20xSamePolicy hx44) ⟨(le_aggc rfl ⟨rfl, rfl, rfl, rfl, rfl, rfl, rfl, rfl, rfl, rfl, trivial⟩), (le_aggc rfl ⟨rfl, rfl, rfl, rfl, rfl, rfl, rfl, rfl, rfl, rfl, trivial⟩), trivial⟩ rfl rfl rfl) <| mB rfl <| r_ch h45 (fun hb46 h46 => ?_) (fun hb46 h46 => ?_)
   ·
    refine o_yes rfl rfl hb46 <| mV (v := .box 4 0) rfl <| o_yes rfl rfl hb46 ?_
    obtain ⟨x47, hx47, h48⟩ := bind_s h46
    refine o_call (v := aI) (σ' := [aLIIB, aBLI, aIISSIIISLLSIIIIIIIIL, aIISSIIISLLSIIIIIIIIL, aLIIB, aBLI, aSIIIIIIIIL, aSIIIIIIIIL]) [4] rfl (w_wire_Reader_Err hx47) rfl rfl ⟨lr, trivial⟩ (st_c ⟨rfl, rfl, rfl, rfl, trivial⟩ st_nil) rfl rfl rfl <| o_yes rfl rfl hb46 <| mV (v := .box 5 0) rfl <| o_yes rfl rfl hb46 ?_
    obtain ⟨x49, hx49, h50⟩ := bind_s h48
    refine o_call (v := aI) (σ' := [aLIIB, aBLI, aIISSIIISLLSIIIIIIIIL, aIISSIIISLLSIIIIIIIIL, aLIIB, aBLI, aSIIIIIIIIL, aSIIIIIIIIL]) [5] rfl (w_ref01xReader_Err hx49) rfl rfl ⟨lr, trivial⟩ (st_c ⟨rfl, rfl, rfl, trivial⟩ st_nil) rfl rfl rfl <| o_yes rfl rfl hb46 <| o_p rfl (p_eql rfl rfl) <| o_p rfl (p_pick_t rfl hb46 rfl) <| mB rfl <| r_ch h50 (fun hb51 h51 => ?_) (fun hb51 h51 => ?_)
    ·
     refine o_yes rfl rfl hb51 <| mV (v := .box 4 0) rfl <| o_yes rfl rfl hb51 ?_
     obtain ⟨x52, hx52, h53⟩ := bind_s h51
     refine o_call (v := aI) (σ' := [aLIIB, aBLI, aIISSIIISLLSIIIIIIIIL, aIISSIIISLLSIIIIIIIIL, aLIIB, aBLI, aSIIIIIIIIL, aSIIIIIIIIL]) [4] rfl (w_wire_Reader_Left hx52) rfl rfl ⟨lr, trivial⟩ (st_c ⟨rfl, rfl, rfl, rfl, trivial⟩ st_nil) rfl rfl rfl <| o_yes rfl rfl hb51 <| mV (v := .box 5 0) rfl <| o_yes rfl rfl hb51 ?_
     obtain ⟨x54, hx54, h55⟩ := bind_s h53
     refine o_call (v := aI) (σ' := [aLIIB, aBLI, aIISSIIISLLSIIIIIIIIL, aIISSIIISLLSIIIIIIIIL, aLIIB, aBLI, aSIIIIIIIIL, aSIIIIIIIIL]) [5] rfl (w_ref01xReader_Left hx54) rfl rfl ⟨lr, trivial⟩ (st_c ⟨rfl, rfl, rfl, trivial⟩ st_nil) rfl rfl rfl <| o_yes rfl rfl hb51 <| o_p rfl (p_eql rfl rfl) <| o_p rfl (p_pick_t rfl hb51 rfl) <| mB rfl <| r_ch h55 (fun hb56 h56 => ?_) (fun hb56 h56 => ?_)
     ·
      refine o_yes rfl rfl hb56 ?_
      obtain ⟨x57, hx57, h58⟩ := bind_s h56
      refine o_v (ov_call (v := .agg aIISSIIISLLSIIIIIIIIL) rfl (w_command_Decode_nil hx57) ⟨lr, trivial⟩ rfl rfl rfl) <| o_yes rfl rfl hb56 <| o_p rfl (p_buildc (c0 := [aI, aI, aS, aS, aI, aI, aI, aS, .nil, .nil, aS, aI, aI, aI, aI, aI, aI, aI, aI, .nil]) (cs := [aI, aI, aS, aS, aI, aI, aI, aS, .nil, .nil, aS, aI, aI, aI, aI, aI, aI, aI, aI, .nil]) tb29 rfl fill_nil) <| o_yes rfl rfl hb56 ?_
      obtain ⟨x59, hx59, h60⟩ := bind_s h58
      refine o_v (ov_call (v := aB) rfl (w_ref20xSame hx59) ⟨(le_aggc rfl ⟨rfl, rfl, rfl, rfl, rfl, rfl, rfl, rfl, rfl, rfl, rfl, rfl, rfl, rfl, rfl, rfl, rfl, rfl, rfl, rfl, trivial⟩), (le_aggc rfl ⟨rfl, rfl, rfl, rfl, rfl, rfl, rfl, rfl, ⟨_, rfl⟩, ⟨_, rfl⟩, rfl, rfl, rfl, rfl, rfl, rfl, rfl, rfl, rfl, ⟨_, rfl⟩, trivial⟩), trivial⟩ rfl rfl rfl) <| o_p rfl (p_pick_t rfl hb56 rfl) <| mB rfl <| r_ch h60 (fun hb61 h61 => ?_) (fun hb61 h61 => ?_)
      ·
       refine o_yes rfl rfl hb61 ?_
       obtain ⟨x62, hx62, h63⟩ := bind_s h61
       refine o_v (ov_call (v := aB) rfl (w_law20xworks hx62) trivial rfl rfl rfl) <| o_p rfl (p_pick_t rfl hb61 rfl) <| sB rfl <| o_ek (fr' := [(2, aB)]) rfl rfl <| w_ret ?_
       obtain rfl := sy h63
       exact e_ret (rs' := [.tmp 2]) rfl <| r_tmp (v := aB) rfl <| r_nil <| fin_gen [] rfl rfl rfl lr st_nil
      ·
       refine o_no rfl rfl hb61 <| o_p rfl (p_pick_f rfl hb61 rfl) <| sB rfl <| o_ek (fr' := [(2, aB)]) rfl rfl <| w_ret ?_
       obtain rfl := sy h61
       exact e_ret (rs' := [.tmp 2]) rfl <| r_tmp (v := aB) rfl <| r_nil <| fin_gen [] rfl rfl rfl lr st_nil
     ·
      refine o_no rfl rfl hb56 <| o_no rfl rfl hb56 <| o_no rfl rfl hb56 <| o_p rfl (p_pick_f rfl hb56 rfl) <| mB rfl <| o_no rfl rfl rfl <| o_p rfl (p_pick_f rfl rfl rfl) <| sB rfl <| o_ek (fr' := [(2, aB)]) rfl rfl <| w_ret ?_
      obtain rfl := sy h56
      exact e_ret (rs' := [.tmp 2]) rfl <| r_tmp (v := aB) rfl <| r_nil <| fin_gen [] rfl rfl rfl lr st_nil
    ·
     refine o_no rfl rfl hb51 <| o_no rfl rfl hb51 <| o_no rfl rfl hb51 <| o_no rfl rfl hb51 <| o_no rfl rfl hb51 <| o_p rfl (p_pick_f rfl hb51 rfl) <| mB rfl <| o_no rfl rfl rfl <| o_no rfl rfl rfl <| o_no rfl rfl rfl <| o_p rfl (p_pick_f rfl rfl rfl) <| mB rfl <| o_no rfl rfl rfl ?_
     refine o_p rfl (p_pick_f rfl rfl rfl) <| sB rfl <| o_ek (fr' := [(2, aB)]) rfl rfl <| w_ret ?_
     obtain rfl := sy h51
     exact e_ret (rs' := [.tmp 2]) rfl <| r_tmp (v := aB) rfl <| r_nil <| fin_gen [] rfl rfl rfl lr st_nil
   ·
    refine o_no rfl rfl hb46 <| o_no rfl rfl hb46 <| o_no rfl rfl hb46 <| o_no rfl rfl hb46 <| o_no rfl rfl hb46 <| o_p rfl (p_pick_f rfl hb46 rfl) <| mB rfl <| o_no rfl rfl rfl <| o_no rfl rfl rfl <| o_no rfl rfl rfl <| o_no rfl rfl rfl <| o_no rfl rfl rfl <| o_p rfl (p_pick_f rfl rfl rfl) ?_
    refine mB rfl <| o_no rfl rfl rfl <| o_no rfl rfl rfl <| o_no rfl rfl rfl <| o_p rfl (p_pick_f rfl rfl rfl) <| mB rfl <| o_no rfl rfl rfl <| o_p rfl (p_pick_f rfl rfl rfl) <| sB rfl <| o_ek (fr' := [(2, aB)]) rfl rfl <| w_ret ?_
    obtain rfl := sy h46
    exact e_ret (rs' := [.tmp 2]) rfl <| r_tmp (v := aB) rfl <| r_nil <| fin_gen [] rfl rfl rfl lr st_nil
end Go.Proofs.Ytmnobgopfnhbnaa

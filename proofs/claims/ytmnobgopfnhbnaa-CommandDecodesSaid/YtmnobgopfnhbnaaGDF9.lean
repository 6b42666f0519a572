import Derived.Test.YtmnobgopfnhbnaaGDTy
import Derived.Test.YtmnobgopfnhbnaaGDF3
import Derived.Test.YtmnobgopfnhbnaaGDF6
import Derived.Test.YtmnobgopfnhbnaaGDF8
namespace Go.Proofs.Ytmnobgopfnhbnaa
open Go Abs
set_option maxRecDepth 100000
set_option linter.unusedVariables false
set_option linter.unusedSimpArgs false
noncomputable def ref20xDecodePolicy_l1 (x19 : (Int × Ref01Reader)) (s33 : (Int × Ref01Reader × (List (List UInt8)))) : Option (Step (Int × Ref01Reader × (List (List UInt8))) (Ref01Reader × (List (List UInt8)))) :=
 ((cond (decide (s33.1 < x19.1)) ((ref01xReader_Err s33.2.1).bind fun (x38 : Int) => cond (decide (x38 = (0 : Int))) (some (Fl.go ())) (some (Fl.done (Step.out (s33.2.1, s33.2.2))))) (some (Fl.done (Step.out (s33.2.1, s33.2.2))))) : Option (Fl (Step (Int × Ref01Reader × (List (List UInt8))) (Ref01Reader × (List (List UInt8)))) Unit)).bind fun (x34 : (Fl (Step (Int × Ref01Reader × (List (List UInt8))) (Ref01Reader × (List (List UInt8)))) Unit)) => Fl.next x34 (fun (j36 : Unit) => ((ref01xReader_Text (4096 : Int) s33.2.1).bind fun (x46 : ((List UInt8) × Ref01Reader)) => (app 16 s33.2.2 ([x46.1] : List (List UInt8))).bind fun (x48 : (List (List UInt8))) => some (Step.next ((IntKind.wrap .i64 (s33.1 + (1 : Int))), x46.2, x48))))
noncomputable def ref20xDecodePolicy (p100v : Ref01Reader) : Option (ApiPolicy × Ref01Reader) :=
 (ref01xReader_Text (4096 : Int) p100v).bind fun (x1 : ((List UInt8) × Ref01Reader)) => (ref20xread x1.2).bind fun (x3 : (Int × Ref01Reader)) => (ref20xread x3.2).bind fun (x5 : (Int × Ref01Reader)) => (ref20xread x5.2).bind fun (x7 : (Int × Ref01Reader)) => (ref20xread x7.2).bind fun (x9 : (Int × Ref01Reader)) => (ref20xread x9.2).bind fun (x11 : (Int × Ref01Reader)) => (ref20xread x11.2).bind fun (x13 : (Int × Ref01Reader)) => (ref20xread x13.2).bind fun (x15 : (Int × Ref01Reader)) => (ref20xread x15.2).bind fun (x17 : (Int × Ref01Reader)) => (ref20xread x17.2).bind fun (x19 : (Int × Ref01Reader)) => (((ref20xin x19.1 (0 : Int) (64 : Int)).bind fun (x24 : Bool) => cond (!x24) ((ref01xReader_Fail (3 : Int) x19.2).bind fun (x27 : Ref01Reader) => some x27) (some x19.2)) : Option Ref01Reader).bind fun (x21 : Ref01Reader) => (((loopO (ref20xDecodePolicy_l1 x19) (((0 : Int), x21, ([] : (List (List UInt8)))))) : Option (Ref01Reader × (List (List UInt8)))).bind fun (x30 : (Ref01Reader × (List (List UInt8)))) => ((((ref20xRightPolicy (ApiPolicy.mk x1.1 x3.1 x5.1 x7.1 x9.1 x11.1 x13.1 x15.1 x17.1 x30.2)).bind fun (x54 : Bool) => cond (!x54) ((ref01xReader_Fail (3 : Int) x30.1).bind fun (x57 : Ref01Reader) => some x57) (some x30.1)) : Option Ref01Reader).bind fun (x51 : Ref01Reader) => ((ref01xReader_Err x51).bind fun (x60 : Int) => cond (!decide (x60 = (0 : Int))) (some ((ApiPolicy.mk ([] : List UInt8) (0 : Int) (0 : Int) (0 : Int) (0 : Int) (0 : Int) (0 : Int) (0 : Int) (0 : Int) ([] : (List (List UInt8)))), x51)) (some ((ApiPolicy.mk x1.1 x3.1 x5.1 x7.1 x9.1 x11.1 x13.1 x15.1 x17.1 x30.2), x51)))))
theorem w_ref20xDecodePolicy {p100v : Ref01Reader} {res : (ApiPolicy × Ref01Reader)} (h : ref20xDecodePolicy p100v = some res) : ACalls Try.prog 32 [.box 0 0] [AV.cs (rowRef01Reader p100v)] (.agg (AV.cs (rowApiPolicy res.1))) [AV.cs (rowRef01Reader res.2)] := by
 unfold ref20xDecodePolicy at h
 refine acalls (fn := Try.f32) [0, 2, 3, 4, 5, 37, 47, 59, 64] (by kernel_rfl) Try.func32 rfl (by kernel_rfl) (by kernel_rfl) <| w_sr <| o_alloc (n := 1) (cs := [aS, aI, aI, aI, aI, aI, aI, aI, aI, .nil]) (σ' := [aBLI, [aS, aI, aI, aI, aI, aI, aI, aI, aI, .nil]]) tz27 rfl rfl rfl <| o_ek (fr' := [(0, .box 0 0), (2, .box 1 0)]) rfl rfl <| w_sr <| mV (v := .box 0 0) rfl ?_
 obtain ⟨x1, hx1, h2⟩ := bind_s h
 refine o_call (v := aS) (σ' := [aBLI, [aS, aI, aI, aI, aI, aI, aI, aI, aI, .nil]]) [0] rfl (w_ref01xReader_Text hx1) rfl rfl ⟨lr, lr, trivial⟩ (st_c ⟨rfl, rfl, rfl, trivial⟩ st_nil) rfl rfl rfl <| o_p rfl (p_buildc (c0 := [aS, aI, aI, aI, aI, aI, aI, aI, aI, .nil]) (cs := [aS, aI, aI, aI, aI, aI, aI, aI, aI, .nil]) tb27 rfl (fill_cons (v := aS) (us := [_]) (cs' := u10) rfl rfl rfl rfl rfl rfl fill_nil)) <| o_alloc (n := 2) (cs := [aS, aI, aI, aI, aI, aI, aI, aI, aI, .nil]) (σ' := [aBLI, [aS, aI, aI, aI, aI, aI, aI, aI, aI, .nil], [aS, aI, aI, aI, aI, aI, aI, aI, aI, .nil]]) tz27 rfl rfl rfl <| o_store (v := .agg [aS, aI, aI, aI, aI, aI, aI, aI, aI, .nil]) (us := [aS, aI, aI, aI, aI, aI, aI, aI, aI, .nil]) (cs := [aS, aI, aI, aI, aI, aI, aI, aI, aI, .nil]) (σ' := [aBLI, [aS, aI, aI, aI, aI, aI, aI, aI, aI, .nil], [aS, aI, aI, aI, aI, aI, aI, aI, aI, .nil]]) rfl tv27 rfl rfl rfl rfl rfl rfl rfl rfl <| o_ek (fr' := [(0, .box 0 0), (2, .box 1 0), (3, .box 2 0)]) rfl rfl <| w_sr <| mV (v := .box 0 0) rfl ?_
 obtain ⟨x3, hx3, h4⟩ := bind_s h2
 refine o_call (v := aI) (σ' := [aBLI, [aS, aI, aI, aI, aI, aI, aI, aI, aI, .nil], [aS, aI, aI, aI, aI, aI, aI, aI, aI, .nil]]) [0] rfl (w_ref20xread hx3) rfl rfl ⟨lr, trivial⟩ (st_c ⟨rfl, rfl, rfl, trivial⟩ st_nil) rfl rfl rfl <| o_p rfl (p_fa tf27x1 rfl) <| o_store (v := aI) (us := [aI]) (cs := [aS, aI, aI, aI, aI, aI, aI, aI, aI, .nil]) (σ' := [aBLI, [aS, aI, aI, aI, aI, aI, aI, aI, aI, .nil], [aS, aI, aI, aI, aI, aI, aI, aI, aI, .nil]]) rfl tv3 rfl rfl rfl rfl rfl rfl rfl rfl <| o_ek (fr' := [(0, .box 0 0), (2, .box 1 0), (3, .box 2 0)]) rfl rfl <| w_sr <| mV (v := .box 0 0) rfl ?_
 obtain ⟨x5, hx5, h6⟩ := bind_s h4
 refine o_call (v := aI) (σ' := [aBLI, [aS, aI, aI, aI, aI, aI, aI, aI, aI, .nil], [aS, aI, aI, aI, aI, aI, aI, aI, aI, .nil]]) [0] rfl (w_ref20xread hx5) rfl rfl ⟨lr, trivial⟩ (st_c ⟨rfl, rfl, rfl, trivial⟩ st_nil) rfl rfl rfl <| o_p rfl (p_fa tf27x2 rfl) <| o_store (v := aI) (us := [aI]) (cs := [aS, aI, aI, aI, aI, aI, aI, aI, aI, .nil]) (σ' := [aBLI, [aS, aI, aI, aI, aI, aI, aI, aI, aI, .nil], [aS, aI, aI, aI, aI, aI, aI, aI, aI, .nil]]) rfl tv3 rfl rfl rfl rfl rfl rfl rfl rfl <| o_ek (fr' := [(0, .box 0 0), (2, .box 1 0), (3, .box 2 0)]) rfl rfl <| w_sr <| mV (v := .box 0 0) rfl ?_
 obtain ⟨x7, hx7, h8⟩ := bind_s h6
 refine o_call (v := aI) (σ' := [aBLI, [aS, aI, aI, aI, aI, aI, aI, aI, aI, .nil], [aS, aI, aI, aI, aI, aI, aI, aI, aI, .nil]]) [0] rfl (w_ref20xread hx7) rfl rfl ⟨lr, trivial⟩ (st_c ⟨rfl, rfl, rfl, trivial⟩ st_nil) rfl rfl rfl <| o_p rfl (p_fa tf27x3 rfl) <| o_store (v := aI) (us := [aI]) (cs := [aS, aI, aI, aI, aI, aI, aI, aI, aI, .nil]) (σ' := [aBLI, [aS, aI, aI, aI, aI, aI, aI, aI, aI, .nil], [aS, aI, aI, aI, aI, aI, aI, aI, aI, .nil]]) rfl tv3 rfl rfl rfl rfl rfl rfl rfl rfl <| o_ek (fr' := [(0, .box 0 0), (2, .box 1 0), (3, .box 2 0)]) rfl rfl <| w_sr <| mV (v := .box 0 0) rfl ?_
 obtain ⟨x9, hx9, h10⟩ := bind_s h8
 refine o_call (v := aI) (σ' := [aBLI, [aS, aI, aI, aI, aI, aI, aI, aI, aI, .nil], [aS, aI, aI, aI, aI, aI, aI, aI, aI, .nil]]) [0] rfl (w_ref20xread hx9) rfl rfl ⟨lr, trivial⟩ (st_c ⟨rfl, rfl, rfl, trivial⟩ st_nil) rfl rfl rfl <| o_p rfl (p_fa tf27x4 rfl) <| o_store (v := aI) (us := [aI]) (cs := [aS, aI, aI, aI, aI, aI, aI, aI, aI, .nil]) (σ' := [aBLI, [aS, aI, aI, aI, aI, aI, aI, aI, aI, .nil], [aS, aI, aI, aI, aI, aI, aI, aI, aI, .nil]]) rfl tv3 rfl rfl rfl rfl rfl rfl rfl rfl <| o_ek (fr' := [(0, .box 0 0), (2, .box 1 0), (3, .box 2 0)]) rfl rfl <| w_sr <| mV (v := .box 0 0) rfl ?_
 obtain ⟨x11, hx11, h12⟩ := bind_s h10
 refine o_call (v := aI) (σ' := [aBLI, [aS, aI, aI, aI, aI, aI, aI, aI, aI, .nil], [aS, aI, aI, aI, aI, aI, aI, aI, aI, .nil]]) [0] rfl (w_ref20xread hx11) rfl rfl ⟨lr, trivial⟩ (st_c ⟨rfl, rfl, rfl, trivial⟩ st_nil) rfl rfl rfl <| o_p rfl (p_fa tf27x5 rfl) <| o_store (v := aI) (us := [aI]) (cs := [aS, aI, aI, aI, aI, aI, aI, aI, aI, .nil]) (σ' := [aBLI, [aS, aI, aI, aI, aI, aI, aI, aI, aI, .nil], [aS, aI, aI, aI, aI, aI, aI, aI, aI, .nil]]) rfl tv3 rfl rfl rfl rfl rfl rfl rfl rfl <| o_ek (fr' := [(0, .box 0 0), (2, .box 1 0), (3, .box 2 0)]) rfl rfl <| w_sr <| mV (v := .box 0 0) rfl ?_
 obtain ⟨x13, hx13, h14⟩ := bind_s h12
 refine o_call (v := aI) (σ' := [aBLI, [aS, aI, aI, aI, aI, aI, aI, aI, aI, .nil], [aS, aI, aI, aI, aI, aI, aI, aI, aI, .nil]]) [0] rfl (w_ref20xread hx13) rfl rfl ⟨lr, trivial⟩ (st_c ⟨rfl, rfl, rfl, trivial⟩ st_nil) rfl rfl rfl <| o_p rfl (p_fa tf27x6 rfl) <| o_store (v := aI) (us := [aI]) (cs := [aS, aI, aI, aI, aI, aI, aI, aI, aI, .nil]) (σ' := [aBLI, [aS, aI, aI, aI, aI, aI, aI, aI, aI, .nil], [aS, aI, aI, aI, aI, aI, aI, aI, aI, .nil]]) rfl tv3 rfl rfl rfl rfl rfl rfl rfl rfl <| o_ek (fr' := [(0, .box 0 0), (2, .box 1 0), (3, .box 2 0)]) rfl rfl <| w_sr <| mV (v := .box 0 0) rfl ?_
 obtain ⟨x15, hx15, h16⟩ := bind_s h14
 refine o_call (v := aI) (σ' := [aBLI, [aS, aI, aI, aI, aI, aI, aI, aI, aI, .nil], [aS, aI, aI, aI, aI, aI, aI, aI, aI, .nil]]) [0] rfl (w_ref20xread hx15) rfl rfl ⟨lr, trivial⟩ (st_c ⟨rfl, rfl, rfl, trivial⟩ st_nil) rfl rfl rfl <| o_p rfl (p_fa tf27x7 rfl) <| o_store (v := aI) (us := [aI]) (cs := [aS, aI, aI, aI, aI, aI, aI, aI, aI, .nil]) (σ' := [aBLI, [aS, aI, aI, aI, aI, aI, aI, aI, aI, .nil], [aS, aI, aI, aI, aI, aI, aI, aI, aI, .nil]]) rfl tv3 rfl rfl rfl rfl rfl rfl rfl rfl <| o_ek (fr' := [(0, .box 0 0), (2, .box 1 0), (3, .box 2 0)]) rfl rfl <| w_sr <| mV (v := .box 0 0) rfl ?_
 obtain ⟨x17, hx17, h18⟩ := bind_s h16
 refine o_call (v := aI) (σ' := [aBLI, [aS, aI, aI, aI, aI, aI, aI, aI, aI, .nil], [aS, aI, aI, aI, aI, aI, aI, aI, aI, .nil]]) [0] rfl (w_ref20xread hx17) rfl rfl ⟨lr, trivial⟩ (st_c ⟨rfl, rfl, rfl, trivial⟩ st_nil) rfl rfl rfl <| o_p rfl (p_fa tf27x8 rfl) <| o_store (v := aI) (us := [aI]) (cs := [aS, aI, aI, aI, aI, aI, aI, aI, aI, .nil]) (σ' := [aBLI, [aS, aI, aI, aI, aI, aI, aI, aI, aI, .nil], [aS, aI, aI, aI, aI, aI, aI, aI, aI, .nil]]) rfl tv3 rfl rfl rfl rfl rfl rfl rfl rfl <| o_ek (fr' := [(0, .box 0 0), (2, .box 1 0), (3, .box 2 0)]) rfl rfl <| w_sr <| mV (v := .box 0 0) rfl ?_
 obtain ⟨x19, hx19, h20⟩ := bind_s h18
 refine o_call (v := aI) (σ' := [aBLI, [aS, aI, aI, aI, aI, aI, aI, aI, aI, .nil], [aS, aI, aI, aI, aI, aI, aI, aI, aI, .nil]]) [0] rfl (w_ref20xread hx19) rfl rfl ⟨lr, trivial⟩ (st_c ⟨rfl, rfl, rfl, trivial⟩ st_nil) rfl rfl rfl <| sI rfl <| o_ek (fr' := [(0, .box 0 0), (2, .box 1 0), (3, .box 2 0), (4, aI)]) rfl rfl ?_
 obtain ⟨x21, hx21, h22⟩ := bind_s h20
 refine w_join (fun j23 => x21 = j23) (fun (j23 : Ref01Reader) => ([(0, .box 0 0), (2, .box 1 0), (3, .box 2 0), (4, .c (.int .i64 x19.1))] : Fr)) (fun (j23 : Ref01Reader) => ([[.c (.bool j23.Made), .c (PV.ls 1 brow j23.Rest), .c (.int .i64 j23.Bad)], [.c (.str ([] : List UInt8)), .c (.int .i64 (0 : Int)), .c (.int .i64 (0 : Int)), .c (.int .i64 (0 : Int)), .c (.int .i64 (0 : Int)), .c (.int .i64 (0 : Int)), .c (.int .i64 (0 : Int)), .c (.int .i64 (0 : Int)), .c (.int .i64 (0 : Int)), .nil], [.c (.str x1.1), .c (.int .i64 x3.1), .c (.int .i64 x5.1), .c (.int .i64 x7.1), .c (.int .i64 x9.1), .c (.int .i64 x11.1), .c (.int .i64 x13.1), .c (.int .i64 x15.1), .c (.int .i64 x17.1), .nil]] : St)) ?_ ?_
 ·
  refine w_sr <| mI rfl ?_
  obtain ⟨x24, hx24, h25⟩ := bind_s hx21
  refine o_v (ov_call (v := aB) rfl (w_ref20xin hx24) ⟨lr, lr, lr, trivial⟩ rfl rfl rfl) <| o_p rfl (p_not rfl) <| o_ek (fr' := [(0, .box 0 0), (2, .box 1 0), (3, .box 2 0), (4, aI), (37, aB)]) rfl rfl <| w_ch h25 rfl (fun hb26 h26 => ?_) (fun hb26 h26 => ?_)
  ·
   refine w_region <| mV (v := .box 0 0) rfl ?_
   obtain ⟨x27, hx27, h28⟩ := bind_s h26
   exact o_call (v := _) (σ' := [aBLI, [aS, aI, aI, aI, aI, aI, aI, aI, aI, .nil], [aS, aI, aI, aI, aI, aI, aI, aI, aI, .nil]]) [0] rfl (w_ref01xReader_Fail hx27) rfl rfl ⟨lr, lr, trivial⟩ (st_c ⟨rfl, rfl, rfl, trivial⟩ st_nil) rfl rfl rfl <| o_end (fr' := [(0, .box 0 0), (2, .box 1 0), (3, .box 2 0), (4, aI), (37, aB)]) rfl <| e_j _ (sy h28) (w_weak [] 3 rfl rfl rfl rfl ⟨lr, lr, lr, lr, trivial⟩ (st_r rfl (st_r rfl (st_r rfl st_nil))))
  ·
   exact w_skip <| e_j _ (sy h26) (w_weak [] 3 rfl rfl rfl rfl ⟨lr, lr, lr, lr, trivial⟩ (st_r rfl (st_r rfl (st_r rfl st_nil))))
 ·
  intro j23 hj29
  subst hj29
  refine w_seqw <| w_sr <| sI rfl <| o_ek (fr' := [(0, .box 0 0), (2, .box 1 0), (3, .box 2 0), (4, aI), (5, aI)]) rfl rfl ?_
  obtain ⟨x30, hx30, h31⟩ := bind_s h22
  refine w_jtail cl_kw (fun j32 => x30 = j32) (fun (j32 : (Ref01Reader × (List (List UInt8)))) => ([(0, .box 0 0), (2, .box 1 0), (3, .box 2 0)] : Fr)) (fun (j32 : (Ref01Reader × (List (List UInt8)))) => ([[.c (.bool j32.1.Made), .c (PV.ls 1 brow j32.1.Rest), .c (.int .i64 j32.1.Bad)], [.c (.str ([] : List UInt8)), .c (.int .i64 (0 : Int)), .c (.int .i64 (0 : Int)), .c (.int .i64 (0 : Int)), .c (.int .i64 (0 : Int)), .c (.int .i64 (0 : Int)), .c (.int .i64 (0 : Int)), .c (.int .i64 (0 : Int)), .c (.int .i64 (0 : Int)), .nil], [.c (.str x1.1), .c (.int .i64 x3.1), .c (.int .i64 x5.1), .c (.int .i64 x7.1), .c (.int .i64 x9.1), .c (.int .i64 x11.1), .c (.int .i64 x13.1), .c (.int .i64 x15.1), .c (.int .i64 x17.1), AV.os 0 1 rowS j32.2]] : St)) ?_ ?_
  ·
   refine w_block <| w_loopo _ (fun (s33 : (Int × Ref01Reader × (List (List UInt8)))) => ([(0, .box 0 0), (2, .box 1 0), (3, .box 2 0), (4, .c (.int .i64 x19.1)), (5, .c (.int .i64 s33.1))] : Fr)) (fun (s33 : (Int × Ref01Reader × (List (List UInt8)))) => ([[.c (.bool s33.2.1.Made), .c (PV.ls 1 brow s33.2.1.Rest), .c (.int .i64 s33.2.1.Bad)], [.c (.str ([] : List UInt8)), .c (.int .i64 (0 : Int)), .c (.int .i64 (0 : Int)), .c (.int .i64 (0 : Int)), .c (.int .i64 (0 : Int)), .c (.int .i64 (0 : Int)), .c (.int .i64 (0 : Int)), .c (.int .i64 (0 : Int)), .c (.int .i64 (0 : Int)), .nil], [.c (.str x1.1), .c (.int .i64 x3.1), .c (.int .i64 x5.1), .c (.int .i64 x7.1), .c (.int .i64 x9.1), .c (.int .i64 x11.1), .c (.int .i64 x13.1), .c (.int .i64 x15.1), .c (.int .i64 x17.1), AV.os 0 1 rowS s33.2.2]] : St)) hx30 (w_weak [1000000] 3 rfl rfl rfl rfl ⟨lr, lr, lr, lr, lr, trivial⟩ (st_r rfl (st_r rfl (st_p ⟨lr, lr, lr, lr, lr, lr, lr, lr, lr, (le_nos rfl), trivial⟩ st_nil)))) ?_
   intro s33 st33 hs33 ho33
   unfold ref20xDecodePolicy_l1 at hs33
   obtain ⟨x34, hx34, h35⟩ := bind_s hs33
   refine w_join (fun j36 => x34 = Fl.go j36) (fun (j36 : Unit) => ([(0, .box 0 0), (2, .box 1 0), (3, .box 2 0), (4, .c (.int .i64 x19.1)), (5, .c (.int .i64 s33.1))] : Fr)) (fun (j36 : Unit) => ([[.c (.bool s33.2.1.Made), .c (PV.ls 1 brow s33.2.1.Rest), .c (.int .i64 s33.2.1.Bad)], [.c (.str ([] : List UInt8)), .c (.int .i64 (0 : Int)), .c (.int .i64 (0 : Int)), .c (.int .i64 (0 : Int)), .c (.int .i64 (0 : Int)), .c (.int .i64 (0 : Int)), .c (.int .i64 (0 : Int)), .c (.int .i64 (0 : Int)), .c (.int .i64 (0 : Int)), .nil], [.c (.str x1.1), .c (.int .i64 x3.1), .c (.int .i64 x5.1), .c (.int .i64 x7.1), .c (.int .i64 x9.1), .c (.int .i64 x11.1), .c (.int .i64 x13.1), .c (.int .i64 x15.1), .c (.int .i64 x17.1), AV.os 0 1 rowS s33.2.2]] : St)) ?_ ?_
   ·
    refine w_sr <| mI rfl <| mI rfl <| o_p rfl (p_lss rfl rfl) <| mB rfl <| r_ch hx34 (fun hb37 h37 => ?_) (fun hb37 h37 => ?_)
    ·
     refine o_yes rfl rfl hb37 <| mV (v := .box 0 0) rfl <| o_yes rfl rfl hb37 ?_
     obtain ⟨x38, hx38, h39⟩ := bind_s h37
     refine o_call (v := aI) (σ' := [aBLI, [aS, aI, aI, aI, aI, aI, aI, aI, aI, .nil], [aS, aI, aI, aI, aI, aI, aI, aI, aI, aO]]) [0] rfl (w_ref01xReader_Err hx38) rfl rfl ⟨lr, trivial⟩ (st_c ⟨rfl, rfl, rfl, trivial⟩ st_nil) rfl rfl rfl <| o_yes rfl rfl hb37 <| o_p rfl (p_eql rfl rfl) <| o_p rfl (p_pick_t rfl hb37 rfl) <| o_ek (fr' := [(0, .box 0 0), (2, .box 1 0), (3, .box 2 0), (4, aI), (5, aI), (47, aB)]) rfl rfl <| w_ch h39 rfl (fun hb40 h40 => ?_) (fun hb40 h40 => ?_)
     ·
      exact w_skip <| e_j _ (sy h40) (w_weak [0] 3 rfl rfl rfl rfl ⟨lr, lr, lr, lr, lr, trivial⟩ (st_r rfl (st_r rfl (st_r rfl st_nil))))
     ·
      refine w_exit <| e_seq_x <| e_seq_x <| e_blk_h ?_
      have h41 := un_done h40 h35
      have h42 := un_out h41 ho33
      exact e_j _ (sy h42) (w_weak [0] 3 rfl rfl rfl rfl ⟨lr, lr, lr, trivial⟩ (st_r rfl (st_r rfl (st_r rfl st_nil))))
    ·
     refine o_no rfl rfl hb37 <| o_no rfl rfl hb37 <| o_no rfl rfl hb37 <| o_p rfl (p_pick_f rfl hb37 rfl) <| o_ek (fr' := [(0, .box 0 0), (2, .box 1 0), (3, .box 2 0), (4, aI), (5, aI), (47, aB)]) rfl rfl <| w_cond_f rfl <| w_exit <| e_seq_x <| e_seq_x <| e_blk_h ?_
     have h43 := un_done h37 h35
     have h44 := un_out h43 ho33
     exact e_j _ (sy h44) (w_weak [0] 3 rfl rfl rfl rfl ⟨lr, lr, lr, trivial⟩ (st_r rfl (st_r rfl (st_r rfl st_nil))))
   ·
    intro j36 hj45
    have h45 := un_go hj45 h35
    refine w_seqw <| w_block <| w_planT [.q 0, .q 1, .q 2, .n 3 [0, 1], .n 4 [0, 1], .n 5 [], .q 6, .n 7 []] [(some 50, [3]), (some 51, [50]), (some 52, [0]), (some 53, [52]), (some 54, [53]), (some 55, [51, 54]), (some 56, [3]), (none, [56, 55])] [0, 1, 0, 4, 12, 31, 63, 127] (by kernel_rfl) <| dq rfl rfl (p_fa tf27x9 rfl) <| dq rfl rfl (p_load (v := aO) tv23 rfl rfl rfl) <| dq rfl rfl (p_move (v := .box 0 0) rfl) <| d_n rfl ?_ rfl
    obtain ⟨x46, hx46, h47⟩ := bind_s h45
    refine o_call (v := aS) (σ' := [aBLI, [aS, aI, aI, aI, aI, aI, aI, aI, aI, .nil], [aS, aI, aI, aI, aI, aI, aI, aI, aI, aO]]) [0] rfl (w_ref01xReader_Text hx46) rfl rfl ⟨lr, lr, trivial⟩ (st_c ⟨rfl, rfl, rfl, trivial⟩ st_nil) rfl rfl rfl <| o_rc <| ⟨(rc_q (v := .box 2 9) rfl rfl (qv_p rfl (p_fa tf27x9 rfl)) (rc_q (v := aO) rfl rfl (qv_p rfl (p_load (v := aO) tv23 rfl rfl rfl)) rc_nil)), ?_⟩
    refine d_n rfl ?_ rfl
    refine o_rows (row := rowS) (xs := ([x46.1] : List (List UInt8))) (rows := [[_]]) (σ' := [aBLI, [aS, aI, aI, aI, aI, aI, aI, aI, aI, .nil], [aS, aI, aI, aI, aI, aI, aI, aI, aI, aO]]) [0] ts23 rfl rfl rfl (arow_cons rfl arow_nil) rfl rfl <| o_rc <| ⟨(rc_q (v := .box 2 9) rfl rfl (qv_p rfl (p_fa tf27x9 rfl)) (rc_q (v := aO) rfl rfl (qv_p rfl (p_load (v := aO) tv23 rfl rfl rfl)) rc_nil)), ?_⟩
    refine d_n rfl ?_ rfl
    obtain ⟨x48, hx48, h49⟩ := bind_s h47
    refine o_app (row := rowS) ts23 rfl ti23 rfl (isl_o rfl) (fun _ => rfl) hx48 <| o_rc <| ⟨rc_nil, ?_⟩
    refine dq rfl rfl (p_fa tf27x9 rfl) <| d_n rfl ?_ rfl
    refine o_store (v := aO) (us := [aO]) (cs := aSIIIIIIIIL) (σ' := [aBLI, [aS, aI, aI, aI, aI, aI, aI, aI, aI, .nil], [aS, aI, aI, aI, aI, aI, aI, aI, aI, aO]]) rfl tv23 rfl rfl rfl rfl rfl rfl rfl rfl <| o_rc <| ⟨rc_nil, ?_⟩
    exact d_end (fr' := [(0, .box 0 0), (2, .box 1 0), (3, .box 2 0), (4, aI), (5, aI)]) rfl <| e_blk_n <| e_kw <| w_region <| mI rfl <| o_p rfl (p_add rfl rfl) <| sI rfl <| o_end (fr' := [(0, .box 0 0), (2, .box 1 0), (3, .box 2 0), (4, aI), (5, aI)]) rfl <| e_l _ (sy h49) (w_weak [880] 3 rfl rfl rfl rfl ⟨lr, lr, lr, lr, lr, trivial⟩ (st_r rfl (st_r rfl (st_r rfl st_nil))))
  ·
   intro j32 hj50
   subst hj50
   refine e_kw ?_
   obtain ⟨x51, hx51, h52⟩ := bind_s h31
   refine w_join (fun j53 => x51 = j53) (fun (j53 : Ref01Reader) => ([(0, .box 0 0), (2, .box 1 0), (3, .box 2 0)] : Fr)) (fun (j53 : Ref01Reader) => ([[.c (.bool j53.Made), .c (PV.ls 1 brow j53.Rest), .c (.int .i64 j53.Bad)], [.c (.str ([] : List UInt8)), .c (.int .i64 (0 : Int)), .c (.int .i64 (0 : Int)), .c (.int .i64 (0 : Int)), .c (.int .i64 (0 : Int)), .c (.int .i64 (0 : Int)), .c (.int .i64 (0 : Int)), .c (.int .i64 (0 : Int)), .c (.int .i64 (0 : Int)), .nil], [.c (.str x1.1), .c (.int .i64 x3.1), .c (.int .i64 x5.1), .c (.int .i64 x7.1), .c (.int .i64 x9.1), .c (.int .i64 x11.1), .c (.int .i64 x13.1), .c (.int .i64 x15.1), .c (.int .i64 x17.1), AV.os 0 1 rowS x30.2]] : St)) ?_ ?_
   ·
    refine w_sr <| o_p rfl (p_loads (us := [aS, aI, aI, aI, aI, aI, aI, aI, aI, aO]) tv27 rfl rfl rfl rfl) ?_
    obtain ⟨x54, hx54, h55⟩ := bind_s hx51
    refine o_v (ov_call (v := aB) rfl (w_ref20xRightPolicy hx54) ⟨(le_aggc rfl ⟨rfl, rfl, rfl, rfl, rfl, rfl, rfl, rfl, rfl, rfl, trivial⟩), trivial⟩ rfl rfl rfl) <| o_p rfl (p_not rfl) <| o_ek (fr' := [(0, .box 0 0), (2, .box 1 0), (3, .box 2 0), (59, aB)]) rfl rfl <| w_ch h55 rfl (fun hb56 h56 => ?_) (fun hb56 h56 => ?_)
    ·
     refine w_region <| mV (v := .box 0 0) rfl ?_
     obtain ⟨x57, hx57, h58⟩ := bind_s h56
     exact o_call (v := _) (σ' := [aBLI, [aS, aI, aI, aI, aI, aI, aI, aI, aI, .nil], [aS, aI, aI, aI, aI, aI, aI, aI, aI, aO]]) [0] rfl (w_ref01xReader_Fail hx57) rfl rfl ⟨lr, lr, trivial⟩ (st_c ⟨rfl, rfl, rfl, trivial⟩ st_nil) rfl rfl rfl <| o_end (fr' := [(0, .box 0 0), (2, .box 1 0), (3, .box 2 0), (59, aB)]) rfl <| e_j _ (sy h58) (w_weak [0] 3 rfl rfl rfl rfl ⟨lr, lr, lr, trivial⟩ (st_r rfl (st_r rfl (st_r rfl st_nil))))
    ·
     exact w_skip <| e_j _ (sy h56) (w_weak [0] 3 rfl rfl rfl rfl ⟨lr, lr, lr, trivial⟩ (st_r rfl (st_r rfl (st_r rfl st_nil))))
   ·
    intro j53 hj59
    subst hj59
    refine w_seqw <| w_sr <| mV (v := .box 0 0) rfl ?_
    obtain ⟨x60, hx60, h61⟩ := bind_s h52
    refine o_call (v := aI) (σ' := [aBLI, [aS, aI, aI, aI, aI, aI, aI, aI, aI, .nil], [aS, aI, aI, aI, aI, aI, aI, aI, aI, aO]]) [0] rfl (w_ref01xReader_Err hx60) rfl rfl ⟨lr, trivial⟩ (st_c ⟨rfl, rfl, rfl, trivial⟩ st_nil) rfl rfl rfl <| o_p rfl (p_neq rfl rfl) <| o_ek (fr' := [(2, .box 1 0), (3, .box 2 0), (64, aB)]) rfl rfl <| w_ch h61 rfl (fun hb62 h62 => ?_) (fun hb62 h62 => ?_)
    ·
     refine w_sr <| o_p rfl (p_buildc (c0 := [aS, aI, aI, aI, aI, aI, aI, aI, aI, .nil]) (cs := [aS, aI, aI, aI, aI, aI, aI, aI, aI, .nil]) tb27 rfl fill_nil) <| o_store (v := .agg [aS, aI, aI, aI, aI, aI, aI, aI, aI, .nil]) (us := [aS, aI, aI, aI, aI, aI, aI, aI, aI, .nil]) (cs := [aS, aI, aI, aI, aI, aI, aI, aI, aI, .nil]) (σ' := [aBLI, [aS, aI, aI, aI, aI, aI, aI, aI, aI, .nil], [aS, aI, aI, aI, aI, aI, aI, aI, aI, aO]]) rfl tv27 rfl rfl rfl rfl rfl rfl rfl rfl <| o_ek (fr' := [(2, .box 1 0)]) rfl rfl <| w_ret <| e_seq_r ?_
     obtain rfl := sy h62
     exact e_ret (rs' := [.cell 2 27]) rfl <| r_cells (us := [aS, aI, aI, aI, aI, aI, aI, aI, aI, .nil]) (cs := [aS, aI, aI, aI, aI, aI, aI, aI, aI, .nil]) tv27 rfl rfl rfl rfl <| r_nil <| fin_gen [] rfl rfl rfl (le_aggc rfl ⟨rfl, rfl, rfl, rfl, rfl, rfl, rfl, rfl, rfl, ⟨_, rfl⟩, trivial⟩) (st_c ⟨rfl, rfl, rfl, trivial⟩ st_nil)
    ·
     refine w_skip <| e_kw <| w_sr <| o_p rfl (p_loads (us := [aS, aI, aI, aI, aI, aI, aI, aI, aI, aO]) tv27 rfl rfl rfl rfl) <| o_store (v := .agg [aS, aI, aI, aI, aI, aI, aI, aI, aI, aO]) (us := [aS, aI, aI, aI, aI, aI, aI, aI, aI, aO]) (cs := [aS, aI, aI, aI, aI, aI, aI, aI, aI, .nil]) (σ' := [aBLI, [aS, aI, aI, aI, aI, aI, aI, aI, aI, aO], [aS, aI, aI, aI, aI, aI, aI, aI, aI, aO]]) rfl tv27 rfl rfl rfl rfl rfl rfl rfl rfl <| o_ek (fr' := [(2, .box 1 0)]) rfl rfl <| w_ret ?_
     obtain rfl := sy h62
     exact e_ret (rs' := [.cell 2 27]) rfl <| r_cells (us := [aS, aI, aI, aI, aI, aI, aI, aI, aI, aO]) (cs := [aS, aI, aI, aI, aI, aI, aI, aI, aI, aO]) tv27 rfl rfl rfl rfl <| r_nil <| fin_gen [] rfl rfl rfl (le_aggc rfl ⟨rfl, rfl, rfl, rfl, rfl, rfl, rfl, rfl, rfl, rfl, trivial⟩) (st_c ⟨rfl, rfl, rfl, trivial⟩ st_nil)
noncomputable def ref02xdecoder_check (p1ok : Bool) (p100vx1 : Int) (p101v : Ref01Reader) : Option Ref01Reader :=
 cond (!p1ok) ((ref01xReader_Fail (3 : Int) p101v).bind fun (x2 : Ref01Reader) => some x2) (some p101v)
theorem w_ref02xdecoder_check {p1ok : Bool} {p100vx1 : Int} {p101v : Ref01Reader} {res : Ref01Reader} (h : ref02xdecoder_check p1ok p100vx1 p101v = some res) : ACalls Try.prog 116 [.box 0 0, .c (.bool p1ok)] [[.box 1 0, .c (.int .i64 p100vx1)], AV.cs (rowRef01Reader p101v)] (.any) [[.box 1 0, .c (.int .i64 p100vx1)], AV.cs (rowRef01Reader res)] := by
 unfold ref02xdecoder_check at h
 refine acalls (fn := Try.f116) [0, 1, 5] (by kernel_rfl) Try.func116 rfl (by kernel_rfl) (by kernel_rfl) <| w_sr <| mB rfl <| o_p rfl (p_not rfl) <| o_ek (fr' := [(0, .box 0 0), (5, aB)]) rfl rfl <| w_ch h rfl (fun hb1 h1 => ?_) (fun hb1 h1 => ?_)
 ·
  refine w_region <| mV (v := .box 0 0) rfl <| o_p rfl (p_nc rfl) <| o_p rfl (p_fa tf102x0 rfl) <| o_p rfl (p_load (v := .box 1 0) tv43 rfl rfl rfl) ?_
  obtain ⟨x2, hx2, h3⟩ := bind_s h1
  refine o_call (v := _) (σ' := [[.box 1 0, aI], aBLI]) [1] rfl (w_ref01xReader_Fail hx2) rfl rfl ⟨lr, lr, trivial⟩ (st_c ⟨rfl, rfl, rfl, trivial⟩ st_nil) rfl rfl rfl <| o_end (fr' := [(0, .box 0 0), (5, aB)]) rfl ?_
  obtain rfl := sy h3
  exact e_fin (rs' := []) rfl <| r_nil <| fin_gen [] rfl rfl rfl (AV.le_any _) (st_r rfl (st_c ⟨rfl, rfl, rfl, trivial⟩ st_nil))
 ·
  refine w_skip ?_
  obtain rfl := sy h1
  exact e_fin (rs' := []) rfl <| r_nil <| fin_gen [] rfl rfl rfl (AV.le_any _) (st_r rfl (st_c ⟨rfl, rfl, rfl, trivial⟩ st_nil))
noncomputable def ref02xdecoder_number (p100vx1 : Int) (p101v : Ref01Reader) : Option (Int × Ref01Reader) :=
 (ref01xReader_Int (-9223372036854775808 : Int) (9223372036854775807 : Int) p101v).bind fun (x1 : (Int × Ref01Reader)) => some (x1.1, x1.2)
theorem w_ref02xdecoder_number {p100vx1 : Int} {p101v : Ref01Reader} {res : (Int × Ref01Reader)} (h : ref02xdecoder_number p100vx1 p101v = some res) : ACalls Try.prog 117 [.box 0 0] [[.box 1 0, .c (.int .i64 p100vx1)], AV.cs (rowRef01Reader p101v)] (.c (.int .i64 res.1)) [[.box 1 0, .c (.int .i64 p100vx1)], AV.cs (rowRef01Reader res.2)] := by
 unfold ref02xdecoder_number at h
 refine acalls (fn := Try.f117) [0, 2] (by kernel_rfl) Try.func117 rfl (by kernel_rfl) (by kernel_rfl) <| w_sr <| sI rfl <| o_ek (fr' := [(0, .box 0 0)]) rfl rfl <| w_sr <| mV (v := .box 0 0) rfl <| o_p rfl (p_nc rfl) <| o_p rfl (p_fa tf102x0 rfl) <| o_p rfl (p_load (v := .box 1 0) tv43 rfl rfl rfl) ?_
 obtain ⟨x1, hx1, h2⟩ := bind_s h
 refine o_call (v := aI) (σ' := [[.box 1 0, aI], aBLI]) [1] rfl (w_ref01xReader_Int hx1) rfl rfl ⟨lr, lr, lr, trivial⟩ (st_c ⟨rfl, rfl, rfl, trivial⟩ st_nil) rfl rfl rfl <| sI rfl <| o_ek (fr' := [(2, aI)]) rfl rfl <| w_ret ?_
 obtain rfl := sy h2
 exact e_ret (rs' := [.tmp 2]) rfl <| r_tmp (v := aI) rfl <| r_nil <| fin_gen [] rfl rfl rfl lr (st_r rfl (st_c ⟨rfl, rfl, rfl, trivial⟩ st_nil))
noncomputable def ref02xdecoder_text (p100vx1 : Int) (p101v : Ref01Reader) : Option ((List UInt8) × Ref01Reader) :=
 (ref01xReader_Text (9223372036854775807 : Int) p101v).bind fun (x1 : ((List UInt8) × Ref01Reader)) => (ref02xdecoder_check (decide (((x1.1).length : Int) ≤ (4096 : Int))) p100vx1 x1.2).bind fun (x3 : Ref01Reader) => some (x1.1, x3)
theorem w_ref02xdecoder_text {p100vx1 : Int} {p101v : Ref01Reader} {res : ((List UInt8) × Ref01Reader)} (h : ref02xdecoder_text p100vx1 p101v = some res) : ACalls Try.prog 118 [.box 0 0] [[.box 1 0, .c (.int .i64 p100vx1)], AV.cs (rowRef01Reader p101v)] (.c (.str res.1)) [[.box 1 0, .c (.int .i64 p100vx1)], AV.cs (rowRef01Reader res.2)] := by
 unfold ref02xdecoder_text at h
 refine acalls (fn := Try.f118) [0, 2, 3] (by kernel_rfl) Try.func118 rfl (by kernel_rfl) (by kernel_rfl) <| w_sr <| sS rfl <| o_ek (fr' := [(0, .box 0 0)]) rfl rfl <| w_sr <| mV (v := .box 0 0) rfl <| o_p rfl (p_nc rfl) <| o_p rfl (p_fa tf102x0 rfl) <| o_p rfl (p_load (v := .box 1 0) tv43 rfl rfl rfl) ?_
 obtain ⟨x1, hx1, h2⟩ := bind_s h
 refine o_call (v := aS) (σ' := [[.box 1 0, aI], aBLI]) [1] rfl (w_ref01xReader_Text hx1) rfl rfl ⟨lr, lr, trivial⟩ (st_c ⟨rfl, rfl, rfl, trivial⟩ st_nil) rfl rfl rfl <| sS rfl <| o_ek (fr' := [(0, .box 0 0), (3, aS)]) rfl rfl <| w_sr <| mV (v := .box 0 0) rfl <| mS rfl <| o_p rfl (p_lens ti9 rfl) <| o_p rfl (p_leq rfl rfl) ?_
 obtain ⟨x3, hx3, h4⟩ := bind_s h2
 refine o_call (v := _) (σ' := [[.box 1 0, aI], aBLI]) [0, 1] rfl (w_ref02xdecoder_check hx3) rfl rfl ⟨lr, lr, trivial⟩ (st_p ⟨lr, lr, trivial⟩ (st_c ⟨rfl, rfl, rfl, trivial⟩ st_nil)) rfl rfl rfl <| o_ek (fr' := [(3, aS)]) rfl rfl <| w_sr <| mS rfl <| sS rfl <| o_ek (fr' := [(2, aS)]) rfl rfl <| w_ret ?_
 obtain rfl := sy h4
 exact e_ret (rs' := [.tmp 2]) rfl <| r_tmp (v := aS) rfl <| r_nil <| fin_gen [] rfl rfl rfl lr (st_r rfl (st_c ⟨rfl, rfl, rfl, trivial⟩ st_nil))
noncomputable def ref02xdecoder_good (p100vx1 : Int) (p101v : Ref01Reader) : Option Bool :=
 (ref01xReader_Err p101v).bind fun (x1 : Int) => some (decide (x1 = (0 : Int)))
theorem w_ref02xdecoder_good {p100vx1 : Int} {p101v : Ref01Reader} {res : Bool} (h : ref02xdecoder_good p100vx1 p101v = some res) : ACalls Try.prog 98 [.box 0 0] [[.box 1 0, .c (.int .i64 p100vx1)], AV.cs (rowRef01Reader p101v)] (.c (.bool res)) [[.box 1 0, .c (.int .i64 p100vx1)], AV.cs (rowRef01Reader p101v)] := by
 unfold ref02xdecoder_good at h
 refine acalls (fn := Try.f98) [0, 2] (by kernel_rfl) Try.func98 rfl (by kernel_rfl) (by kernel_rfl) <| w_sr <| sB rfl <| o_ek (fr' := [(0, .box 0 0)]) rfl rfl <| w_sr <| mV (v := .box 0 0) rfl <| o_p rfl (p_nc rfl) <| o_p rfl (p_fa tf102x0 rfl) <| o_p rfl (p_load (v := .box 1 0) tv43 rfl rfl rfl) ?_
 obtain ⟨x1, hx1, h2⟩ := bind_s h
 refine o_call (v := aI) (σ' := [[.box 1 0, aI], aBLI]) [1] rfl (w_ref01xReader_Err hx1) rfl rfl ⟨lr, trivial⟩ (st_c ⟨rfl, rfl, rfl, trivial⟩ st_nil) rfl rfl rfl <| o_p rfl (p_eql rfl rfl) <| sB rfl <| o_ek (fr' := [(2, aB)]) rfl rfl <| w_ret ?_
 obtain rfl := sy h2
 exact e_ret (rs' := [.tmp 2]) rfl <| r_tmp (v := aB) rfl <| r_nil <| fin_gen [] rfl rfl rfl lr (st_r rfl (st_r rfl st_nil))
noncomputable def ref02xdecoder_items_l1 (rec_ref02xdecoder_value : Int → Int → Ref01Reader → Option (ApiValue × Int × Ref01Reader)) (x1 : (Int × Ref01Reader)) (p1vx0 : Int) (p2depth : Int) (s8 : (Int × Int × Ref01Reader × (List ApiValue) × (List (List UInt8)))) : Option (Step (Int × Int × Ref01Reader × (List ApiValue) × (List (List UInt8))) (Int × Ref01Reader × (List ApiValue) × (List (List UInt8)))) :=
 ((cond (decide (s8.1 < x1.1)) ((ref02xdecoder_good s8.2.1 s8.2.2.1).bind fun (x13 : Bool) => cond x13 (some (Fl.go ())) (some (Fl.done (Step.out (s8.2.1, s8.2.2.1, s8.2.2.2.1, s8.2.2.2.2))))) (some (Fl.done (Step.out (s8.2.1, s8.2.2.1, s8.2.2.2.1, s8.2.2.2.2))))) : Option (Fl (Step (Int × Int × Ref01Reader × (List ApiValue) × (List (List UInt8))) (Int × Ref01Reader × (List ApiValue) × (List (List UInt8)))) Unit)).bind fun (x9 : (Fl (Step (Int × Int × Ref01Reader × (List ApiValue) × (List (List UInt8))) (Int × Ref01Reader × (List ApiValue) × (List (List UInt8)))) Unit)) => Fl.next x9 (fun (j11 : Unit) => (((cond (decide (p1vx0 = (5 : Int))) ((ref02xdecoder_text s8.2.1 s8.2.2.1).bind fun (x25 : ((List UInt8) × Ref01Reader)) => (app 16 s8.2.2.2.2 ([x25.1] : List (List UInt8))).bind fun (x27 : (List (List UInt8))) => (gd ((decide (s8.1 = (0 : Int))) == false) (idx x27 (IntKind.wrap .i64 (s8.1 - (1 : Int))))).bind fun (x29 : (List UInt8)) => (gd ((decide (s8.1 = (0 : Int))) == false) (idx x27 s8.1)).bind fun (x31 : (List UInt8)) => (ref02xdecoder_check (cond (decide (s8.1 = (0 : Int))) true (Op.bytesLess x29 x31)) s8.2.1 x25.2).bind fun (x33 : Ref01Reader) => some (x33, x27)) (some (s8.2.2.1, s8.2.2.2.2))) : Option (Ref01Reader × (List (List UInt8)))).bind fun (x21 : (Ref01Reader × (List (List UInt8)))) => ((ref02xdecoder_good s8.2.1 x21.1).bind fun (x36 : Bool) => cond x36 ((rec_ref02xdecoder_value (IntKind.wrap .i64 (p2depth + (1 : Int))) s8.2.1 x21.1).bind fun (x39 : (ApiValue × Int × Ref01Reader)) => (app 80 s8.2.2.2.1 ([x39.1] : List ApiValue)).bind fun (x41 : (List ApiValue)) => some (Step.next ((IntKind.wrap .i64 (s8.1 + (1 : Int))), x39.2.1, x39.2.2, x41, x21.2))) (some (Step.next ((IntKind.wrap .i64 (s8.1 + (1 : Int))), s8.2.1, x21.1, s8.2.2.2.1, x21.2))))))
mutual
noncomputable def ref02xdecoder_itemsF : Nat → Int → Int → (List UInt8) → Int → Int → Ref01Reader → Option (ApiValue × Int × Ref01Reader)
 | 0, _, _, _, _, _, _ => none
 | n + 1, p1vx0, p1vx1, p1vx2, p2depth, p100vx1, p101v =>
  (ref02xdecoder_number p100vx1 p101v).bind fun (x1 : (Int × Ref01Reader)) => (ref02xdecoder_check (cond (decide ((0 : Int) ≤ x1.1)) (decide (x1.1 ≤ (1000 : Int))) false) p100vx1 x1.2).bind fun (x3 : Ref01Reader) => ((loopO (ref02xdecoder_items_l1 (ref02xdecoder_valueF n) x1 p1vx0 p2depth) (((0 : Int), p100vx1, x3, ([] : (List ApiValue)), ([] : (List (List UInt8)))))) : Option (Int × Ref01Reader × (List ApiValue) × (List (List UInt8)))).bind fun (x5 : (Int × Ref01Reader × (List ApiValue) × (List (List UInt8)))) => (some ((ApiValue.mk p1vx0 p1vx1 p1vx2 x5.2.2.1 x5.2.2.2), x5.1, x5.2.1))
noncomputable def ref02xdecoder_valueF : Nat → Int → Int → Ref01Reader → Option (ApiValue × Int × Ref01Reader)
 | 0, _, _, _ => none
 | n + 1, p1depth, p100vx1, p101v =>
  (ref02xdecoder_check (cond (decide (p100vx1 < (1000 : Int))) (decide (p1depth ≤ (16 : Int))) false) p100vx1 p101v).bind fun (x1 : Ref01Reader) => (ref02xdecoder_number (IntKind.wrap .i64 (p100vx1 + (1 : Int))) x1).bind fun (x3 : (Int × Ref01Reader)) => (ref02xdecoder_check (cond (decide ((0 : Int) ≤ x3.1)) (decide (x3.1 ≤ (5 : Int))) false) (IntKind.wrap .i64 (p100vx1 + (1 : Int))) x3.2).bind fun (x5 : Ref01Reader) => (ref02xdecoder_good (IntKind.wrap .i64 (p100vx1 + (1 : Int))) x5).bind fun (x7 : Bool) => cond (!x7) (some ((ApiValue.mk (0 : Int) (0 : Int) ([] : List UInt8) ([] : (List ApiValue)) ([] : (List (List UInt8)))), (IntKind.wrap .i64 (p100vx1 + (1 : Int))), x5)) (((cond (decide (x3.1 = (1 : Int))) ((ref02xdecoder_number (IntKind.wrap .i64 (p100vx1 + (1 : Int))) x5).bind fun (x15 : (Int × Ref01Reader)) => (ref02xdecoder_check (cond (decide (x15.1 = (0 : Int))) true (decide (x15.1 = (1 : Int)))) (IntKind.wrap .i64 (p100vx1 + (1 : Int))) x15.2).bind fun (x17 : Ref01Reader) => some ((IntKind.wrap .i64 (p100vx1 + (1 : Int))), x17, (ApiValue.mk x3.1 x15.1 ([] : List UInt8) ([] : (List ApiValue)) ([] : (List (List UInt8)))))) (cond (decide (x3.1 = (2 : Int))) ((ref02xdecoder_number (IntKind.wrap .i64 (p100vx1 + (1 : Int))) x5).bind fun (x20 : (Int × Ref01Reader)) => some ((IntKind.wrap .i64 (p100vx1 + (1 : Int))), x20.2, (ApiValue.mk x3.1 x20.1 ([] : List UInt8) ([] : (List ApiValue)) ([] : (List (List UInt8)))))) (cond (decide (x3.1 = (3 : Int))) ((ref02xdecoder_text (IntKind.wrap .i64 (p100vx1 + (1 : Int))) x5).bind fun (x23 : ((List UInt8) × Ref01Reader)) => some ((IntKind.wrap .i64 (p100vx1 + (1 : Int))), x23.2, (ApiValue.mk x3.1 (0 : Int) x23.1 ([] : (List ApiValue)) ([] : (List (List UInt8)))))) (((cond (decide (x3.1 = (4 : Int))) (some (decide (x3.1 = (4 : Int)))) (some (decide (x3.1 = (5 : Int))))) : Option Bool).bind fun (x25 : Bool) => (cond x25 (((ref02xdecoder_itemsF n) x3.1 (0 : Int) ([] : List UInt8) p1depth (IntKind.wrap .i64 (p100vx1 + (1 : Int))) x5).bind fun (x31 : (ApiValue × Int × Ref01Reader)) => some (x31.2.1, x31.2.2, x31.1)) (some ((IntKind.wrap .i64 (p100vx1 + (1 : Int))), x5, (ApiValue.mk x3.1 (0 : Int) ([] : List UInt8) ([] : (List ApiValue)) ([] : (List (List UInt8))))))))))) : Option (Int × Ref01Reader × ApiValue)).bind fun (x11 : (Int × Ref01Reader × ApiValue)) => (some (x11.2.2, x11.1, x11.2.1)))
end
theorem wF_ref02xdecoder_items : ∀ n : Nat, (∀ {p1vx0 : Int} {p1vx1 : Int} {p1vx2 : (List UInt8)} {p2depth : Int} {p100vx1 : Int} {p101v : Ref01Reader} {res : (ApiValue × Int × Ref01Reader)}, ref02xdecoder_itemsF n p1vx0 p1vx1 p1vx2 p2depth p100vx1 p101v = some res → ACalls Try.prog 119 [.box 0 0, .agg [.c (.int .i64 p1vx0), .c (.int .i64 p1vx1), .c (.str p1vx2), .nil, .nil], .c (.int .i64 p2depth)] [[.box 1 0, .c (.int .i64 p100vx1)], AV.cs (rowRef01Reader p101v)] (.agg (AV.cs (exApiValue res.1))) [[.box 1 0, .c (.int .i64 res.2.1)], AV.cs (rowRef01Reader res.2.2)]) ∧ (∀ {p1depth : Int} {p100vx1 : Int} {p101v : Ref01Reader} {res : (ApiValue × Int × Ref01Reader)}, ref02xdecoder_valueF n p1depth p100vx1 p101v = some res → ACalls Try.prog 97 [.box 0 0, .c (.int .i64 p1depth)] [[.box 1 0, .c (.int .i64 p100vx1)], AV.cs (rowRef01Reader p101v)] (.agg (AV.cs (exApiValue res.1))) [[.box 1 0, .c (.int .i64 res.2.1)], AV.cs (rowRef01Reader res.2.2)]) := by
 intro n
 induction n with
 | zero => exact ⟨fun {p1vx0 p1vx1 p1vx2 p2depth p100vx1 p101v res} h => absurd h (by simp [ref02xdecoder_itemsF]), fun {p1depth p100vx1 p101v res} h => absurd h (by simp [ref02xdecoder_valueF])⟩
 | succ n ih =>
  obtain ⟨ih_ref02xdecoder_items, ih_ref02xdecoder_value⟩ := ih
  refine ⟨?_, ?_⟩
  ·
   intro p1vx0 p1vx1 p1vx2 p2depth p100vx1 p101v res h
   rw [ref02xdecoder_itemsF] at h
   refine acalls (fn := Try.f119) [0, 1, 2, 4, 6, 7, 8, 25, 30, 57] (by kernel_rfl) Try.func119 rfl (by kernel_rfl) (by kernel_rfl) <| w_sr <| o_box (v := .agg [aI, aI, aS, .nil, .nil]) (n := 2) (cs := [aI, aI, aS, .nil, .nil]) (σ' := [[.box 1 0, aI], aBLI, [aI, aI, aS, .nil, .nil]]) rfl rfl rfl rfl rfl <| o_alloc (n := 3) (cs := [aI, aI, aS, .nil, .nil]) (σ' := [[.box 1 0, aI], aBLI, [aI, aI, aS, .nil, .nil], [aI, aI, aS, .nil, .nil]]) tz25 rfl rfl rfl <| o_ek (fr' := [(0, .box 0 0), (2, aI), (4, .box 2 0), (6, .box 3 0)]) rfl rfl <| w_sr <| mV (v := .box 0 0) rfl ?_
   obtain ⟨x1, hx1, h2⟩ := bind_s h
   refine o_call (v := aI) (σ' := [[.box 1 0, aI], aBLI, [aI, aI, aS, .nil, .nil], [aI, aI, aS, .nil, .nil]]) [0, 1] rfl (w_ref02xdecoder_number hx1) rfl rfl ⟨lr, trivial⟩ (st_p ⟨lr, lr, trivial⟩ (st_c ⟨rfl, rfl, rfl, trivial⟩ st_nil)) rfl rfl rfl <| sI rfl <| o_ek (fr' := [(0, .box 0 0), (2, aI), (4, .box 2 0), (6, .box 3 0), (7, aI)]) rfl rfl <| w_sr <| mV (v := .box 0 0) rfl <| mI rfl <| o_p rfl (p_geq rfl rfl) <| mB rfl <| og rfl rfl rfl (fun hc => (p_move (v := aI) rfl)) <| og rfl rfl rfl (fun hc => (p_leq (gx rfl hc) rfl)) <| o_p rfl (p_picky rfl rfl rfl (fun e => keq e)) ?_
   obtain ⟨x3, hx3, h4⟩ := bind_s h2
   refine o_call (v := _) (σ' := [[.box 1 0, aI], aBLI, [aI, aI, aS, .nil, .nil], [aI, aI, aS, .nil, .nil]]) [0, 1] rfl (w_ref02xdecoder_check hx3) rfl rfl ⟨lr, lr, trivial⟩ (st_p ⟨lr, lr, trivial⟩ (st_c ⟨rfl, rfl, rfl, trivial⟩ st_nil)) (ok_eq (by repeat (first | exact ok_nil | refine ok_cons rfl ?_ | refine ok_cons (dgv rfl) ?_))) rfl rfl ?_
   refine o_ek (fr' := [(0, .box 0 0), (2, aI), (4, .box 2 0), (6, .box 3 0), (7, aI)]) rfl rfl <| w_seqw <| w_sr <| sI rfl <| o_ek (fr' := [(0, .box 0 0), (2, aI), (4, .box 2 0), (6, .box 3 0), (7, aI), (8, aI)]) rfl rfl ?_
   obtain ⟨x5, hx5, h6⟩ := bind_s h4
   refine w_jtail cl_kw (fun j7 => x5 = j7) (fun (j7 : (Int × Ref01Reader × (List ApiValue) × (List (List UInt8)))) => ([(4, .box 2 0), (6, .box 3 0)] : Fr)) (fun (j7 : (Int × Ref01Reader × (List ApiValue) × (List (List UInt8)))) => ([[.box 1 0, .c (.int .i64 j7.1)], [.c (.bool j7.2.1.Made), .c (PV.ls 1 brow j7.2.1.Rest), .c (.int .i64 j7.2.1.Bad)], [.c (.int .i64 p1vx0), .c (.int .i64 p1vx1), .c (.str p1vx2), AV.os 0 5 rowApiValue j7.2.2.1, AV.os 1 1 rowS j7.2.2.2], [.c (.int .i64 (0 : Int)), .c (.int .i64 (0 : Int)), .c (.str ([] : List UInt8)), .nil, .nil]] : St)) ?_ ?_
   ·
    refine w_block <| w_loopo _ (fun (s8 : (Int × Int × Ref01Reader × (List ApiValue) × (List (List UInt8)))) => ([(0, .box 0 0), (2, .c (.int .i64 p2depth)), (4, .box 2 0), (6, .box 3 0), (7, .c (.int .i64 x1.1)), (8, .c (.int .i64 s8.1))] : Fr)) (fun (s8 : (Int × Int × Ref01Reader × (List ApiValue) × (List (List UInt8)))) => ([[.box 1 0, .c (.int .i64 s8.2.1)], [.c (.bool s8.2.2.1.Made), .c (PV.ls 1 brow s8.2.2.1.Rest), .c (.int .i64 s8.2.2.1.Bad)], [.c (.int .i64 p1vx0), .c (.int .i64 p1vx1), .c (.str p1vx2), AV.os 0 5 rowApiValue s8.2.2.2.1, AV.os 1 1 rowS s8.2.2.2.2], [.c (.int .i64 (0 : Int)), .c (.int .i64 (0 : Int)), .c (.str ([] : List UInt8)), .nil, .nil]] : St)) hx5 (w_weak [1000000, 1000001] 4 rfl rfl rfl rfl ⟨lr, lr, lr, lr, lr, lr, trivial⟩ (st_r rfl (st_r rfl (st_p ⟨lr, lr, lr, (le_nos rfl), (le_nos rfl), trivial⟩ (st_r rfl st_nil))))) ?_
    intro s8 st8 hs8 ho8
    unfold ref02xdecoder_items_l1 at hs8
    obtain ⟨x9, hx9, h10⟩ := bind_s hs8
    refine w_join (fun j11 => x9 = Fl.go j11) (fun (j11 : Unit) => ([(0, .box 0 0), (2, .c (.int .i64 p2depth)), (4, .box 2 0), (6, .box 3 0), (7, .c (.int .i64 x1.1)), (8, .c (.int .i64 s8.1))] : Fr)) (fun (j11 : Unit) => ([[.box 1 0, .c (.int .i64 s8.2.1)], [.c (.bool s8.2.2.1.Made), .c (PV.ls 1 brow s8.2.2.1.Rest), .c (.int .i64 s8.2.2.1.Bad)], [.c (.int .i64 p1vx0), .c (.int .i64 p1vx1), .c (.str p1vx2), AV.os 0 5 rowApiValue s8.2.2.2.1, AV.os 1 1 rowS s8.2.2.2.2], [.c (.int .i64 (0 : Int)), .c (.int .i64 (0 : Int)), .c (.str ([] : List UInt8)), .nil, .nil]] : St)) ?_ ?_
    ·
     refine w_sr <| mI rfl <| mI rfl <| o_p rfl (p_lss rfl rfl) <| mB rfl <| r_ch hx9 (fun hb12 h12 => ?_) (fun hb12 h12 => ?_)
     ·
      refine o_yes rfl rfl hb12 <| mV (v := .box 0 0) rfl <| o_yes rfl rfl hb12 ?_
      obtain ⟨x13, hx13, h14⟩ := bind_s h12
      refine o_call (v := aB) (σ' := [[.box 1 0, aI], aBLI, [aI, aI, aS, aO, aO], [aI, aI, aS, .nil, .nil]]) [0, 1] rfl (w_ref02xdecoder_good hx13) rfl rfl ⟨lr, trivial⟩ (st_p ⟨lr, lr, trivial⟩ (st_c ⟨rfl, rfl, rfl, trivial⟩ st_nil)) rfl rfl rfl <| o_p rfl (p_pick_t rfl hb12 rfl) <| o_ek (fr' := [(0, .box 0 0), (2, aI), (4, .box 2 0), (6, .box 3 0), (7, aI), (8, aI), (25, aB)]) rfl rfl <| w_ch h14 rfl (fun hb15 h15 => ?_) (fun hb15 h15 => ?_)
      ·
       exact w_skip <| e_j _ (sy h15) (w_weak [0, 1] 4 rfl rfl rfl rfl ⟨lr, lr, lr, lr, lr, lr, trivial⟩ (st_r rfl (st_r rfl (st_r rfl (st_r rfl st_nil)))))
      ·
       refine w_exit <| e_seq_x <| e_seq_x <| e_blk_h ?_
       have h16 := un_done h15 h10
       have h17 := un_out h16 ho8
       exact e_j _ (sy h17) (w_weak [0, 1] 4 rfl rfl rfl rfl ⟨lr, lr, trivial⟩ (st_r rfl (st_r rfl (st_r rfl (st_r rfl st_nil)))))
     ·
      refine o_no rfl rfl hb12 <| o_no rfl rfl hb12 <| o_p rfl (p_pick_f rfl hb12 rfl) <| o_ek (fr' := [(0, .box 0 0), (2, aI), (4, .box 2 0), (6, .box 3 0), (7, aI), (8, aI), (25, aB)]) rfl rfl <| w_cond_f rfl <| w_exit <| e_seq_x <| e_seq_x <| e_blk_h ?_
      have h18 := un_done h12 h10
      have h19 := un_out h18 ho8
      exact e_j _ (sy h19) (w_weak [0, 1] 4 rfl rfl rfl rfl ⟨lr, lr, trivial⟩ (st_r rfl (st_r rfl (st_r rfl (st_r rfl st_nil)))))
    ·
     intro j11 hj20
     have h20 := un_go hj20 h10
     refine w_seqw <| w_block ?_
     obtain ⟨x21, hx21, h22⟩ := bind_s h20
     refine w_join (fun j23 => x21 = j23) (fun (j23 : (Ref01Reader × (List (List UInt8)))) => ([(0, .box 0 0), (2, .c (.int .i64 p2depth)), (4, .box 2 0), (6, .box 3 0), (7, .c (.int .i64 x1.1)), (8, .c (.int .i64 s8.1))] : Fr)) (fun (j23 : (Ref01Reader × (List (List UInt8)))) => ([[.box 1 0, .c (.int .i64 s8.2.1)], [.c (.bool j23.1.Made), .c (PV.ls 1 brow j23.1.Rest), .c (.int .i64 j23.1.Bad)], [.c (.int .i64 p1vx0), .c (.int .i64 p1vx1), .c (.str p1vx2), AV.os 0 5 rowApiValue s8.2.2.2.1, AV.os 1 1 rowS j23.2], [.c (.int .i64 (0 : Int)), .c (.int .i64 (0 : Int)), .c (.str ([] : List UInt8)), .nil, .nil]] : St)) ?_ ?_
     ·
      refine w_sr <| o_p rfl (p_fa tf25x0 rfl) <| o_p rfl (p_load (v := aI) tv3 rfl rfl rfl) <| o_p rfl (p_eql rfl rfl) <| o_ek (fr' := [(0, .box 0 0), (2, aI), (4, .box 2 0), (6, .box 3 0), (7, aI), (8, aI), (30, aB)]) rfl rfl <| w_ch hx21 rfl (fun hb24 h24 => ?_) (fun hb24 h24 => ?_)
      ·
       refine w_seqw <| w_planT [.q 0, .q 1, .q 2, .n 3 [0, 1], .n 4 [0, 1], .n 5 [], .q 6, .n 7 []] [(some 31, [4]), (some 32, [31]), (some 33, [0]), (some 34, [33]), (some 35, [34]), (some 36, [32, 35]), (some 37, [4]), (none, [37, 36])] [0, 1, 0, 4, 12, 31, 63, 127] (by kernel_rfl) <| dq rfl rfl (p_fa tf25x4 rfl) <| dq rfl rfl (p_load (v := aO) tv23 rfl rfl rfl) <| dq rfl rfl (p_move (v := .box 0 0) rfl) <| d_n rfl ?_ rfl
       obtain ⟨x25, hx25, h26⟩ := bind_s h24
       refine o_call (v := aS) (σ' := [[.box 1 0, aI], aBLI, [aI, aI, aS, aO, aO], [aI, aI, aS, .nil, .nil]]) [0, 1] rfl (w_ref02xdecoder_text hx25) rfl rfl ⟨lr, trivial⟩ (st_p ⟨lr, lr, trivial⟩ (st_c ⟨rfl, rfl, rfl, trivial⟩ st_nil)) rfl rfl rfl <| o_rc <| ⟨(rc_q (v := .box 2 4) rfl rfl (qv_p rfl (p_fa tf25x4 rfl)) (rc_q (v := aO) rfl rfl (qv_p rfl (p_load (v := aO) tv23 rfl rfl rfl)) rc_nil)), ?_⟩
       refine d_n rfl ?_ rfl
       refine o_rows (row := rowS) (xs := ([x25.1] : List (List UInt8))) (rows := [[_]]) (σ' := [[.box 1 0, aI], aBLI, [aI, aI, aS, aO, aO], [aI, aI, aS, .nil, .nil]]) [0] ts23 rfl rfl rfl (arow_cons rfl arow_nil) rfl rfl <| o_rc <| ⟨(rc_q (v := .box 2 4) rfl rfl (qv_p rfl (p_fa tf25x4 rfl)) (rc_q (v := aO) rfl rfl (qv_p rfl (p_load (v := aO) tv23 rfl rfl rfl)) rc_nil)), ?_⟩
       refine d_n rfl ?_ rfl
       obtain ⟨x27, hx27, h28⟩ := bind_s h26
       refine o_app (row := rowS) ts23 rfl ti23 rfl (isl_o rfl) (fun _ => rfl) hx27 <| o_rc <| ⟨rc_nil, ?_⟩
       refine dq rfl rfl (p_fa tf25x4 rfl) <| d_n rfl ?_ rfl
       refine o_store (v := aO) (us := [aO]) (cs := [aI, aI, aS, aO, aL]) (σ' := [[.box 1 0, aI], aBLI, [aI, aI, aS, aO, aO], [aI, aI, aS, .nil, .nil]]) rfl tv23 rfl rfl rfl rfl rfl rfl rfl rfl <| o_rc <| ⟨rc_nil, ?_⟩
       refine d_ek (fr' := [(0, .box 0 0), (2, aI), (4, .box 2 0), (6, .box 3 0), (7, aI), (8, aI)]) rfl rfl <| w_planT [.q 0, .q 1, .q 2, .q 3, .q 4, .q 5, .q 6, .q 7, .q 8, .q 9, .q 10, .q 11, .q 12, .q 13, .q 14, .q 15, .q 16, .n 17 []] [(some 38, [0]), (some 39, [8]), (some 40, [39]), (some 41, [40]), (some 42, [4, 41]), (some 43, [42, 41]), (some 44, [8, 41]), (some 45, [44, 41]), (some 46, [43, 45, 41]), (some 47, [46, 41]), (some 48, [4, 41]), (some 49, [48, 41]), (some 50, [8, 41]), (some 51, [49, 50, 41]), (some 52, [51, 41]), (some 53, [47, 52, 41]), (some 54, [41, 53]), (some 55, [38, 54])] [0, 0, 2, 6, 14, 30, 14, 78, 254, 510, 14, 1038, 14, 7182, 15374, 32766, 65534, 131071] (by kernel_rfl) <| dq rfl rfl (p_move (v := .box 0 0) rfl) <| dq rfl rfl (p_move (v := aI) rfl) <| dq rfl rfl (p_eql rfl rfl) <| dq rfl rfl (p_move (v := aB) rfl) <| d_g rfl rfl rfl (fun hc => qv_p rfl (p_fa tf25x4 rfl)) <| d_g rfl rfl rfl (fun hc => qv_p rfl (p_load (v := aO) tv23 (gx rfl hc) rfl rfl)) <| d_g rfl rfl rfl (fun hc => qv_p rfl (p_move (v := aI) rfl)) <| d_g rfl rfl rfl (fun hc => qv_p rfl (p_sub (gx rfl hc) rfl)) ?_
       obtain ⟨x29, hx29, h30⟩ := bind_s h28
       refine d_g rfl rfl rfl (fun hc => qv_p rfl (p_ia (cs := [.str _]) ts23 (isl_o (gx rfl hc)) (gx rfl hc) (gd_some hx29 hc) rfl)) <| d_g rfl rfl rfl (fun hc => qv_p rfl (p_loade (p := .str _) tv9 (gx rfl hc) rfl)) <| d_g rfl rfl rfl (fun hc => qv_p rfl (p_fa tf25x4 rfl)) <| d_g rfl rfl rfl (fun hc => qv_p rfl (p_load (v := aO) tv23 (gx rfl hc) rfl rfl)) <| d_g rfl rfl rfl (fun hc => qv_p rfl (p_move (v := aI) rfl)) ?_
       obtain ⟨x31, hx31, h32⟩ := bind_s h30
       refine d_g rfl rfl rfl (fun hc => qv_p rfl (p_ia (cs := [.str _]) ts23 (isl_o (gx rfl hc)) (gx rfl hc) (gd_some hx31 hc) rfl)) <| d_g rfl rfl rfl (fun hc => qv_p rfl (p_loade (p := .str _) tv9 (gx rfl hc) rfl)) <| d_g rfl rfl rfl (fun hc => qv_p rfl (p_slss (gx rfl hc) (gx rfl hc))) <| dq rfl rfl (p_pickz rfl rfl rfl (fun e => keq e)) <| d_n rfl ?_ rfl
       obtain ⟨x33, hx33, h34⟩ := bind_s h32
       refine o_call (v := _) (σ' := [[.box 1 0, aI], aBLI, [aI, aI, aS, aO, aO], [aI, aI, aS, .nil, .nil]]) [0, 1] rfl (w_ref02xdecoder_check hx33) rfl rfl ⟨lr, lr, trivial⟩ (st_p ⟨lr, lr, trivial⟩ (st_c ⟨rfl, rfl, rfl, trivial⟩ st_nil)) (ok_eq (by repeat (first | exact ok_nil | refine ok_cons rfl ?_ | refine ok_cons (dgv rfl) ?_))) rfl rfl ?_
       refine o_rc <| ⟨rc_nil, ?_⟩
       exact d_end (fr' := [(0, .box 0 0), (2, aI), (4, .box 2 0), (6, .box 3 0), (7, aI), (8, aI)]) rfl <| e_j _ (sy h34) (w_weak [0, 576] 4 rfl rfl rfl rfl ⟨lr, lr, lr, lr, lr, lr, trivial⟩ (st_r rfl (st_r rfl (st_r rfl (st_r rfl st_nil)))))
      ·
       exact w_skip <| e_j _ (sy h24) (w_weak [0, 1] 4 rfl rfl rfl rfl ⟨lr, lr, lr, lr, lr, lr, trivial⟩ (st_r rfl (st_r rfl (st_r rfl (st_r rfl st_nil)))))
     ·
      intro j23 hj35
      subst hj35
      refine w_sr <| mV (v := .box 0 0) rfl ?_
      obtain ⟨x36, hx36, h37⟩ := bind_s h22
      refine o_call (v := aB) (σ' := [[.box 1 0, aI], aBLI, [aI, aI, aS, aO, aO], [aI, aI, aS, .nil, .nil]]) [0, 1] rfl (w_ref02xdecoder_good hx36) rfl rfl ⟨lr, trivial⟩ (st_p ⟨lr, lr, trivial⟩ (st_c ⟨rfl, rfl, rfl, trivial⟩ st_nil)) rfl rfl rfl <| o_ek (fr' := [(0, .box 0 0), (2, aI), (4, .box 2 0), (6, .box 3 0), (7, aI), (8, aI), (57, aB)]) rfl rfl <| w_ch h37 rfl (fun hb38 h38 => ?_) (fun hb38 h38 => ?_)
      ·
       refine w_planT [.q 0, .q 1, .q 2, .q 3, .q 4, .n 5 [0, 1], .n 6 [0, 1], .n 7 [], .q 8, .n 9 []] [(some 58, [4]), (some 59, [58]), (some 60, [0]), (some 61, [2]), (some 62, [61]), (some 63, [60, 62]), (some 64, [63]), (some 65, [59, 64]), (some 66, [4]), (none, [66, 65])] [0, 1, 0, 0, 8, 28, 60, 127, 255, 511] (by kernel_rfl) <| dq rfl rfl (p_fa tf25x3 rfl) <| dq rfl rfl (p_load (v := aO) tv22 rfl rfl rfl) <| dq rfl rfl (p_move (v := .box 0 0) rfl) <| dq rfl rfl (p_move (v := aI) rfl) <| dq rfl rfl (p_add rfl rfl) <| d_n rfl ?_ rfl
       obtain ⟨x39, hx39, h40⟩ := bind_s h38
       refine o_call (v := .agg aIISLL) (σ' := [[.box 1 0, aI], aBLI, [aI, aI, aS, aO, aO], [aI, aI, aS, .nil, .nil]]) [0, 1] rfl (ih_ref02xdecoder_value hx39) rfl rfl ⟨lr, lr, trivial⟩ (st_p ⟨lr, lr, trivial⟩ (st_c ⟨rfl, rfl, rfl, trivial⟩ st_nil)) rfl rfl rfl <| o_rc <| ⟨(rc_q (v := .box 2 3) rfl rfl (qv_p rfl (p_fa tf25x3 rfl)) (rc_q (v := aO) rfl rfl (qv_p rfl (p_load (v := aO) tv22 rfl rfl rfl)) rc_nil)), ?_⟩
       refine d_n rfl ?_ rfl
       refine o_rows (row := rowApiValue) (xs := ([x39.1] : List ApiValue)) (rows := [[_, _, _, _, _]]) (σ' := [[.box 1 0, aI], aBLI, [aI, aI, aS, aO, aO], [aI, aI, aS, .nil, .nil]]) [0, 0, 0, 5, 1] ts22 rfl rfl rfl (arow_cons (rowApiValue_eq _) arow_nil) rfl rfl <| o_rc <| ⟨(rc_q (v := .box 2 3) rfl rfl (qv_p rfl (p_fa tf25x3 rfl)) (rc_q (v := aO) rfl rfl (qv_p rfl (p_load (v := aO) tv22 rfl rfl rfl)) rc_nil)), ?_⟩
       refine d_n rfl ?_ rfl
       obtain ⟨x41, hx41, h42⟩ := bind_s h40
       refine o_app (row := rowApiValue) ts22 rfl ti22 rfl (isl_o rfl) rowApiValue_len hx41 <| o_rc <| ⟨rc_nil, ?_⟩
       refine dq rfl rfl (p_fa tf25x3 rfl) <| d_n rfl ?_ rfl
       refine o_store (v := aO) (us := [aO]) (cs := [aI, aI, aS, aL, aO]) (σ' := [[.box 1 0, aI], aBLI, [aI, aI, aS, aO, aO], [aI, aI, aS, .nil, .nil]]) rfl tv22 rfl rfl rfl rfl rfl rfl rfl rfl <| o_rc <| ⟨rc_nil, ?_⟩
       exact d_end (fr' := [(0, .box 0 0), (2, aI), (4, .box 2 0), (6, .box 3 0), (7, aI), (8, aI), (57, aB)]) rfl <| e_blk_n <| e_kw <| w_region <| mI rfl <| o_p rfl (p_add rfl rfl) <| sI rfl <| o_end (fr' := [(0, .box 0 0), (2, aI), (4, .box 2 0), (6, .box 3 0), (7, aI), (8, aI), (57, aB)]) rfl <| e_l _ (sy h42) (w_weak [1040, 1] 4 rfl rfl rfl rfl ⟨lr, lr, lr, lr, lr, lr, trivial⟩ (st_r rfl (st_r rfl (st_r rfl (st_r rfl st_nil)))))
      ·
       exact w_skip <| e_blk_n <| e_kw <| w_region <| mI rfl <| o_p rfl (p_add rfl rfl) <| sI rfl <| o_end (fr' := [(0, .box 0 0), (2, aI), (4, .box 2 0), (6, .box 3 0), (7, aI), (8, aI), (57, aB)]) rfl <| e_l _ (sy h38) (w_weak [0, 1] 4 rfl rfl rfl rfl ⟨lr, lr, lr, lr, lr, lr, trivial⟩ (st_r rfl (st_r rfl (st_r rfl (st_r rfl st_nil)))))
   ·
    intro j7 hj43
    subst hj43
    refine e_kw <| w_sr <| o_p rfl (p_loads (us := [aI, aI, aS, aO, aO]) tv25 rfl rfl rfl rfl) <| o_store (v := .agg [aI, aI, aS, aO, aO]) (us := [aI, aI, aS, aO, aO]) (cs := [aI, aI, aS, .nil, .nil]) (σ' := [[.box 1 0, aI], aBLI, [aI, aI, aS, aO, aO], [aI, aI, aS, aO, aO]]) rfl tv25 rfl rfl rfl rfl rfl rfl rfl rfl <| o_ek (fr' := [(6, .box 3 0)]) rfl rfl <| w_ret ?_
    obtain rfl := sy h6
    exact e_ret (rs' := [.cell 6 25]) rfl <| r_cells (us := [aI, aI, aS, aO, aO]) (cs := [aI, aI, aS, aO, aO]) tv25 rfl rfl rfl rfl <| r_nil <| fin_gen [] rfl rfl rfl (le_aggc rfl ⟨rfl, rfl, rfl, rfl, rfl, trivial⟩) (st_p ⟨lr, lr, trivial⟩ (st_c ⟨rfl, rfl, rfl, trivial⟩ st_nil))
  ·
   intro p1depth p100vx1 p101v res h
   rw [ref02xdecoder_valueF] at h
   refine acalls (fn := Try.f97) [0, 1, 4, 5, 39, 42, 43, 58, 63, 68] (by kernel_rfl) Try.func97 rfl (by kernel_rfl) (by kernel_rfl) <| w_sr <| o_alloc (n := 2) (cs := [aI, aI, aS, .nil, .nil]) (σ' := [[.box 1 0, aI], aBLI, [aI, aI, aS, .nil, .nil]]) tz25 rfl rfl rfl <| o_ek (fr' := [(0, .box 0 0), (1, aI), (4, .box 2 0)]) rfl rfl <| w_sr <| mV (v := .box 0 0) rfl <| mV (v := .box 0 0) rfl <| o_p rfl (p_nc rfl) <| o_p rfl (p_fa tf102x1 rfl) <| o_p rfl (p_load (v := aI) tv3 rfl rfl rfl) <| o_p rfl (p_lss rfl rfl) ?_
   refine mB rfl <| og rfl rfl rfl (fun hc => (p_move (v := aI) rfl)) <| og rfl rfl rfl (fun hc => (p_leq (gx rfl hc) rfl)) <| o_p rfl (p_picky rfl rfl rfl (fun e => keq e)) ?_
   obtain ⟨x1, hx1, h2⟩ := bind_s h
   refine o_call (v := _) (σ' := [[.box 1 0, aI], aBLI, [aI, aI, aS, .nil, .nil]]) [0, 1] rfl (w_ref02xdecoder_check hx1) rfl rfl ⟨lr, lr, trivial⟩ (st_p ⟨lr, lr, trivial⟩ (st_c ⟨rfl, rfl, rfl, trivial⟩ st_nil)) (ok_eq (by repeat (first | exact ok_nil | refine ok_cons rfl ?_ | refine ok_cons (dgv rfl) ?_))) rfl rfl ?_
   refine o_ek (fr' := [(0, .box 0 0), (1, aI), (4, .box 2 0)]) rfl rfl <| w_sr <| mV (v := .box 0 0) rfl <| o_p rfl (p_nc rfl) <| o_p rfl (p_fa tf102x1 rfl) <| o_p rfl (p_load (v := aI) tv3 rfl rfl rfl) <| o_p rfl (p_add rfl rfl) <| o_p rfl (p_nc rfl) <| o_p rfl (p_fa tf102x1 rfl) <| o_store (v := aI) (us := [aI]) (cs := [.box 1 0, aI]) (σ' := [[.box 1 0, aI], aBLI, [aI, aI, aS, .nil, .nil]]) rfl tv3 rfl rfl rfl rfl rfl rfl rfl rfl <| o_ek (fr' := [(0, .box 0 0), (1, aI), (4, .box 2 0)]) rfl rfl <| w_seqw ?_
   refine w_region <| mV (v := .box 0 0) rfl ?_
   obtain ⟨x3, hx3, h4⟩ := bind_s h2
   refine o_call (v := aI) (σ' := [[.box 1 0, aI], aBLI, [aI, aI, aS, .nil, .nil]]) [0, 1] rfl (w_ref02xdecoder_number hx3) rfl rfl ⟨lr, trivial⟩ (st_p ⟨lr, lr, trivial⟩ (st_c ⟨rfl, rfl, rfl, trivial⟩ st_nil)) rfl rfl rfl <| o_p rfl (p_build (cs := [aI, aI, aS, .nil, .nil]) tb25 rfl) <| o_alloc (n := 3) (cs := [aI, aI, aS, .nil, .nil]) (σ' := [[.box 1 0, aI], aBLI, [aI, aI, aS, .nil, .nil], [aI, aI, aS, .nil, .nil]]) tz25 rfl rfl rfl <| o_store (v := .agg [aI, aI, aS, .nil, .nil]) (us := [aI, aI, aS, .nil, .nil]) (cs := [aI, aI, aS, .nil, .nil]) (σ' := [[.box 1 0, aI], aBLI, [aI, aI, aS, .nil, .nil], [aI, aI, aS, .nil, .nil]]) rfl tv25 rfl rfl rfl rfl rfl rfl rfl rfl <| o_ek (fr' := [(0, .box 0 0), (1, aI), (4, .box 2 0), (5, .box 3 0)]) rfl rfl <| w_sr <| mV (v := .box 0 0) rfl <| o_p rfl (p_fa tf25x0 rfl) <| o_p rfl (p_load (v := aI) tv3 rfl rfl rfl) <| o_p rfl (p_geq rfl rfl) <| mB rfl <| og rfl rfl rfl (fun hc => (p_fa tf25x0 rfl)) ?_
   refine og rfl rfl rfl (fun hc => (p_load (v := aI) tv3 (gx rfl hc) rfl rfl)) <| og rfl rfl rfl (fun hc => (p_leq (gx rfl hc) rfl)) <| o_p rfl (p_picky rfl rfl rfl (fun e => keq e)) ?_
   obtain ⟨x5, hx5, h6⟩ := bind_s h4
   refine o_call (v := _) (σ' := [[.box 1 0, aI], aBLI, [aI, aI, aS, .nil, .nil], [aI, aI, aS, .nil, .nil]]) [0, 1] rfl (w_ref02xdecoder_check hx5) rfl rfl ⟨lr, lr, trivial⟩ (st_p ⟨lr, lr, trivial⟩ (st_c ⟨rfl, rfl, rfl, trivial⟩ st_nil)) (ok_eq (by repeat (first | exact ok_nil | refine ok_cons rfl ?_ | refine ok_cons (dgv rfl) ?_))) rfl rfl ?_
   refine o_ek (fr' := [(0, .box 0 0), (1, aI), (4, .box 2 0), (5, .box 3 0)]) rfl rfl <| w_seqw <| w_sr <| mV (v := .box 0 0) rfl ?_
   obtain ⟨x7, hx7, h8⟩ := bind_s h6
   refine o_call (v := aB) (σ' := [[.box 1 0, aI], aBLI, [aI, aI, aS, .nil, .nil], [aI, aI, aS, .nil, .nil]]) [0, 1] rfl (w_ref02xdecoder_good hx7) rfl rfl ⟨lr, trivial⟩ (st_p ⟨lr, lr, trivial⟩ (st_c ⟨rfl, rfl, rfl, trivial⟩ st_nil)) rfl rfl rfl <| o_p rfl (p_not rfl) <| o_ek (fr' := [(0, .box 0 0), (1, aI), (4, .box 2 0), (5, .box 3 0), (39, aB)]) rfl rfl <| w_ch h8 rfl (fun hb9 h9 => ?_) (fun hb9 h9 => ?_)
   ·
    refine w_sr <| o_p rfl (p_build (cs := [aI, aI, aS, .nil, .nil]) tb25 rfl) <| o_store (v := .agg [aI, aI, aS, .nil, .nil]) (us := [aI, aI, aS, .nil, .nil]) (cs := [aI, aI, aS, .nil, .nil]) (σ' := [[.box 1 0, aI], aBLI, [aI, aI, aS, .nil, .nil], [aI, aI, aS, .nil, .nil]]) rfl tv25 rfl rfl rfl rfl rfl rfl rfl rfl <| o_ek (fr' := [(4, .box 2 0)]) rfl rfl <| w_ret <| e_seq_r ?_
    obtain rfl := sy h9
    exact e_ret (rs' := [.cell 4 25]) rfl <| r_cells (us := [aI, aI, aS, .nil, .nil]) (cs := [aI, aI, aS, .nil, .nil]) tv25 rfl rfl rfl rfl <| r_nil <| fin_gen [] rfl rfl rfl (le_aggc rfl ⟨rfl, rfl, rfl, ⟨_, rfl⟩, ⟨_, rfl⟩, trivial⟩) (st_p ⟨lr, lr, trivial⟩ (st_c ⟨rfl, rfl, rfl, trivial⟩ st_nil))
   ·
    refine w_skip <| e_kw ?_
    obtain ⟨x11, hx11, h12⟩ := bind_s h9
    refine w_join (fun j13 => x11 = j13) (fun (j13 : (Int × Ref01Reader × ApiValue)) => ([(4, .box 2 0), (5, .box 3 0)] : Fr)) (fun (j13 : (Int × Ref01Reader × ApiValue)) => ([[.box 1 0, .c (.int .i64 j13.1)], [.c (.bool j13.2.1.Made), .c (PV.ls 1 brow j13.2.1.Rest), .c (.int .i64 j13.2.1.Bad)], [.c (.int .i64 (0 : Int)), .c (.int .i64 (0 : Int)), .c (.str ([] : List UInt8)), .nil, .nil], [.c (.int .i64 j13.2.2.Kind), .c (.int .i64 j13.2.2.Int), .c (.str j13.2.2.Text), .c (PV.ls 5 rowApiValue j13.2.2.Items), .c (PV.ls 1 rowS j13.2.2.Keys)]] : St)) ?_ ?_
    ·
     refine w_sr <| o_p rfl (p_fa tf25x0 rfl) <| o_p rfl (p_load (v := aI) tv3 rfl rfl rfl) <| o_ek (fr' := [(0, .box 0 0), (1, aI), (4, .box 2 0), (5, .box 3 0), (42, aI)]) rfl rfl <| w_block <| w_sr <| o_p rfl (p_eql rfl rfl) <| sB rfl <| o_ek (fr' := [(0, .box 0 0), (1, aI), (4, .box 2 0), (5, .box 3 0), (42, aI), (43, aB)]) rfl rfl <| w_ch hx11 rfl (fun hb14 h14 => ?_) (fun hb14 h14 => ?_)
     ·
      refine w_sr <| mV (v := .box 0 0) rfl ?_
      obtain ⟨x15, hx15, h16⟩ := bind_s h14
      refine o_call (v := aI) (σ' := [[.box 1 0, aI], aBLI, [aI, aI, aS, .nil, .nil], [aI, aI, aS, .nil, .nil]]) [0, 1] rfl (w_ref02xdecoder_number hx15) rfl rfl ⟨lr, trivial⟩ (st_p ⟨lr, lr, trivial⟩ (st_c ⟨rfl, rfl, rfl, trivial⟩ st_nil)) rfl rfl rfl <| o_p rfl (p_fa tf25x1 rfl) <| o_store (v := aI) (us := [aI]) (cs := [aI, aI, aS, .nil, .nil]) (σ' := [[.box 1 0, aI], aBLI, [aI, aI, aS, .nil, .nil], [aI, aI, aS, .nil, .nil]]) rfl tv3 rfl rfl rfl rfl rfl rfl rfl rfl <| o_ek (fr' := [(0, .box 0 0), (4, .box 2 0), (5, .box 3 0)]) rfl rfl <| w_region <| mV (v := .box 0 0) rfl <| o_p rfl (p_fa tf25x1 rfl) <| o_p rfl (p_load (v := aI) tv3 rfl rfl rfl) <| o_p rfl (p_eql rfl rfl) <| mB rfl <| og rfl rfl rfl (fun hc => (p_fa tf25x1 rfl)) <| og rfl rfl rfl (fun hc => (p_load (v := aI) tv3 (gx rfl hc) rfl rfl)) <| og rfl rfl rfl (fun hc => (p_eql (gx rfl hc) rfl)) ?_
      refine o_p rfl (p_pickz rfl rfl rfl (fun e => keq e)) ?_
      obtain ⟨x17, hx17, h18⟩ := bind_s h16
      refine o_call (v := _) (σ' := [[.box 1 0, aI], aBLI, [aI, aI, aS, .nil, .nil], [aI, aI, aS, .nil, .nil]]) [0, 1] rfl (w_ref02xdecoder_check hx17) rfl rfl ⟨lr, lr, trivial⟩ (st_p ⟨lr, lr, trivial⟩ (st_c ⟨rfl, rfl, rfl, trivial⟩ st_nil)) (ok_eq (by repeat (first | exact ok_nil | refine ok_cons rfl ?_ | refine ok_cons (dgv rfl) ?_))) rfl rfl ?_
      exact o_end (fr' := [(0, .box 0 0), (4, .box 2 0), (5, .box 3 0)]) rfl <| e_blk_n <| e_j _ (sy h18) (w_weak [] 4 rfl rfl rfl rfl ⟨lr, lr, trivial⟩ (st_r rfl (st_r rfl (st_r rfl (st_p ⟨lr, lr, lr, le_nls, le_nls, trivial⟩ st_nil)))))
     ·
      refine w_sr <| o_p rfl (p_eql rfl rfl) <| sB rfl <| o_ek (fr' := [(0, .box 0 0), (1, aI), (4, .box 2 0), (5, .box 3 0), (42, aI), (58, aB)]) rfl rfl <| w_ch h14 rfl (fun hb19 h19 => ?_) (fun hb19 h19 => ?_)
      ·
       refine w_region <| mV (v := .box 0 0) rfl ?_
       obtain ⟨x20, hx20, h21⟩ := bind_s h19
       exact o_call (v := aI) (σ' := [[.box 1 0, aI], aBLI, [aI, aI, aS, .nil, .nil], [aI, aI, aS, .nil, .nil]]) [0, 1] rfl (w_ref02xdecoder_number hx20) rfl rfl ⟨lr, trivial⟩ (st_p ⟨lr, lr, trivial⟩ (st_c ⟨rfl, rfl, rfl, trivial⟩ st_nil)) rfl rfl rfl <| o_p rfl (p_fa tf25x1 rfl) <| o_store (v := aI) (us := [aI]) (cs := [aI, aI, aS, .nil, .nil]) (σ' := [[.box 1 0, aI], aBLI, [aI, aI, aS, .nil, .nil], [aI, aI, aS, .nil, .nil]]) rfl tv3 rfl rfl rfl rfl rfl rfl rfl rfl <| o_end (fr' := [(0, .box 0 0), (1, aI), (4, .box 2 0), (5, .box 3 0), (42, aI), (58, aB)]) rfl <| e_blk_n <| e_j _ (sy h21) (w_weak [] 4 rfl rfl rfl rfl ⟨lr, lr, trivial⟩ (st_r rfl (st_r rfl (st_r rfl (st_p ⟨lr, lr, lr, le_nls, le_nls, trivial⟩ st_nil)))))
      ·
       refine w_sr <| o_p rfl (p_eql rfl rfl) <| sB rfl <| o_ek (fr' := [(0, .box 0 0), (1, aI), (4, .box 2 0), (5, .box 3 0), (42, aI), (63, aB)]) rfl rfl <| w_ch h19 rfl (fun hb22 h22 => ?_) (fun hb22 h22 => ?_)
       ·
        refine w_region <| mV (v := .box 0 0) rfl ?_
        obtain ⟨x23, hx23, h24⟩ := bind_s h22
        exact o_call (v := aS) (σ' := [[.box 1 0, aI], aBLI, [aI, aI, aS, .nil, .nil], [aI, aI, aS, .nil, .nil]]) [0, 1] rfl (w_ref02xdecoder_text hx23) rfl rfl ⟨lr, trivial⟩ (st_p ⟨lr, lr, trivial⟩ (st_c ⟨rfl, rfl, rfl, trivial⟩ st_nil)) rfl rfl rfl <| o_p rfl (p_fa tf25x2 rfl) <| o_store (v := aS) (us := [aS]) (cs := [aI, aI, aS, .nil, .nil]) (σ' := [[.box 1 0, aI], aBLI, [aI, aI, aS, .nil, .nil], [aI, aI, aS, .nil, .nil]]) rfl tv9 rfl rfl rfl rfl rfl rfl rfl rfl <| o_end (fr' := [(0, .box 0 0), (1, aI), (4, .box 2 0), (5, .box 3 0), (42, aI), (63, aB)]) rfl <| e_blk_n <| e_j _ (sy h24) (w_weak [] 4 rfl rfl rfl rfl ⟨lr, lr, trivial⟩ (st_r rfl (st_r rfl (st_r rfl (st_p ⟨lr, lr, lr, le_nls, le_nls, trivial⟩ st_nil)))))
       ·
        obtain ⟨x25, hx25, h26⟩ := bind_s h22
        refine w_join (fun j27 => x25 = j27) (fun (j27 : Bool) => ([(0, .box 0 0), (1, .c (.int .i64 p1depth)), (4, .box 2 0), (5, .box 3 0), (68, .c (.bool j27))] : Fr)) (fun (j27 : Bool) => ([[.box 1 0, .c (.int .i64 (IntKind.wrap .i64 (p100vx1 + (1 : Int))))], [.c (.bool x5.Made), .c (PV.ls 1 brow x5.Rest), .c (.int .i64 x5.Bad)], [.c (.int .i64 (0 : Int)), .c (.int .i64 (0 : Int)), .c (.str ([] : List UInt8)), .nil, .nil], [.c (.int .i64 x3.1), .c (.int .i64 (0 : Int)), .c (.str ([] : List UInt8)), .nil, .nil]] : St)) ?_ ?_
        ·
         refine w_sr <| o_p rfl (p_eql rfl rfl) <| sB rfl <| o_ek (fr' := [(0, .box 0 0), (1, aI), (4, .box 2 0), (5, .box 3 0), (42, aI), (68, aB)]) rfl rfl <| w_ch hx25 rfl (fun hb28 h28 => ?_) (fun hb28 h28 => ?_)
         ·
          exact w_skip <| e_j _ (sy h28) (w_weak [] 4 rfl rfl rfl rfl ⟨lr, lr, lr, lr, lr, trivial⟩ (st_r rfl (st_r rfl (st_r rfl (st_r rfl st_nil)))))
         ·
          exact w_region <| o_p rfl (p_eql rfl rfl) <| sB rfl <| o_end (fr' := [(0, .box 0 0), (1, aI), (4, .box 2 0), (5, .box 3 0), (42, aI), (68, aB)]) rfl <| e_j _ (sy h28) (w_weak [] 4 rfl rfl rfl rfl ⟨lr, lr, lr, lr, lr, trivial⟩ (st_r rfl (st_r rfl (st_r rfl (st_r rfl st_nil)))))
        ·
         intro j27 hj29
         subst hj29
         refine w_ch h26 rfl (fun hb30 h30 => ?_) (fun hb30 h30 => ?_)
         ·
          refine w_region <| mV (v := .box 0 0) rfl <| o_p rfl (p_loads (us := [aI, aI, aS, .nil, .nil]) tv25 rfl rfl rfl rfl) <| mI rfl ?_
          obtain ⟨x31, hx31, h32⟩ := bind_s h30
          exact o_call (v := .agg aIISLL) (σ' := [[.box 1 0, aI], aBLI, [aI, aI, aS, .nil, .nil], [aI, aI, aS, .nil, .nil]]) [0, 1] rfl (ih_ref02xdecoder_items hx31) rfl rfl ⟨lr, (le_aggp rfl ⟨lr, lr, lr, lr, lr, trivial⟩), lr, trivial⟩ (st_p ⟨lr, lr, trivial⟩ (st_c ⟨rfl, rfl, rfl, trivial⟩ st_nil)) rfl rfl rfl <| o_store (v := .agg aIISLL) (us := aIISLL) (cs := [aI, aI, aS, .nil, .nil]) (σ' := [[.box 1 0, aI], aBLI, [aI, aI, aS, .nil, .nil], aIISLL]) rfl tv25 rfl rfl rfl rfl rfl rfl rfl rfl <| o_end (fr' := [(0, .box 0 0), (1, aI), (4, .box 2 0), (5, .box 3 0), (68, aB)]) rfl <| e_blk_n <| e_j _ (sy h32) (w_weak [] 4 rfl rfl rfl rfl ⟨lr, lr, trivial⟩ (st_r rfl (st_r rfl (st_r rfl (st_r rfl st_nil)))))
         ·
          exact w_skip <| e_blk_n <| e_j _ (sy h30) (w_weak [] 4 rfl rfl rfl rfl ⟨lr, lr, trivial⟩ (st_r rfl (st_r rfl (st_r rfl (st_p ⟨lr, lr, lr, le_nls, le_nls, trivial⟩ st_nil)))))
    ·
     intro j13 hj33
     subst hj33
     refine w_sr <| o_p rfl (p_loads (us := aIISLL) tv25 rfl rfl rfl rfl) <| o_store (v := .agg aIISLL) (us := aIISLL) (cs := [aI, aI, aS, .nil, .nil]) (σ' := [[.box 1 0, aI], aBLI, aIISLL, aIISLL]) rfl tv25 rfl rfl rfl rfl rfl rfl rfl rfl <| o_ek (fr' := [(4, .box 2 0)]) rfl rfl <| w_ret ?_
     obtain rfl := sy h12
     exact e_ret (rs' := [.cell 4 25]) rfl <| r_cells (us := aIISLL) (cs := aIISLL) tv25 rfl rfl rfl rfl <| r_nil <| fin_gen [] rfl rfl rfl (le_aggc rfl ⟨rfl, rfl, rfl, rfl, rfl, trivial⟩) (st_p ⟨lr, lr, trivial⟩ (st_c ⟨rfl, rfl, rfl, trivial⟩ st_nil))
noncomputable def ref02xdecoder_value (p1depth : Int) (p100vx1 : Int) (p101v : Ref01Reader) : Option (ApiValue × Int × Ref01Reader) := lim fun n => ref02xdecoder_valueF n p1depth p100vx1 p101v
theorem w_ref02xdecoder_value {p1depth : Int} {p100vx1 : Int} {p101v : Ref01Reader} {res : (ApiValue × Int × Ref01Reader)} (h : ref02xdecoder_value p1depth p100vx1 p101v = some res) : ACalls Try.prog 97 [.box 0 0, .c (.int .i64 p1depth)] [[.box 1 0, .c (.int .i64 p100vx1)], AV.cs (rowRef01Reader p101v)] (.agg (AV.cs (exApiValue res.1))) [[.box 1 0, .c (.int .i64 res.2.1)], AV.cs (rowRef01Reader res.2.2)] := by
 obtain ⟨n, hn⟩ := lim_some h
 exact (wF_ref02xdecoder_items n).2 hn
noncomputable def ref02xDecode (p100v : Ref01Reader) : Option (ApiValue × Ref01Reader) :=
 (ref02xdecoder_value (1 : Int) (0 : Int) p100v).bind fun (x1 : (ApiValue × Int × Ref01Reader)) => (ref02xdecoder_good x1.2.1 x1.2.2).bind fun (x3 : Bool) => cond (!x3) (some ((ApiValue.mk (0 : Int) (0 : Int) ([] : List UInt8) ([] : (List ApiValue)) ([] : (List (List UInt8)))), x1.2.2)) (some (x1.1, x1.2.2))
theorem w_ref02xDecode {p100v : Ref01Reader} {res : (ApiValue × Ref01Reader)} (h : ref02xDecode p100v = some res) : ACalls Try.prog 70 [.box 0 0] [AV.cs (rowRef01Reader p100v)] (.agg (AV.cs (exApiValue res.1))) [AV.cs (rowRef01Reader res.2)] := by
 unfold ref02xDecode at h
 refine acalls (fn := Try.f70) [0, 2, 3, 4, 12] (by kernel_rfl) Try.func70 rfl (by kernel_rfl) (by kernel_rfl) <| w_sr <| o_alloc (n := 1) (cs := [aI, aI, aS, .nil, .nil]) (σ' := [aBLI, [aI, aI, aS, .nil, .nil]]) tz25 rfl rfl rfl <| o_ek (fr' := [(0, .box 0 0), (2, .box 1 0)]) rfl rfl <| w_sr <| mV (v := .box 0 0) rfl <| o_p rfl (p_build (cs := [.box 0 0, aI]) tb102 rfl) <| o_box (v := .agg [.box 0 0, aI]) (n := 2) (cs := [.box 0 0, aI]) (σ' := [aBLI, [aI, aI, aS, .nil, .nil], [.box 0 0, aI]]) rfl rfl rfl rfl rfl <| sV (v := .box 2 0) rfl <| o_ek (fr' := [(2, .box 1 0), (3, .box 2 0)]) rfl rfl <| w_seqw ?_
 refine w_region <| mV (v := .box 2 0) rfl ?_
 obtain ⟨x1, hx1, h2⟩ := bind_s h
 refine o_call (v := .agg aIISLL) (σ' := [aBLI, [aI, aI, aS, .nil, .nil], [.box 0 0, aI]]) [2, 0] rfl (w_ref02xdecoder_value hx1) rfl rfl ⟨lr, lr, trivial⟩ (st_p ⟨lr, lr, trivial⟩ (st_c ⟨rfl, rfl, rfl, trivial⟩ st_nil)) rfl rfl rfl <| o_alloc (n := 3) (cs := [aI, aI, aS, .nil, .nil]) (σ' := [aBLI, [aI, aI, aS, .nil, .nil], [.box 0 0, aI], [aI, aI, aS, .nil, .nil]]) tz25 rfl rfl rfl <| o_store (v := .agg aIISLL) (us := aIISLL) (cs := [aI, aI, aS, .nil, .nil]) (σ' := [aBLI, [aI, aI, aS, .nil, .nil], [.box 0 0, aI], aIISLL]) rfl tv25 rfl rfl rfl rfl rfl rfl rfl rfl <| o_ek (fr' := [(2, .box 1 0), (3, .box 2 0), (4, .box 3 0)]) rfl rfl <| w_seqw <| w_sr <| mV (v := .box 2 0) rfl ?_
 obtain ⟨x3, hx3, h4⟩ := bind_s h2
 refine o_call (v := aB) (σ' := [aBLI, [aI, aI, aS, .nil, .nil], [.box 0 0, aI], aIISLL]) [2, 0] rfl (w_ref02xdecoder_good hx3) rfl rfl ⟨lr, trivial⟩ (st_p ⟨lr, lr, trivial⟩ (st_c ⟨rfl, rfl, rfl, trivial⟩ st_nil)) rfl rfl rfl <| o_p rfl (p_not rfl) <| o_ek (fr' := [(2, .box 1 0), (4, .box 3 0), (12, aB)]) rfl rfl <| w_ch h4 rfl (fun hb5 h5 => ?_) (fun hb5 h5 => ?_)
 ·
  refine w_sr <| o_p rfl (p_build (cs := [aI, aI, aS, .nil, .nil]) tb25 rfl) <| o_store (v := .agg [aI, aI, aS, .nil, .nil]) (us := [aI, aI, aS, .nil, .nil]) (cs := [aI, aI, aS, .nil, .nil]) (σ' := [aBLI, [aI, aI, aS, .nil, .nil], [.box 0 0, aI], aIISLL]) rfl tv25 rfl rfl rfl rfl rfl rfl rfl rfl <| o_ek (fr' := [(2, .box 1 0)]) rfl rfl <| w_ret <| e_seq_r ?_
  obtain rfl := sy h5
  exact e_ret (rs' := [.cell 2 25]) rfl <| r_cells (us := [aI, aI, aS, .nil, .nil]) (cs := [aI, aI, aS, .nil, .nil]) tv25 rfl rfl rfl rfl <| r_nil <| fin_gen [] rfl rfl rfl (le_aggc rfl ⟨rfl, rfl, rfl, ⟨_, rfl⟩, ⟨_, rfl⟩, trivial⟩) (st_c ⟨rfl, rfl, rfl, trivial⟩ st_nil)
 ·
  refine w_skip <| e_kw <| w_sr <| o_p rfl (p_loads (us := aIISLL) tv25 rfl rfl rfl rfl) <| o_store (v := .agg aIISLL) (us := aIISLL) (cs := [aI, aI, aS, .nil, .nil]) (σ' := [aBLI, aIISLL, [.box 0 0, aI], aIISLL]) rfl tv25 rfl rfl rfl rfl rfl rfl rfl rfl <| o_ek (fr' := [(2, .box 1 0)]) rfl rfl <| w_ret ?_
  obtain rfl := sy h5
  exact e_ret (rs' := [.cell 2 25]) rfl <| r_cells (us := aIISLL) (cs := aIISLL) tv25 rfl rfl rfl rfl <| r_nil <| fin_gen [] rfl rfl rfl (le_aggc rfl ⟨rfl, rfl, rfl, rfl, rfl, trivial⟩) (st_c ⟨rfl, rfl, rfl, trivial⟩ st_nil)
noncomputable def ref20xDecode (p100v : Ref01Reader) : Option (ApiCommand × Ref01Reader) :=
 (ref20xread p100v).bind fun (x1 : (Int × Ref01Reader)) => (ref20xread x1.2).bind fun (x3 : (Int × Ref01Reader)) => (ref01xReader_Text (4096 : Int) x3.2).bind fun (x5 : ((List UInt8) × Ref01Reader)) => (ref01xReader_Text (4096 : Int) x5.2).bind fun (x7 : ((List UInt8) × Ref01Reader)) => (ref20xread x7.2).bind fun (x9 : (Int × Ref01Reader)) => (ref02xDecode x9.2).bind fun (x11 : (ApiValue × Ref01Reader)) => (ref20xDecodePolicy x11.2).bind fun (x13 : (ApiPolicy × Ref01Reader)) => (((ref20xRight (ApiCommand.mk x1.1 x3.1 x5.1 x7.1 x9.1 x11.1 x13.1)).bind fun (x18 : Bool) => cond (!x18) ((ref01xReader_Fail (3 : Int) x13.2).bind fun (x21 : Ref01Reader) => some x21) (some x13.2)) : Option Ref01Reader).bind fun (x15 : Ref01Reader) => ((ref01xReader_Err x15).bind fun (x24 : Int) => cond (!decide (x24 = (0 : Int))) (some ((ApiCommand.mk (0 : Int) (0 : Int) ([] : List UInt8) ([] : List UInt8) (0 : Int) (ApiValue.mk (0 : Int) (0 : Int) ([] : List UInt8) ([] : (List ApiValue)) ([] : (List (List UInt8)))) (ApiPolicy.mk ([] : List UInt8) (0 : Int) (0 : Int) (0 : Int) (0 : Int) (0 : Int) (0 : Int) (0 : Int) (0 : Int) ([] : (List (List UInt8))))), x15)) (some ((ApiCommand.mk x1.1 x3.1 x5.1 x7.1 x9.1 x11.1 x13.1), x15)))
theorem w_ref20xDecode {p100v : Ref01Reader} {res : (ApiCommand × Ref01Reader)} (h : ref20xDecode p100v = some res) : ACalls Try.prog 26 [.box 0 0] [AV.cs (rowRef01Reader p100v)] (.agg (AV.cs (rowApiCommand res.1))) [AV.cs (rowRef01Reader res.2)] := by
 unfold ref20xDecode at h
 refine acalls (fn := Try.f26) [0, 2, 3, 27, 32] (by kernel_rfl) Try.func26 rfl (by kernel_rfl) (by kernel_rfl) <| w_sr <| o_alloc (n := 1) (cs := [aI, aI, aS, aS, aI, aI, aI, aS, .nil, .nil, aS, aI, aI, aI, aI, aI, aI, aI, aI, .nil]) (σ' := [aBLI, [aI, aI, aS, aS, aI, aI, aI, aS, .nil, .nil, aS, aI, aI, aI, aI, aI, aI, aI, aI, .nil]]) tz29 rfl rfl rfl <| o_ek (fr' := [(0, .box 0 0), (2, .box 1 0)]) rfl rfl <| w_sr <| mV (v := .box 0 0) rfl ?_
 obtain ⟨x1, hx1, h2⟩ := bind_s h
 refine o_call (v := aI) (σ' := [aBLI, [aI, aI, aS, aS, aI, aI, aI, aS, .nil, .nil, aS, aI, aI, aI, aI, aI, aI, aI, aI, .nil]]) [0] rfl (w_ref20xread hx1) rfl rfl ⟨lr, trivial⟩ (st_c ⟨rfl, rfl, rfl, trivial⟩ st_nil) rfl rfl rfl <| o_p rfl (p_buildc (c0 := [aI, aI, aS, aS, aI, aI, aI, aS, .nil, .nil, aS, aI, aI, aI, aI, aI, aI, aI, aI, .nil]) (cs := [aI, aI, aS, aS, aI, aI, aI, aS, .nil, .nil, aS, aI, aI, aI, aI, aI, aI, aI, aI, .nil]) tb29 rfl (fill_cons (v := aI) (us := [_]) (cs' := u20) rfl rfl rfl rfl rfl rfl fill_nil)) <| o_alloc (n := 2) (cs := [aI, aI, aS, aS, aI, aI, aI, aS, .nil, .nil, aS, aI, aI, aI, aI, aI, aI, aI, aI, .nil]) (σ' := [aBLI, [aI, aI, aS, aS, aI, aI, aI, aS, .nil, .nil, aS, aI, aI, aI, aI, aI, aI, aI, aI, .nil], [aI, aI, aS, aS, aI, aI, aI, aS, .nil, .nil, aS, aI, aI, aI, aI, aI, aI, aI, aI, .nil]]) tz29 rfl rfl rfl <| o_store (v := .agg [aI, aI, aS, aS, aI, aI, aI, aS, .nil, .nil, aS, aI, aI, aI, aI, aI, aI, aI, aI, .nil]) (us := [aI, aI, aS, aS, aI, aI, aI, aS, .nil, .nil, aS, aI, aI, aI, aI, aI, aI, aI, aI, .nil]) (cs := [aI, aI, aS, aS, aI, aI, aI, aS, .nil, .nil, aS, aI, aI, aI, aI, aI, aI, aI, aI, .nil]) (σ' := [aBLI, [aI, aI, aS, aS, aI, aI, aI, aS, .nil, .nil, aS, aI, aI, aI, aI, aI, aI, aI, aI, .nil], [aI, aI, aS, aS, aI, aI, aI, aS, .nil, .nil, aS, aI, aI, aI, aI, aI, aI, aI, aI, .nil]]) rfl tv29 rfl rfl rfl rfl rfl rfl rfl rfl <| o_ek (fr' := [(0, .box 0 0), (2, .box 1 0), (3, .box 2 0)]) rfl rfl <| w_sr <| mV (v := .box 0 0) rfl ?_
 obtain ⟨x3, hx3, h4⟩ := bind_s h2
 refine o_call (v := aI) (σ' := [aBLI, [aI, aI, aS, aS, aI, aI, aI, aS, .nil, .nil, aS, aI, aI, aI, aI, aI, aI, aI, aI, .nil], [aI, aI, aS, aS, aI, aI, aI, aS, .nil, .nil, aS, aI, aI, aI, aI, aI, aI, aI, aI, .nil]]) [0] rfl (w_ref20xread hx3) rfl rfl ⟨lr, trivial⟩ (st_c ⟨rfl, rfl, rfl, trivial⟩ st_nil) rfl rfl rfl <| o_p rfl (p_fa tf29x1 rfl) <| o_store (v := aI) (us := [aI]) (cs := [aI, aI, aS, aS, aI, aI, aI, aS, .nil, .nil, aS, aI, aI, aI, aI, aI, aI, aI, aI, .nil]) (σ' := [aBLI, [aI, aI, aS, aS, aI, aI, aI, aS, .nil, .nil, aS, aI, aI, aI, aI, aI, aI, aI, aI, .nil], [aI, aI, aS, aS, aI, aI, aI, aS, .nil, .nil, aS, aI, aI, aI, aI, aI, aI, aI, aI, .nil]]) rfl tv3 rfl rfl rfl rfl rfl rfl rfl rfl <| o_ek (fr' := [(0, .box 0 0), (2, .box 1 0), (3, .box 2 0)]) rfl rfl <| w_sr <| mV (v := .box 0 0) rfl ?_
 obtain ⟨x5, hx5, h6⟩ := bind_s h4
 refine o_call (v := aS) (σ' := [aBLI, [aI, aI, aS, aS, aI, aI, aI, aS, .nil, .nil, aS, aI, aI, aI, aI, aI, aI, aI, aI, .nil], [aI, aI, aS, aS, aI, aI, aI, aS, .nil, .nil, aS, aI, aI, aI, aI, aI, aI, aI, aI, .nil]]) [0] rfl (w_ref01xReader_Text hx5) rfl rfl ⟨lr, lr, trivial⟩ (st_c ⟨rfl, rfl, rfl, trivial⟩ st_nil) rfl rfl rfl <| o_p rfl (p_fa tf29x2 rfl) <| o_store (v := aS) (us := [aS]) (cs := [aI, aI, aS, aS, aI, aI, aI, aS, .nil, .nil, aS, aI, aI, aI, aI, aI, aI, aI, aI, .nil]) (σ' := [aBLI, [aI, aI, aS, aS, aI, aI, aI, aS, .nil, .nil, aS, aI, aI, aI, aI, aI, aI, aI, aI, .nil], [aI, aI, aS, aS, aI, aI, aI, aS, .nil, .nil, aS, aI, aI, aI, aI, aI, aI, aI, aI, .nil]]) rfl tv9 rfl rfl rfl rfl rfl rfl rfl rfl <| o_ek (fr' := [(0, .box 0 0), (2, .box 1 0), (3, .box 2 0)]) rfl rfl <| w_sr <| mV (v := .box 0 0) rfl ?_
 obtain ⟨x7, hx7, h8⟩ := bind_s h6
 refine o_call (v := aS) (σ' := [aBLI, [aI, aI, aS, aS, aI, aI, aI, aS, .nil, .nil, aS, aI, aI, aI, aI, aI, aI, aI, aI, .nil], [aI, aI, aS, aS, aI, aI, aI, aS, .nil, .nil, aS, aI, aI, aI, aI, aI, aI, aI, aI, .nil]]) [0] rfl (w_ref01xReader_Text hx7) rfl rfl ⟨lr, lr, trivial⟩ (st_c ⟨rfl, rfl, rfl, trivial⟩ st_nil) rfl rfl rfl <| o_p rfl (p_fa tf29x3 rfl) <| o_store (v := aS) (us := [aS]) (cs := [aI, aI, aS, aS, aI, aI, aI, aS, .nil, .nil, aS, aI, aI, aI, aI, aI, aI, aI, aI, .nil]) (σ' := [aBLI, [aI, aI, aS, aS, aI, aI, aI, aS, .nil, .nil, aS, aI, aI, aI, aI, aI, aI, aI, aI, .nil], [aI, aI, aS, aS, aI, aI, aI, aS, .nil, .nil, aS, aI, aI, aI, aI, aI, aI, aI, aI, .nil]]) rfl tv9 rfl rfl rfl rfl rfl rfl rfl rfl <| o_ek (fr' := [(0, .box 0 0), (2, .box 1 0), (3, .box 2 0)]) rfl rfl <| w_sr <| mV (v := .box 0 0) rfl ?_
 obtain ⟨x9, hx9, h10⟩ := bind_s h8
 refine o_call (v := aI) (σ' := [aBLI, [aI, aI, aS, aS, aI, aI, aI, aS, .nil, .nil, aS, aI, aI, aI, aI, aI, aI, aI, aI, .nil], [aI, aI, aS, aS, aI, aI, aI, aS, .nil, .nil, aS, aI, aI, aI, aI, aI, aI, aI, aI, .nil]]) [0] rfl (w_ref20xread hx9) rfl rfl ⟨lr, trivial⟩ (st_c ⟨rfl, rfl, rfl, trivial⟩ st_nil) rfl rfl rfl <| o_p rfl (p_fa tf29x4 rfl) <| o_store (v := aI) (us := [aI]) (cs := [aI, aI, aS, aS, aI, aI, aI, aS, .nil, .nil, aS, aI, aI, aI, aI, aI, aI, aI, aI, .nil]) (σ' := [aBLI, [aI, aI, aS, aS, aI, aI, aI, aS, .nil, .nil, aS, aI, aI, aI, aI, aI, aI, aI, aI, .nil], [aI, aI, aS, aS, aI, aI, aI, aS, .nil, .nil, aS, aI, aI, aI, aI, aI, aI, aI, aI, .nil]]) rfl tv3 rfl rfl rfl rfl rfl rfl rfl rfl <| o_ek (fr' := [(0, .box 0 0), (2, .box 1 0), (3, .box 2 0)]) rfl rfl <| w_sr <| mV (v := .box 0 0) rfl ?_
 obtain ⟨x11, hx11, h12⟩ := bind_s h10
 refine o_call (v := .agg aIISLL) (σ' := [aBLI, [aI, aI, aS, aS, aI, aI, aI, aS, .nil, .nil, aS, aI, aI, aI, aI, aI, aI, aI, aI, .nil], [aI, aI, aS, aS, aI, aI, aI, aS, .nil, .nil, aS, aI, aI, aI, aI, aI, aI, aI, aI, .nil]]) [0] rfl (w_ref02xDecode hx11) rfl rfl ⟨lr, trivial⟩ (st_c ⟨rfl, rfl, rfl, trivial⟩ st_nil) rfl rfl rfl <| o_p rfl (p_fa tf29x5 rfl) <| o_store (v := .agg aIISLL) (us := aIISLL) (cs := [aI, aI, aS, aS, aI, aI, aI, aS, .nil, .nil, aS, aI, aI, aI, aI, aI, aI, aI, aI, .nil]) (σ' := [aBLI, [aI, aI, aS, aS, aI, aI, aI, aS, .nil, .nil, aS, aI, aI, aI, aI, aI, aI, aI, aI, .nil], [aI, aI, aS, aS, aI, aI, aI, aS, aL, aL, aS, aI, aI, aI, aI, aI, aI, aI, aI, .nil]]) rfl tv25 rfl rfl rfl rfl rfl rfl rfl rfl <| o_ek (fr' := [(0, .box 0 0), (2, .box 1 0), (3, .box 2 0)]) rfl rfl <| w_sr <| mV (v := .box 0 0) rfl ?_
 obtain ⟨x13, hx13, h14⟩ := bind_s h12
 refine o_call (v := .agg aSIIIIIIIIL) (σ' := [aBLI, [aI, aI, aS, aS, aI, aI, aI, aS, .nil, .nil, aS, aI, aI, aI, aI, aI, aI, aI, aI, .nil], [aI, aI, aS, aS, aI, aI, aI, aS, aL, aL, aS, aI, aI, aI, aI, aI, aI, aI, aI, .nil]]) [0] rfl (w_ref20xDecodePolicy hx13) rfl rfl ⟨lr, trivial⟩ (st_c ⟨rfl, rfl, rfl, trivial⟩ st_nil) rfl rfl rfl <| o_p rfl (p_fa tf29x6 rfl) <| o_store (v := .agg aSIIIIIIIIL) (us := aSIIIIIIIIL) (cs := [aI, aI, aS, aS, aI, aI, aI, aS, aL, aL, aS, aI, aI, aI, aI, aI, aI, aI, aI, .nil]) (σ' := [aBLI, [aI, aI, aS, aS, aI, aI, aI, aS, .nil, .nil, aS, aI, aI, aI, aI, aI, aI, aI, aI, .nil], aIISSIIISLLSIIIIIIIIL]) rfl tv27 rfl rfl rfl rfl rfl rfl rfl rfl <| o_ek (fr' := [(0, .box 0 0), (2, .box 1 0), (3, .box 2 0)]) rfl rfl ?_
 obtain ⟨x15, hx15, h16⟩ := bind_s h14
 refine w_join (fun j17 => x15 = j17) (fun (j17 : Ref01Reader) => ([(0, .box 0 0), (2, .box 1 0), (3, .box 2 0)] : Fr)) (fun (j17 : Ref01Reader) => ([[.c (.bool j17.Made), .c (PV.ls 1 brow j17.Rest), .c (.int .i64 j17.Bad)], [.c (.int .i64 (0 : Int)), .c (.int .i64 (0 : Int)), .c (.str ([] : List UInt8)), .c (.str ([] : List UInt8)), .c (.int .i64 (0 : Int)), .c (.int .i64 (0 : Int)), .c (.int .i64 (0 : Int)), .c (.str ([] : List UInt8)), .nil, .nil, .c (.str ([] : List UInt8)), .c (.int .i64 (0 : Int)), .c (.int .i64 (0 : Int)), .c (.int .i64 (0 : Int)), .c (.int .i64 (0 : Int)), .c (.int .i64 (0 : Int)), .c (.int .i64 (0 : Int)), .c (.int .i64 (0 : Int)), .c (.int .i64 (0 : Int)), .nil], [.c (.int .i64 x1.1), .c (.int .i64 x3.1), .c (.str x5.1), .c (.str x7.1), .c (.int .i64 x9.1), .c (.int .i64 x11.1.Kind), .c (.int .i64 x11.1.Int), .c (.str x11.1.Text), .c (PV.ls 5 rowApiValue x11.1.Items), .c (PV.ls 1 rowS x11.1.Keys), .c (.str x13.1.Queue), .c (.int .i64 x13.1.ToStart), .c (.int .i64 x13.1.ToClose), .c (.int .i64 x13.1.Total), .c (.int .i64 x13.1.Beat), .c (.int .i64 x13.1.First), .c (.int .i64 x13.1.Coef), .c (.int .i64 x13.1.Most), .c (.int .i64 x13.1.Attempts), .c (PV.ls 1 rowS x13.1.Fatal)]] : St)) ?_ ?_
 ·
  refine w_sr <| o_p rfl (p_loads (us := aIISSIIISLLSIIIIIIIIL) tv29 rfl rfl rfl rfl) ?_
  obtain ⟨x18, hx18, h19⟩ := bind_s hx15
  refine o_v (ov_call (v := aB) rfl (w_ref20xRight hx18) ⟨(le_aggc rfl ⟨rfl, rfl, rfl, rfl, rfl, rfl, rfl, rfl, rfl, rfl, rfl, rfl, rfl, rfl, rfl, rfl, rfl, rfl, rfl, rfl, trivial⟩), trivial⟩ rfl rfl rfl) <| o_p rfl (p_not rfl) <| o_ek (fr' := [(0, .box 0 0), (2, .box 1 0), (3, .box 2 0), (27, aB)]) rfl rfl <| w_ch h19 rfl (fun hb20 h20 => ?_) (fun hb20 h20 => ?_)
  ·
   refine w_region <| mV (v := .box 0 0) rfl ?_
   obtain ⟨x21, hx21, h22⟩ := bind_s h20
   exact o_call (v := _) (σ' := [aBLI, [aI, aI, aS, aS, aI, aI, aI, aS, .nil, .nil, aS, aI, aI, aI, aI, aI, aI, aI, aI, .nil], aIISSIIISLLSIIIIIIIIL]) [0] rfl (w_ref01xReader_Fail hx21) rfl rfl ⟨lr, lr, trivial⟩ (st_c ⟨rfl, rfl, rfl, trivial⟩ st_nil) rfl rfl rfl <| o_end (fr' := [(0, .box 0 0), (2, .box 1 0), (3, .box 2 0), (27, aB)]) rfl <| e_j _ (sy h22) (w_weak [] 3 rfl rfl rfl rfl ⟨lr, lr, lr, trivial⟩ (st_r rfl (st_r rfl (st_r rfl st_nil))))
  ·
   exact w_skip <| e_j _ (sy h20) (w_weak [] 3 rfl rfl rfl rfl ⟨lr, lr, lr, trivial⟩ (st_r rfl (st_r rfl (st_r rfl st_nil))))
 ·
  intro j17 hj23
  subst hj23
  refine w_seqw <| w_sr <| mV (v := .box 0 0) rfl ?_
  obtain ⟨x24, hx24, h25⟩ := bind_s h16
  refine o_call (v := aI) (σ' := [aBLI, [aI, aI, aS, aS, aI, aI, aI, aS, .nil, .nil, aS, aI, aI, aI, aI, aI, aI, aI, aI, .nil], aIISSIIISLLSIIIIIIIIL]) [0] rfl (w_ref01xReader_Err hx24) rfl rfl ⟨lr, trivial⟩ (st_c ⟨rfl, rfl, rfl, trivial⟩ st_nil) rfl rfl rfl <| o_p rfl (p_neq rfl rfl) <| o_ek (fr' := [(2, .box 1 0), (3, .box 2 0), (32, aB)]) rfl rfl <| w_ch h25 rfl (fun hb26 h26 => ?_) (fun hb26 h26 => ?_)
  ·
   refine w_sr <| o_p rfl (p_buildc (c0 := [aI, aI, aS, aS, aI, aI, aI, aS, .nil, .nil, aS, aI, aI, aI, aI, aI, aI, aI, aI, .nil]) (cs := [aI, aI, aS, aS, aI, aI, aI, aS, .nil, .nil, aS, aI, aI, aI, aI, aI, aI, aI, aI, .nil]) tb29 rfl fill_nil) <| o_store (v := .agg [aI, aI, aS, aS, aI, aI, aI, aS, .nil, .nil, aS, aI, aI, aI, aI, aI, aI, aI, aI, .nil]) (us := [aI, aI, aS, aS, aI, aI, aI, aS, .nil, .nil, aS, aI, aI, aI, aI, aI, aI, aI, aI, .nil]) (cs := [aI, aI, aS, aS, aI, aI, aI, aS, .nil, .nil, aS, aI, aI, aI, aI, aI, aI, aI, aI, .nil]) (σ' := [aBLI, [aI, aI, aS, aS, aI, aI, aI, aS, .nil, .nil, aS, aI, aI, aI, aI, aI, aI, aI, aI, .nil], aIISSIIISLLSIIIIIIIIL]) rfl tv29 rfl rfl rfl rfl rfl rfl rfl rfl <| o_ek (fr' := [(2, .box 1 0)]) rfl rfl <| w_ret <| e_seq_r ?_
   obtain rfl := sy h26
   exact e_ret (rs' := [.cell 2 29]) rfl <| r_cells (us := [aI, aI, aS, aS, aI, aI, aI, aS, .nil, .nil, aS, aI, aI, aI, aI, aI, aI, aI, aI, .nil]) (cs := [aI, aI, aS, aS, aI, aI, aI, aS, .nil, .nil, aS, aI, aI, aI, aI, aI, aI, aI, aI, .nil]) tv29 rfl rfl rfl rfl <| r_nil <| fin_gen [] rfl rfl rfl (le_aggc rfl ⟨rfl, rfl, rfl, rfl, rfl, rfl, rfl, rfl, ⟨_, rfl⟩, ⟨_, rfl⟩, rfl, rfl, rfl, rfl, rfl, rfl, rfl, rfl, rfl, ⟨_, rfl⟩, trivial⟩) (st_c ⟨rfl, rfl, rfl, trivial⟩ st_nil)
  ·
   refine w_skip <| e_kw <| w_sr <| o_p rfl (p_loads (us := aIISSIIISLLSIIIIIIIIL) tv29 rfl rfl rfl rfl) <| o_store (v := .agg aIISSIIISLLSIIIIIIIIL) (us := aIISSIIISLLSIIIIIIIIL) (cs := [aI, aI, aS, aS, aI, aI, aI, aS, .nil, .nil, aS, aI, aI, aI, aI, aI, aI, aI, aI, .nil]) (σ' := [aBLI, aIISSIIISLLSIIIIIIIIL, aIISSIIISLLSIIIIIIIIL]) rfl tv29 rfl rfl rfl rfl rfl rfl rfl rfl <| o_ek (fr' := [(2, .box 1 0)]) rfl rfl <| w_ret ?_
   obtain rfl := sy h26
   exact e_ret (rs' := [.cell 2 29]) rfl <| r_cells (us := aIISSIIISLLSIIIIIIIIL) (cs := aIISSIIISLLSIIIIIIIIL) tv29 rfl rfl rfl rfl <| r_nil <| fin_gen [] rfl rfl rfl (le_aggc rfl ⟨rfl, rfl, rfl, rfl, rfl, rfl, rfl, rfl, rfl, rfl, rfl, rfl, rfl, rfl, rfl, rfl, rfl, rfl, rfl, rfl, trivial⟩) (st_c ⟨rfl, rfl, rfl, trivial⟩ st_nil)
noncomputable def wire_Reader_Left (p100v : WireReader) : Option Int :=
 (wire_Reader_dead p100v).bind fun (x1 : Bool) => cond x1 (some (0 : Int)) (some (IntKind.wrap .i64 (((p100v.b_).length : Int) - p100v.at_)))
theorem w_wire_Reader_Left {p100v : WireReader} {res : Int} (h : wire_Reader_Left p100v = some res) : ACalls Try.prog 29 [.box 0 0] [AV.cs (rowWireReader p100v)] (.c (.int .i64 res)) [AV.cs (rowWireReader p100v)] := by
 unfold wire_Reader_Left at h
 refine acalls (fn := Try.f29) [0, 2, 4] (by kernel_rfl) Try.func29 rfl (by kernel_rfl) (by kernel_rfl) <| w_sr <| sI rfl <| o_ek (fr' := [(0, .box 0 0)]) rfl rfl <| w_seqw <| w_sr <| mV (v := .box 0 0) rfl ?_
 obtain ⟨x1, hx1, h2⟩ := bind_s h
 refine o_call (v := aB) (σ' := [aLIIB]) [0] rfl (w_wire_Reader_dead hx1) rfl rfl ⟨lr, trivial⟩ (st_c ⟨rfl, rfl, rfl, rfl, trivial⟩ st_nil) rfl rfl rfl <| o_ek (fr' := [(0, .box 0 0), (4, aB)]) rfl rfl <| w_ch h2 rfl (fun hb3 h3 => ?_) (fun hb3 h3 => ?_)
 ·
  refine w_sr <| sI rfl <| o_ek (fr' := [(2, aI)]) rfl rfl <| w_ret <| e_seq_r ?_
  obtain rfl := sy h3
  exact e_ret (rs' := [.tmp 2]) rfl <| r_tmp (v := aI) rfl <| r_nil <| fin_gen [] rfl rfl rfl lr (st_r rfl st_nil)
 ·
  refine w_skip <| e_kw <| w_seqw <| w_planT [.q 0, .q 1, .q 2, .q 3, .q 4, .q 5, .q 6, .q 7, .q 8, .q 9, .n 10 []] [(some 5, [0]), (some 6, [5]), (some 7, [6]), (some 8, [7]), (some 9, [8]), (some 10, [0]), (some 11, [10]), (some 12, [11]), (some 13, [12]), (some 14, [9, 13]), (some 2, [14])] [0, 1, 3, 7, 15, 0, 32, 96, 224, 511, 1023] (by kernel_rfl) <| dq rfl rfl (p_move (v := .box 0 0) rfl) <| dq rfl rfl (p_nc rfl) <| dq rfl rfl (p_fa tf78x0 rfl) <| dq rfl rfl (p_load (v := aL) tv40 rfl rfl rfl) <| dq rfl rfl (p_len ti40 (isl_c rfl)) <| dq rfl rfl (p_move (v := .box 0 0) rfl) <| dq rfl rfl (p_nc rfl) <| dq rfl rfl (p_fa tf78x1 rfl) <| dq rfl rfl (p_load (v := aI) tv3 rfl rfl rfl) ?_
  refine dq rfl rfl (p_sub rfl rfl) <| d_n rfl ?_ rfl
  refine sI rfl <| o_rc <| ⟨rc_nil, ?_⟩
  refine d_ek (fr' := [(2, aI)]) rfl rfl <| w_ret ?_
  obtain rfl := sy h3
  exact e_ret (rs' := [.tmp 2]) rfl <| r_tmp (v := aI) rfl <| r_nil <| fin_gen [] rfl rfl rfl lr (st_r rfl st_nil)
noncomputable def ref01xReader_Left (p100v : Ref01Reader) : Option Int :=
 (ref01xReader_stopped p100v).bind fun (x1 : Bool) => cond x1 (some (0 : Int)) (some ((p100v.Rest).length : Int))
theorem w_ref01xReader_Left {p100v : Ref01Reader} {res : Int} (h : ref01xReader_Left p100v = some res) : ACalls Try.prog 30 [.box 0 0] [AV.cs (rowRef01Reader p100v)] (.c (.int .i64 res)) [AV.cs (rowRef01Reader p100v)] := by
 unfold ref01xReader_Left at h
 refine acalls (fn := Try.f30) [0, 2, 4] (by kernel_rfl) Try.func30 rfl (by kernel_rfl) (by kernel_rfl) <| w_sr <| sI rfl <| o_ek (fr' := [(0, .box 0 0)]) rfl rfl <| w_seqw <| w_sr <| mV (v := .box 0 0) rfl ?_
 obtain ⟨x1, hx1, h2⟩ := bind_s h
 refine o_call (v := aB) (σ' := [aBLI]) [0] rfl (w_ref01xReader_stopped hx1) rfl rfl ⟨lr, trivial⟩ (st_c ⟨rfl, rfl, rfl, trivial⟩ st_nil) rfl rfl rfl <| o_ek (fr' := [(0, .box 0 0), (4, aB)]) rfl rfl <| w_ch h2 rfl (fun hb3 h3 => ?_) (fun hb3 h3 => ?_)
 ·
  refine w_sr <| sI rfl <| o_ek (fr' := [(2, aI)]) rfl rfl <| w_ret <| e_seq_r ?_
  obtain rfl := sy h3
  exact e_ret (rs' := [.tmp 2]) rfl <| r_tmp (v := aI) rfl <| r_nil <| fin_gen [] rfl rfl rfl lr (st_r rfl st_nil)
 ·
  refine w_skip <| e_kw <| w_sr <| mV (v := .box 0 0) rfl <| o_p rfl (p_nc rfl) <| o_p rfl (p_fa tf80x1 rfl) <| o_p rfl (p_load (v := aL) tv40 rfl rfl rfl) <| o_p rfl (p_len ti40 (isl_c rfl)) <| sI rfl <| o_ek (fr' := [(2, aI)]) rfl rfl <| w_ret ?_
  obtain rfl := sy h3
  exact e_ret (rs' := [.tmp 2]) rfl <| r_tmp (v := aI) rfl <| r_nil <| fin_gen [] rfl rfl rfl lr (st_r rfl st_nil)
end Go.Proofs.Ytmnobgopfnhbnaa

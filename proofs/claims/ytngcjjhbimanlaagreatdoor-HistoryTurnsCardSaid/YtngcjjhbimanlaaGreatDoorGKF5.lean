import Derived.Test.YtngcjjhbimanlaaGreatDoorGKTy
namespace Go.Proofs.YtngcjjhbimanlaaGreatDoor
open Go Abs
set_option maxRecDepth 100000
set_option linter.unusedVariables false
set_option linter.unusedSimpArgs false
noncomputable def ref22xuses (p0kind : Int) : Option Ref22Fields :=
 cond (decide (p0kind = (1 : Int))) (some (Ref22Fields.mk false false true false true true true false)) (cond (decide (p0kind = (2 : Int))) (some (Ref22Fields.mk false false true false false false false false)) (((cond (decide (p0kind = (3 : Int))) (some (decide (p0kind = (3 : Int)))) (cond (decide (p0kind = (4 : Int))) (some (decide (p0kind = (4 : Int)))) (some (decide (p0kind = (6 : Int)))))) : Option Bool).bind fun (x5 : Bool) => (cond x5 (some (Ref22Fields.mk false true false false false false false false)) (cond (decide (p0kind = (5 : Int))) (some (Ref22Fields.mk false true false true false false false false)) (cond (decide (p0kind = (8 : Int))) (some (Ref22Fields.mk true true true false false false false false)) (((cond (decide (p0kind = (9 : Int))) (some (decide (p0kind = (9 : Int)))) (cond (decide (p0kind = (13 : Int))) (some (decide (p0kind = (13 : Int)))) (some (decide (p0kind = (21 : Int)))))) : Option Bool).bind fun (x17 : Bool) => (cond x17 (some (Ref22Fields.mk true true false false false false true false)) (((cond (decide (p0kind = (10 : Int))) (some (decide (p0kind = (10 : Int)))) (some (decide (p0kind = (22 : Int))))) : Option Bool).bind fun (x25 : Bool) => (cond x25 (some (Ref22Fields.mk true true false false true false true false)) (cond (decide (p0kind = (11 : Int))) (some (Ref22Fields.mk true true false true false false false false)) (((cond (decide (p0kind = (15 : Int))) (some (decide (p0kind = (15 : Int)))) (cond (decide (p0kind = (24 : Int))) (some (decide (p0kind = (24 : Int)))) (cond (decide (p0kind = (12 : Int))) (some (decide (p0kind = (12 : Int)))) (some (decide (p0kind = (16 : Int))))))) : Option Bool).bind fun (x34 : Bool) => (cond x34 (some (Ref22Fields.mk true true false false false false false false)) (cond (decide (p0kind = (17 : Int))) (some (Ref22Fields.mk false false false false true true true false)) (cond (decide (p0kind = (20 : Int))) (some (Ref22Fields.mk true true false false false true false false)) (cond (decide (p0kind = (25 : Int))) (some (Ref22Fields.mk true true false false true false false false)) (cond (decide (p0kind = (26 : Int))) (some (Ref22Fields.mk false false false false false true false false)) (cond (decide (p0kind = (33 : Int))) (some (Ref22Fields.mk false false false false true false false false)) (cond (decide (p0kind = (7 : Int))) (some (Ref22Fields.mk true false false false true false true true)) (cond (decide (p0kind = (14 : Int))) (some (Ref22Fields.mk true false true false false false false false)) (cond (decide (p0kind = (19 : Int))) (some (Ref22Fields.mk true false true false true true true false)) (cond (decide (p0kind = (23 : Int))) (some (Ref22Fields.mk true false false false true true true false)) (cond (decide (p0kind = (18 : Int))) (some (Ref22Fields.mk false false true false true false true false)) (cond (decide (p0kind = (27 : Int))) (some (Ref22Fields.mk false false false false true true true false)) (cond (decide (p0kind = (28 : Int))) (some (Ref22Fields.mk false false true false false true true false)) (cond (decide (p0kind = (31 : Int))) (some (Ref22Fields.mk false false false false true false true false)) (((cond (decide (p0kind = (29 : Int))) (some (decide (p0kind = (29 : Int)))) (cond (decide (p0kind = (30 : Int))) (some (decide (p0kind = (30 : Int)))) (cond (decide (p0kind = (32 : Int))) (some (decide (p0kind = (32 : Int)))) (some (decide (p0kind = (35 : Int))))))) : Option Bool).bind fun (x69 : Bool) => (cond x69 (some (Ref22Fields.mk false false false false false false true false)) (some (Ref22Fields.mk false false false false false false false false)))))))))))))))))))))))))))))
theorem w_ref22xuses {p0kind : Int} {res : Ref22Fields} (h : ref22xuses p0kind = some res) : ACalls Tryz.prog 67 [.c (.int .i64 p0kind)] [] (.agg (AV.cs (rowRef22Fields res))) [] := by
 unfold ref22xuses at h
 refine acalls (fn := Tryz.f67) [0, 2, 3, 4, 7, 10, 15, 18, 21, 26, 30, 33, 39, 42, 45, 48, 51, 54, 57, 60, 63, 66, 69, 72, 75, 78] (by kernel_rfl) Tryz.func67 rfl (by kernel_rfl) (by kernel_rfl) <| w_sr <| o_alloc (n := 0) (cs := aBBBBBBBB) (σ' := [aBBBBBBBB]) tz84 rfl rfl rfl <| o_ek (fr' := [(0, aI), (2, .box 0 0)]) rfl rfl <| w_seqw <| w_sr <| mI rfl <| o_ek (fr' := [(2, .box 0 0), (3, aI)]) rfl rfl <| w_block <| w_seqw <| w_region ?_
 refine o_p rfl (p_eql rfl rfl) <| sB rfl <| o_ek (fr' := [(2, .box 0 0), (3, aI), (4, aB)]) rfl rfl <| w_ch h rfl (fun hb1 h1 => ?_) (fun hb1 h1 => ?_)
 ·
  refine w_sr <| o_p rfl (p_build (cs := aBBBBBBBB) tb84 rfl) <| o_store (v := .agg aBBBBBBBB) (us := aBBBBBBBB) (cs := aBBBBBBBB) (σ' := [aBBBBBBBB]) rfl tv84 rfl rfl rfl rfl rfl rfl rfl rfl <| o_ek (fr' := [(2, .box 0 0)]) rfl rfl <| w_ret <| e_blk_r <| e_seq_r ?_
  obtain rfl := sy h1
  exact e_ret (rs' := [.cell 2 84]) rfl <| r_cells (us := aBBBBBBBB) (cs := aBBBBBBBB) tv84 rfl rfl rfl rfl <| r_nil <| fin_gen [] rfl rfl rfl (le_aggc rfl ⟨rfl, rfl, rfl, rfl, rfl, rfl, rfl, rfl, trivial⟩) st_nil
 ·
  refine w_sr <| o_p rfl (p_eql rfl rfl) <| sB rfl <| o_ek (fr' := [(2, .box 0 0), (3, aI), (7, aB)]) rfl rfl <| w_ch h1 rfl (fun hb3 h3 => ?_) (fun hb3 h3 => ?_)
  ·
   refine w_sr <| o_p rfl (p_build (cs := aBBBBBBBB) tb84 rfl) <| o_store (v := .agg aBBBBBBBB) (us := aBBBBBBBB) (cs := aBBBBBBBB) (σ' := [aBBBBBBBB]) rfl tv84 rfl rfl rfl rfl rfl rfl rfl rfl <| o_ek (fr' := [(2, .box 0 0)]) rfl rfl <| w_ret <| e_blk_r <| e_seq_r ?_
   obtain rfl := sy h3
   exact e_ret (rs' := [.cell 2 84]) rfl <| r_cells (us := aBBBBBBBB) (cs := aBBBBBBBB) tv84 rfl rfl rfl rfl <| r_nil <| fin_gen [] rfl rfl rfl (le_aggc rfl ⟨rfl, rfl, rfl, rfl, rfl, rfl, rfl, rfl, trivial⟩) st_nil
  ·
   obtain ⟨x5, hx5, h6⟩ := bind_s h3
   refine w_join (fun j7 => x5 = j7) (fun (j7 : Bool) => ([(2, .box 0 0), (3, .c (.int .i64 p0kind)), (10, .c (.bool j7))] : Fr)) (fun (j7 : Bool) => ([[.c (.bool false), .c (.bool false), .c (.bool false), .c (.bool false), .c (.bool false), .c (.bool false), .c (.bool false), .c (.bool false)]] : St)) ?_ ?_
   ·
    refine w_sr <| o_p rfl (p_eql rfl rfl) <| sB rfl <| o_ek (fr' := [(2, .box 0 0), (3, aI), (10, aB)]) rfl rfl <| w_ch hx5 rfl (fun hb8 h8 => ?_) (fun hb8 h8 => ?_)
    ·
     exact w_skip <| e_j _ (sy h8) (w_weak [] 1 rfl rfl rfl rfl ⟨lr, lr, lr, trivial⟩ (st_r rfl st_nil))
    ·
     refine w_sr <| o_p rfl (p_eql rfl rfl) <| sB rfl <| o_ek (fr' := [(2, .box 0 0), (3, aI), (10, aB)]) rfl rfl <| w_ch h8 rfl (fun hb9 h9 => ?_) (fun hb9 h9 => ?_)
     ·
      exact w_skip <| e_j _ (sy h9) (w_weak [] 1 rfl rfl rfl rfl ⟨lr, lr, lr, trivial⟩ (st_r rfl st_nil))
     ·
      exact w_region <| o_p rfl (p_eql rfl rfl) <| sB rfl <| o_end (fr' := [(2, .box 0 0), (3, aI), (10, aB)]) rfl <| e_j _ (sy h9) (w_weak [] 1 rfl rfl rfl rfl ⟨lr, lr, lr, trivial⟩ (st_r rfl st_nil))
   ·
    intro j7 hj10
    subst hj10
    refine w_ch h6 rfl (fun hb11 h11 => ?_) (fun hb11 h11 => ?_)
    ·
     refine w_sr <| o_p rfl (p_build (cs := aBBBBBBBB) tb84 rfl) <| o_store (v := .agg aBBBBBBBB) (us := aBBBBBBBB) (cs := aBBBBBBBB) (σ' := [aBBBBBBBB]) rfl tv84 rfl rfl rfl rfl rfl rfl rfl rfl <| o_ek (fr' := [(2, .box 0 0)]) rfl rfl <| w_ret <| e_blk_r <| e_seq_r ?_
     obtain rfl := sy h11
     exact e_ret (rs' := [.cell 2 84]) rfl <| r_cells (us := aBBBBBBBB) (cs := aBBBBBBBB) tv84 rfl rfl rfl rfl <| r_nil <| fin_gen [] rfl rfl rfl (le_aggc rfl ⟨rfl, rfl, rfl, rfl, rfl, rfl, rfl, rfl, trivial⟩) st_nil
    ·
     refine w_sr <| o_p rfl (p_eql rfl rfl) <| sB rfl <| o_ek (fr' := [(2, .box 0 0), (3, aI), (15, aB)]) rfl rfl <| w_ch h11 rfl (fun hb13 h13 => ?_) (fun hb13 h13 => ?_)
     ·
      refine w_sr <| o_p rfl (p_build (cs := aBBBBBBBB) tb84 rfl) <| o_store (v := .agg aBBBBBBBB) (us := aBBBBBBBB) (cs := aBBBBBBBB) (σ' := [aBBBBBBBB]) rfl tv84 rfl rfl rfl rfl rfl rfl rfl rfl <| o_ek (fr' := [(2, .box 0 0)]) rfl rfl <| w_ret <| e_blk_r <| e_seq_r ?_
      obtain rfl := sy h13
      exact e_ret (rs' := [.cell 2 84]) rfl <| r_cells (us := aBBBBBBBB) (cs := aBBBBBBBB) tv84 rfl rfl rfl rfl <| r_nil <| fin_gen [] rfl rfl rfl (le_aggc rfl ⟨rfl, rfl, rfl, rfl, rfl, rfl, rfl, rfl, trivial⟩) st_nil
     ·
      refine w_sr <| o_p rfl (p_eql rfl rfl) <| sB rfl <| o_ek (fr' := [(2, .box 0 0), (3, aI), (18, aB)]) rfl rfl <| w_ch h13 rfl (fun hb15 h15 => ?_) (fun hb15 h15 => ?_)
      ·
       refine w_sr <| o_p rfl (p_build (cs := aBBBBBBBB) tb84 rfl) <| o_store (v := .agg aBBBBBBBB) (us := aBBBBBBBB) (cs := aBBBBBBBB) (σ' := [aBBBBBBBB]) rfl tv84 rfl rfl rfl rfl rfl rfl rfl rfl <| o_ek (fr' := [(2, .box 0 0)]) rfl rfl <| w_ret <| e_blk_r <| e_seq_r ?_
       obtain rfl := sy h15
       exact e_ret (rs' := [.cell 2 84]) rfl <| r_cells (us := aBBBBBBBB) (cs := aBBBBBBBB) tv84 rfl rfl rfl rfl <| r_nil <| fin_gen [] rfl rfl rfl (le_aggc rfl ⟨rfl, rfl, rfl, rfl, rfl, rfl, rfl, rfl, trivial⟩) st_nil
      ·
       obtain ⟨x17, hx17, h18⟩ := bind_s h15
       refine w_join (fun j19 => x17 = j19) (fun (j19 : Bool) => ([(2, .box 0 0), (3, .c (.int .i64 p0kind)), (21, .c (.bool j19))] : Fr)) (fun (j19 : Bool) => ([[.c (.bool false), .c (.bool false), .c (.bool false), .c (.bool false), .c (.bool false), .c (.bool false), .c (.bool false), .c (.bool false)]] : St)) ?_ ?_
       ·
        refine w_sr <| o_p rfl (p_eql rfl rfl) <| sB rfl <| o_ek (fr' := [(2, .box 0 0), (3, aI), (21, aB)]) rfl rfl <| w_ch hx17 rfl (fun hb20 h20 => ?_) (fun hb20 h20 => ?_)
        ·
         exact w_skip <| e_j _ (sy h20) (w_weak [] 1 rfl rfl rfl rfl ⟨lr, lr, lr, trivial⟩ (st_r rfl st_nil))
        ·
         refine w_sr <| o_p rfl (p_eql rfl rfl) <| sB rfl <| o_ek (fr' := [(2, .box 0 0), (3, aI), (21, aB)]) rfl rfl <| w_ch h20 rfl (fun hb21 h21 => ?_) (fun hb21 h21 => ?_)
         ·
          exact w_skip <| e_j _ (sy h21) (w_weak [] 1 rfl rfl rfl rfl ⟨lr, lr, lr, trivial⟩ (st_r rfl st_nil))
         ·
          exact w_region <| o_p rfl (p_eql rfl rfl) <| sB rfl <| o_end (fr' := [(2, .box 0 0), (3, aI), (21, aB)]) rfl <| e_j _ (sy h21) (w_weak [] 1 rfl rfl rfl rfl ⟨lr, lr, lr, trivial⟩ (st_r rfl st_nil))
       ·
        intro j19 hj22
        subst hj22
        refine w_ch h18 rfl (fun hb23 h23 => ?_) (fun hb23 h23 => ?_)
        ·
         refine w_sr <| o_p rfl (p_build (cs := aBBBBBBBB) tb84 rfl) <| o_store (v := .agg aBBBBBBBB) (us := aBBBBBBBB) (cs := aBBBBBBBB) (σ' := [aBBBBBBBB]) rfl tv84 rfl rfl rfl rfl rfl rfl rfl rfl <| o_ek (fr' := [(2, .box 0 0)]) rfl rfl <| w_ret <| e_blk_r <| e_seq_r ?_
         obtain rfl := sy h23
         exact e_ret (rs' := [.cell 2 84]) rfl <| r_cells (us := aBBBBBBBB) (cs := aBBBBBBBB) tv84 rfl rfl rfl rfl <| r_nil <| fin_gen [] rfl rfl rfl (le_aggc rfl ⟨rfl, rfl, rfl, rfl, rfl, rfl, rfl, rfl, trivial⟩) st_nil
        ·
         obtain ⟨x25, hx25, h26⟩ := bind_s h23
         refine w_join (fun j27 => x25 = j27) (fun (j27 : Bool) => ([(2, .box 0 0), (3, .c (.int .i64 p0kind)), (26, .c (.bool j27))] : Fr)) (fun (j27 : Bool) => ([[.c (.bool false), .c (.bool false), .c (.bool false), .c (.bool false), .c (.bool false), .c (.bool false), .c (.bool false), .c (.bool false)]] : St)) ?_ ?_
         ·
          refine w_sr <| o_p rfl (p_eql rfl rfl) <| sB rfl <| o_ek (fr' := [(2, .box 0 0), (3, aI), (26, aB)]) rfl rfl <| w_ch hx25 rfl (fun hb28 h28 => ?_) (fun hb28 h28 => ?_)
          ·
           exact w_skip <| e_j _ (sy h28) (w_weak [] 1 rfl rfl rfl rfl ⟨lr, lr, lr, trivial⟩ (st_r rfl st_nil))
          ·
           exact w_region <| o_p rfl (p_eql rfl rfl) <| sB rfl <| o_end (fr' := [(2, .box 0 0), (3, aI), (26, aB)]) rfl <| e_j _ (sy h28) (w_weak [] 1 rfl rfl rfl rfl ⟨lr, lr, lr, trivial⟩ (st_r rfl st_nil))
         ·
          intro j27 hj29
          subst hj29
          refine w_ch h26 rfl (fun hb30 h30 => ?_) (fun hb30 h30 => ?_)
          ·
           refine w_sr <| o_p rfl (p_build (cs := aBBBBBBBB) tb84 rfl) <| o_store (v := .agg aBBBBBBBB) (us := aBBBBBBBB) (cs := aBBBBBBBB) (σ' := [aBBBBBBBB]) rfl tv84 rfl rfl rfl rfl rfl rfl rfl rfl <| o_ek (fr' := [(2, .box 0 0)]) rfl rfl <| w_ret <| e_blk_r <| e_seq_r ?_
           obtain rfl := sy h30
           exact e_ret (rs' := [.cell 2 84]) rfl <| r_cells (us := aBBBBBBBB) (cs := aBBBBBBBB) tv84 rfl rfl rfl rfl <| r_nil <| fin_gen [] rfl rfl rfl (le_aggc rfl ⟨rfl, rfl, rfl, rfl, rfl, rfl, rfl, rfl, trivial⟩) st_nil
          ·
           refine w_sr <| o_p rfl (p_eql rfl rfl) <| sB rfl <| o_ek (fr' := [(2, .box 0 0), (3, aI), (30, aB)]) rfl rfl <| w_ch h30 rfl (fun hb32 h32 => ?_) (fun hb32 h32 => ?_)
           ·
            refine w_sr <| o_p rfl (p_build (cs := aBBBBBBBB) tb84 rfl) <| o_store (v := .agg aBBBBBBBB) (us := aBBBBBBBB) (cs := aBBBBBBBB) (σ' := [aBBBBBBBB]) rfl tv84 rfl rfl rfl rfl rfl rfl rfl rfl <| o_ek (fr' := [(2, .box 0 0)]) rfl rfl <| w_ret <| e_blk_r <| e_seq_r ?_
            obtain rfl := sy h32
            exact e_ret (rs' := [.cell 2 84]) rfl <| r_cells (us := aBBBBBBBB) (cs := aBBBBBBBB) tv84 rfl rfl rfl rfl <| r_nil <| fin_gen [] rfl rfl rfl (le_aggc rfl ⟨rfl, rfl, rfl, rfl, rfl, rfl, rfl, rfl, trivial⟩) st_nil
           ·
            obtain ⟨x34, hx34, h35⟩ := bind_s h32
            refine w_join (fun j36 => x34 = j36) (fun (j36 : Bool) => ([(2, .box 0 0), (3, .c (.int .i64 p0kind)), (33, .c (.bool j36))] : Fr)) (fun (j36 : Bool) => ([[.c (.bool false), .c (.bool false), .c (.bool false), .c (.bool false), .c (.bool false), .c (.bool false), .c (.bool false), .c (.bool false)]] : St)) ?_ ?_
            ·
             refine w_sr <| o_p rfl (p_eql rfl rfl) <| sB rfl <| o_ek (fr' := [(2, .box 0 0), (3, aI), (33, aB)]) rfl rfl <| w_ch hx34 rfl (fun hb37 h37 => ?_) (fun hb37 h37 => ?_)
             ·
              exact w_skip <| e_j _ (sy h37) (w_weak [] 1 rfl rfl rfl rfl ⟨lr, lr, lr, trivial⟩ (st_r rfl st_nil))
             ·
              refine w_sr <| o_p rfl (p_eql rfl rfl) <| sB rfl <| o_ek (fr' := [(2, .box 0 0), (3, aI), (33, aB)]) rfl rfl <| w_ch h37 rfl (fun hb38 h38 => ?_) (fun hb38 h38 => ?_)
              ·
               exact w_skip <| e_j _ (sy h38) (w_weak [] 1 rfl rfl rfl rfl ⟨lr, lr, lr, trivial⟩ (st_r rfl st_nil))
              ·
               refine w_sr <| o_p rfl (p_eql rfl rfl) <| sB rfl <| o_ek (fr' := [(2, .box 0 0), (3, aI), (33, aB)]) rfl rfl <| w_ch h38 rfl (fun hb39 h39 => ?_) (fun hb39 h39 => ?_)
               ·
                exact w_skip <| e_j _ (sy h39) (w_weak [] 1 rfl rfl rfl rfl ⟨lr, lr, lr, trivial⟩ (st_r rfl st_nil))
               ·
                exact w_region <| o_p rfl (p_eql rfl rfl) <| sB rfl <| o_end (fr' := [(2, .box 0 0), (3, aI), (33, aB)]) rfl <| e_j _ (sy h39) (w_weak [] 1 rfl rfl rfl rfl ⟨lr, lr, lr, trivial⟩ (st_r rfl st_nil))
            ·
             intro j36 hj40
             subst hj40
             refine w_ch h35 rfl (fun hb41 h41 => ?_) (fun hb41 h41 => ?_)
             ·
              refine w_sr <| o_p rfl (p_build (cs := aBBBBBBBB) tb84 rfl) <| o_store (v := .agg aBBBBBBBB) (us := aBBBBBBBB) (cs := aBBBBBBBB) (σ' := [aBBBBBBBB]) rfl tv84 rfl rfl rfl rfl rfl rfl rfl rfl <| o_ek (fr' := [(2, .box 0 0)]) rfl rfl <| w_ret <| e_blk_r <| e_seq_r ?_
              obtain rfl := sy h41
              exact e_ret (rs' := [.cell 2 84]) rfl <| r_cells (us := aBBBBBBBB) (cs := aBBBBBBBB) tv84 rfl rfl rfl rfl <| r_nil <| fin_gen [] rfl rfl rfl (le_aggc rfl ⟨rfl, rfl, rfl, rfl, rfl, rfl, rfl, rfl, trivial⟩) st_nil
             ·
              refine w_sr <| o_p rfl (p_eql rfl rfl) <| sB rfl <| o_ek (fr' := [(2, .box 0 0), (3, aI), (39, aB)]) rfl rfl <| w_ch h41 rfl (fun hb43 h43 => ?_) (fun hb43 h43 => ?_)
              ·
               refine w_sr <| o_p rfl (p_build (cs := aBBBBBBBB) tb84 rfl) <| o_store (v := .agg aBBBBBBBB) (us := aBBBBBBBB) (cs := aBBBBBBBB) (σ' := [aBBBBBBBB]) rfl tv84 rfl rfl rfl rfl rfl rfl rfl rfl <| o_ek (fr' := [(2, .box 0 0)]) rfl rfl <| w_ret <| e_blk_r <| e_seq_r ?_
               obtain rfl := sy h43
               exact e_ret (rs' := [.cell 2 84]) rfl <| r_cells (us := aBBBBBBBB) (cs := aBBBBBBBB) tv84 rfl rfl rfl rfl <| r_nil <| fin_gen [] rfl rfl rfl (le_aggc rfl ⟨rfl, rfl, rfl, rfl, rfl, rfl, rfl, rfl, trivial⟩) st_nil
              ·
               refine w_sr <| o_p rfl (p_eql rfl rfl) <| sB rfl <| o_ek (fr' := [(2, .box 0 0), (3, aI), (42, aB)]) rfl rfl <| w_ch h43 rfl (fun hb45 h45 => ?_) (fun hb45 h45 => ?_)
               ·
                refine w_sr <| o_p rfl (p_build (cs := aBBBBBBBB) tb84 rfl) <| o_store (v := .agg aBBBBBBBB) (us := aBBBBBBBB) (cs := aBBBBBBBB) (σ' := [aBBBBBBBB]) rfl tv84 rfl rfl rfl rfl rfl rfl rfl rfl <| o_ek (fr' := [(2, .box 0 0)]) rfl rfl <| w_ret <| e_blk_r <| e_seq_r ?_
                obtain rfl := sy h45
                exact e_ret (rs' := [.cell 2 84]) rfl <| r_cells (us := aBBBBBBBB) (cs := aBBBBBBBB) tv84 rfl rfl rfl rfl <| r_nil <| fin_gen [] rfl rfl rfl (le_aggc rfl ⟨rfl, rfl, rfl, rfl, rfl, rfl, rfl, rfl, trivial⟩) st_nil
               ·
                refine w_sr <| o_p rfl (p_eql rfl rfl) <| sB rfl <| o_ek (fr' := [(2, .box 0 0), (3, aI), (45, aB)]) rfl rfl <| w_ch h45 rfl (fun hb47 h47 => ?_) (fun hb47 h47 => ?_)
                ·
                 refine w_sr <| o_p rfl (p_build (cs := aBBBBBBBB) tb84 rfl) <| o_store (v := .agg aBBBBBBBB) (us := aBBBBBBBB) (cs := aBBBBBBBB) (σ' := [aBBBBBBBB]) rfl tv84 rfl rfl rfl rfl rfl rfl rfl rfl <| o_ek (fr' := [(2, .box 0 0)]) rfl rfl <| w_ret <| e_blk_r <| e_seq_r ?_
                 obtain rfl := sy h47
                 exact e_ret (rs' := [.cell 2 84]) rfl <| r_cells (us := aBBBBBBBB) (cs := aBBBBBBBB) tv84 rfl rfl rfl rfl <| r_nil <| fin_gen [] rfl rfl rfl (le_aggc rfl ⟨rfl, rfl, rfl, rfl, rfl, rfl, rfl, rfl, trivial⟩) st_nil
                ·
                 refine w_sr <| o_p rfl (p_eql rfl rfl) <| sB rfl <| o_ek (fr' := [(2, .box 0 0), (3, aI), (48, aB)]) rfl rfl <| w_ch h47 rfl (fun hb49 h49 => ?_) (fun hb49 h49 => ?_)
                 ·
                  refine w_sr <| o_p rfl (p_build (cs := aBBBBBBBB) tb84 rfl) <| o_store (v := .agg aBBBBBBBB) (us := aBBBBBBBB) (cs := aBBBBBBBB) (σ' := [aBBBBBBBB]) rfl tv84 rfl rfl rfl rfl rfl rfl rfl rfl <| o_ek (fr' := [(2, .box 0 0)]) rfl rfl <| w_ret <| e_blk_r <| e_seq_r ?_
                  obtain rfl := sy h49
                  exact e_ret (rs' := [.cell 2 84]) rfl <| r_cells (us := aBBBBBBBB) (cs := aBBBBBBBB) tv84 rfl rfl rfl rfl <| r_nil <| fin_gen [] rfl rfl rfl (le_aggc rfl ⟨rfl, rfl, rfl, rfl, rfl, rfl, rfl, rfl, trivial⟩) st_nil
                 ·
                  refine w_sr <| o_p rfl (p_eql rfl rfl) <| sB rfl <| o_ek (fr' := [(2, .box 0 0), (3, aI), (51, aB)]) rfl rfl <| w_ch h49 rfl (fun hb51 h51 => ?_) (fun hb51 h51 => ?_)
                  ·
                   refine w_sr <| o_p rfl (p_build (cs := aBBBBBBBB) tb84 rfl) <| o_store (v := .agg aBBBBBBBB) (us := aBBBBBBBB) (cs := aBBBBBBBB) (σ' := [aBBBBBBBB]) rfl tv84 rfl rfl rfl rfl rfl rfl rfl rfl <| o_ek (fr' := [(2, .box 0 0)]) rfl rfl <| w_ret <| e_blk_r <| e_seq_r ?_
                   obtain rfl := sy h51
                   exact e_ret (rs' := [.cell 2 84]) rfl <| r_cells (us := aBBBBBBBB) (cs := aBBBBBBBB) tv84 rfl rfl rfl rfl <| r_nil <| fin_gen [] rfl rfl rfl (le_aggc rfl ⟨rfl, rfl, rfl, rfl, rfl, rfl, rfl, rfl, trivial⟩) st_nil
                  ·
                   refine w_sr <| o_p rfl (p_eql rfl rfl) <| sB rfl <| o_ek (fr' := [(2, .box 0 0), (3, aI), (54, aB)]) rfl rfl <| w_ch h51 rfl (fun hb53 h53 => ?_) (fun hb53 h53 => ?_)
                   ·
                    refine w_sr <| o_p rfl (p_build (cs := aBBBBBBBB) tb84 rfl) <| o_store (v := .agg aBBBBBBBB) (us := aBBBBBBBB) (cs := aBBBBBBBB) (σ' := [aBBBBBBBB]) rfl tv84 rfl rfl rfl rfl rfl rfl rfl rfl <| o_ek (fr' := [(2, .box 0 0)]) rfl rfl <| w_ret <| e_blk_r <| e_seq_r ?_
                    obtain rfl := sy h53
                    exact e_ret (rs' := [.cell 2 84]) rfl <| r_cells (us := aBBBBBBBB) (cs := aBBBBBBBB) tv84 rfl rfl rfl rfl <| r_nil <| fin_gen [] rfl rfl rfl (le_aggc rfl ⟨rfl, rfl, rfl, rfl, rfl, rfl, rfl, rfl, trivial⟩) st_nil
                   ·
                    refine w_sr <| o_p rfl (p_eql rfl rfl) <| sB rfl <| o_ek (fr' := [(2, .box 0 0), (3, aI), (57, aB)]) rfl rfl <| w_ch h53 rfl (fun hb55 h55 => ?_) (fun hb55 h55 => ?_)
                    ·
                     refine w_sr <| o_p rfl (p_build (cs := aBBBBBBBB) tb84 rfl) <| o_store (v := .agg aBBBBBBBB) (us := aBBBBBBBB) (cs := aBBBBBBBB) (σ' := [aBBBBBBBB]) rfl tv84 rfl rfl rfl rfl rfl rfl rfl rfl <| o_ek (fr' := [(2, .box 0 0)]) rfl rfl <| w_ret <| e_blk_r <| e_seq_r ?_
                     obtain rfl := sy h55
                     exact e_ret (rs' := [.cell 2 84]) rfl <| r_cells (us := aBBBBBBBB) (cs := aBBBBBBBB) tv84 rfl rfl rfl rfl <| r_nil <| fin_gen [] rfl rfl rfl (le_aggc rfl ⟨rfl, rfl, rfl, rfl, rfl, rfl, rfl, rfl, trivial⟩) st_nil
                    ·
                     refine w_sr <| o_p rfl (p_eql rfl rfl) <| sB rfl <| o_ek (fr' := [(2, .box 0 0), (3, aI), (60, aB)]) rfl rfl <| w_ch h55 rfl (fun hb57 h57 => ?_) (fun hb57 h57 => ?_)
                     ·
                      refine w_sr <| o_p rfl (p_build (cs := aBBBBBBBB) tb84 rfl) <| o_store (v := .agg aBBBBBBBB) (us := aBBBBBBBB) (cs := aBBBBBBBB) (σ' := [aBBBBBBBB]) rfl tv84 rfl rfl rfl rfl rfl rfl rfl rfl <| o_ek (fr' := [(2, .box 0 0)]) rfl rfl <| w_ret <| e_blk_r <| e_seq_r ?_
                      obtain rfl := sy h57
                      exact e_ret (rs' := [.cell 2 84]) rfl <| r_cells (us := aBBBBBBBB) (cs := aBBBBBBBB) tv84 rfl rfl rfl rfl <| r_nil <| fin_gen [] rfl rfl rfl (le_aggc rfl ⟨rfl, rfl, rfl, rfl, rfl, rfl, rfl, rfl, trivial⟩) st_nil
                     ·
                      refine w_sr <| o_p rfl (p_eql rfl rfl) <| sB rfl <| o_ek (fr' := [(2, .box 0 0), (3, aI), (63, aB)]) rfl rfl <| w_ch h57 rfl (fun hb59 h59 => ?_) (fun hb59 h59 => ?_)
                      ·
                       refine w_sr <| o_p rfl (p_build (cs := aBBBBBBBB) tb84 rfl) <| o_store (v := .agg aBBBBBBBB) (us := aBBBBBBBB) (cs := aBBBBBBBB) (σ' := [aBBBBBBBB]) rfl tv84 rfl rfl rfl rfl rfl rfl rfl rfl <| o_ek (fr' := [(2, .box 0 0)]) rfl rfl <| w_ret <| e_blk_r <| e_seq_r ?_
                       obtain rfl := sy h59
                       exact e_ret (rs' := [.cell 2 84]) rfl <| r_cells (us := aBBBBBBBB) (cs := aBBBBBBBB) tv84 rfl rfl rfl rfl <| r_nil <| fin_gen [] rfl rfl rfl (le_aggc rfl ⟨rfl, rfl, rfl, rfl, rfl, rfl, rfl, rfl, trivial⟩) st_nil
                      ·
                       refine w_sr <| o_p rfl (p_eql rfl rfl) <| sB rfl <| o_ek (fr' := [(2, .box 0 0), (3, aI), (66, aB)]) rfl rfl <| w_ch h59 rfl (fun hb61 h61 => ?_) (fun hb61 h61 => ?_)
                       ·
                        refine w_sr <| o_p rfl (p_build (cs := aBBBBBBBB) tb84 rfl) <| o_store (v := .agg aBBBBBBBB) (us := aBBBBBBBB) (cs := aBBBBBBBB) (σ' := [aBBBBBBBB]) rfl tv84 rfl rfl rfl rfl rfl rfl rfl rfl <| o_ek (fr' := [(2, .box 0 0)]) rfl rfl <| w_ret <| e_blk_r <| e_seq_r ?_
                        obtain rfl := sy h61
                        exact e_ret (rs' := [.cell 2 84]) rfl <| r_cells (us := aBBBBBBBB) (cs := aBBBBBBBB) tv84 rfl rfl rfl rfl <| r_nil <| fin_gen [] rfl rfl rfl (le_aggc rfl ⟨rfl, rfl, rfl, rfl, rfl, rfl, rfl, rfl, trivial⟩) st_nil
                       ·
                        refine w_sr <| o_p rfl (p_eql rfl rfl) <| sB rfl <| o_ek (fr' := [(2, .box 0 0), (3, aI), (69, aB)]) rfl rfl <| w_ch h61 rfl (fun hb63 h63 => ?_) (fun hb63 h63 => ?_)
                        ·
                         refine w_sr <| o_p rfl (p_build (cs := aBBBBBBBB) tb84 rfl) <| o_store (v := .agg aBBBBBBBB) (us := aBBBBBBBB) (cs := aBBBBBBBB) (σ' := [aBBBBBBBB]) rfl tv84 rfl rfl rfl rfl rfl rfl rfl rfl <| o_ek (fr' := [(2, .box 0 0)]) rfl rfl <| w_ret <| e_blk_r <| e_seq_r ?_
                         obtain rfl := sy h63
                         exact e_ret (rs' := [.cell 2 84]) rfl <| r_cells (us := aBBBBBBBB) (cs := aBBBBBBBB) tv84 rfl rfl rfl rfl <| r_nil <| fin_gen [] rfl rfl rfl (le_aggc rfl ⟨rfl, rfl, rfl, rfl, rfl, rfl, rfl, rfl, trivial⟩) st_nil
                        ·
                         refine w_sr <| o_p rfl (p_eql rfl rfl) <| sB rfl <| o_ek (fr' := [(2, .box 0 0), (3, aI), (72, aB)]) rfl rfl <| w_ch h63 rfl (fun hb65 h65 => ?_) (fun hb65 h65 => ?_)
                         ·
                          refine w_sr <| o_p rfl (p_build (cs := aBBBBBBBB) tb84 rfl) <| o_store (v := .agg aBBBBBBBB) (us := aBBBBBBBB) (cs := aBBBBBBBB) (σ' := [aBBBBBBBB]) rfl tv84 rfl rfl rfl rfl rfl rfl rfl rfl <| o_ek (fr' := [(2, .box 0 0)]) rfl rfl <| w_ret <| e_blk_r <| e_seq_r ?_
                          obtain rfl := sy h65
                          exact e_ret (rs' := [.cell 2 84]) rfl <| r_cells (us := aBBBBBBBB) (cs := aBBBBBBBB) tv84 rfl rfl rfl rfl <| r_nil <| fin_gen [] rfl rfl rfl (le_aggc rfl ⟨rfl, rfl, rfl, rfl, rfl, rfl, rfl, rfl, trivial⟩) st_nil
                         ·
                          refine w_sr <| o_p rfl (p_eql rfl rfl) <| sB rfl <| o_ek (fr' := [(2, .box 0 0), (3, aI), (75, aB)]) rfl rfl <| w_ch h65 rfl (fun hb67 h67 => ?_) (fun hb67 h67 => ?_)
                          ·
                           refine w_sr <| o_p rfl (p_build (cs := aBBBBBBBB) tb84 rfl) <| o_store (v := .agg aBBBBBBBB) (us := aBBBBBBBB) (cs := aBBBBBBBB) (σ' := [aBBBBBBBB]) rfl tv84 rfl rfl rfl rfl rfl rfl rfl rfl <| o_ek (fr' := [(2, .box 0 0)]) rfl rfl <| w_ret <| e_blk_r <| e_seq_r ?_
                           obtain rfl := sy h67
                           exact e_ret (rs' := [.cell 2 84]) rfl <| r_cells (us := aBBBBBBBB) (cs := aBBBBBBBB) tv84 rfl rfl rfl rfl <| r_nil <| fin_gen [] rfl rfl rfl (le_aggc rfl ⟨rfl, rfl, rfl, rfl, rfl, rfl, rfl, rfl, trivial⟩) st_nil
                          ·
                           obtain ⟨x69, hx69, h70⟩ := bind_s h67
                           refine w_join (fun j71 => x69 = j71) (fun (j71 : Bool) => ([(2, .box 0 0), (78, .c (.bool j71))] : Fr)) (fun (j71 : Bool) => ([[.c (.bool false), .c (.bool false), .c (.bool false), .c (.bool false), .c (.bool false), .c (.bool false), .c (.bool false), .c (.bool false)]] : St)) ?_ ?_
                           ·
                            refine w_sr <| o_p rfl (p_eql rfl rfl) <| sB rfl <| o_ek (fr' := [(2, .box 0 0), (3, aI), (78, aB)]) rfl rfl <| w_ch hx69 rfl (fun hb72 h72 => ?_) (fun hb72 h72 => ?_)
                            ·
                             exact w_skip <| e_j _ (sy h72) (w_weak [] 1 rfl rfl rfl rfl ⟨lr, lr, trivial⟩ (st_r rfl st_nil))
                            ·
                             refine w_sr <| o_p rfl (p_eql rfl rfl) <| sB rfl <| o_ek (fr' := [(2, .box 0 0), (3, aI), (78, aB)]) rfl rfl <| w_ch h72 rfl (fun hb73 h73 => ?_) (fun hb73 h73 => ?_)
                             ·
                              exact w_skip <| e_j _ (sy h73) (w_weak [] 1 rfl rfl rfl rfl ⟨lr, lr, trivial⟩ (st_r rfl st_nil))
                             ·
                              refine w_sr <| o_p rfl (p_eql rfl rfl) <| sB rfl <| o_ek (fr' := [(2, .box 0 0), (3, aI), (78, aB)]) rfl rfl <| w_ch h73 rfl (fun hb74 h74 => ?_) (fun hb74 h74 => ?_)
                              ·
                               exact w_skip <| e_j _ (sy h74) (w_weak [] 1 rfl rfl rfl rfl ⟨lr, lr, trivial⟩ (st_r rfl st_nil))
                              ·
                               exact w_region <| o_p rfl (p_eql rfl rfl) <| sB rfl <| o_end (fr' := [(2, .box 0 0), (3, aI), (78, aB)]) rfl <| e_j _ (sy h74) (w_weak [] 1 rfl rfl rfl rfl ⟨lr, lr, trivial⟩ (st_r rfl st_nil))
                           ·
                            intro j71 hj75
                            subst hj75
                            refine w_ch h70 rfl (fun hb76 h76 => ?_) (fun hb76 h76 => ?_)
                            ·
                             refine w_sr <| o_p rfl (p_build (cs := aBBBBBBBB) tb84 rfl) <| o_store (v := .agg aBBBBBBBB) (us := aBBBBBBBB) (cs := aBBBBBBBB) (σ' := [aBBBBBBBB]) rfl tv84 rfl rfl rfl rfl rfl rfl rfl rfl <| o_ek (fr' := [(2, .box 0 0)]) rfl rfl <| w_ret <| e_blk_r <| e_seq_r ?_
                             obtain rfl := sy h76
                             exact e_ret (rs' := [.cell 2 84]) rfl <| r_cells (us := aBBBBBBBB) (cs := aBBBBBBBB) tv84 rfl rfl rfl rfl <| r_nil <| fin_gen [] rfl rfl rfl (le_aggc rfl ⟨rfl, rfl, rfl, rfl, rfl, rfl, rfl, rfl, trivial⟩) st_nil
                            ·
                             refine w_skip <| e_blk_n <| e_kw <| w_sr <| o_p rfl (p_build (cs := aBBBBBBBB) tb84 rfl) <| o_store (v := .agg aBBBBBBBB) (us := aBBBBBBBB) (cs := aBBBBBBBB) (σ' := [aBBBBBBBB]) rfl tv84 rfl rfl rfl rfl rfl rfl rfl rfl <| o_ek (fr' := [(2, .box 0 0)]) rfl rfl <| w_ret ?_
                             obtain rfl := sy h76
                             exact e_ret (rs' := [.cell 2 84]) rfl <| r_cells (us := aBBBBBBBB) (cs := aBBBBBBBB) tv84 rfl rfl rfl rfl <| r_nil <| fin_gen [] rfl rfl rfl (le_aggc rfl ⟨rfl, rfl, rfl, rfl, rfl, rfl, rfl, rfl, trivial⟩) st_nil
noncomputable def ref02xRising_l1 (p0keys : (List (List UInt8))) (s4 : Int) : Option (Step Int (Fl Bool Unit)) :=
 cond (decide (s4 < ((p0keys).length : Int))) ((idx p0keys (IntKind.wrap .i64 (s4 - (1 : Int)))).bind fun (x6 : (List UInt8)) => (idx p0keys s4).bind fun (x8 : (List UInt8)) => cond (!Op.bytesLess x6 x8) (some (Step.out (Fl.done false))) (some (Step.next (IntKind.wrap .i64 (s4 + (1 : Int)))))) (some (Step.out (Fl.go ())))
noncomputable def ref02xRising (p0keys : (List (List UInt8))) : Option Bool :=
 ((loopO (ref02xRising_l1 p0keys) ((1 : Int))) : Option (Fl Bool Unit)).bind fun (x1 : (Fl Bool Unit)) => Fl.next x1 (fun (j3 : Unit) => (some true))
theorem w_ref02xRising {p0keys : (List (List UInt8))} {res : Bool} (h : ref02xRising p0keys = some res) : ACalls Tryz.prog 123 [.c (PV.ls 1 rowS p0keys)] [] (.c (.bool res)) [] := by
 unfold ref02xRising at h
 refine acalls (fn := Tryz.f123) [0, 2, 3, 7, 19] (by kernel_rfl) Tryz.func123 rfl (by kernel_rfl) (by kernel_rfl) <| w_sr <| sB rfl <| o_ek (fr' := [(0, aL)]) rfl rfl <| w_seqw <| w_sr <| sI rfl <| o_ek (fr' := [(0, aL), (3, aI)]) rfl rfl ?_
 obtain ⟨x1, hx1, h2⟩ := bind_s h
 refine w_jtail cl_kw (fun j3 => x1 = Fl.go j3) (fun (j3 : Unit) => ([] : Fr)) (fun (j3 : Unit) => ([] : St)) ?_ ?_
 ·
  refine w_block <| w_loopo _ (fun (s4 : Int) => ([(0, .c (PV.ls 1 rowS p0keys)), (3, .c (.int .i64 s4))] : Fr)) (fun (s4 : Int) => ([] : St)) hx1 (w_weak [] 0 rfl rfl rfl rfl ⟨lr, lr, trivial⟩ st_nil) ?_
  intro s4 st4 hs4 ho4
  unfold ref02xRising_l1 at hs4
  refine w_seqw <| w_sr <| mI rfl <| mL rfl <| o_p rfl (p_len ti23 (isl_c rfl)) <| o_p rfl (p_lss rfl rfl) <| o_ek (fr' := [(0, aL), (3, aI), (7, aB)]) rfl rfl <| w_ch hs4 rfl (fun hb5 h5 => ?_) (fun hb5 h5 => ?_)
  ·
   refine w_skip <| e_kw <| w_seqw <| w_block <| w_seqw <| w_planT [.q 0, .q 1, .q 2, .q 3, .q 4, .q 5, .q 6, .q 7, .q 8, .q 9] [(some 10, [0]), (some 11, [3]), (some 12, [11]), (some 13, [10, 12]), (some 14, [13]), (some 15, [0]), (some 16, [3]), (some 17, [15, 16]), (some 18, [17]), (some 19, [14, 18])] [0, 0, 2, 7, 15, 0, 0, 96, 224, 511] (by kernel_rfl) <| dq rfl rfl (p_move (v := aL) rfl) <| dq rfl rfl (p_move (v := aI) rfl) <| dq rfl rfl (p_sub rfl rfl) ?_
   obtain ⟨x6, hx6, h7⟩ := bind_s h5
   refine dq rfl rfl (p_ia (cs := [PV.str _]) ts23 (isl_c rfl) rfl hx6 rfl) <| dq rfl rfl (p_loade (p := PV.str _) tv9 rfl rfl) <| dq rfl rfl (p_move (v := aL) rfl) <| dq rfl rfl (p_move (v := aI) rfl) ?_
   obtain ⟨x8, hx8, h9⟩ := bind_s h7
   refine dq rfl rfl (p_ia (cs := [PV.str _]) ts23 (isl_c rfl) rfl hx8 rfl) <| dq rfl rfl (p_loade (p := PV.str _) tv9 rfl rfl) <| dq rfl rfl (p_sgeq rfl rfl) <| d_ek (fr' := [(0, aL), (3, aI), (19, aB)]) rfl rfl <| w_ch h9 rfl (fun hb10 h10 => ?_) (fun hb10 h10 => ?_)
   ·
    refine w_sr <| sB rfl <| o_ek (fr' := [(2, aB)]) rfl rfl <| w_ret <| e_blk_r <| e_seq_r <| e_seq_r <| e_blk_r <| e_seq_r <| e_seq_r ?_
    have h11 := un_out h10 ho4
    have h12 := un_done h11 h2
    obtain rfl := sy h12
    exact e_ret (rs' := [.tmp 2]) rfl <| r_tmp (v := aB) rfl <| r_nil <| fin_gen [] rfl rfl rfl lr st_nil
   ·
    exact w_skip <| e_blk_n <| e_kw <| w_region <| mI rfl <| o_p rfl (p_add rfl rfl) <| sI rfl <| o_end (fr' := [(0, aL), (3, aI), (19, aB)]) rfl <| e_l _ (sy h10) (w_weak [] 0 rfl rfl rfl rfl ⟨lr, lr, trivial⟩ st_nil)
  ·
   refine w_exit <| e_seq_x <| e_seq_x <| e_blk_h ?_
   have h14 := un_out h5 ho4
   exact e_j _ (sy h14) (w_weak [] 0 rfl rfl rfl rfl trivial st_nil)
 ·
  intro j3 hj15
  have h15 := un_go hj15 h2
  refine e_kw <| w_sr <| sB rfl <| o_ek (fr' := [(2, aB)]) rfl rfl <| w_ret ?_
  obtain rfl := sy h15
  exact e_ret (rs' := [.tmp 2]) rfl <| r_tmp (v := aB) rfl <| r_nil <| fin_gen [] rfl rfl rfl lr st_nil
noncomputable def ref02xWellFormed_l1 (rec_ref02xWellFormed : ApiValue → Option Bool) (p0C : ApiValue) (s4 : Int) : Option (Step Int (Fl Bool Unit)) :=
 cond (decide (s4 < ((p0C.Items).length : Int))) ((idx p0C.Items s4).bind fun (x6 : ApiValue) => (rec_ref02xWellFormed x6).bind fun (x8 : Bool) => cond (!x8) (some (Step.out (Fl.done false))) (some (Step.next (IntKind.wrap .i64 (s4 + (1 : Int)))))) (some (Step.out (Fl.go ())))
noncomputable def ref02xWellFormedF : Nat → ApiValue → Option Bool
 | 0, _ => none
 | n + 1, p0C =>
  ((loopO (ref02xWellFormed_l1 (ref02xWellFormedF n) p0C) ((0 : Int))) : Option (Fl Bool Unit)).bind fun (x1 : (Fl Bool Unit)) => Fl.next x1 (fun (j3 : Unit) => (cond (decide (p0C.Kind = (0 : Int))) (some (cond (cond (cond (decide (p0C.Int = (0 : Int))) (decide (p0C.Text = ([] : List UInt8))) false) (decide (((p0C.Items).length : Int) = (0 : Int))) false) (decide (((p0C.Keys).length : Int) = (0 : Int))) false)) (cond (decide (p0C.Kind = (1 : Int))) (some (cond (cond (cond (cond (decide (p0C.Int = (0 : Int))) true (decide (p0C.Int = (1 : Int)))) (decide (p0C.Text = ([] : List UInt8))) false) (decide (((p0C.Items).length : Int) = (0 : Int))) false) (decide (((p0C.Keys).length : Int) = (0 : Int))) false)) (cond (decide (p0C.Kind = (2 : Int))) (some (cond (cond (decide (p0C.Text = ([] : List UInt8))) (decide (((p0C.Items).length : Int) = (0 : Int))) false) (decide (((p0C.Keys).length : Int) = (0 : Int))) false)) (cond (decide (p0C.Kind = (3 : Int))) (some (cond (cond (decide (p0C.Int = (0 : Int))) (decide (((p0C.Items).length : Int) = (0 : Int))) false) (decide (((p0C.Keys).length : Int) = (0 : Int))) false)) (cond (decide (p0C.Kind = (4 : Int))) (some (cond (cond (decide (p0C.Int = (0 : Int))) (decide (p0C.Text = ([] : List UInt8))) false) (decide (((p0C.Keys).length : Int) = (0 : Int))) false)) (cond (decide (p0C.Kind = (5 : Int))) ((gd ((cond (cond (decide (p0C.Int = (0 : Int))) (decide (p0C.Text = ([] : List UInt8))) false) (decide (((p0C.Keys).length : Int) = ((p0C.Items).length : Int))) false) == true) (ref02xRising p0C.Keys)).bind fun (x27 : Bool) => some (cond (cond (cond (decide (p0C.Int = (0 : Int))) (decide (p0C.Text = ([] : List UInt8))) false) (decide (((p0C.Keys).length : Int) = ((p0C.Items).length : Int))) false) x27 false)) (cond (decide (p0C.Kind = (6 : Int))) (some (cond (cond (cond (decide ((0 : Int) ≤ p0C.Int)) (decide (p0C.Text = ([] : List UInt8))) false) (decide (((p0C.Items).length : Int) = (0 : Int))) false) (decide (((p0C.Keys).length : Int) = (0 : Int))) false)) (some false)))))))))
theorem wF_ref02xWellFormed : ∀ n : Nat, (∀ {p0C : ApiValue} {res : Bool}, ref02xWellFormedF n p0C = some res → ACalls Tryz.prog 107 [.agg (AV.cs (exApiValue p0C))] [] (.c (.bool res)) []) := by
 intro n
 induction n with
 | zero => exact fun {p0C res} h => absurd h (by simp [ref02xWellFormedF])
 | succ n ih =>
  have ih_ref02xWellFormed := @ih
  intro p0C res h
  rw [ref02xWellFormedF] at h
  refine acalls (fn := Tryz.f107) [0, 1, 2, 3, 8, 17, 19, 20, 42, 69, 86, 103, 119, 143] (by kernel_rfl) Tryz.func107 rfl (by kernel_rfl) (by kernel_rfl) <| w_sr <| o_box (v := .agg aIISLL) (n := 0) (cs := aIISLL) (σ' := [aIISLL]) rfl rfl rfl rfl rfl <| sB rfl <| o_ek (fr' := [(1, .box 0 0)]) rfl rfl <| w_seqw <| w_sr <| sI rfl <| o_ek (fr' := [(1, .box 0 0), (3, aI)]) rfl rfl ?_
  obtain ⟨x1, hx1, h2⟩ := bind_s h
  refine w_jtail cl_kw (fun j3 => x1 = Fl.go j3) (fun (j3 : Unit) => ([(1, .box 0 0)] : Fr)) (fun (j3 : Unit) => ([[.c (.int .i64 p0C.Kind), .c (.int .i64 p0C.Int), .c (.str p0C.Text), .c (PV.ls 5 rowApiValue p0C.Items), .c (PV.ls 1 rowS p0C.Keys)]] : St)) ?_ ?_
  ·
   refine w_block <| w_loopo _ (fun (s4 : Int) => ([(1, .box 0 0), (3, .c (.int .i64 s4))] : Fr)) (fun (s4 : Int) => ([[.c (.int .i64 p0C.Kind), .c (.int .i64 p0C.Int), .c (.str p0C.Text), .c (PV.ls 5 rowApiValue p0C.Items), .c (PV.ls 1 rowS p0C.Keys)]] : St)) hx1 (w_weak [] 1 rfl rfl rfl rfl ⟨lr, lr, trivial⟩ (st_r rfl st_nil)) ?_
   intro s4 st4 hs4 ho4
   unfold ref02xWellFormed_l1 at hs4
   refine w_seqw <| w_sr <| mI rfl <| o_p rfl (p_fa tf25x3 rfl) <| o_p rfl (p_load (v := aL) tv22 rfl rfl rfl) <| o_p rfl (p_len ti22 (isl_c rfl)) <| o_p rfl (p_lss rfl rfl) <| o_ek (fr' := [(1, .box 0 0), (3, aI), (8, aB)]) rfl rfl <| w_ch hs4 rfl (fun hb5 h5 => ?_) (fun hb5 h5 => ?_)
   ·
    refine w_skip <| e_kw <| w_seqw <| w_block <| w_sr <| o_p rfl (p_fa tf25x3 rfl) <| o_p rfl (p_load (v := aL) tv22 rfl rfl rfl) <| mI rfl ?_
    obtain ⟨x6, hx6, h7⟩ := bind_s h5
    refine o_p rfl (p_ia (cs := [PV.int _ _, PV.int _ _, PV.str _, PV.ls _ _ _, PV.ls _ _ _]) ts22 (isl_c rfl) rfl hx6 (rowApiValue_eq _)) <| o_p rfl (p_loades (us := [PV.int _ _, PV.int _ _, PV.str _, PV.ls _ _ _, PV.ls _ _ _]) tv25 rfl rfl rfl) ?_
    obtain ⟨x8, hx8, h9⟩ := bind_s h7
    refine o_v (ov_call (v := aB) rfl (ih_ref02xWellFormed hx8) ⟨(le_aggc rfl ⟨rfl, rfl, rfl, rfl, rfl, trivial⟩), trivial⟩ rfl rfl rfl) <| o_p rfl (p_not rfl) <| o_ek (fr' := [(1, .box 0 0), (3, aI), (17, aB)]) rfl rfl <| w_ch h9 rfl (fun hb10 h10 => ?_) (fun hb10 h10 => ?_)
    ·
     refine w_sr <| sB rfl <| o_ek (fr' := [(2, aB)]) rfl rfl <| w_ret <| e_blk_r <| e_seq_r <| e_seq_r <| e_blk_r <| e_seq_r <| e_seq_r ?_
     have h11 := un_out h10 ho4
     have h12 := un_done h11 h2
     obtain rfl := sy h12
     exact e_ret (rs' := [.tmp 2]) rfl <| r_tmp (v := aB) rfl <| r_nil <| fin_gen [] rfl rfl rfl lr st_nil
    ·
     exact w_skip <| e_blk_n <| e_kw <| w_region <| mI rfl <| o_p rfl (p_add rfl rfl) <| sI rfl <| o_end (fr' := [(1, .box 0 0), (3, aI), (17, aB)]) rfl <| e_l _ (sy h10) (w_weak [] 1 rfl rfl rfl rfl ⟨lr, lr, trivial⟩ (st_r rfl st_nil))
   ·
    refine w_exit <| e_seq_x <| e_seq_x <| e_blk_h ?_
    have h14 := un_out h5 ho4
    exact e_j _ (sy h14) (w_weak [] 1 rfl rfl rfl rfl ⟨lr, trivial⟩ (st_r rfl st_nil))
  ·
   intro j3 hj15
   have h15 := un_go hj15 h2
   refine e_kw <| w_seqw <| w_sr <| o_p rfl (p_fa tf25x0 rfl) <| o_p rfl (p_load (v := aI) tv3 rfl rfl rfl) <| o_ek (fr' := [(1, .box 0 0), (19, aI)]) rfl rfl <| w_block <| w_sr <| o_p rfl (p_eql rfl rfl) <| sB rfl <| o_ek (fr' := [(1, .box 0 0), (19, aI), (20, aB)]) rfl rfl ?_
   refine w_ch h15 rfl (fun hb16 h16 => ?_) (fun hb16 h16 => ?_)
   ·
    refine w_sr <| o_p rfl (p_fa tf25x1 rfl) <| o_p rfl (p_load (v := aI) tv3 rfl rfl rfl) <| o_p rfl (p_eql rfl rfl) <| mB rfl <| og rfl rfl rfl (fun hc => (p_fa tf25x2 rfl)) <| og rfl rfl rfl (fun hc => (p_load (v := aS) tv9 (gx rfl hc) rfl rfl)) <| og rfl rfl rfl (fun hc => (p_seql (gx rfl hc) rfl)) <| o_p rfl (p_picky rfl rfl rfl (fun e => keq e)) <| mB rfl <| og rfl rfl rfl (fun hc => (p_fa tf25x3 rfl)) <| og rfl rfl rfl (fun hc => (p_load (v := aL) tv22 (gx rfl hc) rfl rfl)) ?_
    refine og rfl rfl rfl (fun hc => (p_len ti22 (isl_c (gx rfl hc)))) <| og rfl rfl rfl (fun hc => (p_eql (gx rfl hc) rfl)) <| o_p rfl (p_picky rfl rfl rfl (fun e => keq e)) <| mB rfl <| og rfl rfl rfl (fun hc => (p_fa tf25x4 rfl)) <| og rfl rfl rfl (fun hc => (p_load (v := aL) tv23 (gx rfl hc) rfl rfl)) <| og rfl rfl rfl (fun hc => (p_len ti23 (isl_c (gx rfl hc)))) <| og rfl rfl rfl (fun hc => (p_eql (gx rfl hc) rfl)) <| o_p rfl (p_picky rfl rfl rfl (fun e => keq e)) <| sB rfl <| o_ek (fr' := [(2, aB)]) rfl rfl <| w_ret <| e_blk_r ?_
    refine e_seq_r ?_
    obtain rfl := sy h16
    exact e_ret (rs' := [.tmp 2]) rfl <| r_tmp (v := aB) rfl <| r_nil <| fin_gen [] rfl rfl rfl lr st_nil
   ·
    refine w_sr <| o_p rfl (p_eql rfl rfl) <| sB rfl <| o_ek (fr' := [(1, .box 0 0), (19, aI), (42, aB)]) rfl rfl <| w_ch h16 rfl (fun hb18 h18 => ?_) (fun hb18 h18 => ?_)
    ·
     refine w_sr <| o_p rfl (p_fa tf25x1 rfl) <| o_p rfl (p_load (v := aI) tv3 rfl rfl rfl) <| o_p rfl (p_eql rfl rfl) <| mB rfl <| og rfl rfl rfl (fun hc => (p_fa tf25x1 rfl)) <| og rfl rfl rfl (fun hc => (p_load (v := aI) tv3 (gx rfl hc) rfl rfl)) <| og rfl rfl rfl (fun hc => (p_eql (gx rfl hc) rfl)) <| o_p rfl (p_pickz rfl rfl rfl (fun e => keq e)) <| mB rfl <| og rfl rfl rfl (fun hc => (p_fa tf25x2 rfl)) <| og rfl rfl rfl (fun hc => (p_load (v := aS) tv9 (gx rfl hc) rfl rfl)) ?_
     refine og rfl rfl rfl (fun hc => (p_seql (gx rfl hc) rfl)) <| o_p rfl (p_picky rfl rfl rfl (fun e => keq e)) <| mB rfl <| og rfl rfl rfl (fun hc => (p_fa tf25x3 rfl)) <| og rfl rfl rfl (fun hc => (p_load (v := aL) tv22 (gx rfl hc) rfl rfl)) <| og rfl rfl rfl (fun hc => (p_len ti22 (isl_c (gx rfl hc)))) <| og rfl rfl rfl (fun hc => (p_eql (gx rfl hc) rfl)) <| o_p rfl (p_picky rfl rfl rfl (fun e => keq e)) <| mB rfl <| og rfl rfl rfl (fun hc => (p_fa tf25x4 rfl)) <| og rfl rfl rfl (fun hc => (p_load (v := aL) tv23 (gx rfl hc) rfl rfl)) <| og rfl rfl rfl (fun hc => (p_len ti23 (isl_c (gx rfl hc)))) <| og rfl rfl rfl (fun hc => (p_eql (gx rfl hc) rfl)) ?_
     refine o_p rfl (p_picky rfl rfl rfl (fun e => keq e)) <| sB rfl <| o_ek (fr' := [(2, aB)]) rfl rfl <| w_ret <| e_blk_r <| e_seq_r ?_
     obtain rfl := sy h18
     exact e_ret (rs' := [.tmp 2]) rfl <| r_tmp (v := aB) rfl <| r_nil <| fin_gen [] rfl rfl rfl lr st_nil
    ·
     refine w_sr <| o_p rfl (p_eql rfl rfl) <| sB rfl <| o_ek (fr' := [(1, .box 0 0), (19, aI), (69, aB)]) rfl rfl <| w_ch h18 rfl (fun hb20 h20 => ?_) (fun hb20 h20 => ?_)
     ·
      refine w_sr <| o_p rfl (p_fa tf25x2 rfl) <| o_p rfl (p_load (v := aS) tv9 rfl rfl rfl) <| o_p rfl (p_seql rfl rfl) <| mB rfl <| og rfl rfl rfl (fun hc => (p_fa tf25x3 rfl)) <| og rfl rfl rfl (fun hc => (p_load (v := aL) tv22 (gx rfl hc) rfl rfl)) <| og rfl rfl rfl (fun hc => (p_len ti22 (isl_c (gx rfl hc)))) <| og rfl rfl rfl (fun hc => (p_eql (gx rfl hc) rfl)) <| o_p rfl (p_picky rfl rfl rfl (fun e => keq e)) <| mB rfl <| og rfl rfl rfl (fun hc => (p_fa tf25x4 rfl)) ?_
      refine og rfl rfl rfl (fun hc => (p_load (v := aL) tv23 (gx rfl hc) rfl rfl)) <| og rfl rfl rfl (fun hc => (p_len ti23 (isl_c (gx rfl hc)))) <| og rfl rfl rfl (fun hc => (p_eql (gx rfl hc) rfl)) <| o_p rfl (p_picky rfl rfl rfl (fun e => keq e)) <| sB rfl <| o_ek (fr' := [(2, aB)]) rfl rfl <| w_ret <| e_blk_r <| e_seq_r ?_
      obtain rfl := sy h20
      exact e_ret (rs' := [.tmp 2]) rfl <| r_tmp (v := aB) rfl <| r_nil <| fin_gen [] rfl rfl rfl lr st_nil
     ·
      refine w_sr <| o_p rfl (p_eql rfl rfl) <| sB rfl <| o_ek (fr' := [(1, .box 0 0), (19, aI), (86, aB)]) rfl rfl <| w_ch h20 rfl (fun hb22 h22 => ?_) (fun hb22 h22 => ?_)
      ·
       refine w_sr <| o_p rfl (p_fa tf25x1 rfl) <| o_p rfl (p_load (v := aI) tv3 rfl rfl rfl) <| o_p rfl (p_eql rfl rfl) <| mB rfl <| og rfl rfl rfl (fun hc => (p_fa tf25x3 rfl)) <| og rfl rfl rfl (fun hc => (p_load (v := aL) tv22 (gx rfl hc) rfl rfl)) <| og rfl rfl rfl (fun hc => (p_len ti22 (isl_c (gx rfl hc)))) <| og rfl rfl rfl (fun hc => (p_eql (gx rfl hc) rfl)) <| o_p rfl (p_picky rfl rfl rfl (fun e => keq e)) <| mB rfl <| og rfl rfl rfl (fun hc => (p_fa tf25x4 rfl)) ?_
       refine og rfl rfl rfl (fun hc => (p_load (v := aL) tv23 (gx rfl hc) rfl rfl)) <| og rfl rfl rfl (fun hc => (p_len ti23 (isl_c (gx rfl hc)))) <| og rfl rfl rfl (fun hc => (p_eql (gx rfl hc) rfl)) <| o_p rfl (p_picky rfl rfl rfl (fun e => keq e)) <| sB rfl <| o_ek (fr' := [(2, aB)]) rfl rfl <| w_ret <| e_blk_r <| e_seq_r ?_
       obtain rfl := sy h22
       exact e_ret (rs' := [.tmp 2]) rfl <| r_tmp (v := aB) rfl <| r_nil <| fin_gen [] rfl rfl rfl lr st_nil
      ·
       refine w_sr <| o_p rfl (p_eql rfl rfl) <| sB rfl <| o_ek (fr' := [(1, .box 0 0), (19, aI), (103, aB)]) rfl rfl <| w_ch h22 rfl (fun hb24 h24 => ?_) (fun hb24 h24 => ?_)
       ·
        refine w_sr <| o_p rfl (p_fa tf25x1 rfl) <| o_p rfl (p_load (v := aI) tv3 rfl rfl rfl) <| o_p rfl (p_eql rfl rfl) <| mB rfl <| og rfl rfl rfl (fun hc => (p_fa tf25x2 rfl)) <| og rfl rfl rfl (fun hc => (p_load (v := aS) tv9 (gx rfl hc) rfl rfl)) <| og rfl rfl rfl (fun hc => (p_seql (gx rfl hc) rfl)) <| o_p rfl (p_picky rfl rfl rfl (fun e => keq e)) <| mB rfl <| og rfl rfl rfl (fun hc => (p_fa tf25x4 rfl)) <| og rfl rfl rfl (fun hc => (p_load (v := aL) tv23 (gx rfl hc) rfl rfl)) ?_
        refine og rfl rfl rfl (fun hc => (p_len ti23 (isl_c (gx rfl hc)))) <| og rfl rfl rfl (fun hc => (p_eql (gx rfl hc) rfl)) <| o_p rfl (p_picky rfl rfl rfl (fun e => keq e)) <| sB rfl <| o_ek (fr' := [(2, aB)]) rfl rfl <| w_ret <| e_blk_r <| e_seq_r ?_
        obtain rfl := sy h24
        exact e_ret (rs' := [.tmp 2]) rfl <| r_tmp (v := aB) rfl <| r_nil <| fin_gen [] rfl rfl rfl lr st_nil
       ·
        refine w_sr <| o_p rfl (p_eql rfl rfl) <| sB rfl <| o_ek (fr' := [(1, .box 0 0), (19, aI), (119, aB)]) rfl rfl <| w_ch h24 rfl (fun hb26 h26 => ?_) (fun hb26 h26 => ?_)
        ·
         refine w_sr <| o_p rfl (p_fa tf25x1 rfl) <| o_p rfl (p_load (v := aI) tv3 rfl rfl rfl) <| o_p rfl (p_eql rfl rfl) <| mB rfl <| og rfl rfl rfl (fun hc => (p_fa tf25x2 rfl)) <| og rfl rfl rfl (fun hc => (p_load (v := aS) tv9 (gx rfl hc) rfl rfl)) <| og rfl rfl rfl (fun hc => (p_seql (gx rfl hc) rfl)) <| o_p rfl (p_picky rfl rfl rfl (fun e => keq e)) <| mB rfl <| og rfl rfl rfl (fun hc => (p_fa tf25x4 rfl)) <| og rfl rfl rfl (fun hc => (p_load (v := aL) tv23 (gx rfl hc) rfl rfl)) ?_
         refine og rfl rfl rfl (fun hc => (p_len ti23 (isl_c (gx rfl hc)))) <| og rfl rfl rfl (fun hc => (p_fa tf25x3 rfl)) <| og rfl rfl rfl (fun hc => (p_load (v := aL) tv22 (gx rfl hc) rfl rfl)) <| og rfl rfl rfl (fun hc => (p_len ti22 (isl_c (gx rfl hc)))) <| og rfl rfl rfl (fun hc => (p_eql (gx rfl hc) (gx rfl hc))) <| o_p rfl (p_picky rfl rfl rfl (fun e => keq e)) <| mB rfl <| og rfl rfl rfl (fun hc => (p_fa tf25x4 rfl)) <| og rfl rfl rfl (fun hc => (p_load (v := aL) tv23 (gx rfl hc) rfl rfl)) ?_
         obtain ⟨x27, hx27, h28⟩ := bind_s h26
         refine o_g rfl rfl (fun hc => ov_call (v := aB) rfl (w_ref02xRising (gd_some hx27 hc)) ⟨(le_gv (gx rfl hc) lr), trivial⟩ (ok_eq (by repeat (first | exact ok_nil | refine ok_cons rfl ?_ | refine ok_cons (dgv rfl) ?_ | refine ok_cons dar ?_))) rfl rfl) ?_
         refine o_p rfl (p_picky rfl rfl rfl (fun e => keq e)) <| sB rfl <| o_ek (fr' := [(2, aB)]) rfl rfl <| w_ret <| e_blk_r <| e_seq_r ?_
         obtain rfl := sy h28
         exact e_ret (rs' := [.tmp 2]) rfl <| r_tmp (v := aB) rfl <| r_nil <| fin_gen [] rfl rfl rfl lr st_nil
        ·
         refine w_sr <| o_p rfl (p_eql rfl rfl) <| sB rfl <| o_ek (fr' := [(1, .box 0 0), (143, aB)]) rfl rfl <| w_ch h26 rfl (fun hb30 h30 => ?_) (fun hb30 h30 => ?_)
         ·
          refine w_sr <| o_p rfl (p_fa tf25x1 rfl) <| o_p rfl (p_load (v := aI) tv3 rfl rfl rfl) <| o_p rfl (p_geq rfl rfl) <| mB rfl <| og rfl rfl rfl (fun hc => (p_fa tf25x2 rfl)) <| og rfl rfl rfl (fun hc => (p_load (v := aS) tv9 (gx rfl hc) rfl rfl)) <| og rfl rfl rfl (fun hc => (p_seql (gx rfl hc) rfl)) <| o_p rfl (p_picky rfl rfl rfl (fun e => keq e)) <| mB rfl <| og rfl rfl rfl (fun hc => (p_fa tf25x3 rfl)) <| og rfl rfl rfl (fun hc => (p_load (v := aL) tv22 (gx rfl hc) rfl rfl)) ?_
          refine og rfl rfl rfl (fun hc => (p_len ti22 (isl_c (gx rfl hc)))) <| og rfl rfl rfl (fun hc => (p_eql (gx rfl hc) rfl)) <| o_p rfl (p_picky rfl rfl rfl (fun e => keq e)) <| mB rfl <| og rfl rfl rfl (fun hc => (p_fa tf25x4 rfl)) <| og rfl rfl rfl (fun hc => (p_load (v := aL) tv23 (gx rfl hc) rfl rfl)) <| og rfl rfl rfl (fun hc => (p_len ti23 (isl_c (gx rfl hc)))) <| og rfl rfl rfl (fun hc => (p_eql (gx rfl hc) rfl)) <| o_p rfl (p_picky rfl rfl rfl (fun e => keq e)) <| sB rfl <| o_ek (fr' := [(2, aB)]) rfl rfl <| w_ret <| e_blk_r ?_
          refine e_seq_r ?_
          obtain rfl := sy h30
          exact e_ret (rs' := [.tmp 2]) rfl <| r_tmp (v := aB) rfl <| r_nil <| fin_gen [] rfl rfl rfl lr st_nil
         ·
          refine w_skip <| e_blk_n <| e_kw <| w_sr <| sB rfl <| o_ek (fr' := [(2, aB)]) rfl rfl <| w_ret ?_
          obtain rfl := sy h30
          exact e_ret (rs' := [.tmp 2]) rfl <| r_tmp (v := aB) rfl <| r_nil <| fin_gen [] rfl rfl rfl lr st_nil
noncomputable def ref02xWellFormed (p0C : ApiValue) : Option Bool := lim fun n => ref02xWellFormedF n p0C
theorem w_ref02xWellFormed {p0C : ApiValue} {res : Bool} (h : ref02xWellFormed p0C = some res) : ACalls Tryz.prog 107 [.agg (AV.cs (exApiValue p0C))] [] (.c (.bool res)) [] := by
 obtain ⟨n, hn⟩ := lim_some h
 exact (wF_ref02xWellFormed n) hn
noncomputable def ref02xShort_l1 (p0v : ApiValue) (s6 : Int) : Option (Step Int (Fl Bool Unit)) :=
 cond (decide (s6 < ((p0v.Keys).length : Int))) ((idx p0v.Keys s6).bind fun (x8 : (List UInt8)) => cond (decide ((4096 : Int) < ((x8).length : Int))) (some (Step.out (Fl.done false))) (some (Step.next (IntKind.wrap .i64 (s6 + (1 : Int)))))) (some (Step.out (Fl.go ())))
noncomputable def ref02xShort_l2 (rec_ref02xShort : ApiValue → Option Bool) (p0v : ApiValue) (s19 : Int) : Option (Step Int (Fl Bool Unit)) :=
 cond (decide (s19 < ((p0v.Items).length : Int))) ((idx p0v.Items s19).bind fun (x21 : ApiValue) => (rec_ref02xShort x21).bind fun (x23 : Bool) => cond (!x23) (some (Step.out (Fl.done false))) (some (Step.next (IntKind.wrap .i64 (s19 + (1 : Int)))))) (some (Step.out (Fl.go ())))
noncomputable def ref02xShortF : Nat → ApiValue → Option Bool
 | 0, _ => none
 | n + 1, p0v =>
  cond (decide ((4096 : Int) < ((p0v.Text).length : Int))) (some false) (((loopO (ref02xShort_l1 p0v) ((0 : Int))) : Option (Fl Bool Unit)).bind fun (x3 : (Fl Bool Unit)) => Fl.next x3 (fun (j5 : Unit) => (((loopO (ref02xShort_l2 (ref02xShortF n) p0v) ((0 : Int))) : Option (Fl Bool Unit)).bind fun (x16 : (Fl Bool Unit)) => Fl.next x16 (fun (j18 : Unit) => (some true)))))
theorem wF_ref02xShort : ∀ n : Nat, (∀ {p0v : ApiValue} {res : Bool}, ref02xShortF n p0v = some res → ACalls Tryz.prog 124 [.agg (AV.cs (exApiValue p0v))] [] (.c (.bool res)) []) := by
 intro n
 induction n with
 | zero => exact fun {p0v res} h => absurd h (by simp [ref02xShortF])
 | succ n ih =>
  have ih_ref02xShort := @ih
  intro p0v res h
  rw [ref02xShortF] at h
  refine acalls (fn := Tryz.f124) [0, 1, 2, 3, 4, 8, 13, 22, 27, 36] (by kernel_rfl) Tryz.func124 rfl (by kernel_rfl) (by kernel_rfl) <| w_sr <| o_box (v := .agg aIISLL) (n := 0) (cs := aIISLL) (σ' := [aIISLL]) rfl rfl rfl rfl rfl <| sB rfl <| o_ek (fr' := [(1, .box 0 0)]) rfl rfl <| w_seqw <| w_sr <| o_p rfl (p_fa tf25x2 rfl) <| o_p rfl (p_load (v := aS) tv9 rfl rfl rfl) <| o_p rfl (p_lens ti9 rfl) <| o_p rfl (p_gtr rfl rfl) ?_
  refine o_ek (fr' := [(1, .box 0 0), (8, aB)]) rfl rfl <| w_ch h rfl (fun hb1 h1 => ?_) (fun hb1 h1 => ?_)
  ·
   refine w_sr <| sB rfl <| o_ek (fr' := [(2, aB)]) rfl rfl <| w_ret <| e_seq_r ?_
   obtain rfl := sy h1
   exact e_ret (rs' := [.tmp 2]) rfl <| r_tmp (v := aB) rfl <| r_nil <| fin_gen [] rfl rfl rfl lr st_nil
  ·
   refine w_skip <| e_kw <| w_seqw <| w_sr <| sI rfl <| o_ek (fr' := [(1, .box 0 0), (3, aI)]) rfl rfl ?_
   obtain ⟨x3, hx3, h4⟩ := bind_s h1
   refine w_jtail cl_kw (fun j5 => x3 = Fl.go j5) (fun (j5 : Unit) => ([(1, .box 0 0)] : Fr)) (fun (j5 : Unit) => ([[.c (.int .i64 p0v.Kind), .c (.int .i64 p0v.Int), .c (.str p0v.Text), .c (PV.ls 5 rowApiValue p0v.Items), .c (PV.ls 1 rowS p0v.Keys)]] : St)) ?_ ?_
   ·
    refine w_block <| w_loopo _ (fun (s6 : Int) => ([(1, .box 0 0), (3, .c (.int .i64 s6))] : Fr)) (fun (s6 : Int) => ([[.c (.int .i64 p0v.Kind), .c (.int .i64 p0v.Int), .c (.str p0v.Text), .c (PV.ls 5 rowApiValue p0v.Items), .c (PV.ls 1 rowS p0v.Keys)]] : St)) hx3 (w_weak [] 1 rfl rfl rfl rfl ⟨lr, lr, trivial⟩ (st_r rfl st_nil)) ?_
    intro s6 st6 hs6 ho6
    unfold ref02xShort_l1 at hs6
    refine w_seqw <| w_sr <| mI rfl <| o_p rfl (p_fa tf25x4 rfl) <| o_p rfl (p_load (v := aL) tv23 rfl rfl rfl) <| o_p rfl (p_len ti23 (isl_c rfl)) <| o_p rfl (p_lss rfl rfl) <| o_ek (fr' := [(1, .box 0 0), (3, aI), (13, aB)]) rfl rfl <| w_ch hs6 rfl (fun hb7 h7 => ?_) (fun hb7 h7 => ?_)
    ·
     refine w_skip <| e_kw <| w_seqw <| w_block <| w_sr <| o_p rfl (p_fa tf25x4 rfl) <| o_p rfl (p_load (v := aL) tv23 rfl rfl rfl) <| mI rfl ?_
     obtain ⟨x8, hx8, h9⟩ := bind_s h7
     refine o_p rfl (p_ia (cs := [PV.str _]) ts23 (isl_c rfl) rfl hx8 rfl) <| o_p rfl (p_loade (p := PV.str _) tv9 rfl rfl) <| o_p rfl (p_lens ti9 rfl) <| o_p rfl (p_gtr rfl rfl) <| o_ek (fr' := [(1, .box 0 0), (3, aI), (22, aB)]) rfl rfl <| w_ch h9 rfl (fun hb10 h10 => ?_) (fun hb10 h10 => ?_)
     ·
      refine w_sr <| sB rfl <| o_ek (fr' := [(2, aB)]) rfl rfl <| w_ret <| e_blk_r <| e_seq_r <| e_seq_r <| e_blk_r <| e_seq_r <| e_seq_r ?_
      have h11 := un_out h10 ho6
      have h12 := un_done h11 h4
      obtain rfl := sy h12
      exact e_ret (rs' := [.tmp 2]) rfl <| r_tmp (v := aB) rfl <| r_nil <| fin_gen [] rfl rfl rfl lr st_nil
     ·
      exact w_skip <| e_blk_n <| e_kw <| w_region <| mI rfl <| o_p rfl (p_add rfl rfl) <| sI rfl <| o_end (fr' := [(1, .box 0 0), (3, aI), (22, aB)]) rfl <| e_l _ (sy h10) (w_weak [] 1 rfl rfl rfl rfl ⟨lr, lr, trivial⟩ (st_r rfl st_nil))
    ·
     refine w_exit <| e_seq_x <| e_seq_x <| e_blk_h ?_
     have h14 := un_out h7 ho6
     exact e_j _ (sy h14) (w_weak [] 1 rfl rfl rfl rfl ⟨lr, trivial⟩ (st_r rfl st_nil))
   ·
    intro j5 hj15
    have h15 := un_go hj15 h4
    refine e_kw <| w_seqw <| w_sr <| sI rfl <| o_ek (fr' := [(1, .box 0 0), (4, aI)]) rfl rfl ?_
    obtain ⟨x16, hx16, h17⟩ := bind_s h15
    refine w_jtail cl_kw (fun j18 => x16 = Fl.go j18) (fun (j18 : Unit) => ([] : Fr)) (fun (j18 : Unit) => ([[.c (.int .i64 p0v.Kind), .c (.int .i64 p0v.Int), .c (.str p0v.Text), .c (PV.ls 5 rowApiValue p0v.Items), .c (PV.ls 1 rowS p0v.Keys)]] : St)) ?_ ?_
    ·
     refine w_block <| w_loopo _ (fun (s19 : Int) => ([(1, .box 0 0), (4, .c (.int .i64 s19))] : Fr)) (fun (s19 : Int) => ([[.c (.int .i64 p0v.Kind), .c (.int .i64 p0v.Int), .c (.str p0v.Text), .c (PV.ls 5 rowApiValue p0v.Items), .c (PV.ls 1 rowS p0v.Keys)]] : St)) hx16 (w_weak [] 1 rfl rfl rfl rfl ⟨lr, lr, trivial⟩ (st_r rfl st_nil)) ?_
     intro s19 st19 hs19 ho19
     unfold ref02xShort_l2 at hs19
     refine w_seqw <| w_sr <| mI rfl <| o_p rfl (p_fa tf25x3 rfl) <| o_p rfl (p_load (v := aL) tv22 rfl rfl rfl) <| o_p rfl (p_len ti22 (isl_c rfl)) <| o_p rfl (p_lss rfl rfl) <| o_ek (fr' := [(1, .box 0 0), (4, aI), (27, aB)]) rfl rfl <| w_ch hs19 rfl (fun hb20 h20 => ?_) (fun hb20 h20 => ?_)
     ·
      refine w_skip <| e_kw <| w_seqw <| w_block <| w_sr <| o_p rfl (p_fa tf25x3 rfl) <| o_p rfl (p_load (v := aL) tv22 rfl rfl rfl) <| mI rfl ?_
      obtain ⟨x21, hx21, h22⟩ := bind_s h20
      refine o_p rfl (p_ia (cs := [PV.int _ _, PV.int _ _, PV.str _, PV.ls _ _ _, PV.ls _ _ _]) ts22 (isl_c rfl) rfl hx21 (rowApiValue_eq _)) <| o_p rfl (p_loades (us := [PV.int _ _, PV.int _ _, PV.str _, PV.ls _ _ _, PV.ls _ _ _]) tv25 rfl rfl rfl) ?_
      obtain ⟨x23, hx23, h24⟩ := bind_s h22
      refine o_v (ov_call (v := aB) rfl (ih_ref02xShort hx23) ⟨(le_aggc rfl ⟨rfl, rfl, rfl, rfl, rfl, trivial⟩), trivial⟩ rfl rfl rfl) <| o_p rfl (p_not rfl) <| o_ek (fr' := [(1, .box 0 0), (4, aI), (36, aB)]) rfl rfl <| w_ch h24 rfl (fun hb25 h25 => ?_) (fun hb25 h25 => ?_)
      ·
       refine w_sr <| sB rfl <| o_ek (fr' := [(2, aB)]) rfl rfl <| w_ret <| e_blk_r <| e_seq_r <| e_seq_r <| e_blk_r <| e_seq_r <| e_seq_r ?_
       have h26 := un_out h25 ho19
       have h27 := un_done h26 h17
       obtain rfl := sy h27
       exact e_ret (rs' := [.tmp 2]) rfl <| r_tmp (v := aB) rfl <| r_nil <| fin_gen [] rfl rfl rfl lr st_nil
      ·
       exact w_skip <| e_blk_n <| e_kw <| w_region <| mI rfl <| o_p rfl (p_add rfl rfl) <| sI rfl <| o_end (fr' := [(1, .box 0 0), (4, aI), (36, aB)]) rfl <| e_l _ (sy h25) (w_weak [] 1 rfl rfl rfl rfl ⟨lr, lr, trivial⟩ (st_r rfl st_nil))
     ·
      refine w_exit <| e_seq_x <| e_seq_x <| e_blk_h ?_
      have h29 := un_out h20 ho19
      exact e_j _ (sy h29) (w_weak [] 1 rfl rfl rfl rfl trivial (st_r rfl st_nil))
    ·
     intro j18 hj30
     have h30 := un_go hj30 h17
     refine e_kw <| w_sr <| sB rfl <| o_ek (fr' := [(2, aB)]) rfl rfl <| w_ret ?_
     obtain rfl := sy h30
     exact e_ret (rs' := [.tmp 2]) rfl <| r_tmp (v := aB) rfl <| r_nil <| fin_gen [] rfl rfl rfl lr st_nil
noncomputable def ref02xShort (p0v : ApiValue) : Option Bool := lim fun n => ref02xShortF n p0v
theorem w_ref02xShort {p0v : ApiValue} {res : Bool} (h : ref02xShort p0v = some res) : ACalls Tryz.prog 124 [.agg (AV.cs (exApiValue p0v))] [] (.c (.bool res)) [] := by
 obtain ⟨n, hn⟩ := lim_some h
 exact (wF_ref02xShort n) hn
noncomputable def ref02xDepth_l1 (rec_ref02xDepth : ApiValue → Option Int) (p0v : ApiValue) (s4 : (Int × Int)) : Option (Step (Int × Int) Int) :=
 cond (decide (s4.2 < ((p0v.Items).length : Int))) ((idx p0v.Items s4.2).bind fun (x6 : ApiValue) => (rec_ref02xDepth x6).bind fun (x8 : Int) => cond (decide (s4.1 < x8)) (some (Step.next (x8, (IntKind.wrap .i64 (s4.2 + (1 : Int)))))) (some (Step.next (s4.1, (IntKind.wrap .i64 (s4.2 + (1 : Int))))))) (some (Step.out s4.1))
noncomputable def ref02xDepthF : Nat → ApiValue → Option Int
 | 0, _ => none
 | n + 1, p0v =>
  ((loopO (ref02xDepth_l1 (ref02xDepthF n) p0v) (((0 : Int), (0 : Int)))) : Option Int).bind fun (x1 : Int) => (some (IntKind.wrap .i64 (x1 + (1 : Int))))
theorem wF_ref02xDepth : ∀ n : Nat, (∀ {p0v : ApiValue} {res : Int}, ref02xDepthF n p0v = some res → ACalls Tryz.prog 125 [.agg (AV.cs (exApiValue p0v))] [] (.c (.int .i64 res)) []) := by
 intro n
 induction n with
 | zero => exact fun {p0v res} h => absurd h (by simp [ref02xDepthF])
 | succ n ih =>
  have ih_ref02xDepth := @ih
  intro p0v res h
  rw [ref02xDepthF] at h
  refine acalls (fn := Tryz.f125) [0, 1, 2, 3, 4, 5, 10, 21] (by kernel_rfl) Tryz.func125 rfl (by kernel_rfl) (by kernel_rfl) <| w_sr <| o_box (v := .agg aIISLL) (n := 0) (cs := aIISLL) (σ' := [aIISLL]) rfl rfl rfl rfl rfl <| sI rfl <| o_ek (fr' := [(1, .box 0 0)]) rfl rfl <| w_sr <| sI rfl <| o_ek (fr' := [(1, .box 0 0), (3, aI)]) rfl rfl <| w_seqw <| w_seqw <| w_region ?_
  refine sI rfl <| o_ek (fr' := [(1, .box 0 0), (3, aI), (4, aI)]) rfl rfl ?_
  obtain ⟨x1, hx1, h2⟩ := bind_s h
  refine w_jtail cl_kw (fun j3 => x1 = j3) (fun (j3 : Int) => ([(3, .c (.int .i64 j3))] : Fr)) (fun (j3 : Int) => ([[.c (.int .i64 p0v.Kind), .c (.int .i64 p0v.Int), .c (.str p0v.Text), .c (PV.ls 5 rowApiValue p0v.Items), .c (PV.ls 1 rowS p0v.Keys)]] : St)) ?_ ?_
  ·
   refine w_block <| w_loopo _ (fun (s4 : (Int × Int)) => ([(1, .box 0 0), (3, .c (.int .i64 s4.1)), (4, .c (.int .i64 s4.2))] : Fr)) (fun (s4 : (Int × Int)) => ([[.c (.int .i64 p0v.Kind), .c (.int .i64 p0v.Int), .c (.str p0v.Text), .c (PV.ls 5 rowApiValue p0v.Items), .c (PV.ls 1 rowS p0v.Keys)]] : St)) hx1 (w_weak [] 1 rfl rfl rfl rfl ⟨lr, lr, lr, trivial⟩ (st_r rfl st_nil)) ?_
   intro s4 st4 hs4 ho4
   unfold ref02xDepth_l1 at hs4
   refine w_seqw <| w_sr <| mI rfl <| o_p rfl (p_fa tf25x3 rfl) <| o_p rfl (p_load (v := aL) tv22 rfl rfl rfl) <| o_p rfl (p_len ti22 (isl_c rfl)) <| o_p rfl (p_lss rfl rfl) <| o_ek (fr' := [(1, .box 0 0), (3, aI), (4, aI), (10, aB)]) rfl rfl <| w_ch hs4 rfl (fun hb5 h5 => ?_) (fun hb5 h5 => ?_)
   ·
    refine w_skip <| e_kw <| w_seqw <| w_block <| w_sr <| o_p rfl (p_fa tf25x3 rfl) <| o_p rfl (p_load (v := aL) tv22 rfl rfl rfl) <| mI rfl ?_
    obtain ⟨x6, hx6, h7⟩ := bind_s h5
    refine o_p rfl (p_ia (cs := [PV.int _ _, PV.int _ _, PV.str _, PV.ls _ _ _, PV.ls _ _ _]) ts22 (isl_c rfl) rfl hx6 (rowApiValue_eq _)) <| o_p rfl (p_loades (us := [PV.int _ _, PV.int _ _, PV.str _, PV.ls _ _ _, PV.ls _ _ _]) tv25 rfl rfl rfl) ?_
    obtain ⟨x8, hx8, h9⟩ := bind_s h7
    refine o_v (ov_call (v := aI) rfl (ih_ref02xDepth hx8) ⟨(le_aggc rfl ⟨rfl, rfl, rfl, rfl, rfl, trivial⟩), trivial⟩ rfl rfl rfl) <| sI rfl <| o_ek (fr' := [(1, .box 0 0), (3, aI), (4, aI), (5, aI)]) rfl rfl <| w_sr <| mI rfl <| mI rfl <| o_p rfl (p_gtr rfl rfl) <| o_ek (fr' := [(1, .box 0 0), (3, aI), (4, aI), (5, aI), (21, aB)]) rfl rfl <| w_ch h9 rfl (fun hb10 h10 => ?_) (fun hb10 h10 => ?_)
    ·
     exact w_region <| mI rfl <| sI rfl <| o_end (fr' := [(1, .box 0 0), (3, aI), (4, aI), (5, aI), (21, aB)]) rfl <| e_blk_n <| e_kw <| w_region <| mI rfl <| o_p rfl (p_add rfl rfl) <| sI rfl <| o_end (fr' := [(1, .box 0 0), (3, aI), (4, aI), (5, aI), (21, aB)]) rfl <| e_l _ (sy h10) (w_weak [] 1 rfl rfl rfl rfl ⟨lr, lr, lr, trivial⟩ (st_r rfl st_nil))
    ·
     exact w_skip <| e_blk_n <| e_kw <| w_region <| mI rfl <| o_p rfl (p_add rfl rfl) <| sI rfl <| o_end (fr' := [(1, .box 0 0), (3, aI), (4, aI), (5, aI), (21, aB)]) rfl <| e_l _ (sy h10) (w_weak [] 1 rfl rfl rfl rfl ⟨lr, lr, lr, trivial⟩ (st_r rfl st_nil))
   ·
    refine w_exit <| e_seq_x <| e_seq_x <| e_blk_h ?_
    have h11 := un_out h5 ho4
    exact e_j _ (sy h11) (w_weak [] 1 rfl rfl rfl rfl ⟨lr, trivial⟩ (st_r rfl st_nil))
  ·
   intro j3 hj12
   subst hj12
   refine e_kw <| w_sr <| mI rfl <| o_p rfl (p_add rfl rfl) <| sI rfl <| o_ek (fr' := [(2, aI)]) rfl rfl <| w_ret ?_
   obtain rfl := sy h2
   exact e_ret (rs' := [.tmp 2]) rfl <| r_tmp (v := aI) rfl <| r_nil <| fin_gen [] rfl rfl rfl lr st_nil
noncomputable def ref02xDepth (p0v : ApiValue) : Option Int := lim fun n => ref02xDepthF n p0v
theorem w_ref02xDepth {p0v : ApiValue} {res : Int} (h : ref02xDepth p0v = some res) : ACalls Tryz.prog 125 [.agg (AV.cs (exApiValue p0v))] [] (.c (.int .i64 res)) [] := by
 obtain ⟨n, hn⟩ := lim_some h
 exact (wF_ref02xDepth n) hn
end Go.Proofs.YtngcjjhbimanlaaGreatDoor

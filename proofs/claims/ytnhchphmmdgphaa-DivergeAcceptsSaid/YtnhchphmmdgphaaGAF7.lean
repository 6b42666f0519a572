import Derived.Test.YtnhchphmmdgphaaGATy
import Derived.Test.YtnhchphmmdgphaaGAF0
import Derived.Test.YtnhchphmmdgphaaGAF1
import Derived.Test.YtnhchphmmdgphaaGAF4
import Derived.Test.YtnhchphmmdgphaaGAF5
import Derived.Test.YtnhchphmmdgphaaGAF6
namespace Go.Proofs.Ytnhchphmmdgphaa
open Go Abs
set_option maxRecDepth 100000
set_option linter.unusedVariables false
set_option linter.unusedSimpArgs false
noncomputable def command_number (p0c : ApiCommand) : Option Bool :=
 cond (decide (p0c.Kind = (3 : Int))) ((command_in p0c.N (1 : Int) (1099511627776 : Int)).bind fun (x2 : Bool) => some x2) (cond (decide (p0c.Kind = (5 : Int))) ((command_in p0c.N (0 : Int) (2 : Int)).bind fun (x6 : Bool) => some x6) (cond (decide (p0c.Kind = (9 : Int))) ((command_in p0c.N (0 : Int) (1 : Int)).bind fun (x10 : Bool) => some x10) (cond (decide (p0c.Kind = (7 : Int))) ((gd ((decide (p0c.N = (-1 : Int))) == false) (command_in p0c.N (0 : Int) (2147483647 : Int))).bind fun (x14 : Bool) => some (cond (decide (p0c.N = (-1 : Int))) true (cond x14 (decide (p0c.Data.Kind = (0 : Int))) false))) (cond (decide (p0c.Kind = (10 : Int))) (some (decide (p0c.Data.Kind = (5 : Int)))) (cond (decide (p0c.Kind = (14 : Int))) ((command_input p0c.Data).bind fun (x20 : Bool) => some x20) (some true))))))
theorem w_command_number {p0c : ApiCommand} {res : Bool} (h : command_number p0c = some res) : ACalls Try.prog 81 [.agg (AV.cs (rowApiCommand p0c))] [] (.c (.bool res)) [] := by
 unfold command_number at h
 refine acalls (fn := Try.f81) [0, 1, 2, 4, 5, 10, 15, 20, 36, 42] (by kernel_rfl) Try.func81 rfl (by kernel_rfl) (by kernel_rfl) ?_
 refine w_seqw ?_
 refine w_region ?_
 refine o_box (v := .agg [aI, aI, aS, aS, aI, aI, aI, aS, aL, aL, aS, aI, aI, aI, aI, aI, aI, aI, aI, aL]) (n := 0) (cs := [aI, aI, aS, aS, aI, aI, aI, aS, aL, aL, aS, aI, aI, aI, aI, aI, aI, aI, aI, aL]) (σ' := [[aI, aI, aS, aS, aI, aI, aI, aS, aL, aL, aS, aI, aI, aI, aI, aI, aI, aI, aI, aL]]) rfl rfl rfl rfl rfl ?_
 refine o_p rfl (p_assign (v := aB) rfl) ?_
 refine o_end (fr' := [(0, .agg [aI, aI, aS, aS, aI, aI, aI, aS, aL, aL, aS, aI, aI, aI, aI, aI, aI, aI, aI, aL]), (1, .box 0 0), (2, aB)]) rfl ?_
 refine e_kw ?_
 refine w_seqw ?_
 refine w_seqw ?_
 refine w_region ?_
 refine o_p rfl (p_fa tf44x0 rfl) ?_
 refine o_p rfl (p_load (v := aI) tv3 rfl rfl rfl) ?_
 refine o_end (fr' := [(0, .agg [aI, aI, aS, aS, aI, aI, aI, aS, aL, aL, aS, aI, aI, aI, aI, aI, aI, aI, aI, aL]), (1, .box 0 0), (2, aB), (4, aI)]) rfl ?_
 refine e_kw ?_
 refine w_block ?_
 refine w_seqw ?_
 refine w_region ?_
 refine o_p rfl (p_eql rfl rfl) ?_
 refine o_p rfl (p_assign (v := aB) rfl) ?_
 refine o_end (fr' := [(0, .agg [aI, aI, aS, aS, aI, aI, aI, aS, aL, aL, aS, aI, aI, aI, aI, aI, aI, aI, aI, aL]), (1, .box 0 0), (2, aB), (4, aI), (5, aB)]) rfl ?_
 refine e_kw ?_
 refine w_cond _ rfl (fun hb1 => ?_) (fun hb1 => ?_)
 ·
  have h1 := cond_t (b := (decide (p0c.Kind = (3 : Int)))) hb1 h
  refine w_seqw ?_
  refine w_region ?_
  refine o_p rfl (p_fa tf44x4 rfl) ?_
  refine o_p rfl (p_load (v := aI) tv3 rfl rfl rfl) ?_
  obtain ⟨x2, hx2, h3⟩ := bind_s h1
  refine o_v (ov_call (v := aB) rfl (w_command_in hx2) ⟨(AV.le_refl _), (AV.le_refl _), (AV.le_refl _), trivial⟩ rfl rfl rfl) ?_
  refine o_p rfl (p_assign (v := aB) rfl) ?_
  refine o_end (fr' := [(0, .agg [aI, aI, aS, aS, aI, aI, aI, aS, aL, aL, aS, aI, aI, aI, aI, aI, aI, aI, aI, aL]), (1, .box 0 0), (2, aB), (4, aI), (5, aB)]) rfl ?_
  refine e_kw ?_
  refine w_ret ?_
  refine e_blk_r ?_
  refine e_seq_r ?_
  have he4 := Option.some.inj h3
  subst he4
  refine e_ret (rs' := [.tmp 2]) rfl ?_
  refine r_tmp (v := aB) rfl ?_
  refine r_nil ?_
  exact fin_gen [] rfl rfl rfl (AV.le_refl _) st_nil
 ·
  have h1 := cond_f (b := (decide (p0c.Kind = (3 : Int)))) hb1 h
  refine w_seqw ?_
  refine w_region ?_
  refine o_p rfl (p_eql rfl rfl) ?_
  refine o_p rfl (p_assign (v := aB) rfl) ?_
  refine o_end (fr' := [(0, .agg [aI, aI, aS, aS, aI, aI, aI, aS, aL, aL, aS, aI, aI, aI, aI, aI, aI, aI, aI, aL]), (1, .box 0 0), (2, aB), (4, aI), (5, aB), (10, aB)]) rfl ?_
  refine e_kw ?_
  refine w_cond _ rfl (fun hb5 => ?_) (fun hb5 => ?_)
  ·
   have h5 := cond_t (b := (decide (p0c.Kind = (5 : Int)))) hb5 h1
   refine w_seqw ?_
   refine w_region ?_
   refine o_p rfl (p_fa tf44x4 rfl) ?_
   refine o_p rfl (p_load (v := aI) tv3 rfl rfl rfl) ?_
   obtain ⟨x6, hx6, h7⟩ := bind_s h5
   refine o_v (ov_call (v := aB) rfl (w_command_in hx6) ⟨(AV.le_refl _), (AV.le_refl _), (AV.le_refl _), trivial⟩ rfl rfl rfl) ?_
   refine o_p rfl (p_assign (v := aB) rfl) ?_
   refine o_end (fr' := [(0, .agg [aI, aI, aS, aS, aI, aI, aI, aS, aL, aL, aS, aI, aI, aI, aI, aI, aI, aI, aI, aL]), (1, .box 0 0), (2, aB), (4, aI), (5, aB), (10, aB)]) rfl ?_
   refine e_kw ?_
   refine w_ret ?_
   refine e_blk_r ?_
   refine e_seq_r ?_
   have he8 := Option.some.inj h7
   subst he8
   refine e_ret (rs' := [.tmp 2]) rfl ?_
   refine r_tmp (v := aB) rfl ?_
   refine r_nil ?_
   exact fin_gen [] rfl rfl rfl (AV.le_refl _) st_nil
  ·
   have h5 := cond_f (b := (decide (p0c.Kind = (5 : Int)))) hb5 h1
   refine w_seqw ?_
   refine w_region ?_
   refine o_p rfl (p_eql rfl rfl) ?_
   refine o_p rfl (p_assign (v := aB) rfl) ?_
   refine o_end (fr' := [(0, .agg [aI, aI, aS, aS, aI, aI, aI, aS, aL, aL, aS, aI, aI, aI, aI, aI, aI, aI, aI, aL]), (1, .box 0 0), (2, aB), (4, aI), (5, aB), (10, aB), (15, aB)]) rfl ?_
   refine e_kw ?_
   refine w_cond _ rfl (fun hb9 => ?_) (fun hb9 => ?_)
   ·
    have h9 := cond_t (b := (decide (p0c.Kind = (9 : Int)))) hb9 h5
    refine w_seqw ?_
    refine w_region ?_
    refine o_p rfl (p_fa tf44x4 rfl) ?_
    refine o_p rfl (p_load (v := aI) tv3 rfl rfl rfl) ?_
    obtain ⟨x10, hx10, h11⟩ := bind_s h9
    refine o_v (ov_call (v := aB) rfl (w_command_in hx10) ⟨(AV.le_refl _), (AV.le_refl _), (AV.le_refl _), trivial⟩ rfl rfl rfl) ?_
    refine o_p rfl (p_assign (v := aB) rfl) ?_
    refine o_end (fr' := [(0, .agg [aI, aI, aS, aS, aI, aI, aI, aS, aL, aL, aS, aI, aI, aI, aI, aI, aI, aI, aI, aL]), (1, .box 0 0), (2, aB), (4, aI), (5, aB), (10, aB), (15, aB)]) rfl ?_
    refine e_kw ?_
    refine w_ret ?_
    refine e_blk_r ?_
    refine e_seq_r ?_
    have he12 := Option.some.inj h11
    subst he12
    refine e_ret (rs' := [.tmp 2]) rfl ?_
    refine r_tmp (v := aB) rfl ?_
    refine r_nil ?_
    exact fin_gen [] rfl rfl rfl (AV.le_refl _) st_nil
   ·
    have h9 := cond_f (b := (decide (p0c.Kind = (9 : Int)))) hb9 h5
    refine w_seqw ?_
    refine w_region ?_
    refine o_p rfl (p_eql rfl rfl) ?_
    refine o_p rfl (p_assign (v := aB) rfl) ?_
    refine o_end (fr' := [(0, .agg [aI, aI, aS, aS, aI, aI, aI, aS, aL, aL, aS, aI, aI, aI, aI, aI, aI, aI, aI, aL]), (1, .box 0 0), (2, aB), (4, aI), (5, aB), (10, aB), (15, aB), (20, aB)]) rfl ?_
    refine e_kw ?_
    refine w_cond _ rfl (fun hb13 => ?_) (fun hb13 => ?_)
    ·
     have h13 := cond_t (b := (decide (p0c.Kind = (7 : Int)))) hb13 h9
     refine w_seqw ?_
     refine w_region ?_
     refine o_p rfl (p_fa tf44x4 rfl) ?_
     refine o_p rfl (p_load (v := aI) tv3 rfl rfl rfl) ?_
     refine o_p rfl (p_eql rfl rfl) ?_
     refine o_p rfl (p_move (v := aB) rfl) ?_
     refine o_g rfl rfl (fun hc => ov_p rfl (p_fa tf44x4 rfl)) ?_
     refine o_g rfl rfl (fun hc => ov_p rfl (p_load (v := aI) tv3 (gx rfl hc) rfl rfl)) ?_
     obtain ⟨x14, hx14, h15⟩ := bind_s h13
     refine o_g rfl rfl (fun hc => ov_call (v := aB) rfl (w_command_in (gd_some hx14 hc)) ⟨(le_gv (gx rfl hc) (AV.le_refl _)), (AV.le_refl _), (AV.le_refl _), trivial⟩ (ok_eq (by repeat (first | exact ok_nil | refine ok_cons rfl ?_ | refine ok_cons (dgv rfl) ?_))) rfl rfl) ?_
     refine o_g rfl rfl (fun hc => ov_p rfl (p_move (v := aB) (gx rfl hc))) ?_
     refine o_gg rfl rfl (fun hc => ov_p rfl (p_fa tf44x5 rfl)) ?_
     refine o_gg rfl rfl (fun hc => ov_p rfl (p_fa tf40x0 (gx rfl hc))) ?_
     refine o_gg rfl rfl (fun hc => ov_p rfl (p_load (v := aI) tv3 (gx rfl hc) rfl rfl)) ?_
     refine o_gg rfl rfl (fun hc => ov_p rfl (p_eql (gx rfl hc) rfl)) ?_
     refine o_g rfl rfl (fun hc => ov_p rfl (p_picky (gx rfl hc) rfl rfl (fun e => band hc (keq e)))) ?_
     refine o_p rfl (p_pickz rfl rfl rfl (fun e => keq e)) ?_
     refine o_p rfl (p_assign (v := aB) rfl) ?_
     refine o_end (fr' := [(0, .agg [aI, aI, aS, aS, aI, aI, aI, aS, aL, aL, aS, aI, aI, aI, aI, aI, aI, aI, aI, aL]), (1, .box 0 0), (2, aB), (4, aI), (5, aB), (10, aB), (15, aB), (20, aB)]) rfl ?_
     refine e_kw ?_
     refine w_ret ?_
     refine e_blk_r ?_
     refine e_seq_r ?_
     have he16 := Option.some.inj h15
     subst he16
     refine e_ret (rs' := [.tmp 2]) rfl ?_
     refine r_tmp (v := aB) rfl ?_
     refine r_nil ?_
     exact fin_gen [] rfl rfl rfl (AV.le_refl _) st_nil
    ·
     have h13 := cond_f (b := (decide (p0c.Kind = (7 : Int)))) hb13 h9
     refine w_seqw ?_
     refine w_region ?_
     refine o_p rfl (p_eql rfl rfl) ?_
     refine o_p rfl (p_assign (v := aB) rfl) ?_
     refine o_end (fr' := [(0, .agg [aI, aI, aS, aS, aI, aI, aI, aS, aL, aL, aS, aI, aI, aI, aI, aI, aI, aI, aI, aL]), (1, .box 0 0), (2, aB), (4, aI), (5, aB), (10, aB), (15, aB), (20, aB), (36, aB)]) rfl ?_
     refine e_kw ?_
     refine w_cond _ rfl (fun hb17 => ?_) (fun hb17 => ?_)
     ·
      have h17 := cond_t (b := (decide (p0c.Kind = (10 : Int)))) hb17 h13
      refine w_seqw ?_
      refine w_region ?_
      refine o_p rfl (p_fa tf44x5 rfl) ?_
      refine o_p rfl (p_fa tf40x0 rfl) ?_
      refine o_p rfl (p_load (v := aI) tv3 rfl rfl rfl) ?_
      refine o_p rfl (p_eql rfl rfl) ?_
      refine o_p rfl (p_assign (v := aB) rfl) ?_
      refine o_end (fr' := [(0, .agg [aI, aI, aS, aS, aI, aI, aI, aS, aL, aL, aS, aI, aI, aI, aI, aI, aI, aI, aI, aL]), (1, .box 0 0), (2, aB), (4, aI), (5, aB), (10, aB), (15, aB), (20, aB), (36, aB)]) rfl ?_
      refine e_kw ?_
      refine w_ret ?_
      refine e_blk_r ?_
      refine e_seq_r ?_
      have he18 := Option.some.inj h17
      subst he18
      refine e_ret (rs' := [.tmp 2]) rfl ?_
      refine r_tmp (v := aB) rfl ?_
      refine r_nil ?_
      exact fin_gen [] rfl rfl rfl (AV.le_refl _) st_nil
     ·
      have h17 := cond_f (b := (decide (p0c.Kind = (10 : Int)))) hb17 h13
      refine w_seqw ?_
      refine w_region ?_
      refine o_p rfl (p_eql rfl rfl) ?_
      refine o_p rfl (p_assign (v := aB) rfl) ?_
      refine o_end (fr' := [(0, .agg [aI, aI, aS, aS, aI, aI, aI, aS, aL, aL, aS, aI, aI, aI, aI, aI, aI, aI, aI, aL]), (1, .box 0 0), (2, aB), (4, aI), (5, aB), (10, aB), (15, aB), (20, aB), (36, aB), (42, aB)]) rfl ?_
      refine e_kw ?_
      refine w_cond _ rfl (fun hb19 => ?_) (fun hb19 => ?_)
      ·
       have h19 := cond_t (b := (decide (p0c.Kind = (14 : Int)))) hb19 h17
       refine w_seqw ?_
       refine w_region ?_
       refine o_p rfl (p_fa tf44x5 rfl) ?_
       refine o_p rfl (p_loads (us := [aI, aI, aS, aL, aL]) tv40 rfl rfl rfl rfl) ?_
       obtain ⟨x20, hx20, h21⟩ := bind_s h19
       refine o_v (ov_call (v := aB) rfl (w_command_input hx20) ⟨(le_aggc rfl ⟨rfl, rfl, rfl, rfl, rfl, trivial⟩), trivial⟩ rfl rfl rfl) ?_
       refine o_p rfl (p_assign (v := aB) rfl) ?_
       refine o_end (fr' := [(0, .agg [aI, aI, aS, aS, aI, aI, aI, aS, aL, aL, aS, aI, aI, aI, aI, aI, aI, aI, aI, aL]), (1, .box 0 0), (2, aB), (4, aI), (5, aB), (10, aB), (15, aB), (20, aB), (36, aB), (42, aB)]) rfl ?_
       refine e_kw ?_
       refine w_ret ?_
       refine e_blk_r ?_
       refine e_seq_r ?_
       have he22 := Option.some.inj h21
       subst he22
       refine e_ret (rs' := [.tmp 2]) rfl ?_
       refine r_tmp (v := aB) rfl ?_
       refine r_nil ?_
       exact fin_gen [] rfl rfl rfl (AV.le_refl _) st_nil
      ·
       have h19 := cond_f (b := (decide (p0c.Kind = (14 : Int)))) hb19 h17
       refine w_skip ?_
       refine e_blk_n ?_
       refine e_kw ?_
       refine w_seqw ?_
       refine w_region ?_
       refine o_p rfl (p_assign (v := aB) rfl) ?_
       refine o_end (fr' := [(0, .agg [aI, aI, aS, aS, aI, aI, aI, aS, aL, aL, aS, aI, aI, aI, aI, aI, aI, aI, aI, aL]), (1, .box 0 0), (2, aB), (4, aI), (5, aB), (10, aB), (15, aB), (20, aB), (36, aB), (42, aB)]) rfl ?_
       refine e_kw ?_
       refine w_ret ?_
       have he23 := Option.some.inj h19
       subst he23
       refine e_ret (rs' := [.tmp 2]) rfl ?_
       refine r_tmp (v := aB) rfl ?_
       refine r_nil ?_
       exact fin_gen [] rfl rfl rfl (AV.le_refl _) st_nil
noncomputable def command_Right (p0c : ApiCommand) : Option Bool :=
 (command_fields p0c.Kind).bind fun (x1 : CommandUses) => (command_in p0c.Kind (1 : Int) (14 : Int)).bind fun (x3 : Bool) => (gd ((!x3) == false) (command_bare p0c x1)).bind fun (x5 : Bool) => (gd ((cond (!x3) true (!x5)) == false) (value_Right p0c.Data)).bind fun (x7 : Bool) => (gd ((cond (cond (!x3) true (!x5)) true (!x7)) == false) (command_RightPolicy p0c.Opts)).bind fun (x9 : Bool) => cond (cond (cond (cond (!x3) true (!x5)) true (!x7)) true (!x9)) (some false) ((gd (x1.seq_ == true) (command_in p0c.Seq (1 : Int) (2000 : Int))).bind fun (x13 : Bool) => (gd (((cond x1.seq_ (!x13) false) == false) && (x1.key_ == true)) (command_ident p0c.Key)).bind fun (x15 : Bool) => cond (cond (cond x1.seq_ (!x13) false) true (cond x1.key_ (!x15) false)) (some false) ((gd (((x1.name_ == true) && ((cond (decide (p0c.Kind = (12 : Int))) (decide ((4096 : Int) < ((p0c.Name).length : Int))) false) == false)) && ((!decide (p0c.Kind = (12 : Int))) == true)) (name_Right p0c.Name)).bind fun (x19 : Bool) => cond (cond x1.name_ (cond (cond (decide (p0c.Kind = (12 : Int))) (decide ((4096 : Int) < ((p0c.Name).length : Int))) false) true (cond (!decide (p0c.Kind = (12 : Int))) (!x19) false)) false) (some false) ((command_number p0c).bind fun (x23 : Bool) => some x23)))
theorem w_command_Right {p0c : ApiCommand} {res : Bool} (h : command_Right p0c = some res) : ACalls Try.prog 45 [.agg (AV.cs (rowApiCommand p0c))] [] (.c (.bool res)) [] := by
 unfold command_Right at h
 refine acalls (fn := Try.f45) [0, 1, 2, 3, 28, 46, 70] (by kernel_rfl) Try.func45 rfl (by kernel_rfl) (by kernel_rfl) ?_
 refine w_seqw ?_
 refine w_region ?_
 refine o_box (v := .agg [aI, aI, aS, aS, aI, aI, aI, aS, aL, aL, aS, aI, aI, aI, aI, aI, aI, aI, aI, aL]) (n := 0) (cs := [aI, aI, aS, aS, aI, aI, aI, aS, aL, aL, aS, aI, aI, aI, aI, aI, aI, aI, aI, aL]) (σ' := [[aI, aI, aS, aS, aI, aI, aI, aS, aL, aL, aS, aI, aI, aI, aI, aI, aI, aI, aI, aL]]) rfl rfl rfl rfl rfl ?_
 refine o_p rfl (p_assign (v := aB) rfl) ?_
 refine o_end (fr' := [(0, .agg [aI, aI, aS, aS, aI, aI, aI, aS, aL, aL, aS, aI, aI, aI, aI, aI, aI, aI, aI, aL]), (1, .box 0 0), (2, aB)]) rfl ?_
 refine e_kw ?_
 refine w_seqw ?_
 refine w_region ?_
 refine o_p rfl (p_fa tf44x0 rfl) ?_
 refine o_p rfl (p_load (v := aI) tv3 rfl rfl rfl) ?_
 obtain ⟨x1, hx1, h2⟩ := bind_s h
 refine o_v (ov_call (v := .agg [aB, aB, aB, aB, aB, aB]) rfl (w_command_fields hx1) ⟨(AV.le_refl _), trivial⟩ rfl rfl rfl) ?_
 refine o_alloc (n := 1) (cs := [aB, aB, aB, aB, aB, aB]) (σ' := [[aI, aI, aS, aS, aI, aI, aI, aS, aL, aL, aS, aI, aI, aI, aI, aI, aI, aI, aI, aL], [aB, aB, aB, aB, aB, aB]]) tz102 rfl rfl rfl ?_
 refine o_store (v := .agg [aB, aB, aB, aB, aB, aB]) (us := [aB, aB, aB, aB, aB, aB]) (cs := [aB, aB, aB, aB, aB, aB]) (σ' := [[aI, aI, aS, aS, aI, aI, aI, aS, aL, aL, aS, aI, aI, aI, aI, aI, aI, aI, aI, aL], [aB, aB, aB, aB, aB, aB]]) rfl tv102 rfl rfl rfl rfl rfl rfl rfl rfl ?_
 refine o_end (fr' := [(0, .agg [aI, aI, aS, aS, aI, aI, aI, aS, aL, aL, aS, aI, aI, aI, aI, aI, aI, aI, aI, aL]), (1, .box 0 0), (2, aB), (3, .box 1 0)]) rfl ?_
 refine e_kw ?_
 refine w_seqw ?_
 refine w_seqw ?_
 refine w_region ?_
 refine o_p rfl (p_fa tf44x0 rfl) ?_
 refine o_p rfl (p_load (v := aI) tv3 rfl rfl rfl) ?_
 obtain ⟨x3, hx3, h4⟩ := bind_s h2
 refine o_v (ov_call (v := aB) rfl (w_command_in hx3) ⟨(AV.le_refl _), (AV.le_refl _), (AV.le_refl _), trivial⟩ rfl rfl rfl) ?_
 refine o_p rfl (p_not rfl) ?_
 refine o_p rfl (p_move (v := aB) rfl) ?_
 refine o_g rfl rfl (fun hc => ov_p rfl (p_loads (us := [aI, aI, aS, aS, aI, aI, aI, aS, aL, aL, aS, aI, aI, aI, aI, aI, aI, aI, aI, aL]) tv44 rfl rfl rfl rfl)) ?_
 refine o_g rfl rfl (fun hc => ov_p rfl (p_loads (us := [aB, aB, aB, aB, aB, aB]) tv102 rfl rfl rfl rfl)) ?_
 obtain ⟨x5, hx5, h6⟩ := bind_s h4
 refine o_g rfl rfl (fun hc => ov_call (v := aB) rfl (w_command_bare (gd_some hx5 hc)) ⟨(le_gv (gx rfl hc) (le_aggc rfl ⟨rfl, rfl, rfl, rfl, rfl, rfl, rfl, rfl, rfl, rfl, rfl, rfl, rfl, rfl, rfl, rfl, rfl, rfl, rfl, rfl, trivial⟩)), (le_gv (gx rfl hc) (le_aggc rfl ⟨rfl, rfl, rfl, rfl, rfl, rfl, trivial⟩)), trivial⟩ (ok_eq (by repeat (first | exact ok_nil | refine ok_cons rfl ?_ | refine ok_cons (dgv rfl) ?_))) rfl rfl) ?_
 refine o_g rfl rfl (fun hc => ov_p rfl (p_not (gx rfl hc))) ?_
 refine o_p rfl (p_pickz rfl rfl rfl (fun e => keq e)) ?_
 refine o_p rfl (p_move (v := aB) rfl) ?_
 refine o_g rfl rfl (fun hc => ov_p rfl (p_fa tf44x5 rfl)) ?_
 refine o_g rfl rfl (fun hc => ov_p rfl (p_loads (us := [aI, aI, aS, aL, aL]) tv40 (gx rfl hc) rfl rfl rfl)) ?_
 obtain ⟨x7, hx7, h8⟩ := bind_s h6
 refine o_g rfl rfl (fun hc => ov_call (v := aB) rfl (w_value_Right (gd_some hx7 hc)) ⟨(le_gv (gx rfl hc) (le_aggc rfl ⟨rfl, rfl, rfl, rfl, rfl, trivial⟩)), trivial⟩ (ok_eq (by repeat (first | exact ok_nil | refine ok_cons rfl ?_ | refine ok_cons (dgv rfl) ?_))) rfl rfl) ?_
 refine o_g rfl rfl (fun hc => ov_p rfl (p_not (gx rfl hc))) ?_
 refine o_p rfl (p_pickz rfl rfl rfl (fun e => keq e)) ?_
 refine o_p rfl (p_move (v := aB) rfl) ?_
 refine o_g rfl rfl (fun hc => ov_p rfl (p_fa tf44x6 rfl)) ?_
 refine o_g rfl rfl (fun hc => ov_p rfl (p_loads (us := [aS, aI, aI, aI, aI, aI, aI, aI, aI, aL]) tv42 (gx rfl hc) rfl rfl rfl)) ?_
 obtain ⟨x9, hx9, h10⟩ := bind_s h8
 refine o_g rfl rfl (fun hc => ov_call (v := aB) rfl (w_command_RightPolicy (gd_some hx9 hc)) ⟨(le_gv (gx rfl hc) (le_aggc rfl ⟨rfl, rfl, rfl, rfl, rfl, rfl, rfl, rfl, rfl, rfl, trivial⟩)), trivial⟩ (ok_eq (by repeat (first | exact ok_nil | refine ok_cons rfl ?_ | refine ok_cons (dgv rfl) ?_))) rfl rfl) ?_
 refine o_g rfl rfl (fun hc => ov_p rfl (p_not (gx rfl hc))) ?_
 refine o_p rfl (p_pickz rfl rfl rfl (fun e => keq e)) ?_
 refine o_end (fr' := [(0, .agg [aI, aI, aS, aS, aI, aI, aI, aS, aL, aL, aS, aI, aI, aI, aI, aI, aI, aI, aI, aL]), (1, .box 0 0), (2, aB), (3, .box 1 0), (28, aB)]) rfl ?_
 refine e_kw ?_
 refine w_cond _ rfl (fun hb11 => ?_) (fun hb11 => ?_)
 ·
  have h11 := cond_t (b := (cond (cond (cond (!x3) true (!x5)) true (!x7)) true (!x9))) hb11 h10
  refine w_seqw ?_
  refine w_region ?_
  refine o_p rfl (p_assign (v := aB) rfl) ?_
  refine o_end (fr' := [(0, .agg [aI, aI, aS, aS, aI, aI, aI, aS, aL, aL, aS, aI, aI, aI, aI, aI, aI, aI, aI, aL]), (1, .box 0 0), (2, aB), (3, .box 1 0), (28, aB)]) rfl ?_
  refine e_kw ?_
  refine w_ret ?_
  refine e_seq_r ?_
  have he12 := Option.some.inj h11
  subst he12
  refine e_ret (rs' := [.tmp 2]) rfl ?_
  refine r_tmp (v := aB) rfl ?_
  refine r_nil ?_
  exact fin_gen [] rfl rfl rfl (AV.le_refl _) st_nil
 ·
  have h11 := cond_f (b := (cond (cond (cond (!x3) true (!x5)) true (!x7)) true (!x9))) hb11 h10
  refine w_skip ?_
  refine e_kw ?_
  refine w_seqw ?_
  refine w_seqw ?_
  refine w_region ?_
  refine o_p rfl (p_fa tf102x0 rfl) ?_
  refine o_p rfl (p_load (v := aB) tv4 rfl rfl rfl) ?_
  refine o_p rfl (p_move (v := aB) rfl) ?_
  refine o_g rfl rfl (fun hc => ov_p rfl (p_fa tf44x1 rfl)) ?_
  refine o_g rfl rfl (fun hc => ov_p rfl (p_load (v := aI) tv3 (gx rfl hc) rfl rfl)) ?_
  obtain ⟨x13, hx13, h14⟩ := bind_s h11
  refine o_g rfl rfl (fun hc => ov_call (v := aB) rfl (w_command_in (gd_some hx13 hc)) ⟨(le_gv (gx rfl hc) (AV.le_refl _)), (AV.le_refl _), (AV.le_refl _), trivial⟩ (ok_eq (by repeat (first | exact ok_nil | refine ok_cons rfl ?_ | refine ok_cons (dgv rfl) ?_))) rfl rfl) ?_
  refine o_g rfl rfl (fun hc => ov_p rfl (p_not (gx rfl hc))) ?_
  refine o_p rfl (p_picky rfl rfl rfl (fun e => keq e)) ?_
  refine o_p rfl (p_move (v := aB) rfl) ?_
  refine o_g rfl rfl (fun hc => ov_p rfl (p_fa tf102x2 rfl)) ?_
  refine o_g rfl rfl (fun hc => ov_p rfl (p_load (v := aB) tv4 (gx rfl hc) rfl rfl)) ?_
  refine o_g rfl rfl (fun hc => ov_p rfl (p_move (v := aB) (gx rfl hc))) ?_
  refine o_gg rfl rfl (fun hc => ov_p rfl (p_fa tf44x3 rfl)) ?_
  refine o_gg rfl rfl (fun hc => ov_p rfl (p_load (v := aS) tv9 (gx rfl hc) rfl rfl)) ?_
  obtain ⟨x15, hx15, h16⟩ := bind_s h14
  refine o_gg rfl rfl (fun hc => ov_call (v := aB) rfl (w_command_ident (gd_some hx15 hc)) ⟨(le_gv (gx rfl hc) (AV.le_refl _)), trivial⟩ (ok_eq (by repeat (first | exact ok_nil | refine ok_cons rfl ?_ | refine ok_cons (dgv rfl) ?_))) rfl rfl) ?_
  refine o_gg rfl rfl (fun hc => ov_p rfl (p_not (gx rfl hc))) ?_
  refine o_g rfl rfl (fun hc => ov_p rfl (p_picky (gx rfl hc) rfl rfl (fun e => band hc (keq e)))) ?_
  refine o_p rfl (p_pickz rfl rfl rfl (fun e => keq e)) ?_
  refine o_end (fr' := [(0, .agg [aI, aI, aS, aS, aI, aI, aI, aS, aL, aL, aS, aI, aI, aI, aI, aI, aI, aI, aI, aL]), (1, .box 0 0), (2, aB), (3, .box 1 0), (28, aB), (46, aB)]) rfl ?_
  refine e_kw ?_
  refine w_cond _ rfl (fun hb17 => ?_) (fun hb17 => ?_)
  ·
   have h17 := cond_t (b := (cond (cond x1.seq_ (!x13) false) true (cond x1.key_ (!x15) false))) hb17 h16
   refine w_seqw ?_
   refine w_region ?_
   refine o_p rfl (p_assign (v := aB) rfl) ?_
   refine o_end (fr' := [(0, .agg [aI, aI, aS, aS, aI, aI, aI, aS, aL, aL, aS, aI, aI, aI, aI, aI, aI, aI, aI, aL]), (1, .box 0 0), (2, aB), (3, .box 1 0), (28, aB), (46, aB)]) rfl ?_
   refine e_kw ?_
   refine w_ret ?_
   refine e_seq_r ?_
   have he18 := Option.some.inj h17
   subst he18
   refine e_ret (rs' := [.tmp 2]) rfl ?_
   refine r_tmp (v := aB) rfl ?_
   refine r_nil ?_
   exact fin_gen [] rfl rfl rfl (AV.le_refl _) st_nil
  ·
   have h17 := cond_f (b := (cond (cond x1.seq_ (!x13) false) true (cond x1.key_ (!x15) false))) hb17 h16
   refine w_skip ?_
   refine e_kw ?_
   refine w_seqw ?_
   refine w_seqw ?_
   refine w_region ?_
   refine o_p rfl (p_fa tf102x1 rfl) ?_
   refine o_p rfl (p_load (v := aB) tv4 rfl rfl rfl) ?_
   refine o_p rfl (p_move (v := aB) rfl) ?_
   refine o_g rfl rfl (fun hc => ov_p rfl (p_fa tf44x0 rfl)) ?_
   refine o_g rfl rfl (fun hc => ov_p rfl (p_load (v := aI) tv3 (gx rfl hc) rfl rfl)) ?_
   refine o_g rfl rfl (fun hc => ov_p rfl (p_eql (gx rfl hc) rfl)) ?_
   refine o_g rfl rfl (fun hc => ov_p rfl (p_move (v := aB) (gx rfl hc))) ?_
   refine o_gg rfl rfl (fun hc => ov_p rfl (p_fa tf44x2 rfl)) ?_
   refine o_gg rfl rfl (fun hc => ov_p rfl (p_load (v := aS) tv9 (gx rfl hc) rfl rfl)) ?_
   refine o_gg rfl rfl (fun hc => ov_p rfl (p_lens ti9 (gx rfl hc))) ?_
   refine o_gg rfl rfl (fun hc => ov_p rfl (p_gtr (gx rfl hc) rfl)) ?_
   refine o_g rfl rfl (fun hc => ov_p rfl (p_picky (gx rfl hc) rfl rfl (fun e => band hc (keq e)))) ?_
   refine o_g rfl rfl (fun hc => ov_p rfl (p_move (v := aB) (gx rfl hc))) ?_
   refine o_gg rfl rfl (fun hc => ov_p rfl (p_fa tf44x0 rfl)) ?_
   refine o_gg rfl rfl (fun hc => ov_p rfl (p_load (v := aI) tv3 (gx rfl hc) rfl rfl)) ?_
   refine o_gg rfl rfl (fun hc => ov_p rfl (p_neq (gx rfl hc) rfl)) ?_
   refine o_gg rfl rfl (fun hc => ov_p rfl (p_move (v := aB) (gx rfl hc))) ?_
   refine o_gg rfl rfl (fun hc => ov_p rfl (p_fa tf44x2 rfl)) ?_
   refine o_gg rfl rfl (fun hc => ov_p rfl (p_load (v := aS) tv9 (gx rfl hc) rfl rfl)) ?_
   obtain ⟨x19, hx19, h20⟩ := bind_s h17
   refine o_gg rfl rfl (fun hc => ov_call (v := aB) rfl (w_name_Right (gd_some hx19 hc)) ⟨(le_gv (gx rfl hc) (AV.le_refl _)), trivial⟩ (ok_eq (by repeat (first | exact ok_nil | refine ok_cons rfl ?_ | refine ok_cons (dgv rfl) ?_))) rfl rfl) ?_
   refine o_gg rfl rfl (fun hc => ov_p rfl (p_not (gx rfl hc))) ?_
   refine o_gg rfl rfl (fun hc => ov_p rfl (p_picky (gx rfl hc) rfl rfl (fun e => band hc (keq e)))) ?_
   refine o_g rfl rfl (fun hc => ov_p rfl (p_pickz (gx rfl hc) rfl rfl (fun e => band hc (keq e)))) ?_
   refine o_p rfl (p_picky rfl rfl rfl (fun e => keq e)) ?_
   refine o_end (fr' := [(0, .agg [aI, aI, aS, aS, aI, aI, aI, aS, aL, aL, aS, aI, aI, aI, aI, aI, aI, aI, aI, aL]), (1, .box 0 0), (2, aB), (3, .box 1 0), (28, aB), (46, aB), (70, aB)]) rfl ?_
   refine e_kw ?_
   refine w_cond _ rfl (fun hb21 => ?_) (fun hb21 => ?_)
   ·
    have h21 := cond_t (b := (cond x1.name_ (cond (cond (decide (p0c.Kind = (12 : Int))) (decide ((4096 : Int) < ((p0c.Name).length : Int))) false) true (cond (!decide (p0c.Kind = (12 : Int))) (!x19) false)) false)) hb21 h20
    refine w_seqw ?_
    refine w_region ?_
    refine o_p rfl (p_assign (v := aB) rfl) ?_
    refine o_end (fr' := [(0, .agg [aI, aI, aS, aS, aI, aI, aI, aS, aL, aL, aS, aI, aI, aI, aI, aI, aI, aI, aI, aL]), (1, .box 0 0), (2, aB), (3, .box 1 0), (28, aB), (46, aB), (70, aB)]) rfl ?_
    refine e_kw ?_
    refine w_ret ?_
    refine e_seq_r ?_
    have he22 := Option.some.inj h21
    subst he22
    refine e_ret (rs' := [.tmp 2]) rfl ?_
    refine r_tmp (v := aB) rfl ?_
    refine r_nil ?_
    exact fin_gen [] rfl rfl rfl (AV.le_refl _) st_nil
   ·
    have h21 := cond_f (b := (cond x1.name_ (cond (cond (decide (p0c.Kind = (12 : Int))) (decide ((4096 : Int) < ((p0c.Name).length : Int))) false) true (cond (!decide (p0c.Kind = (12 : Int))) (!x19) false)) false)) hb21 h20
    refine w_skip ?_
    refine e_kw ?_
    refine w_seqw ?_
    refine w_region ?_
    refine o_p rfl (p_loads (us := [aI, aI, aS, aS, aI, aI, aI, aS, aL, aL, aS, aI, aI, aI, aI, aI, aI, aI, aI, aL]) tv44 rfl rfl rfl rfl) ?_
    obtain ⟨x23, hx23, h24⟩ := bind_s h21
    refine o_v (ov_call (v := aB) rfl (w_command_number hx23) ⟨(le_aggc rfl ⟨rfl, rfl, rfl, rfl, rfl, rfl, rfl, rfl, rfl, rfl, rfl, rfl, rfl, rfl, rfl, rfl, rfl, rfl, rfl, rfl, trivial⟩), trivial⟩ (ok_eq (by repeat (first | exact ok_nil | refine ok_cons rfl ?_ | refine ok_cons (dgv rfl) ?_))) rfl rfl) ?_
    refine o_p rfl (p_assign (v := aB) rfl) ?_
    refine o_end (fr' := [(0, .agg [aI, aI, aS, aS, aI, aI, aI, aS, aL, aL, aS, aI, aI, aI, aI, aI, aI, aI, aI, aL]), (1, .box 0 0), (2, aB), (3, .box 1 0), (28, aB), (46, aB), (70, aB)]) rfl ?_
    refine e_kw ?_
    refine w_ret ?_
    have he25 := Option.some.inj h24
    subst he25
    refine e_ret (rs' := [.tmp 2]) rfl ?_
    refine r_tmp (v := aB) rfl ?_
    refine r_nil ?_
    exact fin_gen [] rfl rfl rfl (AV.le_refl _) st_nil
noncomputable def event_eventOf_l1 (p0kind : Int) (s4 : Int) : Option (Step Int (Fl Int Unit)) :=
 cond (decide (s4 ≤ (35 : Int))) ((event_commandOf s4).bind fun (x6 : Int) => cond (cond (!decide (x6 = (0 : Int))) (decide (x6 = p0kind)) false) (some (Step.out (Fl.done s4))) (some (Step.next (IntKind.wrap .i64 (s4 + (1 : Int)))))) (some (Step.out (Fl.go ())))
noncomputable def event_eventOf (p0kind : Int) : Option Int :=
 ((loopO (event_eventOf_l1 p0kind) ((1 : Int))) : Option (Fl Int Unit)).bind fun (x1 : (Fl Int Unit)) => Fl.next x1 (fun (j3 : Unit) => (some (0 : Int)))
theorem w_event_eventOf {p0kind : Int} {res : Int} (h : event_eventOf p0kind = some res) : ACalls Try.prog 73 [.c (.int .i64 p0kind)] [] (.c (.int .i64 res)) [] := by
 unfold event_eventOf at h
 refine acalls (fn := Try.f73) [0, 2, 3, 4, 6, 17] (by kernel_rfl) Try.func73 rfl (by kernel_rfl) (by kernel_rfl) ?_
 refine w_seqw ?_
 refine w_region ?_
 refine o_p rfl (p_assign (v := aI) rfl) ?_
 refine o_end (fr' := [(0, aI), (2, aI)]) rfl ?_
 refine e_kw ?_
 refine w_seqw ?_
 refine w_seqw ?_
 refine w_region ?_
 refine o_p rfl (p_assign (v := aI) rfl) ?_
 refine o_end (fr' := [(0, aI), (2, aI), (3, aI)]) rfl ?_
 refine e_kw ?_
 obtain ⟨x1, hx1, h2⟩ := bind_s h
 refine w_jtail cl_kw (fun j3 => x1 = Fl.go j3) (fun (j3 : Unit) => ([] : Fr)) (fun (j3 : Unit) => ([] : St)) ?_ ?_
 ·
  refine w_block ?_
  refine w_loopo _ (fun (s4 : Int) => ([(0, .c (.int .i64 p0kind)), (3, .c (.int .i64 s4))] : Fr)) (fun (s4 : Int) => ([] : St)) hx1 (w_weak [] 0 rfl rfl rfl rfl ⟨(AV.le_refl _), (AV.le_refl _), trivial⟩ st_nil) ?_
  intro s4 st4 hs4 ho4
  unfold event_eventOf_l1 at hs4
  refine w_seqw ?_
  refine w_seqw ?_
  refine w_region ?_
  refine o_p rfl (p_move (v := aI) rfl) ?_
  refine o_p rfl (p_leq rfl rfl) ?_
  refine o_end (fr' := [(0, aI), (3, aI), (6, aB)]) rfl ?_
  refine e_kw ?_
  refine w_cond _ rfl (fun hb5 => ?_) (fun hb5 => ?_)
  ·
   have h5 := cond_t (b := (decide (s4 ≤ (35 : Int)))) hb5 hs4
   refine w_skip ?_
   refine e_kw ?_
   refine w_seqw ?_
   refine w_block ?_
   refine w_seqw ?_
   refine w_region ?_
   refine o_p rfl (p_move (v := aI) rfl) ?_
   obtain ⟨x6, hx6, h7⟩ := bind_s h5
   refine o_v (ov_call (v := aI) rfl (w_event_commandOf hx6) ⟨(AV.le_refl _), trivial⟩ rfl rfl rfl) ?_
   refine o_p rfl (p_assign (v := aI) rfl) ?_
   refine o_end (fr' := [(0, aI), (3, aI), (4, aI), (6, aB)]) rfl ?_
   refine e_kw ?_
   refine w_seqw ?_
   refine w_region ?_
   refine o_p rfl (p_move (v := aI) rfl) ?_
   refine o_p rfl (p_neq rfl rfl) ?_
   refine o_p rfl (p_move (v := aB) rfl) ?_
   refine o_g rfl rfl (fun hc => ov_p rfl (p_move (v := aI) rfl)) ?_
   refine o_g rfl rfl (fun hc => ov_p rfl (p_move (v := aI) rfl)) ?_
   refine o_g rfl rfl (fun hc => ov_p rfl (p_eql (gx rfl hc) (gx rfl hc))) ?_
   refine o_p rfl (p_picky rfl rfl rfl (fun e => keq e)) ?_
   refine o_end (fr' := [(0, aI), (3, aI), (4, aI), (6, aB), (17, aB)]) rfl ?_
   refine e_kw ?_
   refine w_cond _ rfl (fun hb8 => ?_) (fun hb8 => ?_)
   ·
    have h8 := cond_t (b := (cond (!decide (x6 = (0 : Int))) (decide (x6 = p0kind)) false)) hb8 h7
    refine w_seqw ?_
    refine w_region ?_
    refine o_p rfl (p_move (v := aI) rfl) ?_
    refine o_p rfl (p_assign (v := aI) rfl) ?_
    refine o_end (fr' := [(0, aI), (2, aI), (3, aI), (4, aI), (6, aB), (17, aB)]) rfl ?_
    refine e_kw ?_
    refine w_ret ?_
    refine e_blk_r ?_
    refine e_seq_r ?_
    refine e_seq_r ?_
    refine e_blk_r ?_
    refine e_seq_r ?_
    refine e_seq_r ?_
    have h9 := un_out h8 ho4
    have h10 := un_done h9 h2
    have he11 := Option.some.inj h10
    subst he11
    refine e_ret (rs' := [.tmp 2]) rfl ?_
    refine r_tmp (v := aI) rfl ?_
    refine r_nil ?_
    exact fin_gen [] rfl rfl rfl (AV.le_refl _) st_nil
   ·
    have h8 := cond_f (b := (cond (!decide (x6 = (0 : Int))) (decide (x6 = p0kind)) false)) hb8 h7
    refine w_skip ?_
    refine e_blk_n ?_
    refine e_kw ?_
    refine w_region ?_
    refine o_p rfl (p_move (v := aI) rfl) ?_
    refine o_p rfl (p_add rfl rfl) ?_
    refine o_p rfl (p_assign (v := aI) rfl) ?_
    refine o_end (fr' := [(0, aI), (3, aI), (4, aI), (6, aB), (17, aB)]) rfl ?_
    exact e_l _ (Option.some.inj h8).symm (w_weak [] 0 rfl rfl rfl rfl ⟨(AV.le_refl _), (AV.le_refl _), trivial⟩ st_nil)
  ·
   have h5 := cond_f (b := (decide (s4 ≤ (35 : Int)))) hb5 hs4
   refine w_exit ?_
   refine e_seq_x ?_
   refine e_seq_x ?_
   refine e_blk_h ?_
   have h12 := un_out h5 ho4
   exact e_j _ (Option.some.inj h12).symm (w_weak [] 0 rfl rfl rfl rfl trivial st_nil)
 ·
  intro j3 hj13
  have h13 := un_go hj13 h2
  refine e_kw ?_
  refine w_seqw ?_
  refine w_region ?_
  refine o_p rfl (p_assign (v := aI) rfl) ?_
  refine o_end (fr' := [(2, aI)]) rfl ?_
  refine e_kw ?_
  refine w_ret ?_
  have he14 := Option.some.inj h13
  subst he14
  refine e_ret (rs' := [.tmp 2]) rfl ?_
  refine r_tmp (v := aI) rfl ?_
  refine r_nil ?_
  exact fin_gen [] rfl rfl rfl (AV.le_refl _) st_nil
noncomputable def event_OfCommand (p0c : ApiCommand) (p1id : Int) (p2time : Int) : Option (ApiEvent × Bool) :=
 (command_Right p0c).bind fun (x1 : Bool) => cond (!x1) (some ((ApiEvent.mk (0 : Int) (0 : Int) (0 : Int) (0 : Int) (0 : Int) (0 : Int) (0 : Int) ([] : List UInt8) ([] : List UInt8) (ApiValue.mk (0 : Int) (0 : Int) ([] : List UInt8) ([] : (List ApiValue)) ([] : (List (List UInt8)))) (ApiPolicy.mk ([] : List UInt8) (0 : Int) (0 : Int) (0 : Int) (0 : Int) (0 : Int) (0 : Int) (0 : Int) (0 : Int) ([] : (List (List UInt8))))), false)) ((app 16 ([] : List (List UInt8)) p0c.Opts.Fatal).bind fun (x5 : (List (List UInt8))) => (event_eventOf p0c.Kind).bind fun (x7 : Int) => (value_Copy p0c.Data).bind fun (x9 : ApiValue) => some ((ApiEvent.mk p1id x7 p2time p0c.Seq (0 : Int) p0c.N (0 : Int) p0c.Name p0c.Key x9 (ApiPolicy.mk p0c.Opts.Queue p0c.Opts.ToStart p0c.Opts.ToClose p0c.Opts.Total p0c.Opts.Beat p0c.Opts.First p0c.Opts.Coef p0c.Opts.Most p0c.Opts.Attempts x5)), true))
theorem w_event_OfCommand {p0c : ApiCommand} {p1id : Int} {p2time : Int} {res : (ApiEvent × Bool)} (h : event_OfCommand p0c p1id p2time = some res) : ACalls Try.prog 44 [.agg (AV.cs (rowApiCommand p0c)), .c (.int .i64 p1id), .c (.int .i64 p2time)] [] (.tup [.agg (AV.cs (rowApiEvent res.1)), .c (.bool res.2)]) [] := by
 unfold event_OfCommand at h
 refine acalls (fn := Try.f44) [0, 1, 2, 3, 6, 7, 8, 11] (by kernel_rfl) Try.func44 rfl (by kernel_rfl) (by kernel_rfl) ?_
 refine w_seqw ?_
 refine w_region ?_
 refine o_box (v := .agg [aI, aI, aS, aS, aI, aI, aI, aS, aL, aL, aS, aI, aI, aI, aI, aI, aI, aI, aI, aL]) (n := 0) (cs := [aI, aI, aS, aS, aI, aI, aI, aS, aL, aL, aS, aI, aI, aI, aI, aI, aI, aI, aI, aL]) (σ' := [[aI, aI, aS, aS, aI, aI, aI, aS, aL, aL, aS, aI, aI, aI, aI, aI, aI, aI, aI, aL]]) rfl rfl rfl rfl rfl ?_
 refine o_alloc (n := 1) (cs := [aI, aI, aI, aI, aI, aI, aI, aS, aS, aI, aI, aS, .nil, .nil, aS, aI, aI, aI, aI, aI, aI, aI, aI, .nil]) (σ' := [[aI, aI, aS, aS, aI, aI, aI, aS, aL, aL, aS, aI, aI, aI, aI, aI, aI, aI, aI, aL], [aI, aI, aI, aI, aI, aI, aI, aS, aS, aI, aI, aS, .nil, .nil, aS, aI, aI, aI, aI, aI, aI, aI, aI, .nil]]) tz46 rfl rfl rfl ?_
 refine o_p rfl (p_assign (v := aB) rfl) ?_
 refine o_end (fr' := [(0, .agg [aI, aI, aS, aS, aI, aI, aI, aS, aL, aL, aS, aI, aI, aI, aI, aI, aI, aI, aI, aL]), (1, aI), (2, aI), (3, .box 0 0), (6, .box 1 0), (7, aB)]) rfl ?_
 refine e_kw ?_
 refine w_seqw ?_
 refine w_seqw ?_
 refine w_region ?_
 refine o_p rfl (p_loads (us := [aI, aI, aS, aS, aI, aI, aI, aS, aL, aL, aS, aI, aI, aI, aI, aI, aI, aI, aI, aL]) tv44 rfl rfl rfl rfl) ?_
 obtain ⟨x1, hx1, h2⟩ := bind_s h
 refine o_v (ov_call (v := aB) rfl (w_command_Right hx1) ⟨(le_aggc rfl ⟨rfl, rfl, rfl, rfl, rfl, rfl, rfl, rfl, rfl, rfl, rfl, rfl, rfl, rfl, rfl, rfl, rfl, rfl, rfl, rfl, trivial⟩), trivial⟩ rfl rfl rfl) ?_
 refine o_p rfl (p_not rfl) ?_
 refine o_end (fr' := [(0, .agg [aI, aI, aS, aS, aI, aI, aI, aS, aL, aL, aS, aI, aI, aI, aI, aI, aI, aI, aI, aL]), (1, aI), (2, aI), (3, .box 0 0), (6, .box 1 0), (7, aB), (11, aB)]) rfl ?_
 refine e_kw ?_
 refine w_cond _ rfl (fun hb3 => ?_) (fun hb3 => ?_)
 ·
  have h3 := cond_t (b := (!x1)) hb3 h2
  refine w_seqw ?_
  refine w_region ?_
  refine o_p rfl (p_buildc (c0 := [aI, aI, aI, aI, aI, aI, aI, aS, aS, aI, aI, aS, .nil, .nil, aS, aI, aI, aI, aI, aI, aI, aI, aI, .nil]) (cs := [aI, aI, aI, aI, aI, aI, aI, aS, aS, aI, aI, aS, .nil, .nil, aS, aI, aI, aI, aI, aI, aI, aI, aI, .nil]) tb46 rfl fill_nil) ?_
  refine o_store (v := .agg [aI, aI, aI, aI, aI, aI, aI, aS, aS, aI, aI, aS, .nil, .nil, aS, aI, aI, aI, aI, aI, aI, aI, aI, .nil]) (us := [aI, aI, aI, aI, aI, aI, aI, aS, aS, aI, aI, aS, .nil, .nil, aS, aI, aI, aI, aI, aI, aI, aI, aI, .nil]) (cs := [aI, aI, aI, aI, aI, aI, aI, aS, aS, aI, aI, aS, .nil, .nil, aS, aI, aI, aI, aI, aI, aI, aI, aI, .nil]) (σ' := [[aI, aI, aS, aS, aI, aI, aI, aS, aL, aL, aS, aI, aI, aI, aI, aI, aI, aI, aI, aL], [aI, aI, aI, aI, aI, aI, aI, aS, aS, aI, aI, aS, .nil, .nil, aS, aI, aI, aI, aI, aI, aI, aI, aI, .nil]]) rfl tv46 rfl rfl rfl rfl rfl rfl rfl rfl ?_
  refine o_p rfl (p_assign (v := aB) rfl) ?_
  refine o_end (fr' := [(0, .agg [aI, aI, aS, aS, aI, aI, aI, aS, aL, aL, aS, aI, aI, aI, aI, aI, aI, aI, aI, aL]), (1, aI), (2, aI), (3, .box 0 0), (6, .box 1 0), (7, aB), (11, aB)]) rfl ?_
  refine e_kw ?_
  refine w_ret ?_
  refine e_seq_r ?_
  have he4 := Option.some.inj h3
  subst he4
  refine e_ret (rs' := [.cell 6 46, .tmp 7]) rfl ?_
  refine r_cells (us := [aI, aI, aI, aI, aI, aI, aI, aS, aS, aI, aI, aS, .nil, .nil, aS, aI, aI, aI, aI, aI, aI, aI, aI, .nil]) (cs := [aI, aI, aI, aI, aI, aI, aI, aS, aS, aI, aI, aS, .nil, .nil, aS, aI, aI, aI, aI, aI, aI, aI, aI, .nil]) tv46 rfl rfl rfl rfl ?_
  refine r_tmp (v := aB) rfl ?_
  refine r_nil ?_
  exact fin_gen [] rfl rfl rfl (le_tupp rfl ⟨(le_aggc rfl ⟨rfl, rfl, rfl, rfl, rfl, rfl, rfl, rfl, rfl, rfl, rfl, rfl, ⟨_, rfl⟩, ⟨_, rfl⟩, rfl, rfl, rfl, rfl, rfl, rfl, rfl, rfl, rfl, ⟨_, rfl⟩, trivial⟩), (AV.le_refl _), trivial⟩) st_nil
 ·
  have h3 := cond_f (b := (!x1)) hb3 h2
  refine w_skip ?_
  refine e_kw ?_
  refine w_seqw ?_
  refine w_region ?_
  refine o_p rfl (p_fa tf44x6 rfl) ?_
  refine o_p rfl (p_loads (us := [aS, aI, aI, aI, aI, aI, aI, aI, aI, aL]) tv42 rfl rfl rfl rfl) ?_
  refine o_alloc (n := 2) (cs := [aS, aI, aI, aI, aI, aI, aI, aI, aI, .nil]) (σ' := [[aI, aI, aS, aS, aI, aI, aI, aS, aL, aL, aS, aI, aI, aI, aI, aI, aI, aI, aI, aL], [aI, aI, aI, aI, aI, aI, aI, aS, aS, aI, aI, aS, .nil, .nil, aS, aI, aI, aI, aI, aI, aI, aI, aI, .nil], [aS, aI, aI, aI, aI, aI, aI, aI, aI, .nil]]) tz42 rfl rfl rfl ?_
  refine o_store (v := .agg [aS, aI, aI, aI, aI, aI, aI, aI, aI, aL]) (us := [aS, aI, aI, aI, aI, aI, aI, aI, aI, aL]) (cs := [aS, aI, aI, aI, aI, aI, aI, aI, aI, .nil]) (σ' := [[aI, aI, aS, aS, aI, aI, aI, aS, aL, aL, aS, aI, aI, aI, aI, aI, aI, aI, aI, aL], [aI, aI, aI, aI, aI, aI, aI, aS, aS, aI, aI, aS, .nil, .nil, aS, aI, aI, aI, aI, aI, aI, aI, aI, .nil], [aS, aI, aI, aI, aI, aI, aI, aI, aI, aL]]) rfl tv42 rfl rfl rfl rfl rfl rfl rfl rfl ?_
  refine o_end (fr' := [(0, .agg [aI, aI, aS, aS, aI, aI, aI, aS, aL, aL, aS, aI, aI, aI, aI, aI, aI, aI, aI, aL]), (1, aI), (2, aI), (3, .box 0 0), (6, .box 1 0), (7, aB), (8, .box 2 0), (11, aB)]) rfl ?_
  refine e_kw ?_
  refine w_seqw ?_
  refine w_region ?_
  refine o_rows (row := rowS) (xs := ([] : List (List UInt8))) (rows := []) (σ' := [[aI, aI, aS, aS, aI, aI, aI, aS, aL, aL, aS, aI, aI, aI, aI, aI, aI, aI, aI, aL], [aI, aI, aI, aI, aI, aI, aI, aS, aS, aI, aI, aS, .nil, .nil, aS, aI, aI, aI, aI, aI, aI, aI, aI, .nil], [aS, aI, aI, aI, aI, aI, aI, aI, aI, aL]]) [0] ts38 rfl rfl rfl arow_nil rfl rfl ?_
  refine o_p rfl (p_fa tf42x9 rfl) ?_
  refine o_p rfl (p_load (v := aL) tv38 rfl rfl rfl) ?_
  obtain ⟨x5, hx5, h6⟩ := bind_s h3
  refine o_app (row := rowS) ts38 rfl ti38 rfl (isl_c rfl) (fun _ => rfl) hx5 ?_
  refine o_p rfl (p_fa tf42x9 rfl) ?_
  refine o_store (v := aO) (us := [aO]) (cs := [aS, aI, aI, aI, aI, aI, aI, aI, aI, aL]) (σ' := [[aI, aI, aS, aS, aI, aI, aI, aS, aL, aL, aS, aI, aI, aI, aI, aI, aI, aI, aI, aL], [aI, aI, aI, aI, aI, aI, aI, aS, aS, aI, aI, aS, .nil, .nil, aS, aI, aI, aI, aI, aI, aI, aI, aI, .nil], [aS, aI, aI, aI, aI, aI, aI, aI, aI, aO]]) rfl tv38 rfl rfl rfl rfl rfl rfl rfl rfl ?_
  refine o_end (fr' := [(0, .agg [aI, aI, aS, aS, aI, aI, aI, aS, aL, aL, aS, aI, aI, aI, aI, aI, aI, aI, aI, aL]), (1, aI), (2, aI), (3, .box 0 0), (6, .box 1 0), (7, aB), (8, .box 2 0), (11, aB)]) rfl ?_
  refine e_kw ?_
  refine w_seqw ?_
  refine w_planT [.q 0, .q 1, .q 2, .q 3, .q 4, .q 5, .q 6, .q 7, .q 8, .q 9, .q 10, .q 11, .q 12, .q 13, .q 14, .q 15, .q 16, .q 17, .n 18 [], .n 19 []] [(some 20, [1]), (some 21, [3]), (some 22, [21]), (some 23, [22]), (some 24, [2]), (some 25, [3]), (some 26, [25]), (some 27, [3]), (some 28, [27]), (some 29, [3]), (some 30, [29]), (some 31, [3]), (some 32, [31]), (some 33, [3]), (some 34, [33]), (some 35, [34]), (some 36, [8]), (some 37, [20, 23, 24, 26, 28, 30, 32, 35, 36]), (none, [6, 37]), (some 7, [])] [0, 0, 2, 6, 0, 0, 32, 0, 128, 0, 512, 0, 2048, 0, 8192, 24590, 0, 131071, 262143, 524287] (by kernel_rfl) ?_
  refine d_q rfl (qv_p rfl (p_move (v := aI) rfl)) ?_
  refine d_q rfl (qv_p rfl (p_fa tf44x0 rfl)) ?_
  refine d_q rfl (qv_p rfl (p_load (v := aI) tv3 rfl rfl rfl)) ?_
  obtain ⟨x7, hx7, h8⟩ := bind_s h6
  refine d_q rfl (qv_call (v := aI) rfl (w_event_eventOf hx7) ⟨(AV.le_refl _), trivial⟩ rfl) ?_
  refine d_q rfl (qv_p rfl (p_move (v := aI) rfl)) ?_
  refine d_q rfl (qv_p rfl (p_fa tf44x1 rfl)) ?_
  refine d_q rfl (qv_p rfl (p_load (v := aI) tv3 rfl rfl rfl)) ?_
  refine d_q rfl (qv_p rfl (p_fa tf44x4 rfl)) ?_
  refine d_q rfl (qv_p rfl (p_load (v := aI) tv3 rfl rfl rfl)) ?_
  refine d_q rfl (qv_p rfl (p_fa tf44x2 rfl)) ?_
  refine d_q rfl (qv_p rfl (p_load (v := aS) tv9 rfl rfl rfl)) ?_
  refine d_q rfl (qv_p rfl (p_fa tf44x3 rfl)) ?_
  refine d_q rfl (qv_p rfl (p_load (v := aS) tv9 rfl rfl rfl)) ?_
  refine d_q rfl (qv_p rfl (p_fa tf44x5 rfl)) ?_
  refine d_q rfl (qv_p rfl (p_loads (us := [aI, aI, aS, aL, aL]) tv40 rfl rfl rfl rfl)) ?_
  obtain ⟨x9, hx9, h10⟩ := bind_s h8
  refine d_q rfl (qv_call (v := .agg [aI, aI, aS, aL, aL]) rfl (w_value_Copy hx9) ⟨(le_aggc rfl ⟨rfl, rfl, rfl, rfl, rfl, trivial⟩), trivial⟩ rfl) ?_
  refine d_q rfl (qv_p rfl (p_loads (us := [aS, aI, aI, aI, aI, aI, aI, aI, aI, aO]) tv42 rfl rfl rfl rfl)) ?_
  refine d_q rfl (qv_p rfl (p_buildc (c0 := [aI, aI, aI, aI, aI, aI, aI, aS, aS, aI, aI, aS, .nil, .nil, aS, aI, aI, aI, aI, aI, aI, aI, aI, .nil]) (cs := [aI, aI, aI, aI, aI, aI, aI, aS, aS, aI, aI, aS, aL, aL, aS, aI, aI, aI, aI, aI, aI, aI, aI, aO]) tb46 rfl (fill_cons (v := aI) (us := [_]) (cs' := [_, _, _, _, _, _, _, _, _, _, _, _, _, _, _, _, _, _, _, _, _, _, _, _]) rfl rfl rfl rfl rfl rfl (fill_cons (v := aI) (us := [_]) (cs' := [_, _, _, _, _, _, _, _, _, _, _, _, _, _, _, _, _, _, _, _, _, _, _, _]) rfl rfl rfl rfl rfl rfl (fill_cons (v := aI) (us := [_]) (cs' := [_, _, _, _, _, _, _, _, _, _, _, _, _, _, _, _, _, _, _, _, _, _, _, _]) rfl rfl rfl rfl rfl rfl (fill_cons (v := aI) (us := [_]) (cs' := [_, _, _, _, _, _, _, _, _, _, _, _, _, _, _, _, _, _, _, _, _, _, _, _]) rfl rfl rfl rfl rfl rfl (fill_cons (v := aI) (us := [_]) (cs' := [_, _, _, _, _, _, _, _, _, _, _, _, _, _, _, _, _, _, _, _, _, _, _, _]) rfl rfl rfl rfl rfl rfl (fill_cons (v := aS) (us := [_]) (cs' := [_, _, _, _, _, _, _, _, _, _, _, _, _, _, _, _, _, _, _, _, _, _, _, _]) rfl rfl rfl rfl rfl rfl (fill_cons (v := aS) (us := [_]) (cs' := [_, _, _, _, _, _, _, _, _, _, _, _, _, _, _, _, _, _, _, _, _, _, _, _]) rfl rfl rfl rfl rfl rfl (fill_cons (v := .agg [aI, aI, aS, aL, aL]) (us := [_, _, _, _, _]) (cs' := [_, _, _, _, _, _, _, _, _, _, _, _, _, _, _, _, _, _, _, _, _, _, _, _]) rfl rfl rfl rfl rfl rfl (fill_cons (v := .agg [aS, aI, aI, aI, aI, aI, aI, aI, aI, aO]) (us := [_, _, _, _, _, _, _, _, _, _]) (cs' := [_, _, _, _, _, _, _, _, _, _, _, _, _, _, _, _, _, _, _, _, _, _, _, _]) rfl rfl rfl rfl rfl rfl fill_nil))))))))))) ?_
  refine d_n rfl ?_ rfl
  refine o_store (v := .agg [aI, aI, aI, aI, aI, aI, aI, aS, aS, aI, aI, aS, aL, aL, aS, aI, aI, aI, aI, aI, aI, aI, aI, aO]) (us := [aI, aI, aI, aI, aI, aI, aI, aS, aS, aI, aI, aS, aL, aL, aS, aI, aI, aI, aI, aI, aI, aI, aI, aO]) (cs := [aI, aI, aI, aI, aI, aI, aI, aS, aS, aI, aI, aS, .nil, .nil, aS, aI, aI, aI, aI, aI, aI, aI, aI, .nil]) (σ' := [[aI, aI, aS, aS, aI, aI, aI, aS, aL, aL, aS, aI, aI, aI, aI, aI, aI, aI, aI, aL], [aI, aI, aI, aI, aI, aI, aI, aS, aS, aI, aI, aS, aL, aL, aS, aI, aI, aI, aI, aI, aI, aI, aI, aO], [aS, aI, aI, aI, aI, aI, aI, aI, aI, aO]]) rfl tv46 rfl rfl rfl rfl rfl rfl rfl rfl ?_
  refine o_rc ?_
  refine ⟨rc_nil, ?_⟩
  refine d_n rfl ?_ rfl
  refine o_p rfl (p_assign (v := aB) rfl) ?_
  refine o_rc ?_
  refine ⟨rc_nil, ?_⟩
  refine d_end (fr' := [(0, .agg [aI, aI, aS, aS, aI, aI, aI, aS, aL, aL, aS, aI, aI, aI, aI, aI, aI, aI, aI, aL]), (1, aI), (2, aI), (3, .box 0 0), (6, .box 1 0), (7, aB), (8, .box 2 0), (11, aB)]) rfl ?_
  refine e_kw ?_
  refine w_ret ?_
  have he11 := Option.some.inj h10
  subst he11
  refine e_ret (rs' := [.cell 6 46, .tmp 7]) rfl ?_
  refine r_cells (us := [aI, aI, aI, aI, aI, aI, aI, aS, aS, aI, aI, aS, aL, aL, aS, aI, aI, aI, aI, aI, aI, aI, aI, aO]) (cs := [aI, aI, aI, aI, aI, aI, aI, aS, aS, aI, aI, aS, aL, aL, aS, aI, aI, aI, aI, aI, aI, aI, aI, aO]) tv46 rfl rfl rfl rfl ?_
  refine r_tmp (v := aB) rfl ?_
  refine r_nil ?_
  exact fin_gen [] rfl rfl rfl (le_tupp rfl ⟨(le_aggc rfl ⟨rfl, rfl, rfl, rfl, rfl, rfl, rfl, rfl, rfl, rfl, rfl, rfl, rfl, rfl, rfl, rfl, rfl, rfl, rfl, rfl, rfl, rfl, rfl, rfl, trivial⟩), (AV.le_refl _), trivial⟩) st_nil
noncomputable def law27xDivergeAccepts_l1 (p0l : (List ApiCommand)) (p1data : ApiValue) (s8 : ((List ApiEvent) × Int)) : Option (Step ((List ApiEvent) × Int) (Fl Bool (List ApiEvent))) :=
 cond (decide (s8.2 < ((p0l).length : Int))) ((idx p0l s8.2).bind fun (x10 : ApiCommand) => (ref20xRight x10).bind fun (x12 : Bool) => cond (!x12) ((law27xworks).bind fun (x15 : Bool) => some (Step.out (Fl.done x15))) ((event_OfCommand x10 (IntKind.wrap .i64 (s8.2 + (1 : Int))) (0 : Int)).bind fun (x20 : (ApiEvent × Bool)) => (gd ((!x20.2) == false) (command_Right x10)).bind fun (x22 : Bool) => cond (cond (!x20.2) true (!x22)) (some (Step.out (Fl.done false))) ((app 272 s8.1 ([(ApiEvent.mk x20.1.ID x20.1.Kind x20.1.Time x20.1.Seq x20.1.Ref x20.1.N x20.1.Code x20.1.Name x20.1.Key p1data x20.1.Opts)] : List ApiEvent)).bind fun (x28 : (List ApiEvent)) => some (Step.next (x28, (IntKind.wrap .i64 (s8.2 + (1 : Int)))))))) (some (Step.out (Fl.go s8.1)))
noncomputable def law27xDivergeAccepts (p0l : (List ApiCommand)) (p1data : ApiValue) (p2at : Int) : Option Bool :=
 cond (decide ((100 : Int) < ((p0l).length : Int))) ((law27xworks).bind fun (x2 : Bool) => some x2) (((loopO (law27xDivergeAccepts_l1 p0l p1data) ((([] : (List ApiEvent)), (0 : Int)))) : Option (Fl Bool (List ApiEvent))).bind fun (x5 : (Fl Bool (List ApiEvent))) => Fl.next x5 (fun (j7 : (List ApiEvent)) => ((diverge_Compare p0l j7).bind fun (x32 : Int) => cond (!decide (x32 = (-1 : Int))) (some false) (cond (cond (decide (p2at < (0 : Int))) true (decide (((j7).length : Int) ≤ p2at))) ((law27xworks).bind fun (x37 : Bool) => some x37) ((slcH j7 p2at).bind fun (x40 : (List ApiEvent)) => (app 272 ([] : List ApiEvent) (List.take (Int.toNat p2at) j7)).bind fun (x42 : (List ApiEvent)) => (slcL j7 (IntKind.wrap .i64 (p2at + (1 : Int)))).bind fun (x44 : (List ApiEvent)) => (app 272 x42 (List.drop (Int.toNat (IntKind.wrap .i64 (p2at + (1 : Int)))) j7)).bind fun (x46 : (List ApiEvent)) => (slcH p0l p2at).bind fun (x48 : (List ApiCommand)) => (app 240 ([] : List ApiCommand) (List.take (Int.toNat p2at) p0l)).bind fun (x50 : (List ApiCommand)) => (slcL p0l (IntKind.wrap .i64 (p2at + (1 : Int)))).bind fun (x52 : (List ApiCommand)) => (app 240 x50 (List.drop (Int.toNat (IntKind.wrap .i64 (p2at + (1 : Int)))) p0l)).bind fun (x54 : (List ApiCommand)) => (diverge_Compare p0l x46).bind fun (x56 : Int) => (gd ((!decide (x56 = (-1 : Int))) == true) (diverge_Compare x54 j7)).bind fun (x58 : Int) => (gd ((cond (!decide (x56 = (-1 : Int))) (!decide (x58 = (-1 : Int))) false) == true) (law27xworks)).bind fun (x60 : Bool) => some (cond (cond (!decide (x56 = (-1 : Int))) (!decide (x58 = (-1 : Int))) false) x60 false))))))
theorem w_law27xDivergeAccepts {p0l : (List ApiCommand)} {p1data : ApiValue} {p2at : Int} {res : Bool} (h : law27xDivergeAccepts p0l p1data p2at = some res) : ACalls Try.prog 13 [.c (PV.ls 20 rowApiCommand p0l), .agg (AV.cs (exApiValue p1data)), .c (.int .i64 p2at)] [] (.c (.bool res)) [] := by
 unfold law27xDivergeAccepts at h
 refine acalls (fn := Try.f13) [0, 1, 2, 4, 6, 7, 8, 9, 10, 11, 12, 13, 16, 18, 19, 20, 21, 27, 42, 53, 61] (by kernel_rfl) Try.func13 rfl (by kernel_rfl) (by kernel_rfl) ?_
 refine w_seqw ?_
 refine w_region ?_
 refine o_box (v := .agg [aI, aI, aS, aL, aL]) (n := 0) (cs := [aI, aI, aS, aL, aL]) (σ' := [[aI, aI, aS, aL, aL]]) rfl rfl rfl rfl rfl ?_
 refine o_p rfl (p_assign (v := aB) rfl) ?_
 refine o_end (fr' := [(0, aL), (1, .agg [aI, aI, aS, aL, aL]), (2, aI), (4, .box 0 0), (6, aB)]) rfl ?_
 refine e_kw ?_
 refine w_seqw ?_
 refine w_seqw ?_
 refine w_region ?_
 refine o_p rfl (p_move (v := aL) rfl) ?_
 refine o_p rfl (p_len ti48 (isl_c rfl)) ?_
 refine o_p rfl (p_gtr rfl rfl) ?_
 refine o_end (fr' := [(0, aL), (1, .agg [aI, aI, aS, aL, aL]), (2, aI), (4, .box 0 0), (6, aB), (16, aB)]) rfl ?_
 refine e_kw ?_
 refine w_cond _ rfl (fun hb1 => ?_) (fun hb1 => ?_)
 ·
  have h1 := cond_t (b := (decide ((100 : Int) < ((p0l).length : Int)))) hb1 h
  refine w_seqw ?_
  refine w_region ?_
  obtain ⟨x2, hx2, h3⟩ := bind_s h1
  refine o_v (ov_call (v := aB) rfl (w_law27xworks hx2) trivial rfl rfl rfl) ?_
  refine o_p rfl (p_assign (v := aB) rfl) ?_
  refine o_end (fr' := [(0, aL), (1, .agg [aI, aI, aS, aL, aL]), (2, aI), (4, .box 0 0), (6, aB), (16, aB)]) rfl ?_
  refine e_kw ?_
  refine w_ret ?_
  refine e_seq_r ?_
  have he4 := Option.some.inj h3
  subst he4
  refine e_ret (rs' := [.tmp 6]) rfl ?_
  refine r_tmp (v := aB) rfl ?_
  refine r_nil ?_
  exact fin_gen [] rfl rfl rfl (AV.le_refl _) st_nil
 ·
  have h1 := cond_f (b := (decide ((100 : Int) < ((p0l).length : Int)))) hb1 h
  refine w_skip ?_
  refine e_kw ?_
  refine w_seqw ?_
  refine w_region ?_
  refine o_p rfl (p_assign (v := .nil) rfl) ?_
  refine o_end (fr' := [(0, aL), (1, .agg [aI, aI, aS, aL, aL]), (2, aI), (4, .box 0 0), (6, aB), (7, .nil), (16, aB)]) rfl ?_
  refine e_kw ?_
  refine w_seqw ?_
  refine w_seqw ?_
  refine w_region ?_
  refine o_p rfl (p_move (v := aL) rfl) ?_
  refine o_p rfl (p_len ti48 (isl_c rfl)) ?_
  refine o_p rfl (p_move (v := aI) rfl) ?_
  refine o_end (fr' := [(0, aL), (1, .agg [aI, aI, aS, aL, aL]), (2, aI), (4, .box 0 0), (6, aB), (7, .nil), (16, aB), (18, aL), (19, aI), (20, aI)]) rfl ?_
  refine e_kw ?_
  obtain ⟨x5, hx5, h6⟩ := bind_s h1
  refine w_jtail cl_kw (fun j7 => x5 = Fl.go j7) (fun (j7 : (List ApiEvent)) => ([(0, .c (PV.ls 20 rowApiCommand p0l)), (2, .c (.int .i64 p2at)), (7, AV.os 0 24 rowApiEvent j7)] : Fr)) (fun (j7 : (List ApiEvent)) => ([[.c (.int .i64 p1data.Kind), .c (.int .i64 p1data.Int), .c (.str p1data.Text), .c (PV.ls 5 rowApiValue p1data.Items), .c (PV.ls 1 rowS p1data.Keys)]] : St)) ?_ ?_
  ·
   refine w_block ?_
   refine w_loopo _ (fun (s8 : ((List ApiEvent) × Int)) => ([(0, .c (PV.ls 20 rowApiCommand p0l)), (2, .c (.int .i64 p2at)), (4, .box 0 0), (7, AV.os 0 24 rowApiEvent s8.1), (18, .c (PV.ls 20 rowApiCommand p0l)), (19, .c (.int .i64 ((p0l).length : Int))), (20, .c (.int .i64 s8.2))] : Fr)) (fun (s8 : ((List ApiEvent) × Int)) => ([[.c (.int .i64 p1data.Kind), .c (.int .i64 p1data.Int), .c (.str p1data.Text), .c (PV.ls 5 rowApiValue p1data.Items), .c (PV.ls 1 rowS p1data.Keys)]] : St)) hx5 (w_weak [1000000] 1 rfl rfl rfl rfl ⟨(AV.le_refl _), (AV.le_refl _), (AV.le_refl _), (le_nos rfl), (AV.le_refl _), (AV.le_refl _), (AV.le_refl _), trivial⟩ (st_r rfl st_nil)) ?_
   intro s8 st8 hs8 ho8
   unfold law27xDivergeAccepts_l1 at hs8
   refine w_seqw ?_
   refine w_region ?_
   refine o_p rfl (p_lss rfl rfl) ?_
   refine o_end (fr' := [(0, aL), (2, aI), (4, .box 0 0), (7, aO), (18, aL), (19, aI), (20, aI), (21, aB)]) rfl ?_
   refine e_kw ?_
   refine w_seqw ?_
   refine w_cond _ rfl (fun hb9 => ?_) (fun hb9 => ?_)
   ·
    have h9 := cond_t (b := (decide (s8.2 < ((p0l).length : Int)))) hb9 hs8
    refine w_skip ?_
    refine e_kw ?_
    refine w_seqw ?_
    refine w_block ?_
    refine w_seqw ?_
    refine w_region ?_
    refine o_p rfl (p_move (v := aI) rfl) ?_
    obtain ⟨x10, hx10, h11⟩ := bind_s h9
    refine o_p rfl (p_ia (cs := [.int _ _, .int _ _, .str _, .str _, .int _ _, .int _ _, .int _ _, .str _, PV.ls _ _ _, PV.ls _ _ _, .str _, .int _ _, .int _ _, .int _ _, .int _ _, .int _ _, .int _ _, .int _ _, .int _ _, PV.ls _ _ _]) ts48 (isl_c rfl) rfl hx10 rfl) ?_
    refine o_p rfl (p_loades (us := [.int _ _, .int _ _, .str _, .str _, .int _ _, .int _ _, .int _ _, .str _, PV.ls _ _ _, PV.ls _ _ _, .str _, .int _ _, .int _ _, .int _ _, .int _ _, .int _ _, .int _ _, .int _ _, .int _ _, PV.ls _ _ _]) tv44 rfl rfl rfl) ?_
    refine o_alloc (n := 1) (cs := [aI, aI, aS, aS, aI, aI, aI, aS, .nil, .nil, aS, aI, aI, aI, aI, aI, aI, aI, aI, .nil]) (σ' := [[aI, aI, aS, aL, aL], [aI, aI, aS, aS, aI, aI, aI, aS, .nil, .nil, aS, aI, aI, aI, aI, aI, aI, aI, aI, .nil]]) tz44 rfl rfl rfl ?_
    refine o_p rfl (p_assign (v := aI) rfl) ?_
    refine o_store (v := .agg [aI, aI, aS, aS, aI, aI, aI, aS, aL, aL, aS, aI, aI, aI, aI, aI, aI, aI, aI, aL]) (us := [aI, aI, aS, aS, aI, aI, aI, aS, aL, aL, aS, aI, aI, aI, aI, aI, aI, aI, aI, aL]) (cs := [aI, aI, aS, aS, aI, aI, aI, aS, .nil, .nil, aS, aI, aI, aI, aI, aI, aI, aI, aI, .nil]) (σ' := [[aI, aI, aS, aL, aL], [aI, aI, aS, aS, aI, aI, aI, aS, aL, aL, aS, aI, aI, aI, aI, aI, aI, aI, aI, aL]]) rfl tv44 rfl rfl rfl rfl rfl rfl rfl rfl ?_
    refine o_end (fr' := [(0, aL), (2, aI), (4, .box 0 0), (7, aO), (8, aI), (9, .box 1 0), (18, aL), (19, aI), (20, aI), (21, aB)]) rfl ?_
    refine e_kw ?_
    refine w_seqw ?_
    refine w_seqw ?_
    refine w_region ?_
    refine o_p rfl (p_loads (us := [aI, aI, aS, aS, aI, aI, aI, aS, aL, aL, aS, aI, aI, aI, aI, aI, aI, aI, aI, aL]) tv44 rfl rfl rfl rfl) ?_
    obtain ⟨x12, hx12, h13⟩ := bind_s h11
    refine o_v (ov_call (v := aB) rfl (w_ref20xRight hx12) ⟨(le_aggc rfl ⟨rfl, rfl, rfl, rfl, rfl, rfl, rfl, rfl, rfl, rfl, rfl, rfl, rfl, rfl, rfl, rfl, rfl, rfl, rfl, rfl, trivial⟩), trivial⟩ rfl rfl rfl) ?_
    refine o_p rfl (p_not rfl) ?_
    refine o_end (fr' := [(0, aL), (2, aI), (4, .box 0 0), (7, aO), (8, aI), (9, .box 1 0), (18, aL), (19, aI), (20, aI), (21, aB), (27, aB)]) rfl ?_
    refine e_kw ?_
    refine w_cond _ rfl (fun hb14 => ?_) (fun hb14 => ?_)
    ·
     have h14 := cond_t (b := (!x12)) hb14 h13
     refine w_seqw ?_
     refine w_region ?_
     obtain ⟨x15, hx15, h16⟩ := bind_s h14
     refine o_v (ov_call (v := aB) rfl (w_law27xworks hx15) trivial rfl rfl rfl) ?_
     refine o_p rfl (p_assign (v := aB) rfl) ?_
     refine o_end (fr' := [(0, aL), (2, aI), (4, .box 0 0), (6, aB), (7, aO), (8, aI), (9, .box 1 0), (18, aL), (19, aI), (20, aI), (21, aB), (27, aB)]) rfl ?_
     refine e_kw ?_
     refine w_ret ?_
     refine e_seq_r ?_
     refine e_blk_r ?_
     refine e_seq_r ?_
     refine e_seq_r ?_
     refine e_blk_r ?_
     refine e_seq_r ?_
     refine e_seq_r ?_
     have h17 := un_out h16 ho8
     have h18 := un_done h17 h6
     have he19 := Option.some.inj h18
     subst he19
     refine e_ret (rs' := [.tmp 6]) rfl ?_
     refine r_tmp (v := aB) rfl ?_
     refine r_nil ?_
     exact fin_gen [] rfl rfl rfl (AV.le_refl _) st_nil
    ·
     have h14 := cond_f (b := (!x12)) hb14 h13
     refine w_skip ?_
     refine e_kw ?_
     refine w_seqw ?_
     refine w_region ?_
     refine o_p rfl (p_loads (us := [aI, aI, aS, aS, aI, aI, aI, aS, aL, aL, aS, aI, aI, aI, aI, aI, aI, aI, aI, aL]) tv44 rfl rfl rfl rfl) ?_
     refine o_p rfl (p_move (v := aI) rfl) ?_
     refine o_p rfl (p_add rfl rfl) ?_
     obtain ⟨x20, hx20, h21⟩ := bind_s h14
     refine o_v (ov_call (v := .tup [.agg [aI, aI, aI, aI, aI, aI, aI, aS, aS, aI, aI, aS, aL, aL, aS, aI, aI, aI, aI, aI, aI, aI, aI, aL], aB]) rfl (w_event_OfCommand hx20) ⟨(le_aggc rfl ⟨rfl, rfl, rfl, rfl, rfl, rfl, rfl, rfl, rfl, rfl, rfl, rfl, rfl, rfl, rfl, rfl, rfl, rfl, rfl, rfl, trivial⟩), (AV.le_refl _), (AV.le_refl _), trivial⟩ rfl rfl rfl) ?_
     refine o_p rfl (p_move (v := .tup [.agg [aI, aI, aI, aI, aI, aI, aI, aS, aS, aI, aI, aS, aL, aL, aS, aI, aI, aI, aI, aI, aI, aI, aI, aL], aB]) rfl) ?_
     refine o_p rfl (p_ex (v := .agg [aI, aI, aI, aI, aI, aI, aI, aS, aS, aI, aI, aS, aL, aL, aS, aI, aI, aI, aI, aI, aI, aI, aI, aL]) rfl rfl) ?_
     refine o_p rfl (p_ex (v := aB) rfl rfl) ?_
     refine o_alloc (n := 2) (cs := [aI, aI, aI, aI, aI, aI, aI, aS, aS, aI, aI, aS, .nil, .nil, aS, aI, aI, aI, aI, aI, aI, aI, aI, .nil]) (σ' := [[aI, aI, aS, aL, aL], [aI, aI, aS, aS, aI, aI, aI, aS, aL, aL, aS, aI, aI, aI, aI, aI, aI, aI, aI, aL], [aI, aI, aI, aI, aI, aI, aI, aS, aS, aI, aI, aS, .nil, .nil, aS, aI, aI, aI, aI, aI, aI, aI, aI, .nil]]) tz46 rfl rfl rfl ?_
     refine o_store (v := .agg [aI, aI, aI, aI, aI, aI, aI, aS, aS, aI, aI, aS, aL, aL, aS, aI, aI, aI, aI, aI, aI, aI, aI, aL]) (us := [aI, aI, aI, aI, aI, aI, aI, aS, aS, aI, aI, aS, aL, aL, aS, aI, aI, aI, aI, aI, aI, aI, aI, aL]) (cs := [aI, aI, aI, aI, aI, aI, aI, aS, aS, aI, aI, aS, .nil, .nil, aS, aI, aI, aI, aI, aI, aI, aI, aI, .nil]) (σ' := [[aI, aI, aS, aL, aL], [aI, aI, aS, aS, aI, aI, aI, aS, aL, aL, aS, aI, aI, aI, aI, aI, aI, aI, aI, aL], [aI, aI, aI, aI, aI, aI, aI, aS, aS, aI, aI, aS, aL, aL, aS, aI, aI, aI, aI, aI, aI, aI, aI, aL]]) rfl tv46 rfl rfl rfl rfl rfl rfl rfl rfl ?_
     refine o_p rfl (p_assign (v := aB) rfl) ?_
     refine o_end (fr' := [(0, aL), (2, aI), (4, .box 0 0), (7, aO), (8, aI), (9, .box 1 0), (10, .box 2 0), (11, aB), (18, aL), (19, aI), (20, aI), (21, aB), (27, aB)]) rfl ?_
     refine e_kw ?_
     refine w_seqw ?_
     refine w_seqw ?_
     refine w_region ?_
     refine o_p rfl (p_move (v := aB) rfl) ?_
     refine o_p rfl (p_not rfl) ?_
     refine o_p rfl (p_move (v := aB) rfl) ?_
     refine o_g rfl rfl (fun hc => ov_p rfl (p_loads (us := [aI, aI, aS, aS, aI, aI, aI, aS, aL, aL, aS, aI, aI, aI, aI, aI, aI, aI, aI, aL]) tv44 rfl rfl rfl rfl)) ?_
     obtain ⟨x22, hx22, h23⟩ := bind_s h21
     refine o_g rfl rfl (fun hc => ov_call (v := aB) rfl (w_command_Right (gd_some hx22 hc)) ⟨(le_gv (gx rfl hc) (le_aggc rfl ⟨rfl, rfl, rfl, rfl, rfl, rfl, rfl, rfl, rfl, rfl, rfl, rfl, rfl, rfl, rfl, rfl, rfl, rfl, rfl, rfl, trivial⟩)), trivial⟩ (ok_eq (by repeat (first | exact ok_nil | refine ok_cons rfl ?_ | refine ok_cons (dgv rfl) ?_))) rfl rfl) ?_
     refine o_g rfl rfl (fun hc => ov_p rfl (p_not (gx rfl hc))) ?_
     refine o_p rfl (p_pickz rfl rfl rfl (fun e => keq e)) ?_
     refine o_end (fr' := [(0, aL), (2, aI), (4, .box 0 0), (7, aO), (8, aI), (9, .box 1 0), (10, .box 2 0), (11, aB), (18, aL), (19, aI), (20, aI), (21, aB), (27, aB), (42, aB)]) rfl ?_
     refine e_kw ?_
     refine w_cond _ rfl (fun hb24 => ?_) (fun hb24 => ?_)
     ·
      have h24 := cond_t (b := (cond (!x20.2) true (!x22))) hb24 h23
      refine w_seqw ?_
      refine w_region ?_
      refine o_p rfl (p_assign (v := aB) rfl) ?_
      refine o_end (fr' := [(0, aL), (2, aI), (4, .box 0 0), (6, aB), (7, aO), (8, aI), (9, .box 1 0), (10, .box 2 0), (11, aB), (18, aL), (19, aI), (20, aI), (21, aB), (27, aB), (42, aB)]) rfl ?_
      refine e_kw ?_
      refine w_ret ?_
      refine e_seq_r ?_
      refine e_blk_r ?_
      refine e_seq_r ?_
      refine e_seq_r ?_
      refine e_blk_r ?_
      refine e_seq_r ?_
      refine e_seq_r ?_
      have h25 := un_out h24 ho8
      have h26 := un_done h25 h6
      have he27 := Option.some.inj h26
      subst he27
      refine e_ret (rs' := [.tmp 6]) rfl ?_
      refine r_tmp (v := aB) rfl ?_
      refine r_nil ?_
      exact fin_gen [] rfl rfl rfl (AV.le_refl _) st_nil
     ·
      have h24 := cond_f (b := (cond (!x20.2) true (!x22))) hb24 h23
      refine w_skip ?_
      refine e_kw ?_
      refine w_seqw ?_
      refine w_region ?_
      refine o_p rfl (p_loads (us := [aI, aI, aS, aL, aL]) tv40 rfl rfl rfl rfl) ?_
      refine o_p rfl (p_fa tf46x9 rfl) ?_
      refine o_store (v := .agg [aI, aI, aS, aL, aL]) (us := [aI, aI, aS, aL, aL]) (cs := [aI, aI, aI, aI, aI, aI, aI, aS, aS, aI, aI, aS, aL, aL, aS, aI, aI, aI, aI, aI, aI, aI, aI, aL]) (σ' := [[aI, aI, aS, aL, aL], [aI, aI, aS, aS, aI, aI, aI, aS, aL, aL, aS, aI, aI, aI, aI, aI, aI, aI, aI, aL], [aI, aI, aI, aI, aI, aI, aI, aS, aS, aI, aI, aS, aL, aL, aS, aI, aI, aI, aI, aI, aI, aI, aI, aL]]) rfl tv40 rfl rfl rfl rfl rfl rfl rfl rfl ?_
      refine o_end (fr' := [(0, aL), (2, aI), (4, .box 0 0), (7, aO), (8, aI), (9, .box 1 0), (10, .box 2 0), (11, aB), (18, aL), (19, aI), (20, aI), (21, aB), (27, aB), (42, aB)]) rfl ?_
      refine e_kw ?_
      refine w_region ?_
      refine o_p rfl (p_move (v := aO) rfl) ?_
      refine o_p rfl (p_loads (us := [aI, aI, aI, aI, aI, aI, aI, aS, aS, aI, aI, aS, aL, aL, aS, aI, aI, aI, aI, aI, aI, aI, aI, aL]) tv46 rfl rfl rfl rfl) ?_
      refine o_rows (row := rowApiEvent) (xs := ([(ApiEvent.mk x20.1.ID x20.1.Kind x20.1.Time x20.1.Seq x20.1.Ref x20.1.N x20.1.Code x20.1.Name x20.1.Key p1data x20.1.Opts)] : List ApiEvent)) (rows := [[_, _, _, _, _, _, _, _, _, _, _, _, _, _, _, _, _, _, _, _, _, _, _, _]]) (σ' := [[aI, aI, aS, aL, aL], [aI, aI, aS, aS, aI, aI, aI, aS, aL, aL, aS, aI, aI, aI, aI, aI, aI, aI, aI, aL], [aI, aI, aI, aI, aI, aI, aI, aS, aS, aI, aI, aS, aL, aL, aS, aI, aI, aI, aI, aI, aI, aI, aI, aL]]) [0, 0, 0, 0, 0, 0, 0, 0, 0, 0, 0, 0, 5, 1, 0, 0, 0, 0, 0, 0, 0, 0, 0, 1] ts49 rfl rfl rfl (arow_cons rfl arow_nil) (ok_eq (by repeat (first | exact ok_nil | refine ok_cons rfl ?_ | refine ok_cons (dgv rfl) ?_))) rfl ?_
      obtain ⟨x28, hx28, h29⟩ := bind_s h24
      refine o_app (row := rowApiEvent) ts49 rfl ti49 rfl (isl_o rfl) (fun _ => rfl) hx28 ?_
      refine o_p rfl (p_assign (v := aO) rfl) ?_
      refine o_end (fr' := [(0, aL), (2, aI), (4, .box 0 0), (7, aO), (8, aI), (9, .box 1 0), (10, .box 2 0), (11, aB), (18, aL), (19, aI), (20, aI), (21, aB), (27, aB), (42, aB)]) rfl ?_
      refine e_blk_n ?_
      refine e_kw ?_
      refine w_region ?_
      refine o_p rfl (p_add rfl rfl) ?_
      refine o_p rfl (p_move (v := aI) rfl) ?_
      refine o_end (fr' := [(0, aL), (2, aI), (4, .box 0 0), (7, aO), (8, aI), (9, .box 1 0), (10, .box 2 0), (11, aB), (18, aL), (19, aI), (20, aI), (21, aB), (27, aB), (42, aB)]) rfl ?_
      exact e_l _ (Option.some.inj h29).symm (w_weak [768] 1 rfl rfl rfl rfl ⟨(AV.le_refl _), (AV.le_refl _), (AV.le_refl _), (AV.le_refl _), (AV.le_refl _), (AV.le_refl _), (AV.le_refl _), trivial⟩ (st_r rfl st_nil))
   ·
    have h9 := cond_f (b := (decide (s8.2 < ((p0l).length : Int)))) hb9 hs8
    refine w_exit ?_
    refine e_seq_x ?_
    refine e_seq_x ?_
    refine e_blk_h ?_
    have h30 := un_out h9 ho8
    exact e_j _ (Option.some.inj h30).symm (w_weak [0] 1 rfl rfl rfl rfl ⟨(AV.le_refl _), (AV.le_refl _), (AV.le_refl _), trivial⟩ (st_r rfl st_nil))
  ·
   intro j7 hj31
   have h31 := un_go hj31 h6
   refine e_kw ?_
   refine w_seqw ?_
   refine w_seqw ?_
   refine w_region ?_
   refine o_p rfl (p_move (v := aL) rfl) ?_
   refine o_p rfl (p_move (v := aO) rfl) ?_
   obtain ⟨x32, hx32, h33⟩ := bind_s h31
   refine o_v (ov_call (v := aI) rfl (w_diverge_Compare hx32) ⟨(AV.le_refl _), (AV.le_refl _), trivial⟩ rfl rfl rfl) ?_
   refine o_p rfl (p_neq rfl rfl) ?_
   refine o_end (fr' := [(0, aL), (2, aI), (7, aO), (53, aB)]) rfl ?_
   refine e_kw ?_
   refine w_cond _ rfl (fun hb34 => ?_) (fun hb34 => ?_)
   ·
    have h34 := cond_t (b := (!decide (x32 = (-1 : Int)))) hb34 h33
    refine w_seqw ?_
    refine w_region ?_
    refine o_p rfl (p_assign (v := aB) rfl) ?_
    refine o_end (fr' := [(0, aL), (2, aI), (6, aB), (7, aO), (53, aB)]) rfl ?_
    refine e_kw ?_
    refine w_ret ?_
    refine e_seq_r ?_
    have he35 := Option.some.inj h34
    subst he35
    refine e_ret (rs' := [.tmp 6]) rfl ?_
    refine r_tmp (v := aB) rfl ?_
    refine r_nil ?_
    exact fin_gen [] rfl rfl rfl (AV.le_refl _) st_nil
   ·
    have h34 := cond_f (b := (!decide (x32 = (-1 : Int)))) hb34 h33
    refine w_skip ?_
    refine e_kw ?_
    refine w_seqw ?_
    refine w_seqw ?_
    refine w_region ?_
    refine o_p rfl (p_move (v := aI) rfl) ?_
    refine o_p rfl (p_lss rfl rfl) ?_
    refine o_p rfl (p_move (v := aB) rfl) ?_
    refine o_g rfl rfl (fun hc => ov_p rfl (p_move (v := aI) rfl)) ?_
    refine o_g rfl rfl (fun hc => ov_p rfl (p_move (v := aO) rfl)) ?_
    refine o_g rfl rfl (fun hc => ov_p rfl (p_len ti49 (isl_o (gx rfl hc)))) ?_
    refine o_g rfl rfl (fun hc => ov_p rfl (p_geq (gx rfl hc) (gx rfl hc))) ?_
    refine o_p rfl (p_pickz rfl rfl rfl (fun e => keq e)) ?_
    refine o_end (fr' := [(0, aL), (2, aI), (7, aO), (53, aB), (61, aB)]) rfl ?_
    refine e_kw ?_
    refine w_cond _ rfl (fun hb36 => ?_) (fun hb36 => ?_)
    ·
     have h36 := cond_t (b := (cond (decide (p2at < (0 : Int))) true (decide (((j7).length : Int) ≤ p2at)))) hb36 h34
     refine w_seqw ?_
     refine w_region ?_
     obtain ⟨x37, hx37, h38⟩ := bind_s h36
     refine o_v (ov_call (v := aB) rfl (w_law27xworks hx37) trivial (ok_eq (by repeat (first | exact ok_nil | refine ok_cons rfl ?_ | refine ok_cons (dgv rfl) ?_))) rfl rfl) ?_
     refine o_p rfl (p_assign (v := aB) rfl) ?_
     refine o_end (fr' := [(0, aL), (2, aI), (6, aB), (7, aO), (53, aB), (61, aB)]) rfl ?_
     refine e_kw ?_
     refine w_ret ?_
     refine e_seq_r ?_
     have he39 := Option.some.inj h38
     subst he39
     refine e_ret (rs' := [.tmp 6]) rfl ?_
     refine r_tmp (v := aB) rfl ?_
     refine r_nil ?_
     exact fin_gen [] rfl rfl rfl (AV.le_refl _) st_nil
    ·
     have h36 := cond_f (b := (cond (decide (p2at < (0 : Int))) true (decide (((j7).length : Int) ≤ p2at)))) hb36 h34
     refine w_skip ?_
     refine e_kw ?_
     refine w_seqw ?_
     refine w_region ?_
     refine o_p rfl (p_assign (v := .nil) rfl) ?_
     refine o_end (fr' := [(0, aL), (2, aI), (7, aO), (12, .nil), (53, aB), (61, aB)]) rfl ?_
     refine e_kw ?_
     refine w_seqw ?_
     refine w_region ?_
     refine o_p rfl (p_move (v := .nil) rfl) ?_
     refine o_p rfl (p_move (v := aO) rfl) ?_
     refine o_p rfl (p_move (v := aI) rfl) ?_
     obtain ⟨x40, hx40, h41⟩ := bind_s h36
     refine o_p rfl (p_sl_h tn49 ts49 (isl_o rfl) rfl (slcH_some hx40).1) ?_
     obtain ⟨x42, hx42, h43⟩ := bind_s h41
     refine o_appn (row := rowApiEvent) ts49 rfl ti49 rfl (isl_c rfl) (fun _ => rfl) hx42 ?_
     refine o_p rfl (p_assign (v := aO) rfl) ?_
     refine o_end (fr' := [(0, aL), (2, aI), (7, aO), (12, aO), (53, aB), (61, aB)]) rfl ?_
     refine e_kw ?_
     refine w_seqw ?_
     refine w_region ?_
     refine o_p rfl (p_move (v := aO) rfl) ?_
     refine o_p rfl (p_move (v := aO) rfl) ?_
     refine o_p rfl (p_move (v := aI) rfl) ?_
     refine o_p rfl (p_add rfl rfl) ?_
     obtain ⟨x44, hx44, h45⟩ := bind_s h43
     refine o_p rfl (p_sl_l tn49 ts49 (isl_o rfl) rfl (slcL_some hx44).1) ?_
     obtain ⟨x46, hx46, h47⟩ := bind_s h45
     refine o_app (row := rowApiEvent) ts49 rfl ti49 rfl (isl_c rfl) (fun _ => rfl) hx46 ?_
     refine o_p rfl (p_assign (v := aO) rfl) ?_
     refine o_end (fr' := [(0, aL), (2, aI), (7, aO), (12, aO), (53, aB), (61, aB)]) rfl ?_
     refine e_kw ?_
     refine w_seqw ?_
     refine w_region ?_
     refine o_p rfl (p_assign (v := .nil) rfl) ?_
     refine o_end (fr' := [(0, aL), (2, aI), (7, aO), (12, aO), (13, .nil), (53, aB), (61, aB)]) rfl ?_
     refine e_kw ?_
     refine w_seqw ?_
     refine w_region ?_
     refine o_p rfl (p_move (v := .nil) rfl) ?_
     refine o_p rfl (p_move (v := aL) rfl) ?_
     refine o_p rfl (p_move (v := aI) rfl) ?_
     obtain ⟨x48, hx48, h49⟩ := bind_s h47
     refine o_p rfl (p_sl_h tn48 ts48 (isl_c rfl) rfl (slcH_some hx48).1) ?_
     obtain ⟨x50, hx50, h51⟩ := bind_s h49
     refine o_appn (row := rowApiCommand) ts48 rfl ti48 rfl (isl_c rfl) (fun _ => rfl) hx50 ?_
     refine o_p rfl (p_assign (v := aO) rfl) ?_
     refine o_end (fr' := [(0, aL), (2, aI), (7, aO), (12, aO), (13, aO), (53, aB), (61, aB)]) rfl ?_
     refine e_kw ?_
     refine w_seqw ?_
     refine w_region ?_
     refine o_p rfl (p_move (v := aO) rfl) ?_
     refine o_p rfl (p_move (v := aL) rfl) ?_
     refine o_p rfl (p_move (v := aI) rfl) ?_
     refine o_p rfl (p_add rfl rfl) ?_
     obtain ⟨x52, hx52, h53⟩ := bind_s h51
     refine o_p rfl (p_sl_l tn48 ts48 (isl_c rfl) rfl (slcL_some hx52).1) ?_
     obtain ⟨x54, hx54, h55⟩ := bind_s h53
     refine o_app (row := rowApiCommand) ts48 rfl ti48 rfl (isl_c rfl) (fun _ => rfl) hx54 ?_
     refine o_p rfl (p_assign (v := aO) rfl) ?_
     refine o_end (fr' := [(0, aL), (2, aI), (7, aO), (12, aO), (13, aO), (53, aB), (61, aB)]) rfl ?_
     refine e_kw ?_
     refine w_seqw ?_
     refine w_region ?_
     refine o_p rfl (p_move (v := aL) rfl) ?_
     refine o_p rfl (p_move (v := aO) rfl) ?_
     obtain ⟨x56, hx56, h57⟩ := bind_s h55
     refine o_v (ov_call (v := aI) rfl (w_diverge_Compare hx56) ⟨(AV.le_refl _), (AV.le_refl _), trivial⟩ (ok_eq (by repeat (first | exact ok_nil | refine ok_cons rfl ?_ | refine ok_cons (dgv rfl) ?_))) rfl rfl) ?_
     refine o_p rfl (p_neq rfl rfl) ?_
     refine o_p rfl (p_move (v := aB) rfl) ?_
     refine o_g rfl rfl (fun hc => ov_p rfl (p_move (v := aO) rfl)) ?_
     refine o_g rfl rfl (fun hc => ov_p rfl (p_move (v := aO) rfl)) ?_
     obtain ⟨x58, hx58, h59⟩ := bind_s h57
     refine o_g rfl rfl (fun hc => ov_call (v := aI) rfl (w_diverge_Compare (gd_some hx58 hc)) ⟨(le_gv (gx rfl hc) (AV.le_refl _)), (le_gv (gx rfl hc) (AV.le_refl _)), trivial⟩ (ok_eq (by repeat (first | exact ok_nil | refine ok_cons rfl ?_ | refine ok_cons (dgv rfl) ?_))) rfl rfl) ?_
     refine o_g rfl rfl (fun hc => ov_p rfl (p_neq (gx rfl hc) rfl)) ?_
     refine o_p rfl (p_picky rfl rfl rfl (fun e => keq e)) ?_
     refine o_p rfl (p_move (v := aB) rfl) ?_
     obtain ⟨x60, hx60, h61⟩ := bind_s h59
     refine o_g rfl rfl (fun hc => ov_call (v := aB) rfl (w_law27xworks (gd_some hx60 hc)) trivial (ok_eq (by repeat (first | exact ok_nil | refine ok_cons rfl ?_ | refine ok_cons (dgv rfl) ?_))) rfl rfl) ?_
     refine o_p rfl (p_picky rfl rfl rfl (fun e => keq e)) ?_
     refine o_p rfl (p_assign (v := aB) rfl) ?_
     refine o_end (fr' := [(0, aL), (2, aI), (6, aB), (7, aO), (12, aO), (13, aO), (53, aB), (61, aB)]) rfl ?_
     refine e_kw ?_
     refine w_ret ?_
     have he62 := Option.some.inj h61
     subst he62
     refine e_ret (rs' := [.tmp 6]) rfl ?_
     refine r_tmp (v := aB) rfl ?_
     refine r_nil ?_
     exact fin_gen [] rfl rfl rfl (AV.le_refl _) st_nil
noncomputable def ref27xkind (p0c : Int) : Option Int :=
 cond (decide (p0c = (1 : Int))) (some (7 : Int)) (cond (decide (p0c = (2 : Int))) (some (12 : Int)) (cond (decide (p0c = (3 : Int))) (some (14 : Int)) (cond (decide (p0c = (4 : Int))) (some (16 : Int)) (cond (decide (p0c = (5 : Int))) (some (19 : Int)) (cond (decide (p0c = (6 : Int))) (some (23 : Int)) (cond (decide (p0c = (7 : Int))) (some (18 : Int)) (cond (decide (p0c = (8 : Int))) (some (27 : Int)) (cond (decide (p0c = (9 : Int))) (some (28 : Int)) (cond (decide (p0c = (10 : Int))) (some (29 : Int)) (cond (decide (p0c = (11 : Int))) (some (30 : Int)) (cond (decide (p0c = (12 : Int))) (some (31 : Int)) (cond (decide (p0c = (13 : Int))) (some (32 : Int)) (cond (decide (p0c = (14 : Int))) (some (35 : Int)) (some (0 : Int)))))))))))))))
theorem w_ref27xkind {p0c : Int} {res : Int} (h : ref27xkind p0c = some res) : ACalls Try.prog 52 [.c (.int .i64 p0c)] [] (.c (.int .i64 res)) [] := by
 unfold ref27xkind at h
 refine acalls (fn := Try.f52) [0, 2, 3, 4, 6, 8, 10, 12, 14, 16, 18, 20, 22, 24, 26, 28, 30] (by kernel_rfl) Try.func52 rfl (by kernel_rfl) (by kernel_rfl) ?_
 refine w_seqw ?_
 refine w_region ?_
 refine o_p rfl (p_assign (v := aI) rfl) ?_
 refine o_end (fr' := [(0, aI), (2, aI)]) rfl ?_
 refine e_kw ?_
 refine w_seqw ?_
 refine w_seqw ?_
 refine w_region ?_
 refine o_p rfl (p_move (v := aI) rfl) ?_
 refine o_end (fr' := [(0, aI), (2, aI), (3, aI)]) rfl ?_
 refine e_kw ?_
 refine w_block ?_
 refine w_seqw ?_
 refine w_region ?_
 refine o_p rfl (p_eql rfl rfl) ?_
 refine o_p rfl (p_assign (v := aB) rfl) ?_
 refine o_end (fr' := [(0, aI), (2, aI), (3, aI), (4, aB)]) rfl ?_
 refine e_kw ?_
 refine w_cond _ rfl (fun hb1 => ?_) (fun hb1 => ?_)
 ·
  have h1 := cond_t (b := (decide (p0c = (1 : Int)))) hb1 h
  refine w_seqw ?_
  refine w_region ?_
  refine o_p rfl (p_assign (v := aI) rfl) ?_
  refine o_end (fr' := [(0, aI), (2, aI), (3, aI), (4, aB)]) rfl ?_
  refine e_kw ?_
  refine w_ret ?_
  refine e_blk_r ?_
  refine e_seq_r ?_
  have he2 := Option.some.inj h1
  subst he2
  refine e_ret (rs' := [.tmp 2]) rfl ?_
  refine r_tmp (v := aI) rfl ?_
  refine r_nil ?_
  exact fin_gen [] rfl rfl rfl (AV.le_refl _) st_nil
 ·
  have h1 := cond_f (b := (decide (p0c = (1 : Int)))) hb1 h
  refine w_seqw ?_
  refine w_region ?_
  refine o_p rfl (p_eql rfl rfl) ?_
  refine o_p rfl (p_assign (v := aB) rfl) ?_
  refine o_end (fr' := [(0, aI), (2, aI), (3, aI), (4, aB), (6, aB)]) rfl ?_
  refine e_kw ?_
  refine w_cond _ rfl (fun hb3 => ?_) (fun hb3 => ?_)
  ·
   have h3 := cond_t (b := (decide (p0c = (2 : Int)))) hb3 h1
   refine w_seqw ?_
   refine w_region ?_
   refine o_p rfl (p_assign (v := aI) rfl) ?_
   refine o_end (fr' := [(0, aI), (2, aI), (3, aI), (4, aB), (6, aB)]) rfl ?_
   refine e_kw ?_
   refine w_ret ?_
   refine e_blk_r ?_
   refine e_seq_r ?_
   have he4 := Option.some.inj h3
   subst he4
   refine e_ret (rs' := [.tmp 2]) rfl ?_
   refine r_tmp (v := aI) rfl ?_
   refine r_nil ?_
   exact fin_gen [] rfl rfl rfl (AV.le_refl _) st_nil
  ·
   have h3 := cond_f (b := (decide (p0c = (2 : Int)))) hb3 h1
   refine w_seqw ?_
   refine w_region ?_
   refine o_p rfl (p_eql rfl rfl) ?_
   refine o_p rfl (p_assign (v := aB) rfl) ?_
   refine o_end (fr' := [(0, aI), (2, aI), (3, aI), (4, aB), (6, aB), (8, aB)]) rfl ?_
   refine e_kw ?_
   refine w_cond _ rfl (fun hb5 => ?_) (fun hb5 => ?_)
   ·
    have h5 := cond_t (b := (decide (p0c = (3 : Int)))) hb5 h3
    refine w_seqw ?_
    refine w_region ?_
    refine o_p rfl (p_assign (v := aI) rfl) ?_
    refine o_end (fr' := [(0, aI), (2, aI), (3, aI), (4, aB), (6, aB), (8, aB)]) rfl ?_
    refine e_kw ?_
    refine w_ret ?_
    refine e_blk_r ?_
    refine e_seq_r ?_
    have he6 := Option.some.inj h5
    subst he6
    refine e_ret (rs' := [.tmp 2]) rfl ?_
    refine r_tmp (v := aI) rfl ?_
    refine r_nil ?_
    exact fin_gen [] rfl rfl rfl (AV.le_refl _) st_nil
   ·
    have h5 := cond_f (b := (decide (p0c = (3 : Int)))) hb5 h3
    refine w_seqw ?_
    refine w_region ?_
    refine o_p rfl (p_eql rfl rfl) ?_
    refine o_p rfl (p_assign (v := aB) rfl) ?_
    refine o_end (fr' := [(0, aI), (2, aI), (3, aI), (4, aB), (6, aB), (8, aB), (10, aB)]) rfl ?_
    refine e_kw ?_
    refine w_cond _ rfl (fun hb7 => ?_) (fun hb7 => ?_)
    ·
     have h7 := cond_t (b := (decide (p0c = (4 : Int)))) hb7 h5
     refine w_seqw ?_
     refine w_region ?_
     refine o_p rfl (p_assign (v := aI) rfl) ?_
     refine o_end (fr' := [(0, aI), (2, aI), (3, aI), (4, aB), (6, aB), (8, aB), (10, aB)]) rfl ?_
     refine e_kw ?_
     refine w_ret ?_
     refine e_blk_r ?_
     refine e_seq_r ?_
     have he8 := Option.some.inj h7
     subst he8
     refine e_ret (rs' := [.tmp 2]) rfl ?_
     refine r_tmp (v := aI) rfl ?_
     refine r_nil ?_
     exact fin_gen [] rfl rfl rfl (AV.le_refl _) st_nil
    ·
     have h7 := cond_f (b := (decide (p0c = (4 : Int)))) hb7 h5
     refine w_seqw ?_
     refine w_region ?_
     refine o_p rfl (p_eql rfl rfl) ?_
     refine o_p rfl (p_assign (v := aB) rfl) ?_
     refine o_end (fr' := [(0, aI), (2, aI), (3, aI), (4, aB), (6, aB), (8, aB), (10, aB), (12, aB)]) rfl ?_
     refine e_kw ?_
     refine w_cond _ rfl (fun hb9 => ?_) (fun hb9 => ?_)
     ·
      have h9 := cond_t (b := (decide (p0c = (5 : Int)))) hb9 h7
      refine w_seqw ?_
      refine w_region ?_
      refine o_p rfl (p_assign (v := aI) rfl) ?_
      refine o_end (fr' := [(0, aI), (2, aI), (3, aI), (4, aB), (6, aB), (8, aB), (10, aB), (12, aB)]) rfl ?_
      refine e_kw ?_
      refine w_ret ?_
      refine e_blk_r ?_
      refine e_seq_r ?_
      have he10 := Option.some.inj h9
      subst he10
      refine e_ret (rs' := [.tmp 2]) rfl ?_
      refine r_tmp (v := aI) rfl ?_
      refine r_nil ?_
      exact fin_gen [] rfl rfl rfl (AV.le_refl _) st_nil
     ·
      have h9 := cond_f (b := (decide (p0c = (5 : Int)))) hb9 h7
      refine w_seqw ?_
      refine w_region ?_
      refine o_p rfl (p_eql rfl rfl) ?_
      refine o_p rfl (p_assign (v := aB) rfl) ?_
      refine o_end (fr' := [(0, aI), (2, aI), (3, aI), (4, aB), (6, aB), (8, aB), (10, aB), (12, aB), (14, aB)]) rfl ?_
      refine e_kw ?_
      refine w_cond _ rfl (fun hb11 => ?_) (fun hb11 => ?_)
      ·
       have h11 := cond_t (b := (decide (p0c = (6 : Int)))) hb11 h9
       refine w_seqw ?_
       refine w_region ?_
       refine o_p rfl (p_assign (v := aI) rfl) ?_
       refine o_end (fr' := [(0, aI), (2, aI), (3, aI), (4, aB), (6, aB), (8, aB), (10, aB), (12, aB), (14, aB)]) rfl ?_
       refine e_kw ?_
       refine w_ret ?_
       refine e_blk_r ?_
       refine e_seq_r ?_
       have he12 := Option.some.inj h11
       subst he12
       refine e_ret (rs' := [.tmp 2]) rfl ?_
       refine r_tmp (v := aI) rfl ?_
       refine r_nil ?_
       exact fin_gen [] rfl rfl rfl (AV.le_refl _) st_nil
      ·
       have h11 := cond_f (b := (decide (p0c = (6 : Int)))) hb11 h9
       refine w_seqw ?_
       refine w_region ?_
       refine o_p rfl (p_eql rfl rfl) ?_
       refine o_p rfl (p_assign (v := aB) rfl) ?_
       refine o_end (fr' := [(0, aI), (2, aI), (3, aI), (4, aB), (6, aB), (8, aB), (10, aB), (12, aB), (14, aB), (16, aB)]) rfl ?_
       refine e_kw ?_
       refine w_cond _ rfl (fun hb13 => ?_) (fun hb13 => ?_)
       ·
        have h13 := cond_t (b := (decide (p0c = (7 : Int)))) hb13 h11
        refine w_seqw ?_
        refine w_region ?_
        refine o_p rfl (p_assign (v := aI) rfl) ?_
        refine o_end (fr' := [(0, aI), (2, aI), (3, aI), (4, aB), (6, aB), (8, aB), (10, aB), (12, aB), (14, aB), (16, aB)]) rfl ?_
        refine e_kw ?_
        refine w_ret ?_
        refine e_blk_r ?_
        refine e_seq_r ?_
        have he14 := Option.some.inj h13
        subst he14
        refine e_ret (rs' := [.tmp 2]) rfl ?_
        refine r_tmp (v := aI) rfl ?_
        refine r_nil ?_
        exact fin_gen [] rfl rfl rfl (AV.le_refl _) st_nil
       ·
        have h13 := cond_f (b := (decide (p0c = (7 : Int)))) hb13 h11
        refine w_seqw ?_
        refine w_region ?_
        refine o_p rfl (p_eql rfl rfl) ?_
        refine o_p rfl (p_assign (v := aB) rfl) ?_
        refine o_end (fr' := [(0, aI), (2, aI), (3, aI), (4, aB), (6, aB), (8, aB), (10, aB), (12, aB), (14, aB), (16, aB), (18, aB)]) rfl ?_
        refine e_kw ?_
        refine w_cond _ rfl (fun hb15 => ?_) (fun hb15 => ?_)
        ·
         have h15 := cond_t (b := (decide (p0c = (8 : Int)))) hb15 h13
         refine w_seqw ?_
         refine w_region ?_
         refine o_p rfl (p_assign (v := aI) rfl) ?_
         refine o_end (fr' := [(0, aI), (2, aI), (3, aI), (4, aB), (6, aB), (8, aB), (10, aB), (12, aB), (14, aB), (16, aB), (18, aB)]) rfl ?_
         refine e_kw ?_
         refine w_ret ?_
         refine e_blk_r ?_
         refine e_seq_r ?_
         have he16 := Option.some.inj h15
         subst he16
         refine e_ret (rs' := [.tmp 2]) rfl ?_
         refine r_tmp (v := aI) rfl ?_
         refine r_nil ?_
         exact fin_gen [] rfl rfl rfl (AV.le_refl _) st_nil
        ·
         have h15 := cond_f (b := (decide (p0c = (8 : Int)))) hb15 h13
         refine w_seqw ?_
         refine w_region ?_
         refine o_p rfl (p_eql rfl rfl) ?_
         refine o_p rfl (p_assign (v := aB) rfl) ?_
         refine o_end (fr' := [(0, aI), (2, aI), (3, aI), (4, aB), (6, aB), (8, aB), (10, aB), (12, aB), (14, aB), (16, aB), (18, aB), (20, aB)]) rfl ?_
         refine e_kw ?_
         refine w_cond _ rfl (fun hb17 => ?_) (fun hb17 => ?_)
         ·
          have h17 := cond_t (b := (decide (p0c = (9 : Int)))) hb17 h15
          refine w_seqw ?_
          refine w_region ?_
          refine o_p rfl (p_assign (v := aI) rfl) ?_
          refine o_end (fr' := [(0, aI), (2, aI), (3, aI), (4, aB), (6, aB), (8, aB), (10, aB), (12, aB), (14, aB), (16, aB), (18, aB), (20, aB)]) rfl ?_
          refine e_kw ?_
          refine w_ret ?_
          refine e_blk_r ?_
          refine e_seq_r ?_
          have he18 := Option.some.inj h17
          subst he18
          refine e_ret (rs' := [.tmp 2]) rfl ?_
          refine r_tmp (v := aI) rfl ?_
          refine r_nil ?_
          exact fin_gen [] rfl rfl rfl (AV.le_refl _) st_nil
         ·
          have h17 := cond_f (b := (decide (p0c = (9 : Int)))) hb17 h15
          refine w_seqw ?_
          refine w_region ?_
          refine o_p rfl (p_eql rfl rfl) ?_
          refine o_p rfl (p_assign (v := aB) rfl) ?_
          refine o_end (fr' := [(0, aI), (2, aI), (3, aI), (4, aB), (6, aB), (8, aB), (10, aB), (12, aB), (14, aB), (16, aB), (18, aB), (20, aB), (22, aB)]) rfl ?_
          refine e_kw ?_
          refine w_cond _ rfl (fun hb19 => ?_) (fun hb19 => ?_)
          ·
           have h19 := cond_t (b := (decide (p0c = (10 : Int)))) hb19 h17
           refine w_seqw ?_
           refine w_region ?_
           refine o_p rfl (p_assign (v := aI) rfl) ?_
           refine o_end (fr' := [(0, aI), (2, aI), (3, aI), (4, aB), (6, aB), (8, aB), (10, aB), (12, aB), (14, aB), (16, aB), (18, aB), (20, aB), (22, aB)]) rfl ?_
           refine e_kw ?_
           refine w_ret ?_
           refine e_blk_r ?_
           refine e_seq_r ?_
           have he20 := Option.some.inj h19
           subst he20
           refine e_ret (rs' := [.tmp 2]) rfl ?_
           refine r_tmp (v := aI) rfl ?_
           refine r_nil ?_
           exact fin_gen [] rfl rfl rfl (AV.le_refl _) st_nil
          ·
           have h19 := cond_f (b := (decide (p0c = (10 : Int)))) hb19 h17
           refine w_seqw ?_
           refine w_region ?_
           refine o_p rfl (p_eql rfl rfl) ?_
           refine o_p rfl (p_assign (v := aB) rfl) ?_
           refine o_end (fr' := [(0, aI), (2, aI), (3, aI), (4, aB), (6, aB), (8, aB), (10, aB), (12, aB), (14, aB), (16, aB), (18, aB), (20, aB), (22, aB), (24, aB)]) rfl ?_
           refine e_kw ?_
           refine w_cond _ rfl (fun hb21 => ?_) (fun hb21 => ?_)
           ·
            have h21 := cond_t (b := (decide (p0c = (11 : Int)))) hb21 h19
            refine w_seqw ?_
            refine w_region ?_
            refine o_p rfl (p_assign (v := aI) rfl) ?_
            refine o_end (fr' := [(0, aI), (2, aI), (3, aI), (4, aB), (6, aB), (8, aB), (10, aB), (12, aB), (14, aB), (16, aB), (18, aB), (20, aB), (22, aB), (24, aB)]) rfl ?_
            refine e_kw ?_
            refine w_ret ?_
            refine e_blk_r ?_
            refine e_seq_r ?_
            have he22 := Option.some.inj h21
            subst he22
            refine e_ret (rs' := [.tmp 2]) rfl ?_
            refine r_tmp (v := aI) rfl ?_
            refine r_nil ?_
            exact fin_gen [] rfl rfl rfl (AV.le_refl _) st_nil
           ·
            have h21 := cond_f (b := (decide (p0c = (11 : Int)))) hb21 h19
            refine w_seqw ?_
            refine w_region ?_
            refine o_p rfl (p_eql rfl rfl) ?_
            refine o_p rfl (p_assign (v := aB) rfl) ?_
            refine o_end (fr' := [(0, aI), (2, aI), (3, aI), (4, aB), (6, aB), (8, aB), (10, aB), (12, aB), (14, aB), (16, aB), (18, aB), (20, aB), (22, aB), (24, aB), (26, aB)]) rfl ?_
            refine e_kw ?_
            refine w_cond _ rfl (fun hb23 => ?_) (fun hb23 => ?_)
            ·
             have h23 := cond_t (b := (decide (p0c = (12 : Int)))) hb23 h21
             refine w_seqw ?_
             refine w_region ?_
             refine o_p rfl (p_assign (v := aI) rfl) ?_
             refine o_end (fr' := [(0, aI), (2, aI), (3, aI), (4, aB), (6, aB), (8, aB), (10, aB), (12, aB), (14, aB), (16, aB), (18, aB), (20, aB), (22, aB), (24, aB), (26, aB)]) rfl ?_
             refine e_kw ?_
             refine w_ret ?_
             refine e_blk_r ?_
             refine e_seq_r ?_
             have he24 := Option.some.inj h23
             subst he24
             refine e_ret (rs' := [.tmp 2]) rfl ?_
             refine r_tmp (v := aI) rfl ?_
             refine r_nil ?_
             exact fin_gen [] rfl rfl rfl (AV.le_refl _) st_nil
            ·
             have h23 := cond_f (b := (decide (p0c = (12 : Int)))) hb23 h21
             refine w_seqw ?_
             refine w_region ?_
             refine o_p rfl (p_eql rfl rfl) ?_
             refine o_p rfl (p_assign (v := aB) rfl) ?_
             refine o_end (fr' := [(0, aI), (2, aI), (3, aI), (4, aB), (6, aB), (8, aB), (10, aB), (12, aB), (14, aB), (16, aB), (18, aB), (20, aB), (22, aB), (24, aB), (26, aB), (28, aB)]) rfl ?_
             refine e_kw ?_
             refine w_cond _ rfl (fun hb25 => ?_) (fun hb25 => ?_)
             ·
              have h25 := cond_t (b := (decide (p0c = (13 : Int)))) hb25 h23
              refine w_seqw ?_
              refine w_region ?_
              refine o_p rfl (p_assign (v := aI) rfl) ?_
              refine o_end (fr' := [(0, aI), (2, aI), (3, aI), (4, aB), (6, aB), (8, aB), (10, aB), (12, aB), (14, aB), (16, aB), (18, aB), (20, aB), (22, aB), (24, aB), (26, aB), (28, aB)]) rfl ?_
              refine e_kw ?_
              refine w_ret ?_
              refine e_blk_r ?_
              refine e_seq_r ?_
              have he26 := Option.some.inj h25
              subst he26
              refine e_ret (rs' := [.tmp 2]) rfl ?_
              refine r_tmp (v := aI) rfl ?_
              refine r_nil ?_
              exact fin_gen [] rfl rfl rfl (AV.le_refl _) st_nil
             ·
              have h25 := cond_f (b := (decide (p0c = (13 : Int)))) hb25 h23
              refine w_seqw ?_
              refine w_region ?_
              refine o_p rfl (p_eql rfl rfl) ?_
              refine o_p rfl (p_assign (v := aB) rfl) ?_
              refine o_end (fr' := [(0, aI), (2, aI), (3, aI), (4, aB), (6, aB), (8, aB), (10, aB), (12, aB), (14, aB), (16, aB), (18, aB), (20, aB), (22, aB), (24, aB), (26, aB), (28, aB), (30, aB)]) rfl ?_
              refine e_kw ?_
              refine w_cond _ rfl (fun hb27 => ?_) (fun hb27 => ?_)
              ·
               have h27 := cond_t (b := (decide (p0c = (14 : Int)))) hb27 h25
               refine w_seqw ?_
               refine w_region ?_
               refine o_p rfl (p_assign (v := aI) rfl) ?_
               refine o_end (fr' := [(0, aI), (2, aI), (3, aI), (4, aB), (6, aB), (8, aB), (10, aB), (12, aB), (14, aB), (16, aB), (18, aB), (20, aB), (22, aB), (24, aB), (26, aB), (28, aB), (30, aB)]) rfl ?_
               refine e_kw ?_
               refine w_ret ?_
               refine e_blk_r ?_
               refine e_seq_r ?_
               have he28 := Option.some.inj h27
               subst he28
               refine e_ret (rs' := [.tmp 2]) rfl ?_
               refine r_tmp (v := aI) rfl ?_
               refine r_nil ?_
               exact fin_gen [] rfl rfl rfl (AV.le_refl _) st_nil
              ·
               have h27 := cond_f (b := (decide (p0c = (14 : Int)))) hb27 h25
               refine w_skip ?_
               refine e_blk_n ?_
               refine e_kw ?_
               refine w_seqw ?_
               refine w_region ?_
               refine o_p rfl (p_assign (v := aI) rfl) ?_
               refine o_end (fr' := [(0, aI), (2, aI), (3, aI), (4, aB), (6, aB), (8, aB), (10, aB), (12, aB), (14, aB), (16, aB), (18, aB), (20, aB), (22, aB), (24, aB), (26, aB), (28, aB), (30, aB)]) rfl ?_
               refine e_kw ?_
               refine w_ret ?_
               have he29 := Option.some.inj h27
               subst he29
               refine e_ret (rs' := [.tmp 2]) rfl ?_
               refine r_tmp (v := aI) rfl ?_
               refine r_nil ?_
               exact fin_gen [] rfl rfl rfl (AV.le_refl _) st_nil
end Go.Proofs.Ytnhchphmmdgphaa

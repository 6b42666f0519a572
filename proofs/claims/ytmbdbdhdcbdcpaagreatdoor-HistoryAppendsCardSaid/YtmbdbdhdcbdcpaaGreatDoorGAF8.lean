import Derived.Test.YtmbdbdhdcbdcpaaGreatDoorGATy
import Derived.Test.YtmbdbdhdcbdcpaaGreatDoorGAF4
import Derived.Test.YtmbdbdhdcbdcpaaGreatDoorGAF6
import Derived.Test.YtmbdbdhdcbdcpaaGreatDoorGAF7
namespace Go.Proofs.YtmbdbdhdcbdcpaaGreatDoor
open Go Abs
set_option maxRecDepth 100000
set_option linter.unusedVariables false
set_option linter.unusedSimpArgs false
noncomputable def ref22xIdent_l1 (p0s:(List UInt8)) (s4:Int):Option (Step Int (Fl Bool Unit)) :=
 cond (decide (s4<((p0s).length:Int))) ((idx p0s s4).bind fun x6=>(gd ((decide (((x6).toNat:Int)<(33:Int)))==false) (idx p0s s4)).bind fun x8=>(gd ((cond (decide (((x6).toNat:Int)<(33:Int))) true (decide ((126:Int)<((x8).toNat:Int))))==false) (idx p0s s4)).bind fun x10=>(gd ((cond (cond (decide (((x6).toNat:Int)<(33:Int))) true (decide ((126:Int)<((x8).toNat:Int)))) true (decide (((x10).toNat:Int)=(47:Int))))==false) (idx p0s s4)).bind fun x12=>cond (cond (cond (cond (decide (((x6).toNat:Int)<(33:Int))) true (decide ((126:Int)<((x8).toNat:Int)))) true (decide (((x10).toNat:Int)=(47:Int)))) true (decide (((x12).toNat:Int)=(34:Int)))) (some (Step.out (Fl.done false))) (some (Step.next (IntKind.wrap .i64 (s4+(1:Int)))))) (some (Step.out (Fl.go ())))
noncomputable def ref22xIdent (p0s:(List UInt8)):Option Bool :=
 ((loopO (ref22xIdent_l1 p0s) ((0:Int))):Option (Fl Bool Unit)).bind fun x1=>Fl.next x1 (fun j3=>(some (cond (decide ((1:Int)≤((p0s).length:Int))) (decide (((p0s).length:Int)≤(64:Int))) false)))
theorem w_ref22xIdent {p0s:(List UInt8)}{res:Bool} (h:ref22xIdent p0s=some res):ACalls Tryz.prog 43 [.c (.str p0s)] [] (.c (.bool res)) []:=by
 unfold ref22xIdent at h
 refine acalls (fn:=Tryz.f43) [0,2,3,7,31] (by kernel_rfl) Tryz.func43 r (by kernel_rfl) (by kernel_rfl)<|w_sr<|sB r<|o_ek (fr':=[(0,aS)]) r r<|w_seqw<|w_sr<|sI r<|o_ek (fr':=[(0,aS),(3,aI)]) r r ?_
 obtain ⟨x1,hx1,h2⟩:=bind_s h
 refine w_jtail cl_kw (fun j3=>x1=Fl.go j3) (fun (j3:Unit)=>([(0,.c (.str p0s))]:Fr)) (fun (j3:Unit)=>([]:St)) ?_ ?_
 ·
  refine w_block<|w_loopo _ (fun (s4:Int)=>([(0,.c (.str p0s)),(3,.c (.int .i64 s4))]:Fr)) (fun (s4:Int)=>([]:St)) hx1 (w_weak [] 0 r r r r ⟨lr,lr,trivial⟩ st_nil) ?_
  intro s4 st4 hs4 ho4
  unfold ref22xIdent_l1 at hs4
  refine w_seqw<|w_sr<|mI r<|mS r<|o_p r (p_lens ti9 r)<|o_p r (p_lss r r)<|o_ek (fr':=[(0,aS),(3,aI),(7,aB)]) r r<|w_ch hs4 r (fun hb5 h5=>?_) (fun hb5 h5=>?_)
  ·
   refine w_skip<|e_kw<|w_seqw<|w_block<|w_sr<|mS r<|mI r ?_
   obtain ⟨x6,hx6,h7⟩:=bind_s h5
   refine o_p r (p_is ti9 r r hx6)<|o_p r (p_lss r r)<|mB r<|og r r r (fun hc=>(p_move (v:=aS) r))<|og r r r (fun hc=>(p_move (v:=aI) r)) ?_
   obtain ⟨x8,hx8,h9⟩:=bind_s h7
   refine og r r r (fun hc=>(p_is ti9 (gx r hc) (gx r hc) (gd_some hx8 hc)))<|og r r r (fun hc=>(p_gtr (gx r hc) r))<|o_p r (p_pickz r r r (fun e=>keq e))<|mB r<|og r r r (fun hc=>(p_move (v:=aS) r))<|og r r r (fun hc=>(p_move (v:=aI) r)) ?_
   obtain ⟨x10,hx10,h11⟩:=bind_s h9
   refine og r r r (fun hc=>(p_is ti9 (gx r hc) (gx r hc) (gd_some hx10 hc)))<|og r r r (fun hc=>(p_eql (gx r hc) r))<|o_p r (p_pickz r r r (fun e=>keq e))<|mB r<|og r r r (fun hc=>(p_move (v:=aS) r))<|og r r r (fun hc=>(p_move (v:=aI) r)) ?_
   obtain ⟨x12,hx12,h13⟩:=bind_s h11
   refine og r r r (fun hc=>(p_is ti9 (gx r hc) (gx r hc) (gd_some hx12 hc)))<|og r r r (fun hc=>(p_eql (gx r hc) r))<|o_p r (p_pickz r r r (fun e=>keq e))<|o_ek (fr':=[(0,aS),(3,aI),(31,aB)]) r r<|w_ch h13 r (fun hb14 h14=>?_) (fun hb14 h14=>?_)
   ·
    refine w_sr<|sB r<|o_ek (fr':=[(2,aB)]) r r<|w_ret<|e_blk_r<|e_seq_r<|e_seq_r<|e_blk_r<|e_seq_r<|e_seq_r ?_
    have h15:=un_out h14 ho4
    have h16:=un_done h15 h2
    obtain rfl:=sy h16
    exact e_ret (rs':=[.tmp 2]) r<|r_tmp (v:=aB) r<|r_nil<|fin_gen [] r r r lr st_nil
   ·
    exact w_skip<|e_blk_n<|e_kw<|w_region<|mI r<|o_p r (p_add r r)<|sI r<|o_end (fr':=[(0,aS),(3,aI),(31,aB)]) r<|e_l _ (sy h14) (w_weak [] 0 r r r r ⟨lr,lr,trivial⟩ st_nil)
  ·
   refine w_exit<|e_seq_x<|e_seq_x<|e_blk_h ?_
   have h18:=un_out h5 ho4
   exact e_j _ (sy h18) (w_weak [] 0 r r r r ⟨lr,trivial⟩ st_nil)
 ·
  intro j3 hj19
  have h19:=un_go hj19 h2
  refine e_kw<|w_sr<|mS r<|o_p r (p_lens ti9 r)<|o_p r (p_geq r r)<|mB r<|og r r r (fun hc=>(p_move (v:=aS) r))<|og r r r (fun hc=>(p_lens ti9 (gx r hc)))<|og r r r (fun hc=>(p_leq (gx r hc) r))<|o_p r (p_picky r r r (fun e=>keq e))<|sB r<|o_ek (fr':=[(2,aB)]) r r ?_
  refine w_ret ?_
  obtain rfl:=sy h19
  exact e_ret (rs':=[.tmp 2]) r<|r_tmp (v:=aB) r<|r_nil<|fin_gen [] r r r lr st_nil
noncomputable def ref22xInput_l1 (x7:ApiValue) (s12:Int):Option (Step Int (Fl Bool Unit)) :=
 cond (decide (s12<((x7.Items).length:Int))) ((idx x7.Items s12).bind fun x14=>(gd ((!decide (x14.Kind=(4:Int)))==false) (idx x7.Items s12)).bind fun x16=>(gd ((cond (!decide (x14.Kind=(4:Int))) true (!decide (((x16.Items).length:Int)=(2:Int))))==false) (idx x7.Items s12)).bind fun x18=>(gd ((cond (!decide (x14.Kind=(4:Int))) true (!decide (((x16.Items).length:Int)=(2:Int))))==false) (idx x18.Items (0:Int))).bind fun x20=>(gd ((cond (cond (!decide (x14.Kind=(4:Int))) true (!decide (((x16.Items).length:Int)=(2:Int)))) true (!decide (x20.Kind=(3:Int))))==false) (idx x7.Items s12)).bind fun x22=>(gd ((cond (cond (!decide (x14.Kind=(4:Int))) true (!decide (((x16.Items).length:Int)=(2:Int)))) true (!decide (x20.Kind=(3:Int))))==false) (idx x22.Items (0:Int))).bind fun x24=>(gd ((cond (cond (!decide (x14.Kind=(4:Int))) true (!decide (((x16.Items).length:Int)=(2:Int)))) true (!decide (x20.Kind=(3:Int))))==false) (ref06xRight x24.Text)).bind fun x26=>cond (cond (cond (cond (!decide (x14.Kind=(4:Int))) true (!decide (((x16.Items).length:Int)=(2:Int)))) true (!decide (x20.Kind=(3:Int)))) true (!x26)) (some (Step.out (Fl.done false))) (some (Step.next (IntKind.wrap .i64 (s12+(1:Int)))))) (some (Step.out (Fl.go ())))
noncomputable def ref22xInput (p0v:ApiValue):Option Bool :=
 (ref02xRight p0v).bind fun x1=>(gd ((cond (cond (!x1) true (!decide (p0v.Kind=(4:Int)))) true (!decide (((p0v.Items).length:Int)=(2:Int))))==false) (idx p0v.Items (1:Int))).bind fun x3=>cond (cond (cond (cond (!x1) true (!decide (p0v.Kind=(4:Int)))) true (!decide (((p0v.Items).length:Int)=(2:Int)))) true (!decide (x3.Kind=(4:Int)))) (some false) ((idx p0v.Items (1:Int)).bind fun x7=>((loopO (ref22xInput_l1 x7) ((0:Int))):Option (Fl Bool Unit)).bind fun x9=>Fl.next x9 (fun j11=>(some true)))
theorem w_ref22xInput {p0v:ApiValue}{res:Bool} (h:ref22xInput p0v=some res):ACalls Tryz.prog 44 [.agg (AV.cs (exApiValue p0v))] [] (.c (.bool res)) []:=by
 unfold ref22xInput at h
 refine acalls (fn:=Tryz.f44) [0,1,2,3,4,26,35,75] (by kernel_rfl) Tryz.func44 r (by kernel_rfl) (by kernel_rfl)<|w_sr<|o_box (v:=.agg aIISLL) (n:=0) (cs:=aIISLL) (σ':=[aIISLL]) r r r r r<|sB r<|o_ek (fr':=[(1,.box 0 0)]) r r<|w_seqw<|w_sr<|o_p r (p_loads (us:=aIISLL) tv41 r r r r) ?_
 obtain ⟨x1,hx1,h2⟩:=bind_s h
 refine o_v (ov_call (v:=aB) r (w_ref02xRight hx1) ⟨(le_aggc r ⟨r,r,r,r,r,trivial⟩),trivial⟩ r r r)<|o_p r (p_not r)<|mB r<|og r r r (fun hc=>(p_fa tf41x0 r))<|og r r r (fun hc=>(p_load (v:=aI) tv3 (gx r hc) r r))<|og r r r (fun hc=>(p_neq (gx r hc) r))<|o_p r (p_pickz r r r (fun e=>keq e))<|mB r<|og r r r (fun hc=>(p_fa tf41x3 r))<|og r r r (fun hc=>(p_load (v:=aL) tv38 (gx r hc) r r))<|og r r r (fun hc=>(p_len ti38 (isl_c (gx r hc))))<|og r r r (fun hc=>(p_neq (gx r hc) r))<|o_p r (p_pickz r r r (fun e=>keq e)) ?_
 refine mB r<|og r r r (fun hc=>(p_fa tf41x3 r))<|og r r r (fun hc=>(p_load (v:=aL) tv38 (gx r hc) r r)) ?_
 obtain ⟨x3,hx3,h4⟩:=bind_s h2
 refine og r r r (fun hc=>(p_ia (cs:=[PV.int _ _,PV.int _ _,PV.str _,PV.ls _ _ _,PV.ls _ _ _]) ts38 (isl_c (gx r hc)) r (gd_some hx3 hc) (rowApiValue_eq _)))<|og r r r (fun hc=>(p_fae tf41x0 (gx r hc)))<|og r r r (fun hc=>(p_loade (p:=PV.int _ _) tv3 (gx r hc) r))<|og r r r (fun hc=>(p_neq (gx r hc) r))<|o_p r (p_pickz r r r (fun e=>keq e))<|o_ek (fr':=[(1,.box 0 0),(26,aB)]) r r<|w_ch h4 r (fun hb5 h5=>?_) (fun hb5 h5=>?_)
 ·
  refine w_sr<|sB r<|o_ek (fr':=[(2,aB)]) r r<|w_ret<|e_seq_r ?_
  obtain rfl:=sy h5
  exact e_ret (rs':=[.tmp 2]) r<|r_tmp (v:=aB) r<|r_nil<|fin_gen [] r r r lr st_nil
 ·
  refine w_skip<|e_kw<|w_sr<|o_p r (p_fa tf41x3 r)<|o_p r (p_load (v:=aL) tv38 r r r) ?_
  obtain ⟨x7,hx7,h8⟩:=bind_s h5
  refine o_p r (p_ia (cs:=[PV.int _ _,PV.int _ _,PV.str _,PV.ls _ _ _,PV.ls _ _ _]) ts38 (isl_c r) r hx7 (rowApiValue_eq _))<|o_p r (p_fae tf41x3 r)<|o_p r (p_loade (p:=PV.ls _ _ _) tv38 r r)<|sL r<|o_ek (fr':=[(3,aL)]) r r<|w_seqw<|w_sr<|sI r<|o_ek (fr':=[(3,aL),(4,aI)]) r r ?_
  obtain ⟨x9,hx9,h10⟩:=bind_s h8
  refine w_jtail cl_kw (fun j11=>x9=Fl.go j11) (fun (j11:Unit)=>([]:Fr)) (fun (j11:Unit)=>([[.c (.int .i64 p0v.Kind),.c (.int .i64 p0v.Int),.c (.str p0v.Text),.c (PV.ls 5 rowApiValue p0v.Items),.c (PV.ls 1 rowS p0v.Keys)]]:St)) ?_ ?_
  ·
   refine w_block<|w_loopo _ (fun (s12:Int)=>([(3,.c (PV.ls 5 rowApiValue x7.Items)),(4,.c (.int .i64 s12))]:Fr)) (fun (s12:Int)=>([[.c (.int .i64 p0v.Kind),.c (.int .i64 p0v.Int),.c (.str p0v.Text),.c (PV.ls 5 rowApiValue p0v.Items),.c (PV.ls 1 rowS p0v.Keys)]]:St)) hx9 (w_weak [] 1 r r r r ⟨lr,lr,trivial⟩ (st_r r st_nil)) ?_
   intro s12 st12 hs12 ho12
   unfold ref22xInput_l1 at hs12
   refine w_seqw<|w_sr<|mI r<|mL r<|o_p r (p_len ti38 (isl_c r))<|o_p r (p_lss r r)<|o_ek (fr':=[(3,aL),(4,aI),(35,aB)]) r r<|w_ch hs12 r (fun hb13 h13=>?_) (fun hb13 h13=>?_)
   ·
    refine w_skip<|e_kw<|w_seqw<|w_block<|w_sr<|mL r<|mI r ?_
    obtain ⟨x14,hx14,h15⟩:=bind_s h13
    refine o_p r (p_ia (cs:=[PV.int _ _,PV.int _ _,PV.str _,PV.ls _ _ _,PV.ls _ _ _]) ts38 (isl_c r) r hx14 (rowApiValue_eq _))<|o_p r (p_fae tf41x0 r)<|o_p r (p_loade (p:=PV.int _ _) tv3 r r)<|o_p r (p_neq r r)<|mB r<|og r r r (fun hc=>(p_move (v:=aL) r))<|og r r r (fun hc=>(p_move (v:=aI) r)) ?_
    obtain ⟨x16,hx16,h17⟩:=bind_s h15
    refine og r r r (fun hc=>(p_ia (cs:=[PV.int _ _,PV.int _ _,PV.str _,PV.ls _ _ _,PV.ls _ _ _]) ts38 (isl_c (gx r hc)) (gx r hc) (gd_some hx16 hc) (rowApiValue_eq _)))<|og r r r (fun hc=>(p_fae tf41x3 (gx r hc)))<|og r r r (fun hc=>(p_loade (p:=PV.ls _ _ _) tv38 (gx r hc) r))<|og r r r (fun hc=>(p_len ti38 (isl_c (gx r hc))))<|og r r r (fun hc=>(p_neq (gx r hc) r))<|o_p r (p_pickz r r r (fun e=>keq e))<|mB r<|og r r r (fun hc=>(p_move (v:=aL) r))<|og r r r (fun hc=>(p_move (v:=aI) r)) ?_
    obtain ⟨x18,hx18,h19⟩:=bind_s h17
    refine og r r r (fun hc=>(p_ia (cs:=[PV.int _ _,PV.int _ _,PV.str _,PV.ls _ _ _,PV.ls _ _ _]) ts38 (isl_c (gx r hc)) (gx r hc) (gd_some hx18 hc) (rowApiValue_eq _)))<|og r r r (fun hc=>(p_fae tf41x3 (gx r hc)))<|og r r r (fun hc=>(p_loade (p:=PV.ls _ _ _) tv38 (gx r hc) r)) ?_
    obtain ⟨x20,hx20,h21⟩:=bind_s h19
    refine og r r r (fun hc=>(p_ia (cs:=[PV.int _ _,PV.int _ _,PV.str _,PV.ls _ _ _,PV.ls _ _ _]) ts38 (isl_c (gx r hc)) r (gd_some hx20 hc) (rowApiValue_eq _)))<|og r r r (fun hc=>(p_fae tf41x0 (gx r hc)))<|og r r r (fun hc=>(p_loade (p:=PV.int _ _) tv3 (gx r hc) r))<|og r r r (fun hc=>(p_neq (gx r hc) r))<|o_p r (p_pickz r r r (fun e=>keq e))<|mB r<|og r r r (fun hc=>(p_move (v:=aL) r))<|og r r r (fun hc=>(p_move (v:=aI) r)) ?_
    obtain ⟨x22,hx22,h23⟩:=bind_s h21
    refine og r r r (fun hc=>(p_ia (cs:=[PV.int _ _,PV.int _ _,PV.str _,PV.ls _ _ _,PV.ls _ _ _]) ts38 (isl_c (gx r hc)) (gx r hc) (gd_some hx22 hc) (rowApiValue_eq _)))<|og r r r (fun hc=>(p_fae tf41x3 (gx r hc)))<|og r r r (fun hc=>(p_loade (p:=PV.ls _ _ _) tv38 (gx r hc) r)) ?_
    obtain ⟨x24,hx24,h25⟩:=bind_s h23
    refine og r r r (fun hc=>(p_ia (cs:=[PV.int _ _,PV.int _ _,PV.str _,PV.ls _ _ _,PV.ls _ _ _]) ts38 (isl_c (gx r hc)) r (gd_some hx24 hc) (rowApiValue_eq _)))<|og r r r (fun hc=>(p_fae tf41x2 (gx r hc)))<|og r r r (fun hc=>(p_loade (p:=PV.str _) tv9 (gx r hc) r)) ?_
    obtain ⟨x26,hx26,h27⟩:=bind_s h25
    refine o_g r r (fun hc=>ov_call (v:=aB) r (w_ref06xRight (gd_some hx26 hc)) ⟨(le_gv (gx r hc) lr),trivial⟩ (ok_eq (by repeat (first | exact ok_nil | refine ok_cons r ?_ | refine ok_cons (dgv r) ?_ | refine ok_cons dar ?_))) r r) ?_
    refine og r r r (fun hc=>(p_not (gx r hc)))<|o_p r (p_pickz r r r (fun e=>keq e))<|o_ek (fr':=[(3,aL),(4,aI),(75,aB)]) r r<|w_ch h27 r (fun hb28 h28=>?_) (fun hb28 h28=>?_)
    ·
     refine w_sr<|sB r<|o_ek (fr':=[(2,aB)]) r r<|w_ret<|e_blk_r<|e_seq_r<|e_seq_r<|e_blk_r<|e_seq_r<|e_seq_r ?_
     have h29:=un_out h28 ho12
     have h30:=un_done h29 h10
     obtain rfl:=sy h30
     exact e_ret (rs':=[.tmp 2]) r<|r_tmp (v:=aB) r<|r_nil<|fin_gen [] r r r lr st_nil
    ·
     exact w_skip<|e_blk_n<|e_kw<|w_region<|mI r<|o_p r (p_add r r)<|sI r<|o_end (fr':=[(3,aL),(4,aI),(75,aB)]) r<|e_l _ (sy h28) (w_weak [] 1 r r r r ⟨lr,lr,trivial⟩ (st_r r st_nil))
   ·
    refine w_exit<|e_seq_x<|e_seq_x<|e_blk_h ?_
    have h32:=un_out h13 ho12
    exact e_j _ (sy h32) (w_weak [] 1 r r r r trivial (st_r r st_nil))
  ·
   intro j11 hj33
   have h33:=un_go hj33 h10
   refine e_kw<|w_sr<|sB r<|o_ek (fr':=[(2,aB)]) r r<|w_ret ?_
   obtain rfl:=sy h33
   exact e_ret (rs':=[.tmp 2]) r<|r_tmp (v:=aB) r<|r_nil<|fin_gen [] r r r lr st_nil
noncomputable def ref03xdigitsF:Nat→Int→Option (List UInt8)
 | 0,_=>none
 | n+1,p0n =>
  (byteOf (IntKind.wrap .u8 (IntKind.wrap .i64 ((48:Int)+(IntKind.wrap .i64 (0 - (Int.tmod p0n (10:Int)))))))).bind fun x1=>cond (decide ((-10:Int)<p0n)) (some ([x1]:List UInt8)) (((ref03xdigitsF n) (IntKind.wrap .i64 (Int.tdiv p0n (10:Int)))).bind fun x5=>(cat x5 ([x1]:List UInt8)).bind fun x7=>some (x5++([x1]:List UInt8)))
theorem wF_ref03xdigits:∀ n:Nat,(∀ {p0n:Int}{res:(List UInt8)},ref03xdigitsF n p0n=some res→ACalls Tryz.prog 109 [.c (.int .i64 p0n)] [] (.c (.str res)) []):=by
 intro n
 induction n with
 | zero=>exact fun {p0n res} h=>absurd h (by simp [ref03xdigitsF])
 | succ n ih =>
  have ih_ref03xdigits:=@ih
  intro p0n res h
  rw [ref03xdigitsF] at h
  refine acalls (fn:=Tryz.f109) [0,2,3,4,14] (by kernel_rfl) Tryz.func109 r (by kernel_rfl) (by kernel_rfl)<|w_sr<|sS r<|o_ek (fr':=[(0,aI)]) r r<|w_sr<|mI r<|o_p r (p_rem r r (by decide))<|o_p r (p_neg r)<|sI r<|o_ek (fr':=[(0,aI),(3,aI)]) r r<|w_seqw ?_
  refine w_region<|mI r<|o_p r (p_add r r)<|o_p r (p_conv tk3 tk5 r) ?_
  obtain ⟨x1,hx1,h2⟩:=bind_s h
  refine o_rows (row:=brow) (xs:=([x1]:List UInt8)) (rows:=[[_]]) (σ':=[]) [0] ts111 r r r (arow_cons (brow_of hx1) arow_nil) r r<|o_p r (p_convbs tby111 ti9 (isl_o r))<|sS r<|o_ek (fr':=[(0,aI),(4,aS)]) r r<|w_seqw<|w_sr<|mI r<|o_p r (p_gtr r r)<|o_ek (fr':=[(0,aI),(4,aS),(14,aB)]) r r<|w_ch h2 r (fun hb3 h3=>?_) (fun hb3 h3=>?_)
  ·
   refine w_sr<|mS r<|sS r<|o_ek (fr':=[(2,aS)]) r r<|w_ret<|e_seq_r ?_
   obtain rfl:=sy h3
   exact e_ret (rs':=[.tmp 2]) r<|r_tmp (v:=aS) r<|r_nil<|fin_gen [] r r r lr st_nil
  ·
   refine w_skip<|e_kw<|w_sr<|mI r<|o_p r (p_quo r r (by decide)) ?_
   obtain ⟨x5,hx5,h6⟩:=bind_s h3
   refine o_v (ov_call (v:=aS) r (ih_ref03xdigits hx5) ⟨lr,trivial⟩ r r r)<|mS r ?_
   obtain ⟨x7,hx7,h8⟩:=bind_s h6
   refine o_p r (p_sadd r r (cat_some hx7).1)<|sS r<|o_ek (fr':=[(2,aS)]) r r<|w_ret ?_
   obtain rfl:=sy h8
   exact e_ret (rs':=[.tmp 2]) r<|r_tmp (v:=aS) r<|r_nil<|fin_gen [] r r r lr st_nil
noncomputable def ref03xdigits (p0n:Int):Option (List UInt8):=lim fun n=>ref03xdigitsF n p0n
theorem w_ref03xdigits {p0n:Int}{res:(List UInt8)} (h:ref03xdigits p0n=some res):ACalls Tryz.prog 109 [.c (.int .i64 p0n)] [] (.c (.str res)) []:=by
 obtain ⟨n,hn⟩:=lim_some h
 exact (wF_ref03xdigits n) hn
noncomputable def ref03xDecimal (p0n:Int):Option (List UInt8) :=
 cond (decide (p0n<(0:Int))) ((ref03xdigits p0n).bind fun x2=>(cat ([45]:List UInt8) x2).bind fun x4=>some (([45]:List UInt8)++x2)) ((ref03xdigits (IntKind.wrap .i64 (0 - p0n))).bind fun x7=>some x7)
theorem w_ref03xDecimal {p0n:Int}{res:(List UInt8)} (h:ref03xDecimal p0n=some res):ACalls Tryz.prog 94 [.c (.int .i64 p0n)] [] (.c (.str res)) []:=by
 unfold ref03xDecimal at h
 refine acalls (fn:=Tryz.f94) [0,2,4] (by kernel_rfl) Tryz.func94 r (by kernel_rfl) (by kernel_rfl)<|w_sr<|sS r<|o_ek (fr':=[(0,aI)]) r r<|w_seqw<|w_sr<|mI r<|o_p r (p_lss r r)<|o_ek (fr':=[(0,aI),(4,aB)]) r r<|w_ch h r (fun hb1 h1=>?_) (fun hb1 h1=>?_)
 ·
  refine w_sr<|mI r ?_
  obtain ⟨x2,hx2,h3⟩:=bind_s h1
  refine o_v (ov_call (v:=aS) r (w_ref03xdigits hx2) ⟨lr,trivial⟩ r r r) ?_
  obtain ⟨x4,hx4,h5⟩:=bind_s h3
  refine o_p r (p_sadd r r (cat_some hx4).1)<|sS r<|o_ek (fr':=[(2,aS)]) r r<|w_ret<|e_seq_r ?_
  obtain rfl:=sy h5
  exact e_ret (rs':=[.tmp 2]) r<|r_tmp (v:=aS) r<|r_nil<|fin_gen [] r r r lr st_nil
 ·
  refine w_skip<|e_kw<|w_sr<|mI r<|o_p r (p_neg r) ?_
  obtain ⟨x7,hx7,h8⟩:=bind_s h1
  refine o_v (ov_call (v:=aS) r (w_ref03xdigits hx7) ⟨lr,trivial⟩ r r r)<|sS r<|o_ek (fr':=[(2,aS)]) r r<|w_ret ?_
  obtain rfl:=sy h8
  exact e_ret (rs':=[.tmp 2]) r<|r_tmp (v:=aS) r<|r_nil<|fin_gen [] r r r lr st_nil
noncomputable def ref06xRun (p0n:Int):Option (List UInt8) :=
 cond (decide (p0n<(1:Int))) (some ([]:List UInt8)) ((ref03xDecimal p0n).bind fun x3=>(cat ([114]:List UInt8) x3).bind fun x5=>some (([114]:List UInt8)++x3))
theorem w_ref06xRun {p0n:Int}{res:(List UInt8)} (h:ref06xRun p0n=some res):ACalls Tryz.prog 69 [.c (.int .i64 p0n)] [] (.c (.str res)) []:=by
 unfold ref06xRun at h
 refine acalls (fn:=Tryz.f69) [0,2,4] (by kernel_rfl) Tryz.func69 r (by kernel_rfl) (by kernel_rfl)<|w_sr<|sS r<|o_ek (fr':=[(0,aI)]) r r<|w_seqw<|w_sr<|mI r<|o_p r (p_lss r r)<|o_ek (fr':=[(0,aI),(4,aB)]) r r<|w_ch h r (fun hb1 h1=>?_) (fun hb1 h1=>?_)
 ·
  refine w_sr<|sS r<|o_ek (fr':=[(2,aS)]) r r<|w_ret<|e_seq_r ?_
  obtain rfl:=sy h1
  exact e_ret (rs':=[.tmp 2]) r<|r_tmp (v:=aS) r<|r_nil<|fin_gen [] r r r lr st_nil
 ·
  refine w_skip<|e_kw<|w_sr<|mI r ?_
  obtain ⟨x3,hx3,h4⟩:=bind_s h1
  refine o_v (ov_call (v:=aS) r (w_ref03xDecimal hx3) ⟨lr,trivial⟩ r r r) ?_
  obtain ⟨x5,hx5,h6⟩:=bind_s h4
  refine o_p r (p_sadd r r (cat_some hx5).1)<|sS r<|o_ek (fr':=[(2,aS)]) r r<|w_ret ?_
  obtain rfl:=sy h6
  exact e_ret (rs':=[.tmp 2]) r<|r_tmp (v:=aS) r<|r_nil<|fin_gen [] r r r lr st_nil
noncomputable def ref06xNumber_l1 (p0run:(List UInt8)) (s4:(Int × Int)):Option (Step (Int × Int) Int) :=
 cond (cond (decide (s4.2<((p0run).length:Int))) (decide (((p0run).length:Int)≤(20:Int))) false) ((idx p0run s4.2).bind fun x6=>some (Step.next ((IntKind.wrap .i64 ((IntKind.wrap .i64 ((IntKind.wrap .i64 ((10:Int)*s4.1))+(IntKind.wrap .i64 ((x6).toNat:Int)))) - (48:Int))),(IntKind.wrap .i64 (s4.2+(1:Int)))))) (some (Step.out s4.1))
noncomputable def ref06xNumber (p0run:(List UInt8)):Option (Int × Bool) :=
 ((loopO (ref06xNumber_l1 p0run) (((0:Int),(1:Int)))):Option Int).bind fun x1=>((gd ((decide (x1<(1:Int)))==false) (ref06xRun x1)).bind fun x10=>cond (cond (decide (x1<(1:Int))) true (!decide (x10=p0run))) (some ((0:Int),false)) (some (x1,true)))
theorem w_ref06xNumber {p0run:(List UInt8)}{res:(Int × Bool)} (h:ref06xNumber p0run=some res):ACalls Tryz.prog 45 [.c (.str p0run)] [] (.tup [.c (.int .i64 res.1),.c (.bool res.2)]) []:=by
 unfold ref06xNumber at h
 refine acalls (fn:=Tryz.f45) [0,2,3,4,5,14,32] (by kernel_rfl) Tryz.func45 r (by kernel_rfl) (by kernel_rfl)<|w_sr<|sI r<|sB r<|o_ek (fr':=[(0,aS)]) r r<|w_sr<|sI r<|o_ek (fr':=[(0,aS),(4,aI)]) r r<|w_seqw<|w_seqw<|w_region ?_
 refine sI r<|o_ek (fr':=[(0,aS),(4,aI),(5,aI)]) r r ?_
 obtain ⟨x1,hx1,h2⟩:=bind_s h
 refine w_jtail cl_kw (fun j3=>x1=j3) (fun (j3:Int)=>([(0,.c (.str p0run)),(4,.c (.int .i64 j3))]:Fr)) (fun (j3:Int)=>([]:St)) ?_ ?_
 ·
  refine w_block<|w_loopo _ (fun (s4:(Int × Int))=>([(0,.c (.str p0run)),(4,.c (.int .i64 s4.1)),(5,.c (.int .i64 s4.2))]:Fr)) (fun (s4:(Int × Int))=>([]:St)) hx1 (w_weak [] 0 r r r r ⟨lr,lr,lr,trivial⟩ st_nil) ?_
  intro s4 st4 hs4 ho4
  unfold ref06xNumber_l1 at hs4
  refine w_seqw<|w_sr<|mI r<|mS r<|o_p r (p_lens ti9 r)<|o_p r (p_lss r r)<|mB r<|og r r r (fun hc=>(p_move (v:=aS) r))<|og r r r (fun hc=>(p_lens ti9 (gx r hc)))<|og r r r (fun hc=>(p_leq (gx r hc) r))<|o_p r (p_picky r r r (fun e=>keq e))<|o_ek (fr':=[(0,aS),(4,aI),(5,aI),(14,aB)]) r r ?_
  refine w_ch hs4 r (fun hb5 h5=>?_) (fun hb5 h5=>?_)
  ·
   refine w_skip<|e_kw<|w_seqw<|w_block<|w_region<|mI r<|o_p r (p_mul r r)<|mS r<|mI r ?_
   obtain ⟨x6,hx6,h7⟩:=bind_s h5
   refine o_p r (p_is ti9 r r hx6)<|o_p r (p_conv tk5 tk3 r)<|o_p r (p_add r r)<|o_p r (p_sub r r)<|sI r<|o_end (fr':=[(0,aS),(4,aI),(5,aI),(14,aB)]) r<|e_blk_n<|e_kw<|w_region<|mI r<|o_p r (p_add r r)<|sI r<|o_end (fr':=[(0,aS),(4,aI),(5,aI),(14,aB)]) r ?_
   exact e_l _ (sy h7) (w_weak [] 0 r r r r ⟨lr,lr,lr,trivial⟩ st_nil)
  ·
   refine w_exit<|e_seq_x<|e_seq_x<|e_blk_h ?_
   have h8:=un_out h5 ho4
   exact e_j _ (sy h8) (w_weak [] 0 r r r r ⟨lr,lr,trivial⟩ st_nil)
 ·
  intro j3 hj9
  subst hj9
  refine e_kw<|w_seqw<|w_sr<|mI r<|o_p r (p_lss r r)<|mB r<|og r r r (fun hc=>(p_move (v:=aI) r)) ?_
  obtain ⟨x10,hx10,h11⟩:=bind_s h2
  refine o_g r r (fun hc=>ov_call (v:=aS) r (w_ref06xRun (gd_some hx10 hc)) ⟨(le_gv (gx r hc) lr),trivial⟩ (ok_eq (by repeat (first | exact ok_nil | refine ok_cons r ?_ | refine ok_cons (dgv r) ?_ | refine ok_cons dar ?_))) r r) ?_
  refine og r r r (fun hc=>(p_move (v:=aS) r))<|og r r r (fun hc=>(p_sneq (gx r hc) (gx r hc)))<|o_p r (p_pickz r r r (fun e=>keq e))<|o_ek (fr':=[(4,aI),(32,aB)]) r r<|w_ch h11 r (fun hb12 h12=>?_) (fun hb12 h12=>?_)
  ·
   refine w_sr<|sI r<|sB r<|o_ek (fr':=[(2,aI),(3,aB)]) r r<|w_ret<|e_seq_r ?_
   obtain rfl:=sy h12
   exact e_ret (rs':=[.tmp 2,.tmp 3]) r<|r_tmp (v:=aI) r<|r_tmp (v:=aB) r<|r_nil<|fin_gen [] r r r (le_tupp r ⟨lr,lr,trivial⟩) st_nil
  ·
   refine w_skip<|e_kw<|w_sr<|mI r<|sI r<|sB r<|o_ek (fr':=[(2,aI),(3,aB)]) r r<|w_ret ?_
   obtain rfl:=sy h12
   exact e_ret (rs':=[.tmp 2,.tmp 3]) r<|r_tmp (v:=aI) r<|r_tmp (v:=aB) r<|r_nil<|fin_gen [] r r r (le_tupp r ⟨lr,lr,trivial⟩) st_nil
noncomputable def ref22xRight (p0e:ApiEvent):Option Bool :=
 (ref22xin p0e.Kind (1:Int) (35:Int)).bind fun x1=>(gd ((!x1)==false) (ref22xin p0e.ID (0:Int) (2000:Int))).bind fun x3=>(gd ((cond (!x1) true (!x3))==false) (ref22xin p0e.Time (0:Int) (1099511627776:Int))).bind fun x5=>(gd ((cond (cond (!x1) true (!x3)) true (!x5))==false) (ref22xbare p0e)).bind fun x7=>cond (cond (cond (cond (!x1) true (!x3)) true (!x5)) true (!x7)) (some false) ((ref22xIsCommand p0e.Kind).bind fun x11=>cond x11 ((ref22xasCommand p0e).bind fun x14=>(ref20xRight x14).bind fun x16=>some x16) (cond (decide (p0e.Kind=(1:Int))) ((ref06xRight p0e.Name).bind fun x20=>(gd (x20==true) (ref22xIdent p0e.Key)).bind fun x22=>(gd ((cond x20 x22 false)==true) (ref22xInput p0e.Data)).bind fun x24=>(gd ((cond (cond x20 x22 false) x24 false)==true) (ref22xin p0e.N (0:Int) (4294967295:Int))).bind fun x26=>some (cond (cond (cond x20 x22 false) x24 false) x26 false)) (cond (decide (p0e.Kind=(2:Int))) (some (decide ((1:Int)≤p0e.N))) (cond (decide (p0e.Kind=(5:Int))) ((ref22xin p0e.Code (1:Int) (30:Int)).bind fun x32=>some x32) (cond (decide (p0e.Kind=(8:Int))) ((ref22xin p0e.N (1:Int) (1000:Int)).bind fun x36=>some x36) (cond (decide (p0e.Kind=(11:Int))) ((ref22xin p0e.Code (1:Int) (4:Int)).bind fun x40=>some x40) (((cond (decide (p0e.Kind=(10:Int))) (some (decide (p0e.Kind=(10:Int)))) (cond (decide (p0e.Kind=(22:Int))) (some (decide (p0e.Kind=(22:Int)))) (some (decide (p0e.Kind=(25:Int)))))):Option Bool).bind fun x43=>(cond x43 (some (decide (((p0e.Name).length:Int)≤(4096:Int)))) (cond (decide (p0e.Kind=(17:Int))) ((ref06xRight p0e.Name).bind fun x52=>(gd (x52==true) (ref22xIdent p0e.Key)).bind fun x54=>some (cond x52 x54 false)) (cond (decide (p0e.Kind=(20:Int))) ((ref06xNumber p0e.Key).bind fun x58=>some x58.2) (cond (decide (p0e.Kind=(26:Int))) ((ref22xIdent p0e.Key).bind fun x62=>some x62) (cond (decide (p0e.Kind=(33:Int))) (some (decide (((p0e.Name).length:Int)≤(64:Int)))) (some true)))))))))))))
theorem w_ref22xRight {p0e:ApiEvent}{res:Bool} (h:ref22xRight p0e=some res):ACalls Tryz.prog 23 [.agg (AV.cs (rowApiEvent p0e))] [] (.c (.bool res)) []:=by
 unfold ref22xRight at h
 refine acalls (fn:=Tryz.f23) [0,1,2,4,25,28,33,34,54,59,64,69,74,82,92,101,106] (by kernel_rfl) Tryz.func23 r (by kernel_rfl) (by kernel_rfl)<|w_sr<|o_box (v:=.agg aIIIIIIISSIISLLSIIIIIIIIL) (n:=0) (cs:=aIIIIIIISSIISLLSIIIIIIIIL) (σ':=[aIIIIIIISSIISLLSIIIIIIIIL]) r r r r r<|sB r<|o_ek (fr':=[(1,.box 0 0)]) r r<|w_seqw<|w_sr<|o_p r (p_fa tf45x1 r)<|o_p r (p_load (v:=aI) tv3 r r r) ?_
 obtain ⟨x1,hx1,h2⟩:=bind_s h
 refine o_v (ov_call (v:=aB) r (w_ref22xin hx1) ⟨lr,lr,lr,trivial⟩ r r r)<|o_p r (p_not r)<|mB r<|og r r r (fun hc=>(p_fa tf45x0 r))<|og r r r (fun hc=>(p_load (v:=aI) tv3 (gx r hc) r r)) ?_
 obtain ⟨x3,hx3,h4⟩:=bind_s h2
 refine o_g r r (fun hc=>ov_call (v:=aB) r (w_ref22xin (gd_some hx3 hc)) ⟨(le_gv (gx r hc) lr),lr,lr,trivial⟩ (ok_eq (by repeat (first | exact ok_nil | refine ok_cons r ?_ | refine ok_cons (dgv r) ?_ | refine ok_cons dar ?_))) r r) ?_
 refine og r r r (fun hc=>(p_not (gx r hc)))<|o_p r (p_pickz r r r (fun e=>keq e))<|mB r<|og r r r (fun hc=>(p_fa tf45x2 r))<|og r r r (fun hc=>(p_load (v:=aI) tv3 (gx r hc) r r)) ?_
 obtain ⟨x5,hx5,h6⟩:=bind_s h4
 refine o_g r r (fun hc=>ov_call (v:=aB) r (w_ref22xin (gd_some hx5 hc)) ⟨(le_gv (gx r hc) lr),lr,lr,trivial⟩ (ok_eq (by repeat (first | exact ok_nil | refine ok_cons r ?_ | refine ok_cons (dgv r) ?_ | refine ok_cons dar ?_))) r r) ?_
 refine og r r r (fun hc=>(p_not (gx r hc)))<|o_p r (p_pickz r r r (fun e=>keq e))<|mB r<|og r r r (fun hc=>(p_loads (us:=aIIIIIIISSIISLLSIIIIIIIIL) tv45 r r r r)) ?_
 obtain ⟨x7,hx7,h8⟩:=bind_s h6
 refine o_g r r (fun hc=>ov_call (v:=aB) r (w_ref22xbare (gd_some hx7 hc)) ⟨(le_gv (gx r hc) (le_aggc r ⟨r,r,r,r,r,r,r,r,r,r,r,r,r,r,r,r,r,r,r,r,r,r,r,r,trivial⟩)),trivial⟩ (ok_eq (by repeat (first | exact ok_nil | refine ok_cons r ?_ | refine ok_cons (dgv r) ?_ | refine ok_cons dar ?_))) r r) ?_
 refine og r r r (fun hc=>(p_not (gx r hc)))<|o_p r (p_pickz r r r (fun e=>keq e))<|o_ek (fr':=[(1,.box 0 0),(25,aB)]) r r<|w_ch h8 r (fun hb9 h9=>?_) (fun hb9 h9=>?_)
 ·
  refine w_sr<|sB r<|o_ek (fr':=[(2,aB)]) r r<|w_ret<|e_seq_r ?_
  obtain rfl:=sy h9
  exact e_ret (rs':=[.tmp 2]) r<|r_tmp (v:=aB) r<|r_nil<|fin_gen [] r r r lr st_nil
 ·
  refine w_skip<|e_kw<|w_seqw<|w_sr<|o_p r (p_fa tf45x1 r)<|o_p r (p_load (v:=aI) tv3 r r r) ?_
  obtain ⟨x11,hx11,h12⟩:=bind_s h9
  refine o_v (ov_call (v:=aB) r (w_ref22xIsCommand hx11) ⟨lr,trivial⟩ r r r)<|o_ek (fr':=[(1,.box 0 0),(28,aB)]) r r<|w_ch h12 r (fun hb13 h13=>?_) (fun hb13 h13=>?_)
  ·
   refine w_sr<|o_p r (p_loads (us:=aIIIIIIISSIISLLSIIIIIIIIL) tv45 r r r r) ?_
   obtain ⟨x14,hx14,h15⟩:=bind_s h13
   refine o_v (ov_call (v:=.agg aIISSIIISLLSIIIIIIIIL) r (w_ref22xasCommand hx14) ⟨(le_aggc r ⟨r,r,r,r,r,r,r,r,r,r,r,r,r,r,r,r,r,r,r,r,r,r,r,r,trivial⟩),trivial⟩ r r r) ?_
   obtain ⟨x16,hx16,h17⟩:=bind_s h15
   refine o_v (ov_call (v:=aB) r (w_ref20xRight hx16) ⟨(le_aggc r ⟨r,r,r,r,r,r,r,r,r,r,r,r,r,r,r,r,r,r,r,r,trivial⟩),trivial⟩ r r r)<|sB r<|o_ek (fr':=[(2,aB)]) r r<|w_ret<|e_seq_r ?_
   obtain rfl:=sy h17
   exact e_ret (rs':=[.tmp 2]) r<|r_tmp (v:=aB) r<|r_nil<|fin_gen [] r r r lr st_nil
  ·
   refine w_skip<|e_kw<|w_seqw<|w_sr<|o_p r (p_fa tf45x1 r)<|o_p r (p_load (v:=aI) tv3 r r r)<|o_ek (fr':=[(1,.box 0 0),(33,aI)]) r r<|w_block<|w_sr<|o_p r (p_eql r r)<|sB r ?_
   refine o_ek (fr':=[(1,.box 0 0),(33,aI),(34,aB)]) r r<|w_ch h13 r (fun hb19 h19=>?_) (fun hb19 h19=>?_)
   ·
    refine w_sr<|o_p r (p_fa tf45x7 r)<|o_p r (p_load (v:=aS) tv9 r r r) ?_
    obtain ⟨x20,hx20,h21⟩:=bind_s h19
    refine o_v (ov_call (v:=aB) r (w_ref06xRight hx20) ⟨lr,trivial⟩ r r r)<|mB r<|og r r r (fun hc=>(p_fa tf45x8 r))<|og r r r (fun hc=>(p_load (v:=aS) tv9 (gx r hc) r r)) ?_
    obtain ⟨x22,hx22,h23⟩:=bind_s h21
    refine o_g r r (fun hc=>ov_call (v:=aB) r (w_ref22xIdent (gd_some hx22 hc)) ⟨(le_gv (gx r hc) lr),trivial⟩ (ok_eq (by repeat (first | exact ok_nil | refine ok_cons r ?_ | refine ok_cons (dgv r) ?_ | refine ok_cons dar ?_))) r r) ?_
    refine o_p r (p_picky r r r (fun e=>keq e))<|mB r<|og r r r (fun hc=>(p_fa tf45x9 r))<|og r r r (fun hc=>(p_loads (us:=aIISLL) tv41 (gx r hc) r r r)) ?_
    obtain ⟨x24,hx24,h25⟩:=bind_s h23
    refine o_g r r (fun hc=>ov_call (v:=aB) r (w_ref22xInput (gd_some hx24 hc)) ⟨(le_gv (gx r hc) (le_aggc r ⟨r,r,r,r,r,trivial⟩)),trivial⟩ (ok_eq (by repeat (first | exact ok_nil | refine ok_cons r ?_ | refine ok_cons (dgv r) ?_ | refine ok_cons dar ?_))) r r) ?_
    refine o_p r (p_picky r r r (fun e=>keq e))<|mB r<|og r r r (fun hc=>(p_fa tf45x5 r))<|og r r r (fun hc=>(p_load (v:=aI) tv3 (gx r hc) r r)) ?_
    obtain ⟨x26,hx26,h27⟩:=bind_s h25
    refine o_g r r (fun hc=>ov_call (v:=aB) r (w_ref22xin (gd_some hx26 hc)) ⟨(le_gv (gx r hc) lr),lr,lr,trivial⟩ (ok_eq (by repeat (first | exact ok_nil | refine ok_cons r ?_ | refine ok_cons (dgv r) ?_ | refine ok_cons dar ?_))) r r) ?_
    refine o_p r (p_picky r r r (fun e=>keq e))<|sB r<|o_ek (fr':=[(2,aB)]) r r<|w_ret<|e_blk_r<|e_seq_r ?_
    obtain rfl:=sy h27
    exact e_ret (rs':=[.tmp 2]) r<|r_tmp (v:=aB) r<|r_nil<|fin_gen [] r r r lr st_nil
   ·
    refine w_sr<|o_p r (p_eql r r)<|sB r<|o_ek (fr':=[(1,.box 0 0),(33,aI),(54,aB)]) r r<|w_ch h19 r (fun hb29 h29=>?_) (fun hb29 h29=>?_)
    ·
     refine w_sr<|o_p r (p_fa tf45x5 r)<|o_p r (p_load (v:=aI) tv3 r r r)<|o_p r (p_geq r r)<|sB r<|o_ek (fr':=[(2,aB)]) r r<|w_ret<|e_blk_r<|e_seq_r ?_
     obtain rfl:=sy h29
     exact e_ret (rs':=[.tmp 2]) r<|r_tmp (v:=aB) r<|r_nil<|fin_gen [] r r r lr st_nil
    ·
     refine w_sr<|o_p r (p_eql r r)<|sB r<|o_ek (fr':=[(1,.box 0 0),(33,aI),(59,aB)]) r r<|w_ch h29 r (fun hb31 h31=>?_) (fun hb31 h31=>?_)
     ·
      refine w_sr<|o_p r (p_fa tf45x6 r)<|o_p r (p_load (v:=aI) tv3 r r r) ?_
      obtain ⟨x32,hx32,h33⟩:=bind_s h31
      refine o_v (ov_call (v:=aB) r (w_ref22xin hx32) ⟨lr,lr,lr,trivial⟩ r r r)<|sB r<|o_ek (fr':=[(2,aB)]) r r<|w_ret<|e_blk_r<|e_seq_r ?_
      obtain rfl:=sy h33
      exact e_ret (rs':=[.tmp 2]) r<|r_tmp (v:=aB) r<|r_nil<|fin_gen [] r r r lr st_nil
     ·
      refine w_sr<|o_p r (p_eql r r)<|sB r<|o_ek (fr':=[(1,.box 0 0),(33,aI),(64,aB)]) r r<|w_ch h31 r (fun hb35 h35=>?_) (fun hb35 h35=>?_)
      ·
       refine w_sr<|o_p r (p_fa tf45x5 r)<|o_p r (p_load (v:=aI) tv3 r r r) ?_
       obtain ⟨x36,hx36,h37⟩:=bind_s h35
       refine o_v (ov_call (v:=aB) r (w_ref22xin hx36) ⟨lr,lr,lr,trivial⟩ r r r)<|sB r<|o_ek (fr':=[(2,aB)]) r r<|w_ret<|e_blk_r<|e_seq_r ?_
       obtain rfl:=sy h37
       exact e_ret (rs':=[.tmp 2]) r<|r_tmp (v:=aB) r<|r_nil<|fin_gen [] r r r lr st_nil
      ·
       refine w_sr<|o_p r (p_eql r r)<|sB r<|o_ek (fr':=[(1,.box 0 0),(33,aI),(69,aB)]) r r<|w_ch h35 r (fun hb39 h39=>?_) (fun hb39 h39=>?_)
       ·
        refine w_sr<|o_p r (p_fa tf45x6 r)<|o_p r (p_load (v:=aI) tv3 r r r) ?_
        obtain ⟨x40,hx40,h41⟩:=bind_s h39
        refine o_v (ov_call (v:=aB) r (w_ref22xin hx40) ⟨lr,lr,lr,trivial⟩ r r r)<|sB r<|o_ek (fr':=[(2,aB)]) r r<|w_ret<|e_blk_r<|e_seq_r ?_
        obtain rfl:=sy h41
        exact e_ret (rs':=[.tmp 2]) r<|r_tmp (v:=aB) r<|r_nil<|fin_gen [] r r r lr st_nil
       ·
        obtain ⟨x43,hx43,h44⟩:=bind_s h39
        refine w_join (fun j45=>x43=j45) (fun (j45:Bool)=>([(1,.box 0 0),(33,.c (.int .i64 p0e.Kind)),(74,.c (.bool j45))]:Fr)) (fun (j45:Bool)=>([[.c (.int .i64 p0e.ID),.c (.int .i64 p0e.Kind),.c (.int .i64 p0e.Time),.c (.int .i64 p0e.Seq),.c (.int .i64 p0e.Ref),.c (.int .i64 p0e.N),.c (.int .i64 p0e.Code),.c (.str p0e.Name),.c (.str p0e.Key),.c (.int .i64 p0e.Data.Kind),.c (.int .i64 p0e.Data.Int),.c (.str p0e.Data.Text),.c (PV.ls 5 rowApiValue p0e.Data.Items),.c (PV.ls 1 rowS p0e.Data.Keys),.c (.str p0e.Opts.Queue),.c (.int .i64 p0e.Opts.ToStart),.c (.int .i64 p0e.Opts.ToClose),.c (.int .i64 p0e.Opts.Total),.c (.int .i64 p0e.Opts.Beat),.c (.int .i64 p0e.Opts.First),.c (.int .i64 p0e.Opts.Coef),.c (.int .i64 p0e.Opts.Most),.c (.int .i64 p0e.Opts.Attempts),.c (PV.ls 1 rowS p0e.Opts.Fatal)]]:St)) ?_ ?_
        ·
         refine w_sr<|o_p r (p_eql r r)<|sB r<|o_ek (fr':=[(1,.box 0 0),(33,aI),(74,aB)]) r r<|w_ch hx43 r (fun hb46 h46=>?_) (fun hb46 h46=>?_)
         ·
          exact w_skip<|e_j _ (sy h46) (w_weak [] 1 r r r r ⟨lr,lr,lr,trivial⟩ (st_r r st_nil))
         ·
          refine w_sr<|o_p r (p_eql r r)<|sB r<|o_ek (fr':=[(1,.box 0 0),(33,aI),(74,aB)]) r r<|w_ch h46 r (fun hb47 h47=>?_) (fun hb47 h47=>?_)
          ·
           exact w_skip<|e_j _ (sy h47) (w_weak [] 1 r r r r ⟨lr,lr,lr,trivial⟩ (st_r r st_nil))
          ·
           exact w_region<|o_p r (p_eql r r)<|sB r<|o_end (fr':=[(1,.box 0 0),(33,aI),(74,aB)]) r<|e_j _ (sy h47) (w_weak [] 1 r r r r ⟨lr,lr,lr,trivial⟩ (st_r r st_nil))
        ·
         intro j45 hj48
         subst hj48
         refine w_ch h44 r (fun hb49 h49=>?_) (fun hb49 h49=>?_)
         ·
          refine w_sr<|o_p r (p_fa tf45x7 r)<|o_p r (p_load (v:=aS) tv9 r r r)<|o_p r (p_lens ti9 r)<|o_p r (p_leq r r)<|sB r<|o_ek (fr':=[(2,aB)]) r r<|w_ret<|e_blk_r<|e_seq_r ?_
          obtain rfl:=sy h49
          exact e_ret (rs':=[.tmp 2]) r<|r_tmp (v:=aB) r<|r_nil<|fin_gen [] r r r lr st_nil
         ·
          refine w_sr<|o_p r (p_eql r r)<|sB r<|o_ek (fr':=[(1,.box 0 0),(33,aI),(82,aB)]) r r<|w_ch h49 r (fun hb51 h51=>?_) (fun hb51 h51=>?_)
          ·
           refine w_sr<|o_p r (p_fa tf45x7 r)<|o_p r (p_load (v:=aS) tv9 r r r) ?_
           obtain ⟨x52,hx52,h53⟩:=bind_s h51
           refine o_v (ov_call (v:=aB) r (w_ref06xRight hx52) ⟨lr,trivial⟩ r r r)<|mB r<|og r r r (fun hc=>(p_fa tf45x8 r))<|og r r r (fun hc=>(p_load (v:=aS) tv9 (gx r hc) r r)) ?_
           obtain ⟨x54,hx54,h55⟩:=bind_s h53
           refine o_g r r (fun hc=>ov_call (v:=aB) r (w_ref22xIdent (gd_some hx54 hc)) ⟨(le_gv (gx r hc) lr),trivial⟩ (ok_eq (by repeat (first | exact ok_nil | refine ok_cons r ?_ | refine ok_cons (dgv r) ?_ | refine ok_cons dar ?_))) r r) ?_
           refine o_p r (p_picky r r r (fun e=>keq e))<|sB r<|o_ek (fr':=[(2,aB)]) r r<|w_ret<|e_blk_r<|e_seq_r ?_
           obtain rfl:=sy h55
           exact e_ret (rs':=[.tmp 2]) r<|r_tmp (v:=aB) r<|r_nil<|fin_gen [] r r r lr st_nil
          ·
           refine w_sr<|o_p r (p_eql r r)<|sB r<|o_ek (fr':=[(1,.box 0 0),(33,aI),(92,aB)]) r r<|w_ch h51 r (fun hb57 h57=>?_) (fun hb57 h57=>?_)
           ·
            refine w_sr<|o_p r (p_fa tf45x8 r)<|o_p r (p_load (v:=aS) tv9 r r r) ?_
            obtain ⟨x58,hx58,h59⟩:=bind_s h57
            refine o_v (ov_call (v:=.tup [aI,aB]) r (w_ref06xNumber hx58) ⟨lr,trivial⟩ r r r)<|mV (v:=.tup [aI,aB]) r<|o_p r (p_ex (v:=aI) r r)<|o_p r (p_ex (v:=aB) r r)<|sI r<|sB r<|o_ek (fr':=[(4,aB)]) r r<|w_sr<|mB r<|sB r<|o_ek (fr':=[(2,aB)]) r r<|w_ret ?_
            refine e_blk_r<|e_seq_r ?_
            obtain rfl:=sy h59
            exact e_ret (rs':=[.tmp 2]) r<|r_tmp (v:=aB) r<|r_nil<|fin_gen [] r r r lr st_nil
           ·
            refine w_sr<|o_p r (p_eql r r)<|sB r<|o_ek (fr':=[(1,.box 0 0),(33,aI),(101,aB)]) r r<|w_ch h57 r (fun hb61 h61=>?_) (fun hb61 h61=>?_)
            ·
             refine w_sr<|o_p r (p_fa tf45x8 r)<|o_p r (p_load (v:=aS) tv9 r r r) ?_
             obtain ⟨x62,hx62,h63⟩:=bind_s h61
             refine o_v (ov_call (v:=aB) r (w_ref22xIdent hx62) ⟨lr,trivial⟩ r r r)<|sB r<|o_ek (fr':=[(2,aB)]) r r<|w_ret<|e_blk_r<|e_seq_r ?_
             obtain rfl:=sy h63
             exact e_ret (rs':=[.tmp 2]) r<|r_tmp (v:=aB) r<|r_nil<|fin_gen [] r r r lr st_nil
            ·
             refine w_sr<|o_p r (p_eql r r)<|sB r<|o_ek (fr':=[(1,.box 0 0),(106,aB)]) r r<|w_ch h61 r (fun hb65 h65=>?_) (fun hb65 h65=>?_)
             ·
              refine w_sr<|o_p r (p_fa tf45x7 r)<|o_p r (p_load (v:=aS) tv9 r r r)<|o_p r (p_lens ti9 r)<|o_p r (p_leq r r)<|sB r<|o_ek (fr':=[(2,aB)]) r r<|w_ret<|e_blk_r<|e_seq_r ?_
              obtain rfl:=sy h65
              exact e_ret (rs':=[.tmp 2]) r<|r_tmp (v:=aB) r<|r_nil<|fin_gen [] r r r lr st_nil
             ·
              refine w_skip<|e_blk_n<|e_kw<|w_sr<|sB r<|o_ek (fr':=[(2,aB)]) r r<|w_ret ?_
              obtain rfl:=sy h65
              exact e_ret (rs':=[.tmp 2]) r<|r_tmp (v:=aB) r<|r_nil<|fin_gen [] r r r lr st_nil
noncomputable def ref22xStatus (p0kind:Int):Option (Int × Bool) :=
 cond (decide (p0kind=(30:Int))) (some ((1:Int),true)) (cond (decide (p0kind=(31:Int))) (some ((2:Int),true)) (cond (decide (p0kind=(32:Int))) (some ((3:Int),true)) (cond (decide (p0kind=(33:Int))) (some ((4:Int),true)) (cond (decide (p0kind=(34:Int))) (some ((5:Int),true)) (cond (decide (p0kind=(35:Int))) (some ((6:Int),true)) (some ((0:Int),false)))))))
theorem w_ref22xStatus {p0kind:Int}{res:(Int × Bool)} (h:ref22xStatus p0kind=some res):ACalls Tryz.prog 70 [.c (.int .i64 p0kind)] [] (.tup [.c (.int .i64 res.1),.c (.bool res.2)]) []:=by
 unfold ref22xStatus at h
 refine acalls (fn:=Tryz.f70) [0,2,3,4,5,7,9,11,13,15] (by kernel_rfl) Tryz.func70 r (by kernel_rfl) (by kernel_rfl)<|w_sr<|sI r<|sB r<|o_ek (fr':=[(0,aI)]) r r<|w_seqw<|w_sr<|mI r<|o_ek (fr':=[(4,aI)]) r r<|w_block<|w_seqw ?_
 refine w_region<|o_p r (p_eql r r)<|sB r<|o_ek (fr':=[(4,aI),(5,aB)]) r r<|w_ch h r (fun hb1 h1=>?_) (fun hb1 h1=>?_)
 ·
  refine w_sr<|sI r<|sB r<|o_ek (fr':=[(2,aI),(3,aB)]) r r<|w_ret<|e_blk_r<|e_seq_r ?_
  obtain rfl:=sy h1
  exact e_ret (rs':=[.tmp 2,.tmp 3]) r<|r_tmp (v:=aI) r<|r_tmp (v:=aB) r<|r_nil<|fin_gen [] r r r (le_tupp r ⟨lr,lr,trivial⟩) st_nil
 ·
  refine w_sr<|o_p r (p_eql r r)<|sB r<|o_ek (fr':=[(4,aI),(7,aB)]) r r<|w_ch h1 r (fun hb3 h3=>?_) (fun hb3 h3=>?_)
  ·
   refine w_sr<|sI r<|sB r<|o_ek (fr':=[(2,aI),(3,aB)]) r r<|w_ret<|e_blk_r<|e_seq_r ?_
   obtain rfl:=sy h3
   exact e_ret (rs':=[.tmp 2,.tmp 3]) r<|r_tmp (v:=aI) r<|r_tmp (v:=aB) r<|r_nil<|fin_gen [] r r r (le_tupp r ⟨lr,lr,trivial⟩) st_nil
  ·
   refine w_sr<|o_p r (p_eql r r)<|sB r<|o_ek (fr':=[(4,aI),(9,aB)]) r r<|w_ch h3 r (fun hb5 h5=>?_) (fun hb5 h5=>?_)
   ·
    refine w_sr<|sI r<|sB r<|o_ek (fr':=[(2,aI),(3,aB)]) r r<|w_ret<|e_blk_r<|e_seq_r ?_
    obtain rfl:=sy h5
    exact e_ret (rs':=[.tmp 2,.tmp 3]) r<|r_tmp (v:=aI) r<|r_tmp (v:=aB) r<|r_nil<|fin_gen [] r r r (le_tupp r ⟨lr,lr,trivial⟩) st_nil
   ·
    refine w_sr<|o_p r (p_eql r r)<|sB r<|o_ek (fr':=[(4,aI),(11,aB)]) r r<|w_ch h5 r (fun hb7 h7=>?_) (fun hb7 h7=>?_)
    ·
     refine w_sr<|sI r<|sB r<|o_ek (fr':=[(2,aI),(3,aB)]) r r<|w_ret<|e_blk_r<|e_seq_r ?_
     obtain rfl:=sy h7
     exact e_ret (rs':=[.tmp 2,.tmp 3]) r<|r_tmp (v:=aI) r<|r_tmp (v:=aB) r<|r_nil<|fin_gen [] r r r (le_tupp r ⟨lr,lr,trivial⟩) st_nil
    ·
     refine w_sr<|o_p r (p_eql r r)<|sB r<|o_ek (fr':=[(4,aI),(13,aB)]) r r<|w_ch h7 r (fun hb9 h9=>?_) (fun hb9 h9=>?_)
     ·
      refine w_sr<|sI r<|sB r<|o_ek (fr':=[(2,aI),(3,aB)]) r r<|w_ret<|e_blk_r<|e_seq_r ?_
      obtain rfl:=sy h9
      exact e_ret (rs':=[.tmp 2,.tmp 3]) r<|r_tmp (v:=aI) r<|r_tmp (v:=aB) r<|r_nil<|fin_gen [] r r r (le_tupp r ⟨lr,lr,trivial⟩) st_nil
     ·
      refine w_sr<|o_p r (p_eql r r)<|sB r<|o_ek (fr':=[(15,aB)]) r r<|w_ch h9 r (fun hb11 h11=>?_) (fun hb11 h11=>?_)
      ·
       refine w_sr<|sI r<|sB r<|o_ek (fr':=[(2,aI),(3,aB)]) r r<|w_ret<|e_blk_r<|e_seq_r ?_
       obtain rfl:=sy h11
       exact e_ret (rs':=[.tmp 2,.tmp 3]) r<|r_tmp (v:=aI) r<|r_tmp (v:=aB) r<|r_nil<|fin_gen [] r r r (le_tupp r ⟨lr,lr,trivial⟩) st_nil
      ·
       refine w_skip<|e_blk_n<|e_kw<|w_sr<|sI r<|sB r<|o_ek (fr':=[(2,aI),(3,aB)]) r r<|w_ret ?_
       obtain rfl:=sy h11
       exact e_ret (rs':=[.tmp 2,.tmp 3]) r<|r_tmp (v:=aI) r<|r_tmp (v:=aB) r<|r_nil<|fin_gen [] r r r (le_tupp r ⟨lr,lr,trivial⟩) st_nil
noncomputable def ref22xCloses (p0kind:Int):Option Bool :=
 (ref22xStatus p0kind).bind fun x1=>some x1.2
theorem w_ref22xCloses {p0kind:Int}{res:Bool} (h:ref22xCloses p0kind=some res):ACalls Tryz.prog 46 [.c (.int .i64 p0kind)] [] (.c (.bool res)) []:=by
 unfold ref22xCloses at h
 refine acalls (fn:=Tryz.f46) [0,2,4] (by kernel_rfl) Tryz.func46 r (by kernel_rfl) (by kernel_rfl)<|w_sr<|sB r<|o_ek (fr':=[(0,aI)]) r r<|w_sr<|mI r ?_
 obtain ⟨x1,hx1,h2⟩:=bind_s h
 refine o_v (ov_call (v:=.tup [aI,aB]) r (w_ref22xStatus hx1) ⟨lr,trivial⟩ r r r)<|mV (v:=.tup [aI,aB]) r<|o_p r (p_ex (v:=aI) r r)<|o_p r (p_ex (v:=aB) r r)<|sI r<|sB r<|o_ek (fr':=[(4,aB)]) r r<|w_sr<|mB r<|sB r<|o_ek (fr':=[(2,aB)]) r r<|w_ret ?_
 obtain rfl:=sy h2
 exact e_ret (rs':=[.tmp 2]) r<|r_tmp (v:=aB) r<|r_nil<|fin_gen [] r r r lr st_nil
noncomputable def ref24xclosesActivity (p0kind:Int):Option Bool :=
 some (cond (cond (cond (decide (p0kind=(9:Int))) true (decide (p0kind=(10:Int)))) true (decide (p0kind=(11:Int)))) true (decide (p0kind=(13:Int))))
theorem w_ref24xclosesActivity {p0kind:Int}{res:Bool} (h:ref24xclosesActivity p0kind=some res):ACalls Tryz.prog 47 [.c (.int .i64 p0kind)] [] (.c (.bool res)) []:=by
 unfold ref24xclosesActivity at h
 refine acalls (fn:=Tryz.f47) [0,2] (by kernel_rfl) Tryz.func47 r (by kernel_rfl) (by kernel_rfl)<|w_sr<|sB r<|o_ek (fr':=[(0,aI)]) r r<|w_sr<|mI r<|o_p r (p_eql r r)<|mB r<|og r r r (fun hc=>(p_move (v:=aI) r))<|og r r r (fun hc=>(p_eql (gx r hc) r))<|o_p r (p_pickz r r r (fun e=>keq e)) ?_
 refine mB r<|og r r r (fun hc=>(p_move (v:=aI) r))<|og r r r (fun hc=>(p_eql (gx r hc) r))<|o_p r (p_pickz r r r (fun e=>keq e))<|mB r<|og r r r (fun hc=>(p_move (v:=aI) r))<|og r r r (fun hc=>(p_eql (gx r hc) r))<|o_p r (p_pickz r r r (fun e=>keq e))<|sB r<|o_ek (fr':=[(2,aB)]) r r<|w_ret ?_
 obtain rfl:=sy h
 exact e_ret (rs':=[.tmp 2]) r<|r_tmp (v:=aB) r<|r_nil<|fin_gen [] r r r lr st_nil
noncomputable def ref24xends (p0kind:Int):Option Bool :=
 some (cond (cond (decide (p0kind=(4:Int))) true (decide (p0kind=(5:Int)))) true (decide (p0kind=(6:Int))))
theorem w_ref24xends {p0kind:Int}{res:Bool} (h:ref24xends p0kind=some res):ACalls Tryz.prog 48 [.c (.int .i64 p0kind)] [] (.c (.bool res)) []:=by
 unfold ref24xends at h
 refine acalls (fn:=Tryz.f48) [0,2] (by kernel_rfl) Tryz.func48 r (by kernel_rfl) (by kernel_rfl)<|w_sr<|sB r<|o_ek (fr':=[(0,aI)]) r r<|w_sr<|mI r<|o_p r (p_eql r r)<|mB r<|og r r r (fun hc=>(p_move (v:=aI) r))<|og r r r (fun hc=>(p_eql (gx r hc) r))<|o_p r (p_pickz r r r (fun e=>keq e)) ?_
 refine mB r<|og r r r (fun hc=>(p_move (v:=aI) r))<|og r r r (fun hc=>(p_eql (gx r hc) r))<|o_p r (p_pickz r r r (fun e=>keq e))<|sB r<|o_ek (fr':=[(2,aB)]) r r<|w_ret ?_
 obtain rfl:=sy h
 exact e_ret (rs':=[.tmp 2]) r<|r_tmp (v:=aB) r<|r_nil<|fin_gen [] r r r lr st_nil
noncomputable def ref24xlast_l1 (p0l:(List ApiEvent)) (s4:Int):Option (Step Int (Fl Int Unit)) :=
 cond (decide ((0:Int)≤s4)) ((idx p0l s4).bind fun x6=>(ref24xends x6.Kind).bind fun x8=>(gd (x8==false) (idx p0l s4)).bind fun x10=>(gd ((cond x8 true (decide (x10.Kind=(2:Int))))==false) (idx p0l s4)).bind fun x12=>cond (cond (cond x8 true (decide (x10.Kind=(2:Int)))) true (decide (x12.Kind=(3:Int)))) (some (Step.out (Fl.done s4))) (some (Step.next (IntKind.wrap .i64 (s4 - (1:Int)))))) (some (Step.out (Fl.go ())))
noncomputable def ref24xlast (p0l:(List ApiEvent)) (p1i:Int):Option Int :=
 ((loopO (ref24xlast_l1 p0l) ((IntKind.wrap .i64 (p1i - (1:Int))))):Option (Fl Int Unit)).bind fun x1=>Fl.next x1 (fun j3=>(some (-1:Int)))
theorem w_ref24xlast {p0l:(List ApiEvent)}{p1i:Int}{res:Int} (h:ref24xlast p0l p1i=some res):ACalls Tryz.prog 49 [.c (PV.ls 24 rowApiEvent p0l),.c (.int .i64 p1i)] [] (.c (.int .i64 res)) []:=by
 unfold ref24xlast at h
 refine acalls (fn:=Tryz.f49) [0,1,4,5,9,33] (by kernel_rfl) Tryz.func49 r (by kernel_rfl) (by kernel_rfl)<|w_sr<|sI r<|o_ek (fr':=[(0,aL),(1,aI)]) r r<|w_seqw<|w_sr<|mI r<|o_p r (p_sub r r)<|sI r<|o_ek (fr':=[(0,aL),(5,aI)]) r r ?_
 obtain ⟨x1,hx1,h2⟩:=bind_s h
 refine w_jtail cl_kw (fun j3=>x1=Fl.go j3) (fun (j3:Unit)=>([]:Fr)) (fun (j3:Unit)=>([]:St)) ?_ ?_
 ·
  refine w_block<|w_loopo _ (fun (s4:Int)=>([(0,.c (PV.ls 24 rowApiEvent p0l)),(5,.c (.int .i64 s4))]:Fr)) (fun (s4:Int)=>([]:St)) hx1 (w_weak [] 0 r r r r ⟨lr,lr,trivial⟩ st_nil) ?_
  intro s4 st4 hs4 ho4
  unfold ref24xlast_l1 at hs4
  refine w_seqw<|w_sr<|mI r<|o_p r (p_geq r r)<|o_ek (fr':=[(0,aL),(5,aI),(9,aB)]) r r<|w_ch hs4 r (fun hb5 h5=>?_) (fun hb5 h5=>?_)
  ·
   refine w_skip<|e_kw<|w_seqw<|w_block<|w_sr<|mL r<|mI r ?_
   obtain ⟨x6,hx6,h7⟩:=bind_s h5
   refine o_p r (p_ia (cs:=[PV.int _ _,PV.int _ _,PV.int _ _,PV.int _ _,PV.int _ _,PV.int _ _,PV.int _ _,PV.str _,PV.str _,PV.int _ _,PV.int _ _,PV.str _,PV.ls _ _ _,PV.ls _ _ _,PV.str _,PV.int _ _,PV.int _ _,PV.int _ _,PV.int _ _,PV.int _ _,PV.int _ _,PV.int _ _,PV.int _ _,PV.ls _ _ _]) ts22 (isl_c r) r hx6 r)<|o_p r (p_fae tf45x1 r)<|o_p r (p_loade (p:=PV.int _ _) tv3 r r) ?_
   obtain ⟨x8,hx8,h9⟩:=bind_s h7
   refine o_v (ov_call (v:=aB) r (w_ref24xends hx8) ⟨lr,trivial⟩ r r r)<|mB r<|og r r r (fun hc=>(p_move (v:=aL) r))<|og r r r (fun hc=>(p_move (v:=aI) r)) ?_
   obtain ⟨x10,hx10,h11⟩:=bind_s h9
   refine og r r r (fun hc=>(p_ia (cs:=[PV.int _ _,PV.int _ _,PV.int _ _,PV.int _ _,PV.int _ _,PV.int _ _,PV.int _ _,PV.str _,PV.str _,PV.int _ _,PV.int _ _,PV.str _,PV.ls _ _ _,PV.ls _ _ _,PV.str _,PV.int _ _,PV.int _ _,PV.int _ _,PV.int _ _,PV.int _ _,PV.int _ _,PV.int _ _,PV.int _ _,PV.ls _ _ _]) ts22 (isl_c (gx r hc)) (gx r hc) (gd_some hx10 hc) r))<|og r r r (fun hc=>(p_fae tf45x1 (gx r hc)))<|og r r r (fun hc=>(p_loade (p:=PV.int _ _) tv3 (gx r hc) r))<|og r r r (fun hc=>(p_eql (gx r hc) r))<|o_p r (p_pickz r r r (fun e=>keq e))<|mB r<|og r r r (fun hc=>(p_move (v:=aL) r))<|og r r r (fun hc=>(p_move (v:=aI) r)) ?_
   obtain ⟨x12,hx12,h13⟩:=bind_s h11
   refine og r r r (fun hc=>(p_ia (cs:=[PV.int _ _,PV.int _ _,PV.int _ _,PV.int _ _,PV.int _ _,PV.int _ _,PV.int _ _,PV.str _,PV.str _,PV.int _ _,PV.int _ _,PV.str _,PV.ls _ _ _,PV.ls _ _ _,PV.str _,PV.int _ _,PV.int _ _,PV.int _ _,PV.int _ _,PV.int _ _,PV.int _ _,PV.int _ _,PV.int _ _,PV.ls _ _ _]) ts22 (isl_c (gx r hc)) (gx r hc) (gd_some hx12 hc) r))<|og r r r (fun hc=>(p_fae tf45x1 (gx r hc)))<|og r r r (fun hc=>(p_loade (p:=PV.int _ _) tv3 (gx r hc) r))<|og r r r (fun hc=>(p_eql (gx r hc) r))<|o_p r (p_pickz r r r (fun e=>keq e))<|o_ek (fr':=[(0,aL),(5,aI),(33,aB)]) r r<|w_ch h13 r (fun hb14 h14=>?_) (fun hb14 h14=>?_)
   ·
    refine w_sr<|mI r<|sI r<|o_ek (fr':=[(4,aI)]) r r<|w_ret<|e_blk_r<|e_seq_r<|e_seq_r<|e_blk_r<|e_seq_r<|e_seq_r ?_
    have h15:=un_out h14 ho4
    have h16:=un_done h15 h2
    obtain rfl:=sy h16
    exact e_ret (rs':=[.tmp 4]) r<|r_tmp (v:=aI) r<|r_nil<|fin_gen [] r r r lr st_nil
   ·
    exact w_skip<|e_blk_n<|e_kw<|w_region<|mI r<|o_p r (p_sub r r)<|sI r<|o_end (fr':=[(0,aL),(5,aI),(33,aB)]) r<|e_l _ (sy h14) (w_weak [] 0 r r r r ⟨lr,lr,trivial⟩ st_nil)
  ·
   refine w_exit<|e_seq_x<|e_seq_x<|e_blk_h ?_
   have h18:=un_out h5 ho4
   exact e_j _ (sy h18) (w_weak [] 0 r r r r trivial st_nil)
 ·
  intro j3 hj19
  have h19:=un_go hj19 h2
  refine e_kw<|w_sr<|sI r<|o_ek (fr':=[(4,aI)]) r r<|w_ret ?_
  obtain rfl:=sy h19
  exact e_ret (rs':=[.tmp 4]) r<|r_tmp (v:=aI) r<|r_nil<|fin_gen [] r r r lr st_nil
noncomputable def ref24xallowed (p0l:(List ApiEvent)) (p1i:Int):Option Bool :=
 (idx p0l p1i).bind fun x1=>cond (decide (p1i=(0:Int))) (some (decide (x1.Kind=(1:Int)))) (cond (cond (decide (x1.Kind=(1:Int))) true (cond (decide (p1i=(1:Int))) (!decide (x1.Kind=(2:Int))) false)) (some false) ((idx p0l (IntKind.wrap .i64 (p1i - (1:Int)))).bind fun x7=>(ref22xCloses x7.Kind).bind fun x9=>cond x9 (some false) (cond (decide (x7.Kind=(8:Int))) ((ref24xclosesActivity x1.Kind).bind fun x14=>some (cond x14 (decide (x1.Seq=x7.Seq)) false)) (cond (decide (x7.Kind=(3:Int))) ((ref24xends x1.Kind).bind fun x18=>some (cond (cond (cond x18 (decide (x1.Ref=x7.ID)) false) true (decide (x1.Kind=(33:Int)))) true (decide (x1.Kind=(34:Int))))) ((ref24xlast p0l p1i).bind fun x21=>cond (decide (x1.Kind=(2:Int))) ((gd ((decide (x21<(0:Int)))==false) (idx p0l x21)).bind fun x24=>(gd ((decide (x21<(0:Int)))==false) (ref24xends x24.Kind)).bind fun x26=>some (cond (decide (x21<(0:Int))) true x26)) (cond (decide (x1.Kind=(3:Int))) ((gd ((decide ((0:Int)≤x21))==true) (idx p0l x21)).bind fun x30=>(gd ((cond (decide ((0:Int)≤x21)) (decide (x30.Kind=(2:Int))) false)==true) (idx p0l x21)).bind fun x32=>some (cond (cond (decide ((0:Int)≤x21)) (decide (x30.Kind=(2:Int))) false) (decide (x1.Ref=x32.ID)) false)) ((ref22xIsCommand x1.Kind).bind fun x35=>cond x35 ((gd ((decide (x7.Kind=(4:Int)))==false) (ref22xIsCommand x7.Kind)).bind fun x38=>some (cond (decide (x7.Kind=(4:Int))) true x38)) ((ref24xends x1.Kind).bind fun x41=>some (!x41)))))))))
theorem w_ref24xallowed {p0l:(List ApiEvent)}{p1i:Int}{res:Bool} (h:ref24xallowed p0l p1i=some res):ACalls Tryz.prog 24 [.c (PV.ls 24 rowApiEvent p0l),.c (.int .i64 p1i)] [] (.c (.bool res)) []:=by
 unfold ref24xallowed at h
 refine acalls (fn:=Tryz.f24) [0,1,4,5,6,7,13,28,36,39,52,78,91,114] (by kernel_rfl) Tryz.func24 r (by kernel_rfl) (by kernel_rfl)<|w_sr<|sB r<|o_ek (fr':=[(0,aL),(1,aI)]) r r<|w_sr<|mL r<|mI r ?_
 obtain ⟨x1,hx1,h2⟩:=bind_s h
 refine o_p r (p_ia (cs:=[PV.int _ _,PV.int _ _,PV.int _ _,PV.int _ _,PV.int _ _,PV.int _ _,PV.int _ _,PV.str _,PV.str _,PV.int _ _,PV.int _ _,PV.str _,PV.ls _ _ _,PV.ls _ _ _,PV.str _,PV.int _ _,PV.int _ _,PV.int _ _,PV.int _ _,PV.int _ _,PV.int _ _,PV.int _ _,PV.int _ _,PV.ls _ _ _]) ts22 (isl_c r) r hx1 r)<|o_p r (p_loades (us:=[PV.int _ _,PV.int _ _,PV.int _ _,PV.int _ _,PV.int _ _,PV.int _ _,PV.int _ _,PV.str _,PV.str _,PV.int _ _,PV.int _ _,PV.str _,PV.ls _ _ _,PV.ls _ _ _,PV.str _,PV.int _ _,PV.int _ _,PV.int _ _,PV.int _ _,PV.int _ _,PV.int _ _,PV.int _ _,PV.int _ _,PV.ls _ _ _]) tv45 r r r)<|o_alloc (n:=0) (cs:=[aI,aI,aI,aI,aI,aI,aI,aS,aS,aI,aI,aS,AV.nil,AV.nil,aS,aI,aI,aI,aI,aI,aI,aI,aI,AV.nil]) (σ':=[[aI,aI,aI,aI,aI,aI,aI,aS,aS,aI,aI,aS,AV.nil,AV.nil,aS,aI,aI,aI,aI,aI,aI,aI,aI,AV.nil]]) tz45 r r r<|o_store (v:=.agg aIIIIIIISSIISLLSIIIIIIIIL) (us:=aIIIIIIISSIISLLSIIIIIIIIL) (cs:=[aI,aI,aI,aI,aI,aI,aI,aS,aS,aI,aI,aS,AV.nil,AV.nil,aS,aI,aI,aI,aI,aI,aI,aI,aI,AV.nil]) (σ':=[aIIIIIIISSIISLLSIIIIIIIIL]) r tv45 r r r r r r r r<|o_ek (fr':=[(0,aL),(1,aI),(5,.box 0 0)]) r r<|w_seqw<|w_sr<|mI r<|o_p r (p_eql r r)<|o_ek (fr':=[(0,aL),(1,aI),(5,.box 0 0),(13,aB)]) r r<|w_ch h2 r (fun hb3 h3=>?_) (fun hb3 h3=>?_)
 ·
  refine w_sr<|o_p r (p_fa tf45x1 r)<|o_p r (p_load (v:=aI) tv3 r r r)<|o_p r (p_eql r r)<|sB r<|o_ek (fr':=[(4,aB)]) r r<|w_ret<|e_seq_r ?_
  obtain rfl:=sy h3
  exact e_ret (rs':=[.tmp 4]) r<|r_tmp (v:=aB) r<|r_nil<|fin_gen [] r r r lr st_nil
 ·
  refine w_skip<|e_kw<|w_seqw<|w_sr<|o_p r (p_fa tf45x1 r)<|o_p r (p_load (v:=aI) tv3 r r r)<|o_p r (p_eql r r)<|mB r<|og r r r (fun hc=>(p_move (v:=aI) r))<|og r r r (fun hc=>(p_eql (gx r hc) r))<|og r r r (fun hc=>(p_move (v:=aB) (gx r hc)))<|o_gg r r (fun hc=>ov_p r (p_fa tf45x1 r)) ?_
  refine o_gg r r (fun hc=>ov_p r (p_load (v:=aI) tv3 (gx r hc) r r))<|o_gg r r (fun hc=>ov_p r (p_neq (gx r hc) r))<|og r r r (fun hc=>(p_picky (gx r hc) r r (fun e=>band hc (keq e))))<|o_p r (p_pickz r r r (fun e=>keq e))<|o_ek (fr':=[(0,aL),(1,aI),(5,.box 0 0),(28,aB)]) r r<|w_ch h3 r (fun hb5 h5=>?_) (fun hb5 h5=>?_)
  ·
   refine w_sr<|sB r<|o_ek (fr':=[(4,aB)]) r r<|w_ret<|e_seq_r ?_
   obtain rfl:=sy h5
   exact e_ret (rs':=[.tmp 4]) r<|r_tmp (v:=aB) r<|r_nil<|fin_gen [] r r r lr st_nil
  ·
   refine w_skip<|e_kw<|w_sr<|mL r<|mI r<|o_p r (p_sub r r) ?_
   obtain ⟨x7,hx7,h8⟩:=bind_s h5
   refine o_p r (p_ia (cs:=[PV.int _ _,PV.int _ _,PV.int _ _,PV.int _ _,PV.int _ _,PV.int _ _,PV.int _ _,PV.str _,PV.str _,PV.int _ _,PV.int _ _,PV.str _,PV.ls _ _ _,PV.ls _ _ _,PV.str _,PV.int _ _,PV.int _ _,PV.int _ _,PV.int _ _,PV.int _ _,PV.int _ _,PV.int _ _,PV.int _ _,PV.ls _ _ _]) ts22 (isl_c r) r hx7 r)<|o_p r (p_loades (us:=[PV.int _ _,PV.int _ _,PV.int _ _,PV.int _ _,PV.int _ _,PV.int _ _,PV.int _ _,PV.str _,PV.str _,PV.int _ _,PV.int _ _,PV.str _,PV.ls _ _ _,PV.ls _ _ _,PV.str _,PV.int _ _,PV.int _ _,PV.int _ _,PV.int _ _,PV.int _ _,PV.int _ _,PV.int _ _,PV.int _ _,PV.ls _ _ _]) tv45 r r r)<|o_alloc (n:=1) (cs:=[aI,aI,aI,aI,aI,aI,aI,aS,aS,aI,aI,aS,AV.nil,AV.nil,aS,aI,aI,aI,aI,aI,aI,aI,aI,AV.nil]) (σ':=[aIIIIIIISSIISLLSIIIIIIIIL,[aI,aI,aI,aI,aI,aI,aI,aS,aS,aI,aI,aS,AV.nil,AV.nil,aS,aI,aI,aI,aI,aI,aI,aI,aI,AV.nil]]) tz45 r r r<|o_store (v:=.agg aIIIIIIISSIISLLSIIIIIIIIL) (us:=aIIIIIIISSIISLLSIIIIIIIIL) (cs:=[aI,aI,aI,aI,aI,aI,aI,aS,aS,aI,aI,aS,AV.nil,AV.nil,aS,aI,aI,aI,aI,aI,aI,aI,aI,AV.nil]) (σ':=[aIIIIIIISSIISLLSIIIIIIIIL,aIIIIIIISSIISLLSIIIIIIIIL]) r tv45 r r r r r r r r<|o_ek (fr':=[(0,aL),(1,aI),(5,.box 0 0),(6,.box 1 0)]) r r<|w_seqw<|w_sr<|o_p r (p_fa tf45x1 r)<|o_p r (p_load (v:=aI) tv3 r r r) ?_
   obtain ⟨x9,hx9,h10⟩:=bind_s h8
   refine o_v (ov_call (v:=aB) r (w_ref22xCloses hx9) ⟨lr,trivial⟩ r r r)<|o_ek (fr':=[(0,aL),(1,aI),(5,.box 0 0),(6,.box 1 0),(36,aB)]) r r<|w_ch h10 r (fun hb11 h11=>?_) (fun hb11 h11=>?_)
   ·
    refine w_sr<|sB r<|o_ek (fr':=[(4,aB)]) r r<|w_ret<|e_seq_r ?_
    obtain rfl:=sy h11
    exact e_ret (rs':=[.tmp 4]) r<|r_tmp (v:=aB) r<|r_nil<|fin_gen [] r r r lr st_nil
   ·
    refine w_skip<|e_kw<|w_seqw<|w_sr<|o_p r (p_fa tf45x1 r)<|o_p r (p_load (v:=aI) tv3 r r r)<|o_p r (p_eql r r)<|o_ek (fr':=[(0,aL),(1,aI),(5,.box 0 0),(6,.box 1 0),(39,aB)]) r r<|w_ch h11 r (fun hb13 h13=>?_) (fun hb13 h13=>?_)
    ·
     refine w_sr<|o_p r (p_fa tf45x1 r)<|o_p r (p_load (v:=aI) tv3 r r r) ?_
     obtain ⟨x14,hx14,h15⟩:=bind_s h13
     refine o_v (ov_call (v:=aB) r (w_ref24xclosesActivity hx14) ⟨lr,trivial⟩ r r r)<|mB r<|og r r r (fun hc=>(p_fa tf45x3 r))<|og r r r (fun hc=>(p_load (v:=aI) tv3 (gx r hc) r r))<|og r r r (fun hc=>(p_fa tf45x3 r))<|og r r r (fun hc=>(p_load (v:=aI) tv3 (gx r hc) r r))<|og r r r (fun hc=>(p_eql (gx r hc) (gx r hc)))<|o_p r (p_picky r r r (fun e=>keq e))<|sB r<|o_ek (fr':=[(4,aB)]) r r<|w_ret<|e_seq_r ?_
     obtain rfl:=sy h15
     exact e_ret (rs':=[.tmp 4]) r<|r_tmp (v:=aB) r<|r_nil<|fin_gen [] r r r lr st_nil
    ·
     refine w_skip<|e_kw<|w_seqw<|w_sr<|o_p r (p_fa tf45x1 r)<|o_p r (p_load (v:=aI) tv3 r r r)<|o_p r (p_eql r r)<|o_ek (fr':=[(0,aL),(1,aI),(5,.box 0 0),(6,.box 1 0),(52,aB)]) r r<|w_ch h13 r (fun hb17 h17=>?_) (fun hb17 h17=>?_)
     ·
      refine w_sr<|o_p r (p_fa tf45x1 r)<|o_p r (p_load (v:=aI) tv3 r r r) ?_
      obtain ⟨x18,hx18,h19⟩:=bind_s h17
      refine o_v (ov_call (v:=aB) r (w_ref24xends hx18) ⟨lr,trivial⟩ r r r)<|mB r<|og r r r (fun hc=>(p_fa tf45x4 r))<|og r r r (fun hc=>(p_load (v:=aI) tv3 (gx r hc) r r))<|og r r r (fun hc=>(p_fa tf45x0 r))<|og r r r (fun hc=>(p_load (v:=aI) tv3 (gx r hc) r r))<|og r r r (fun hc=>(p_eql (gx r hc) (gx r hc)))<|o_p r (p_picky r r r (fun e=>keq e))<|mB r<|og r r r (fun hc=>(p_fa tf45x1 r))<|og r r r (fun hc=>(p_load (v:=aI) tv3 (gx r hc) r r))<|og r r r (fun hc=>(p_eql (gx r hc) r))<|o_p r (p_pickz r r r (fun e=>keq e)) ?_
      refine mB r<|og r r r (fun hc=>(p_fa tf45x1 r))<|og r r r (fun hc=>(p_load (v:=aI) tv3 (gx r hc) r r))<|og r r r (fun hc=>(p_eql (gx r hc) r))<|o_p r (p_pickz r r r (fun e=>keq e))<|sB r<|o_ek (fr':=[(4,aB)]) r r<|w_ret<|e_seq_r ?_
      obtain rfl:=sy h19
      exact e_ret (rs':=[.tmp 4]) r<|r_tmp (v:=aB) r<|r_nil<|fin_gen [] r r r lr st_nil
     ·
      refine w_skip<|e_kw<|w_sr<|mL r<|mI r ?_
      obtain ⟨x21,hx21,h22⟩:=bind_s h17
      refine o_v (ov_call (v:=aI) r (w_ref24xlast hx21) ⟨lr,lr,trivial⟩ r r r)<|sI r<|o_ek (fr':=[(0,aL),(5,.box 0 0),(6,.box 1 0),(7,aI)]) r r<|w_seqw<|w_sr<|o_p r (p_fa tf45x1 r)<|o_p r (p_load (v:=aI) tv3 r r r)<|o_p r (p_eql r r)<|o_ek (fr':=[(0,aL),(5,.box 0 0),(6,.box 1 0),(7,aI),(78,aB)]) r r<|w_ch h22 r (fun hb23 h23=>?_) (fun hb23 h23=>?_)
      ·
       refine w_sr<|mI r<|o_p r (p_lss r r)<|mB r<|og r r r (fun hc=>(p_move (v:=aL) r))<|og r r r (fun hc=>(p_move (v:=aI) r)) ?_
       obtain ⟨x24,hx24,h25⟩:=bind_s h23
       refine og r r r (fun hc=>(p_ia (cs:=[PV.int _ _,PV.int _ _,PV.int _ _,PV.int _ _,PV.int _ _,PV.int _ _,PV.int _ _,PV.str _,PV.str _,PV.int _ _,PV.int _ _,PV.str _,PV.ls _ _ _,PV.ls _ _ _,PV.str _,PV.int _ _,PV.int _ _,PV.int _ _,PV.int _ _,PV.int _ _,PV.int _ _,PV.int _ _,PV.int _ _,PV.ls _ _ _]) ts22 (isl_c (gx r hc)) (gx r hc) (gd_some hx24 hc) r))<|og r r r (fun hc=>(p_fae tf45x1 (gx r hc)))<|og r r r (fun hc=>(p_loade (p:=PV.int _ _) tv3 (gx r hc) r)) ?_
       obtain ⟨x26,hx26,h27⟩:=bind_s h25
       refine o_g r r (fun hc=>ov_call (v:=aB) r (w_ref24xends (gd_some hx26 hc)) ⟨(le_gv (gx r hc) lr),trivial⟩ (ok_eq (by repeat (first | exact ok_nil | refine ok_cons r ?_ | refine ok_cons (dgv r) ?_ | refine ok_cons dar ?_))) r r) ?_
       refine o_p r (p_pickz r r r (fun e=>keq e))<|sB r<|o_ek (fr':=[(4,aB)]) r r<|w_ret<|e_seq_r ?_
       obtain rfl:=sy h27
       exact e_ret (rs':=[.tmp 4]) r<|r_tmp (v:=aB) r<|r_nil<|fin_gen [] r r r lr st_nil
      ·
       refine w_skip<|e_kw<|w_seqw<|w_sr<|o_p r (p_fa tf45x1 r)<|o_p r (p_load (v:=aI) tv3 r r r)<|o_p r (p_eql r r)<|o_ek (fr':=[(0,aL),(5,.box 0 0),(6,.box 1 0),(7,aI),(91,aB)]) r r<|w_ch h23 r (fun hb29 h29=>?_) (fun hb29 h29=>?_)
       ·
        refine w_seqw<|w_planT [.q 0,.q 1,.q 2,.q 3,.q 4,.q 5,.q 6,.q 7,.q 8,.q 9,.q 10,.q 11,.q 12,.q 13,.q 14,.q 15,.q 16,.q 17,.q 18,.q 19,.n 20 []] [(some 92,[7]),(some 93,[92]),(some 94,[93]),(some 95,[0,94]),(some 96,[7,94]),(some 97,[95,96,94]),(some 98,[97,94]),(some 99,[98,94]),(some 100,[99,94]),(some 101,[94,100]),(some 102,[101]),(some 103,[5,102]),(some 104,[103,102]),(some 105,[0,102]),(some 106,[7,102]),(some 107,[105,106,102]),(some 108,[107,102]),(some 109,[108,102]),(some 110,[104,109,102]),(some 111,[102,110]),(some 4,[111])] [0,1,3,7,7,31,63,127,255,511,1023,2047,4095,2047,2047,26623,59391,124927,262143,524287,1048575] (by kernel_rfl)<|dq r r (p_move (v:=aI) r)<|dq r r (p_geq r r)<|dq r r (p_move (v:=aB) r)<|d_g r r r (fun hc=>qv_p r (p_move (v:=aL) r))<|d_g r r r (fun hc=>qv_p r (p_move (v:=aI) r)) ?_
        obtain ⟨x30,hx30,h31⟩:=bind_s h29
        refine d_g r r r (fun hc=>qv_p r (p_ia (cs:=[PV.int _ _,PV.int _ _,PV.int _ _,PV.int _ _,PV.int _ _,PV.int _ _,PV.int _ _,PV.str _,PV.str _,PV.int _ _,PV.int _ _,PV.str _,PV.ls _ _ _,PV.ls _ _ _,PV.str _,PV.int _ _,PV.int _ _,PV.int _ _,PV.int _ _,PV.int _ _,PV.int _ _,PV.int _ _,PV.int _ _,PV.ls _ _ _]) ts22 (isl_c (gx r hc)) (gx r hc) (gd_some hx30 hc) r))<|d_g r r r (fun hc=>qv_p r (p_fae tf45x1 (gx r hc)))<|d_g r r r (fun hc=>qv_p r (p_loade (p:=PV.int _ _) tv3 (gx r hc) r))<|d_g r r r (fun hc=>qv_p r (p_eql (gx r hc) r))<|dq r r (p_picky r r r (fun e=>keq e))<|dq r r (p_move (v:=aB) r)<|d_g r r r (fun hc=>qv_p r (p_fa tf45x4 r))<|d_g r r r (fun hc=>qv_p r (p_load (v:=aI) tv3 (gx r hc) r r))<|d_g r r r (fun hc=>qv_p r (p_move (v:=aL) r))<|d_g r r r (fun hc=>qv_p r (p_move (v:=aI) r)) ?_
        obtain ⟨x32,hx32,h33⟩:=bind_s h31
        refine d_g r r r (fun hc=>qv_p r (p_ia (cs:=[PV.int _ _,PV.int _ _,PV.int _ _,PV.int _ _,PV.int _ _,PV.int _ _,PV.int _ _,PV.str _,PV.str _,PV.int _ _,PV.int _ _,PV.str _,PV.ls _ _ _,PV.ls _ _ _,PV.str _,PV.int _ _,PV.int _ _,PV.int _ _,PV.int _ _,PV.int _ _,PV.int _ _,PV.int _ _,PV.int _ _,PV.ls _ _ _]) ts22 (isl_c (gx r hc)) (gx r hc) (gd_some hx32 hc) r))<|d_g r r r (fun hc=>qv_p r (p_fae tf45x0 (gx r hc)))<|d_g r r r (fun hc=>qv_p r (p_loade (p:=PV.int _ _) tv3 (gx r hc) r))<|d_g r r r (fun hc=>qv_p r (p_eql (gx r hc) (gx r hc)))<|dq r r (p_picky r r r (fun e=>keq e))<|d_n r ?_ r
        refine sB r<|o_rc<|⟨rc_nil,?_⟩
        refine d_ek (fr':=[(4,aB)]) r r<|w_ret<|e_seq_r ?_
        obtain rfl:=sy h33
        exact e_ret (rs':=[.tmp 4]) r<|r_tmp (v:=aB) r<|r_nil<|fin_gen [] r r r lr st_nil
       ·
        refine w_skip<|e_kw<|w_seqw<|w_sr<|o_p r (p_fa tf45x1 r)<|o_p r (p_load (v:=aI) tv3 r r r) ?_
        obtain ⟨x35,hx35,h36⟩:=bind_s h29
        refine o_v (ov_call (v:=aB) r (w_ref22xIsCommand hx35) ⟨lr,trivial⟩ r r r)<|o_ek (fr':=[(5,.box 0 0),(6,.box 1 0),(114,aB)]) r r<|w_ch h36 r (fun hb37 h37=>?_) (fun hb37 h37=>?_)
        ·
         refine w_sr<|o_p r (p_fa tf45x1 r)<|o_p r (p_load (v:=aI) tv3 r r r)<|o_p r (p_eql r r)<|mB r<|og r r r (fun hc=>(p_fa tf45x1 r))<|og r r r (fun hc=>(p_load (v:=aI) tv3 (gx r hc) r r)) ?_
         obtain ⟨x38,hx38,h39⟩:=bind_s h37
         refine o_g r r (fun hc=>ov_call (v:=aB) r (w_ref22xIsCommand (gd_some hx38 hc)) ⟨(le_gv (gx r hc) lr),trivial⟩ (ok_eq (by repeat (first | exact ok_nil | refine ok_cons r ?_ | refine ok_cons (dgv r) ?_ | refine ok_cons dar ?_))) r r) ?_
         refine o_p r (p_pickz r r r (fun e=>keq e))<|sB r<|o_ek (fr':=[(4,aB)]) r r<|w_ret<|e_seq_r ?_
         obtain rfl:=sy h39
         exact e_ret (rs':=[.tmp 4]) r<|r_tmp (v:=aB) r<|r_nil<|fin_gen [] r r r lr st_nil
        ·
         refine w_skip<|e_kw<|w_sr<|o_p r (p_fa tf45x1 r)<|o_p r (p_load (v:=aI) tv3 r r r) ?_
         obtain ⟨x41,hx41,h42⟩:=bind_s h37
         refine o_v (ov_call (v:=aB) r (w_ref24xends hx41) ⟨lr,trivial⟩ r r r)<|o_p r (p_not r)<|sB r<|o_ek (fr':=[(4,aB)]) r r<|w_ret ?_
         obtain rfl:=sy h42
         exact e_ret (rs':=[.tmp 4]) r<|r_tmp (v:=aB) r<|r_nil<|fin_gen [] r r r lr st_nil
end Go.Proofs.YtmbdbdhdcbdcpaaGreatDoor

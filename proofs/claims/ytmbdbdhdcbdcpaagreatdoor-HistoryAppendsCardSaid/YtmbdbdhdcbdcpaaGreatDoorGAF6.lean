import Derived.Test.YtmbdbdhdcbdcpaaGreatDoorGATy
import Derived.Test.YtmbdbdhdcbdcpaaGreatDoorGAF4
import Derived.Test.YtmbdbdhdcbdcpaaGreatDoorGAF5
namespace Go.Proofs.YtmbdbdhdcbdcpaaGreatDoor
open Go Abs
set_option maxRecDepth 100000
set_option linter.unusedVariables false
set_option linter.unusedSimpArgs false
noncomputable def ref02xShort_l1 (p0v:ApiValue) (s6:Int):Option (Step Int (Fl Bool Unit)) :=
 cond (decide (s6<((p0v.Keys).length:Int))) ((idx p0v.Keys s6).bind fun x8=>cond (decide ((4096:Int)<((x8).length:Int))) (some (Step.out (Fl.done false))) (some (Step.next (IntKind.wrap .i64 (s6+(1:Int)))))) (some (Step.out (Fl.go ())))
noncomputable def ref02xShort_l2 (rec_ref02xShort:ApiValue→Option Bool) (p0v:ApiValue) (s19:Int):Option (Step Int (Fl Bool Unit)) :=
 cond (decide (s19<((p0v.Items).length:Int))) ((idx p0v.Items s19).bind fun x21=>(rec_ref02xShort x21).bind fun x23=>cond (!x23) (some (Step.out (Fl.done false))) (some (Step.next (IntKind.wrap .i64 (s19+(1:Int)))))) (some (Step.out (Fl.go ())))
noncomputable def ref02xShortF:Nat→ApiValue→Option Bool
 | 0,_=>none
 | n+1,p0v =>
  cond (decide ((4096:Int)<((p0v.Text).length:Int))) (some false) (((loopO (ref02xShort_l1 p0v) ((0:Int))):Option (Fl Bool Unit)).bind fun x3=>Fl.next x3 (fun j5=>(((loopO (ref02xShort_l2 (ref02xShortF n) p0v) ((0:Int))):Option (Fl Bool Unit)).bind fun x16=>Fl.next x16 (fun j18=>(some true)))))
theorem wF_ref02xShort:∀ n:Nat,(∀ {p0v:ApiValue}{res:Bool},ref02xShortF n p0v=some res→ACalls Tryz.prog 106 [.agg (AV.cs (exApiValue p0v))] [] (.c (.bool res)) []):=by
 intro n
 induction n with
 | zero=>exact fun {p0v res} h=>absurd h (by simp [ref02xShortF])
 | succ n ih =>
  have ih_ref02xShort:=@ih
  intro p0v res h
  rw [ref02xShortF] at h
  refine acalls (fn:=Tryz.f106) [0,1,2,3,4,8,13,22,27,36] (by kernel_rfl) Tryz.func106 r (by kernel_rfl) (by kernel_rfl)<|w_sr<|o_box (v:=.agg aIISLL) (n:=0) (cs:=aIISLL) (σ':=[aIISLL]) r r r r r<|sB r<|o_ek (fr':=[(1,.box 0 0)]) r r<|w_seqw<|w_sr<|o_p r (p_fa tf41x2 r)<|o_p r (p_load (v:=aS) tv9 r r r)<|o_p r (p_lens ti9 r)<|o_p r (p_gtr r r) ?_
  refine o_ek (fr':=[(1,.box 0 0),(8,aB)]) r r<|w_ch h r (fun hb1 h1=>?_) (fun hb1 h1=>?_)
  ·
   refine w_sr<|sB r<|o_ek (fr':=[(2,aB)]) r r<|w_ret<|e_seq_r ?_
   obtain rfl:=sy h1
   exact e_ret (rs':=[.tmp 2]) r<|r_tmp (v:=aB) r<|r_nil<|fin_gen [] r r r lr st_nil
  ·
   refine w_skip<|e_kw<|w_seqw<|w_sr<|sI r<|o_ek (fr':=[(1,.box 0 0),(3,aI)]) r r ?_
   obtain ⟨x3,hx3,h4⟩:=bind_s h1
   refine w_jtail cl_kw (fun j5=>x3=Fl.go j5) (fun (j5:Unit)=>([(1,.box 0 0)]:Fr)) (fun (j5:Unit)=>([[.c (.int .i64 p0v.Kind),.c (.int .i64 p0v.Int),.c (.str p0v.Text),.c (PV.ls 5 rowApiValue p0v.Items),.c (PV.ls 1 rowS p0v.Keys)]]:St)) ?_ ?_
   ·
    refine w_block<|w_loopo _ (fun (s6:Int)=>([(1,.box 0 0),(3,.c (.int .i64 s6))]:Fr)) (fun (s6:Int)=>([[.c (.int .i64 p0v.Kind),.c (.int .i64 p0v.Int),.c (.str p0v.Text),.c (PV.ls 5 rowApiValue p0v.Items),.c (PV.ls 1 rowS p0v.Keys)]]:St)) hx3 (w_weak [] 1 r r r r ⟨lr,lr,trivial⟩ (st_r r st_nil)) ?_
    intro s6 st6 hs6 ho6
    unfold ref02xShort_l1 at hs6
    refine w_seqw<|w_sr<|mI r<|o_p r (p_fa tf41x4 r)<|o_p r (p_load (v:=aL) tv39 r r r)<|o_p r (p_len ti39 (isl_c r))<|o_p r (p_lss r r)<|o_ek (fr':=[(1,.box 0 0),(3,aI),(13,aB)]) r r<|w_ch hs6 r (fun hb7 h7=>?_) (fun hb7 h7=>?_)
    ·
     refine w_skip<|e_kw<|w_seqw<|w_block<|w_sr<|o_p r (p_fa tf41x4 r)<|o_p r (p_load (v:=aL) tv39 r r r)<|mI r ?_
     obtain ⟨x8,hx8,h9⟩:=bind_s h7
     refine o_p r (p_ia (cs:=[PV.str _]) ts39 (isl_c r) r hx8 r)<|o_p r (p_loade (p:=PV.str _) tv9 r r)<|o_p r (p_lens ti9 r)<|o_p r (p_gtr r r)<|o_ek (fr':=[(1,.box 0 0),(3,aI),(22,aB)]) r r<|w_ch h9 r (fun hb10 h10=>?_) (fun hb10 h10=>?_)
     ·
      refine w_sr<|sB r<|o_ek (fr':=[(2,aB)]) r r<|w_ret<|e_blk_r<|e_seq_r<|e_seq_r<|e_blk_r<|e_seq_r<|e_seq_r ?_
      have h11:=un_out h10 ho6
      have h12:=un_done h11 h4
      obtain rfl:=sy h12
      exact e_ret (rs':=[.tmp 2]) r<|r_tmp (v:=aB) r<|r_nil<|fin_gen [] r r r lr st_nil
     ·
      exact w_skip<|e_blk_n<|e_kw<|w_region<|mI r<|o_p r (p_add r r)<|sI r<|o_end (fr':=[(1,.box 0 0),(3,aI),(22,aB)]) r<|e_l _ (sy h10) (w_weak [] 1 r r r r ⟨lr,lr,trivial⟩ (st_r r st_nil))
    ·
     refine w_exit<|e_seq_x<|e_seq_x<|e_blk_h ?_
     have h14:=un_out h7 ho6
     exact e_j _ (sy h14) (w_weak [] 1 r r r r ⟨lr,trivial⟩ (st_r r st_nil))
   ·
    intro j5 hj15
    have h15:=un_go hj15 h4
    refine e_kw<|w_seqw<|w_sr<|sI r<|o_ek (fr':=[(1,.box 0 0),(4,aI)]) r r ?_
    obtain ⟨x16,hx16,h17⟩:=bind_s h15
    refine w_jtail cl_kw (fun j18=>x16=Fl.go j18) (fun (j18:Unit)=>([]:Fr)) (fun (j18:Unit)=>([[.c (.int .i64 p0v.Kind),.c (.int .i64 p0v.Int),.c (.str p0v.Text),.c (PV.ls 5 rowApiValue p0v.Items),.c (PV.ls 1 rowS p0v.Keys)]]:St)) ?_ ?_
    ·
     refine w_block<|w_loopo _ (fun (s19:Int)=>([(1,.box 0 0),(4,.c (.int .i64 s19))]:Fr)) (fun (s19:Int)=>([[.c (.int .i64 p0v.Kind),.c (.int .i64 p0v.Int),.c (.str p0v.Text),.c (PV.ls 5 rowApiValue p0v.Items),.c (PV.ls 1 rowS p0v.Keys)]]:St)) hx16 (w_weak [] 1 r r r r ⟨lr,lr,trivial⟩ (st_r r st_nil)) ?_
     intro s19 st19 hs19 ho19
     unfold ref02xShort_l2 at hs19
     refine w_seqw<|w_sr<|mI r<|o_p r (p_fa tf41x3 r)<|o_p r (p_load (v:=aL) tv38 r r r)<|o_p r (p_len ti38 (isl_c r))<|o_p r (p_lss r r)<|o_ek (fr':=[(1,.box 0 0),(4,aI),(27,aB)]) r r<|w_ch hs19 r (fun hb20 h20=>?_) (fun hb20 h20=>?_)
     ·
      refine w_skip<|e_kw<|w_seqw<|w_block<|w_sr<|o_p r (p_fa tf41x3 r)<|o_p r (p_load (v:=aL) tv38 r r r)<|mI r ?_
      obtain ⟨x21,hx21,h22⟩:=bind_s h20
      refine o_p r (p_ia (cs:=[PV.int _ _,PV.int _ _,PV.str _,PV.ls _ _ _,PV.ls _ _ _]) ts38 (isl_c r) r hx21 (rowApiValue_eq _))<|o_p r (p_loades (us:=[PV.int _ _,PV.int _ _,PV.str _,PV.ls _ _ _,PV.ls _ _ _]) tv41 r r r) ?_
      obtain ⟨x23,hx23,h24⟩:=bind_s h22
      refine o_v (ov_call (v:=aB) r (ih_ref02xShort hx23) ⟨(le_aggc r ⟨r,r,r,r,r,trivial⟩),trivial⟩ r r r)<|o_p r (p_not r)<|o_ek (fr':=[(1,.box 0 0),(4,aI),(36,aB)]) r r<|w_ch h24 r (fun hb25 h25=>?_) (fun hb25 h25=>?_)
      ·
       refine w_sr<|sB r<|o_ek (fr':=[(2,aB)]) r r<|w_ret<|e_blk_r<|e_seq_r<|e_seq_r<|e_blk_r<|e_seq_r<|e_seq_r ?_
       have h26:=un_out h25 ho19
       have h27:=un_done h26 h17
       obtain rfl:=sy h27
       exact e_ret (rs':=[.tmp 2]) r<|r_tmp (v:=aB) r<|r_nil<|fin_gen [] r r r lr st_nil
      ·
       exact w_skip<|e_blk_n<|e_kw<|w_region<|mI r<|o_p r (p_add r r)<|sI r<|o_end (fr':=[(1,.box 0 0),(4,aI),(36,aB)]) r<|e_l _ (sy h25) (w_weak [] 1 r r r r ⟨lr,lr,trivial⟩ (st_r r st_nil))
     ·
      refine w_exit<|e_seq_x<|e_seq_x<|e_blk_h ?_
      have h29:=un_out h20 ho19
      exact e_j _ (sy h29) (w_weak [] 1 r r r r trivial (st_r r st_nil))
    ·
     intro j18 hj30
     have h30:=un_go hj30 h17
     refine e_kw<|w_sr<|sB r<|o_ek (fr':=[(2,aB)]) r r<|w_ret ?_
     obtain rfl:=sy h30
     exact e_ret (rs':=[.tmp 2]) r<|r_tmp (v:=aB) r<|r_nil<|fin_gen [] r r r lr st_nil
noncomputable def ref02xShort (p0v:ApiValue):Option Bool:=lim fun n=>ref02xShortF n p0v
theorem w_ref02xShort {p0v:ApiValue}{res:Bool} (h:ref02xShort p0v=some res):ACalls Tryz.prog 106 [.agg (AV.cs (exApiValue p0v))] [] (.c (.bool res)) []:=by
 obtain ⟨n,hn⟩:=lim_some h
 exact (wF_ref02xShort n) hn
noncomputable def ref02xDepth_l1 (rec_ref02xDepth:ApiValue→Option Int) (p0v:ApiValue) (s4:(Int × Int)):Option (Step (Int × Int) Int) :=
 cond (decide (s4.2<((p0v.Items).length:Int))) ((idx p0v.Items s4.2).bind fun x6=>(rec_ref02xDepth x6).bind fun x8=>cond (decide (s4.1<x8)) (some (Step.next (x8,(IntKind.wrap .i64 (s4.2+(1:Int)))))) (some (Step.next (s4.1,(IntKind.wrap .i64 (s4.2+(1:Int))))))) (some (Step.out s4.1))
noncomputable def ref02xDepthF:Nat→ApiValue→Option Int
 | 0,_=>none
 | n+1,p0v =>
  ((loopO (ref02xDepth_l1 (ref02xDepthF n) p0v) (((0:Int),(0:Int)))):Option Int).bind fun x1=>(some (IntKind.wrap .i64 (x1+(1:Int))))
theorem wF_ref02xDepth:∀ n:Nat,(∀ {p0v:ApiValue}{res:Int},ref02xDepthF n p0v=some res→ACalls Tryz.prog 107 [.agg (AV.cs (exApiValue p0v))] [] (.c (.int .i64 res)) []):=by
 intro n
 induction n with
 | zero=>exact fun {p0v res} h=>absurd h (by simp [ref02xDepthF])
 | succ n ih =>
  have ih_ref02xDepth:=@ih
  intro p0v res h
  rw [ref02xDepthF] at h
  refine acalls (fn:=Tryz.f107) [0,1,2,3,4,5,10,21] (by kernel_rfl) Tryz.func107 r (by kernel_rfl) (by kernel_rfl)<|w_sr<|o_box (v:=.agg aIISLL) (n:=0) (cs:=aIISLL) (σ':=[aIISLL]) r r r r r<|sI r<|o_ek (fr':=[(1,.box 0 0)]) r r<|w_sr<|sI r<|o_ek (fr':=[(1,.box 0 0),(3,aI)]) r r<|w_seqw<|w_seqw<|w_region ?_
  refine sI r<|o_ek (fr':=[(1,.box 0 0),(3,aI),(4,aI)]) r r ?_
  obtain ⟨x1,hx1,h2⟩:=bind_s h
  refine w_jtail cl_kw (fun j3=>x1=j3) (fun (j3:Int)=>([(3,.c (.int .i64 j3))]:Fr)) (fun (j3:Int)=>([[.c (.int .i64 p0v.Kind),.c (.int .i64 p0v.Int),.c (.str p0v.Text),.c (PV.ls 5 rowApiValue p0v.Items),.c (PV.ls 1 rowS p0v.Keys)]]:St)) ?_ ?_
  ·
   refine w_block<|w_loopo _ (fun (s4:(Int × Int))=>([(1,.box 0 0),(3,.c (.int .i64 s4.1)),(4,.c (.int .i64 s4.2))]:Fr)) (fun (s4:(Int × Int))=>([[.c (.int .i64 p0v.Kind),.c (.int .i64 p0v.Int),.c (.str p0v.Text),.c (PV.ls 5 rowApiValue p0v.Items),.c (PV.ls 1 rowS p0v.Keys)]]:St)) hx1 (w_weak [] 1 r r r r ⟨lr,lr,lr,trivial⟩ (st_r r st_nil)) ?_
   intro s4 st4 hs4 ho4
   unfold ref02xDepth_l1 at hs4
   refine w_seqw<|w_sr<|mI r<|o_p r (p_fa tf41x3 r)<|o_p r (p_load (v:=aL) tv38 r r r)<|o_p r (p_len ti38 (isl_c r))<|o_p r (p_lss r r)<|o_ek (fr':=[(1,.box 0 0),(3,aI),(4,aI),(10,aB)]) r r<|w_ch hs4 r (fun hb5 h5=>?_) (fun hb5 h5=>?_)
   ·
    refine w_skip<|e_kw<|w_seqw<|w_block<|w_sr<|o_p r (p_fa tf41x3 r)<|o_p r (p_load (v:=aL) tv38 r r r)<|mI r ?_
    obtain ⟨x6,hx6,h7⟩:=bind_s h5
    refine o_p r (p_ia (cs:=[PV.int _ _,PV.int _ _,PV.str _,PV.ls _ _ _,PV.ls _ _ _]) ts38 (isl_c r) r hx6 (rowApiValue_eq _))<|o_p r (p_loades (us:=[PV.int _ _,PV.int _ _,PV.str _,PV.ls _ _ _,PV.ls _ _ _]) tv41 r r r) ?_
    obtain ⟨x8,hx8,h9⟩:=bind_s h7
    refine o_v (ov_call (v:=aI) r (ih_ref02xDepth hx8) ⟨(le_aggc r ⟨r,r,r,r,r,trivial⟩),trivial⟩ r r r)<|sI r<|o_ek (fr':=[(1,.box 0 0),(3,aI),(4,aI),(5,aI)]) r r<|w_sr<|mI r<|mI r<|o_p r (p_gtr r r)<|o_ek (fr':=[(1,.box 0 0),(3,aI),(4,aI),(5,aI),(21,aB)]) r r<|w_ch h9 r (fun hb10 h10=>?_) (fun hb10 h10=>?_)
    ·
     exact w_region<|mI r<|sI r<|o_end (fr':=[(1,.box 0 0),(3,aI),(4,aI),(5,aI),(21,aB)]) r<|e_blk_n<|e_kw<|w_region<|mI r<|o_p r (p_add r r)<|sI r<|o_end (fr':=[(1,.box 0 0),(3,aI),(4,aI),(5,aI),(21,aB)]) r<|e_l _ (sy h10) (w_weak [] 1 r r r r ⟨lr,lr,lr,trivial⟩ (st_r r st_nil))
    ·
     exact w_skip<|e_blk_n<|e_kw<|w_region<|mI r<|o_p r (p_add r r)<|sI r<|o_end (fr':=[(1,.box 0 0),(3,aI),(4,aI),(5,aI),(21,aB)]) r<|e_l _ (sy h10) (w_weak [] 1 r r r r ⟨lr,lr,lr,trivial⟩ (st_r r st_nil))
   ·
    refine w_exit<|e_seq_x<|e_seq_x<|e_blk_h ?_
    have h11:=un_out h5 ho4
    exact e_j _ (sy h11) (w_weak [] 1 r r r r ⟨lr,trivial⟩ (st_r r st_nil))
  ·
   intro j3 hj12
   subst hj12
   refine e_kw<|w_sr<|mI r<|o_p r (p_add r r)<|sI r<|o_ek (fr':=[(2,aI)]) r r<|w_ret ?_
   obtain rfl:=sy h2
   exact e_ret (rs':=[.tmp 2]) r<|r_tmp (v:=aI) r<|r_nil<|fin_gen [] r r r lr st_nil
noncomputable def ref02xDepth (p0v:ApiValue):Option Int:=lim fun n=>ref02xDepthF n p0v
theorem w_ref02xDepth {p0v:ApiValue}{res:Int} (h:ref02xDepth p0v=some res):ACalls Tryz.prog 107 [.agg (AV.cs (exApiValue p0v))] [] (.c (.int .i64 res)) []:=by
 obtain ⟨n,hn⟩:=lim_some h
 exact (wF_ref02xDepth n) hn
noncomputable def ref02xSize_l1 (rec_ref02xSize:ApiValue→Option Int) (p0v:ApiValue) (s4:(Int × Int)):Option (Step (Int × Int) Int) :=
 cond (decide (s4.2<((p0v.Items).length:Int))) ((idx p0v.Items s4.2).bind fun x6=>(rec_ref02xSize x6).bind fun x8=>some (Step.next ((IntKind.wrap .i64 (s4.1+x8)),(IntKind.wrap .i64 (s4.2+(1:Int)))))) (some (Step.out s4.1))
noncomputable def ref02xSizeF:Nat→ApiValue→Option Int
 | 0,_=>none
 | n+1,p0v =>
  ((loopO (ref02xSize_l1 (ref02xSizeF n) p0v) (((1:Int),(0:Int)))):Option Int).bind fun x1=>(some x1)
theorem wF_ref02xSize:∀ n:Nat,(∀ {p0v:ApiValue}{res:Int},ref02xSizeF n p0v=some res→ACalls Tryz.prog 108 [.agg (AV.cs (exApiValue p0v))] [] (.c (.int .i64 res)) []):=by
 intro n
 induction n with
 | zero=>exact fun {p0v res} h=>absurd h (by simp [ref02xSizeF])
 | succ n ih =>
  have ih_ref02xSize:=@ih
  intro p0v res h
  rw [ref02xSizeF] at h
  refine acalls (fn:=Tryz.f108) [0,1,2,3,4,9] (by kernel_rfl) Tryz.func108 r (by kernel_rfl) (by kernel_rfl)<|w_sr<|o_box (v:=.agg aIISLL) (n:=0) (cs:=aIISLL) (σ':=[aIISLL]) r r r r r<|sI r<|o_ek (fr':=[(1,.box 0 0)]) r r<|w_sr<|sI r<|o_ek (fr':=[(1,.box 0 0),(3,aI)]) r r<|w_seqw<|w_seqw<|w_region ?_
  refine sI r<|o_ek (fr':=[(1,.box 0 0),(3,aI),(4,aI)]) r r ?_
  obtain ⟨x1,hx1,h2⟩:=bind_s h
  refine w_jtail cl_kw (fun j3=>x1=j3) (fun (j3:Int)=>([(3,.c (.int .i64 j3))]:Fr)) (fun (j3:Int)=>([[.c (.int .i64 p0v.Kind),.c (.int .i64 p0v.Int),.c (.str p0v.Text),.c (PV.ls 5 rowApiValue p0v.Items),.c (PV.ls 1 rowS p0v.Keys)]]:St)) ?_ ?_
  ·
   refine w_block<|w_loopo _ (fun (s4:(Int × Int))=>([(1,.box 0 0),(3,.c (.int .i64 s4.1)),(4,.c (.int .i64 s4.2))]:Fr)) (fun (s4:(Int × Int))=>([[.c (.int .i64 p0v.Kind),.c (.int .i64 p0v.Int),.c (.str p0v.Text),.c (PV.ls 5 rowApiValue p0v.Items),.c (PV.ls 1 rowS p0v.Keys)]]:St)) hx1 (w_weak [] 1 r r r r ⟨lr,lr,lr,trivial⟩ (st_r r st_nil)) ?_
   intro s4 st4 hs4 ho4
   unfold ref02xSize_l1 at hs4
   refine w_seqw<|w_sr<|mI r<|o_p r (p_fa tf41x3 r)<|o_p r (p_load (v:=aL) tv38 r r r)<|o_p r (p_len ti38 (isl_c r))<|o_p r (p_lss r r)<|o_ek (fr':=[(1,.box 0 0),(3,aI),(4,aI),(9,aB)]) r r<|w_ch hs4 r (fun hb5 h5=>?_) (fun hb5 h5=>?_)
   ·
    refine w_skip<|e_kw<|w_seqw<|w_block<|w_region<|mI r<|o_p r (p_fa tf41x3 r)<|o_p r (p_load (v:=aL) tv38 r r r)<|mI r ?_
    obtain ⟨x6,hx6,h7⟩:=bind_s h5
    refine o_p r (p_ia (cs:=[PV.int _ _,PV.int _ _,PV.str _,PV.ls _ _ _,PV.ls _ _ _]) ts38 (isl_c r) r hx6 (rowApiValue_eq _))<|o_p r (p_loades (us:=[PV.int _ _,PV.int _ _,PV.str _,PV.ls _ _ _,PV.ls _ _ _]) tv41 r r r) ?_
    obtain ⟨x8,hx8,h9⟩:=bind_s h7
    exact o_v (ov_call (v:=aI) r (ih_ref02xSize hx8) ⟨(le_aggc r ⟨r,r,r,r,r,trivial⟩),trivial⟩ r r r)<|o_p r (p_add r r)<|sI r<|o_end (fr':=[(1,.box 0 0),(3,aI),(4,aI),(9,aB)]) r<|e_blk_n<|e_kw<|w_region<|mI r<|o_p r (p_add r r)<|sI r<|o_end (fr':=[(1,.box 0 0),(3,aI),(4,aI),(9,aB)]) r<|e_l _ (sy h9) (w_weak [] 1 r r r r ⟨lr,lr,lr,trivial⟩ (st_r r st_nil))
   ·
    refine w_exit<|e_seq_x<|e_seq_x<|e_blk_h ?_
    have h10:=un_out h5 ho4
    exact e_j _ (sy h10) (w_weak [] 1 r r r r ⟨lr,trivial⟩ (st_r r st_nil))
  ·
   intro j3 hj11
   subst hj11
   refine e_kw<|w_sr<|mI r<|sI r<|o_ek (fr':=[(2,aI)]) r r<|w_ret ?_
   obtain rfl:=sy h2
   exact e_ret (rs':=[.tmp 2]) r<|r_tmp (v:=aI) r<|r_nil<|fin_gen [] r r r lr st_nil
noncomputable def ref02xSize (p0v:ApiValue):Option Int:=lim fun n=>ref02xSizeF n p0v
theorem w_ref02xSize {p0v:ApiValue}{res:Int} (h:ref02xSize p0v=some res):ACalls Tryz.prog 108 [.agg (AV.cs (exApiValue p0v))] [] (.c (.int .i64 res)) []:=by
 obtain ⟨n,hn⟩:=lim_some h
 exact (wF_ref02xSize n) hn
noncomputable def ref02xWithin (p0v:ApiValue):Option Bool :=
 (ref02xShort p0v).bind fun x1=>(gd (x1==true) (ref02xDepth p0v)).bind fun x3=>(gd ((cond x1 (decide (x3≤(16:Int))) false)==true) (ref02xSize p0v)).bind fun x5=>some (cond (cond x1 (decide (x3≤(16:Int))) false) (decide (x5≤(1000:Int))) false)
theorem w_ref02xWithin {p0v:ApiValue}{res:Bool} (h:ref02xWithin p0v=some res):ACalls Tryz.prog 91 [.agg (AV.cs (exApiValue p0v))] [] (.c (.bool res)) []:=by
 unfold ref02xWithin at h
 refine acalls (fn:=Tryz.f91) [0,1,2] (by kernel_rfl) Tryz.func91 r (by kernel_rfl) (by kernel_rfl)<|w_sr<|o_box (v:=.agg aIISLL) (n:=0) (cs:=aIISLL) (σ':=[aIISLL]) r r r r r<|sB r<|o_ek (fr':=[(1,.box 0 0)]) r r<|w_sr<|o_p r (p_loads (us:=aIISLL) tv41 r r r r) ?_
 obtain ⟨x1,hx1,h2⟩:=bind_s h
 refine o_v (ov_call (v:=aB) r (w_ref02xShort hx1) ⟨(le_aggc r ⟨r,r,r,r,r,trivial⟩),trivial⟩ r r r)<|mB r<|og r r r (fun hc=>(p_loads (us:=aIISLL) tv41 r r r r)) ?_
 obtain ⟨x3,hx3,h4⟩:=bind_s h2
 refine o_g r r (fun hc=>ov_call (v:=aI) r (w_ref02xDepth (gd_some hx3 hc)) ⟨(le_gv (gx r hc) (le_aggc r ⟨r,r,r,r,r,trivial⟩)),trivial⟩ (ok_eq (by repeat (first | exact ok_nil | refine ok_cons r ?_ | refine ok_cons (dgv r) ?_ | refine ok_cons dar ?_))) r r) ?_
 refine og r r r (fun hc=>(p_leq (gx r hc) r))<|o_p r (p_picky r r r (fun e=>keq e))<|mB r<|og r r r (fun hc=>(p_loads (us:=aIISLL) tv41 r r r r)) ?_
 obtain ⟨x5,hx5,h6⟩:=bind_s h4
 refine o_g r r (fun hc=>ov_call (v:=aI) r (w_ref02xSize (gd_some hx5 hc)) ⟨(le_gv (gx r hc) (le_aggc r ⟨r,r,r,r,r,trivial⟩)),trivial⟩ (ok_eq (by repeat (first | exact ok_nil | refine ok_cons r ?_ | refine ok_cons (dgv r) ?_ | refine ok_cons dar ?_))) r r) ?_
 refine og r r r (fun hc=>(p_leq (gx r hc) r))<|o_p r (p_picky r r r (fun e=>keq e))<|sB r<|o_ek (fr':=[(2,aB)]) r r<|w_ret ?_
 obtain rfl:=sy h6
 exact e_ret (rs':=[.tmp 2]) r<|r_tmp (v:=aB) r<|r_nil<|fin_gen [] r r r lr st_nil
noncomputable def ref02xFuture_l1 (rec_ref02xFuture:ApiValue→Option Bool) (p0v:ApiValue) (s4:Int):Option (Step Int (Fl Bool Unit)) :=
 cond (decide (s4<((p0v.Items).length:Int))) ((idx p0v.Items s4).bind fun x6=>(rec_ref02xFuture x6).bind fun x8=>cond x8 (some (Step.out (Fl.done true))) (some (Step.next (IntKind.wrap .i64 (s4+(1:Int)))))) (some (Step.out (Fl.go ())))
noncomputable def ref02xFutureF:Nat→ApiValue→Option Bool
 | 0,_=>none
 | n+1,p0v =>
  ((loopO (ref02xFuture_l1 (ref02xFutureF n) p0v) ((0:Int))):Option (Fl Bool Unit)).bind fun x1=>Fl.next x1 (fun j3=>(some (decide (p0v.Kind=(6:Int)))))
theorem wF_ref02xFuture:∀ n:Nat,(∀ {p0v:ApiValue}{res:Bool},ref02xFutureF n p0v=some res→ACalls Tryz.prog 92 [.agg (AV.cs (exApiValue p0v))] [] (.c (.bool res)) []):=by
 intro n
 induction n with
 | zero=>exact fun {p0v res} h=>absurd h (by simp [ref02xFutureF])
 | succ n ih =>
  have ih_ref02xFuture:=@ih
  intro p0v res h
  rw [ref02xFutureF] at h
  refine acalls (fn:=Tryz.f92) [0,1,2,3,8,16] (by kernel_rfl) Tryz.func92 r (by kernel_rfl) (by kernel_rfl)<|w_sr<|o_box (v:=.agg aIISLL) (n:=0) (cs:=aIISLL) (σ':=[aIISLL]) r r r r r<|sB r<|o_ek (fr':=[(1,.box 0 0)]) r r<|w_seqw<|w_sr<|sI r<|o_ek (fr':=[(1,.box 0 0),(3,aI)]) r r ?_
  obtain ⟨x1,hx1,h2⟩:=bind_s h
  refine w_jtail cl_kw (fun j3=>x1=Fl.go j3) (fun (j3:Unit)=>([(1,.box 0 0)]:Fr)) (fun (j3:Unit)=>([[.c (.int .i64 p0v.Kind),.c (.int .i64 p0v.Int),.c (.str p0v.Text),.c (PV.ls 5 rowApiValue p0v.Items),.c (PV.ls 1 rowS p0v.Keys)]]:St)) ?_ ?_
  ·
   refine w_block<|w_loopo _ (fun (s4:Int)=>([(1,.box 0 0),(3,.c (.int .i64 s4))]:Fr)) (fun (s4:Int)=>([[.c (.int .i64 p0v.Kind),.c (.int .i64 p0v.Int),.c (.str p0v.Text),.c (PV.ls 5 rowApiValue p0v.Items),.c (PV.ls 1 rowS p0v.Keys)]]:St)) hx1 (w_weak [] 1 r r r r ⟨lr,lr,trivial⟩ (st_r r st_nil)) ?_
   intro s4 st4 hs4 ho4
   unfold ref02xFuture_l1 at hs4
   refine w_seqw<|w_sr<|mI r<|o_p r (p_fa tf41x3 r)<|o_p r (p_load (v:=aL) tv38 r r r)<|o_p r (p_len ti38 (isl_c r))<|o_p r (p_lss r r)<|o_ek (fr':=[(1,.box 0 0),(3,aI),(8,aB)]) r r<|w_ch hs4 r (fun hb5 h5=>?_) (fun hb5 h5=>?_)
   ·
    refine w_skip<|e_kw<|w_seqw<|w_block<|w_sr<|o_p r (p_fa tf41x3 r)<|o_p r (p_load (v:=aL) tv38 r r r)<|mI r ?_
    obtain ⟨x6,hx6,h7⟩:=bind_s h5
    refine o_p r (p_ia (cs:=[PV.int _ _,PV.int _ _,PV.str _,PV.ls _ _ _,PV.ls _ _ _]) ts38 (isl_c r) r hx6 (rowApiValue_eq _))<|o_p r (p_loades (us:=[PV.int _ _,PV.int _ _,PV.str _,PV.ls _ _ _,PV.ls _ _ _]) tv41 r r r) ?_
    obtain ⟨x8,hx8,h9⟩:=bind_s h7
    refine o_v (ov_call (v:=aB) r (ih_ref02xFuture hx8) ⟨(le_aggc r ⟨r,r,r,r,r,trivial⟩),trivial⟩ r r r)<|o_ek (fr':=[(1,.box 0 0),(3,aI),(16,aB)]) r r<|w_ch h9 r (fun hb10 h10=>?_) (fun hb10 h10=>?_)
    ·
     refine w_sr<|sB r<|o_ek (fr':=[(2,aB)]) r r<|w_ret<|e_blk_r<|e_seq_r<|e_seq_r<|e_blk_r<|e_seq_r<|e_seq_r ?_
     have h11:=un_out h10 ho4
     have h12:=un_done h11 h2
     obtain rfl:=sy h12
     exact e_ret (rs':=[.tmp 2]) r<|r_tmp (v:=aB) r<|r_nil<|fin_gen [] r r r lr st_nil
    ·
     exact w_skip<|e_blk_n<|e_kw<|w_region<|mI r<|o_p r (p_add r r)<|sI r<|o_end (fr':=[(1,.box 0 0),(3,aI),(16,aB)]) r<|e_l _ (sy h10) (w_weak [] 1 r r r r ⟨lr,lr,trivial⟩ (st_r r st_nil))
   ·
    refine w_exit<|e_seq_x<|e_seq_x<|e_blk_h ?_
    have h14:=un_out h5 ho4
    exact e_j _ (sy h14) (w_weak [] 1 r r r r ⟨lr,trivial⟩ (st_r r st_nil))
  ·
   intro j3 hj15
   have h15:=un_go hj15 h2
   refine e_kw<|w_sr<|o_p r (p_fa tf41x0 r)<|o_p r (p_load (v:=aI) tv3 r r r)<|o_p r (p_eql r r)<|sB r<|o_ek (fr':=[(2,aB)]) r r<|w_ret ?_
   obtain rfl:=sy h15
   exact e_ret (rs':=[.tmp 2]) r<|r_tmp (v:=aB) r<|r_nil<|fin_gen [] r r r lr st_nil
noncomputable def ref02xFuture (p0v:ApiValue):Option Bool:=lim fun n=>ref02xFutureF n p0v
theorem w_ref02xFuture {p0v:ApiValue}{res:Bool} (h:ref02xFuture p0v=some res):ACalls Tryz.prog 92 [.agg (AV.cs (exApiValue p0v))] [] (.c (.bool res)) []:=by
 obtain ⟨n,hn⟩:=lim_some h
 exact (wF_ref02xFuture n) hn
noncomputable def ref02xRight (p0v:ApiValue):Option Bool :=
 (ref02xWellFormed p0v).bind fun x1=>(gd (x1==true) (ref02xWithin p0v)).bind fun x3=>(gd ((cond x1 x3 false)==true) (ref02xFuture p0v)).bind fun x5=>some (cond (cond x1 x3 false) (!x5) false)
theorem w_ref02xRight {p0v:ApiValue}{res:Bool} (h:ref02xRight p0v=some res):ACalls Tryz.prog 60 [.agg (AV.cs (exApiValue p0v))] [] (.c (.bool res)) []:=by
 unfold ref02xRight at h
 refine acalls (fn:=Tryz.f60) [0,1,2] (by kernel_rfl) Tryz.func60 r (by kernel_rfl) (by kernel_rfl)<|w_sr<|o_box (v:=.agg aIISLL) (n:=0) (cs:=aIISLL) (σ':=[aIISLL]) r r r r r<|sB r<|o_ek (fr':=[(1,.box 0 0)]) r r<|w_sr<|o_p r (p_loads (us:=aIISLL) tv41 r r r r) ?_
 obtain ⟨x1,hx1,h2⟩:=bind_s h
 refine o_v (ov_call (v:=aB) r (w_ref02xWellFormed hx1) ⟨(le_aggc r ⟨r,r,r,r,r,trivial⟩),trivial⟩ r r r)<|mB r<|og r r r (fun hc=>(p_loads (us:=aIISLL) tv41 r r r r)) ?_
 obtain ⟨x3,hx3,h4⟩:=bind_s h2
 refine o_g r r (fun hc=>ov_call (v:=aB) r (w_ref02xWithin (gd_some hx3 hc)) ⟨(le_gv (gx r hc) (le_aggc r ⟨r,r,r,r,r,trivial⟩)),trivial⟩ (ok_eq (by repeat (first | exact ok_nil | refine ok_cons r ?_ | refine ok_cons (dgv r) ?_ | refine ok_cons dar ?_))) r r) ?_
 refine o_p r (p_picky r r r (fun e=>keq e))<|mB r<|og r r r (fun hc=>(p_loads (us:=aIISLL) tv41 r r r r)) ?_
 obtain ⟨x5,hx5,h6⟩:=bind_s h4
 refine o_g r r (fun hc=>ov_call (v:=aB) r (w_ref02xFuture (gd_some hx5 hc)) ⟨(le_gv (gx r hc) (le_aggc r ⟨r,r,r,r,r,trivial⟩)),trivial⟩ (ok_eq (by repeat (first | exact ok_nil | refine ok_cons r ?_ | refine ok_cons (dgv r) ?_ | refine ok_cons dar ?_))) r r) ?_
 refine og r r r (fun hc=>(p_not (gx r hc)))<|o_p r (p_picky r r r (fun e=>keq e))<|sB r<|o_ek (fr':=[(2,aB)]) r r<|w_ret ?_
 obtain rfl:=sy h6
 exact e_ret (rs':=[.tmp 2]) r<|r_tmp (v:=aB) r<|r_nil<|fin_gen [] r r r lr st_nil
noncomputable def ref22xbare (p0e:ApiEvent):Option Bool :=
 (ref22xuses p0e.Kind).bind fun x1=>(gd (x1.seq_==true) (ref22xin p0e.Seq (1:Int) (2000:Int))).bind fun x3=>(gd (((cond (cond x1.seq_ (!x3) false) true (cond (!x1.seq_) (!decide (p0e.Seq=(0:Int))) false))==false)&&(x1.ref_==true)) (ref22xin p0e.Ref (1:Int) (2000:Int))).bind fun x5=>cond (cond (cond (cond (cond x1.seq_ (!x3) false) true (cond (!x1.seq_) (!decide (p0e.Seq=(0:Int))) false)) true (cond x1.ref_ (!x5) false)) true (cond (!x1.ref_) (!decide (p0e.Ref=(0:Int))) false)) (some false) (cond (cond (cond (cond (cond (!x1.n_) (!decide (p0e.N=(0:Int))) false) true (cond (!x1.code_) (!decide (p0e.Code=(0:Int))) false)) true (cond (!x1.name_) (!decide (p0e.Name=([]:List UInt8))) false)) true (cond (!x1.key_) (!decide (p0e.Key=([]:List UInt8))) false)) (some false) ((ref02xRight p0e.Data).bind fun x11=>cond (cond (!x11) true (cond (!x1.data_) (!decide (p0e.Data.Kind=(0:Int))) false)) (some false) ((gd (x1.opts_==false) (ref20xSamePolicy p0e.Opts (ApiPolicy.mk ([]:List UInt8) (0:Int) (0:Int) (0:Int) (0:Int) (0:Int) (0:Int) (0:Int) (0:Int) ([]:(List (List UInt8)))))).bind fun x15=>some (cond x1.opts_ true x15))))
theorem w_ref22xbare {p0e:ApiEvent}{res:Bool} (h:ref22xbare p0e=some res):ACalls Tryz.prog 38 [.agg (AV.cs (rowApiEvent p0e))] [] (.c (.bool res)) []:=by
 unfold ref22xbare at h
 refine acalls (fn:=Tryz.f38) [0,1,2,3,44,82,97] (by kernel_rfl) Tryz.func38 r (by kernel_rfl) (by kernel_rfl)<|w_sr<|o_box (v:=.agg aIIIIIIISSIISLLSIIIIIIIIL) (n:=0) (cs:=aIIIIIIISSIISLLSIIIIIIIIL) (σ':=[aIIIIIIISSIISLLSIIIIIIIIL]) r r r r r<|sB r<|o_ek (fr':=[(1,.box 0 0)]) r r<|w_sr<|o_p r (p_fa tf45x1 r)<|o_p r (p_load (v:=aI) tv3 r r r) ?_
 obtain ⟨x1,hx1,h2⟩:=bind_s h
 refine o_v (ov_call (v:=.agg aBBBBBBBB) r (w_ref22xuses hx1) ⟨lr,trivial⟩ r r r)<|o_alloc (n:=1) (cs:=aBBBBBBBB) (σ':=[aIIIIIIISSIISLLSIIIIIIIIL,aBBBBBBBB]) tz77 r r r<|o_store (v:=.agg aBBBBBBBB) (us:=aBBBBBBBB) (cs:=aBBBBBBBB) (σ':=[aIIIIIIISSIISLLSIIIIIIIIL,aBBBBBBBB]) r tv77 r r r r r r r r<|o_ek (fr':=[(1,.box 0 0),(3,.box 1 0)]) r r<|w_seqw<|w_sr<|o_p r (p_fa tf77x0 r)<|o_p r (p_load (v:=aB) tv4 r r r)<|mB r<|og r r r (fun hc=>(p_fa tf45x3 r))<|og r r r (fun hc=>(p_load (v:=aI) tv3 (gx r hc) r r)) ?_
 obtain ⟨x3,hx3,h4⟩:=bind_s h2
 refine o_g r r (fun hc=>ov_call (v:=aB) r (w_ref22xin (gd_some hx3 hc)) ⟨(le_gv (gx r hc) lr),lr,lr,trivial⟩ (ok_eq (by repeat (first | exact ok_nil | refine ok_cons r ?_ | refine ok_cons (dgv r) ?_ | refine ok_cons dar ?_))) r r) ?_
 refine og r r r (fun hc=>(p_not (gx r hc)))<|o_p r (p_picky r r r (fun e=>keq e))<|mB r<|og r r r (fun hc=>(p_fa tf77x0 r))<|og r r r (fun hc=>(p_load (v:=aB) tv4 (gx r hc) r r))<|og r r r (fun hc=>(p_not (gx r hc)))<|og r r r (fun hc=>(p_move (v:=aB) (gx r hc)))<|o_gg r r (fun hc=>ov_p r (p_fa tf45x3 r))<|o_gg r r (fun hc=>ov_p r (p_load (v:=aI) tv3 (gx r hc) r r))<|o_gg r r (fun hc=>ov_p r (p_neq (gx r hc) r))<|og r r r (fun hc=>(p_picky (gx r hc) r r (fun e=>band hc (keq e))))<|o_p r (p_pickz r r r (fun e=>keq e))<|mB r ?_
 refine og r r r (fun hc=>(p_fa tf77x1 r))<|og r r r (fun hc=>(p_load (v:=aB) tv4 (gx r hc) r r))<|og r r r (fun hc=>(p_move (v:=aB) (gx r hc)))<|o_gg r r (fun hc=>ov_p r (p_fa tf45x4 r))<|o_gg r r (fun hc=>ov_p r (p_load (v:=aI) tv3 (gx r hc) r r)) ?_
 obtain ⟨x5,hx5,h6⟩:=bind_s h4
 refine o_gg r r (fun hc=>ov_call (v:=aB) r (w_ref22xin (gd_some hx5 hc)) ⟨(le_gv (gx r hc) lr),lr,lr,trivial⟩ (ok_eq (by repeat (first | exact ok_nil | refine ok_cons r ?_ | refine ok_cons (dgv r) ?_ | refine ok_cons dar ?_))) r r) ?_
 refine o_gg r r (fun hc=>ov_p r (p_not (gx r hc)))<|og r r r (fun hc=>(p_picky (gx r hc) r r (fun e=>band hc (keq e))))<|o_p r (p_pickz r r r (fun e=>keq e))<|mB r<|og r r r (fun hc=>(p_fa tf77x1 r))<|og r r r (fun hc=>(p_load (v:=aB) tv4 (gx r hc) r r))<|og r r r (fun hc=>(p_not (gx r hc)))<|og r r r (fun hc=>(p_move (v:=aB) (gx r hc)))<|o_gg r r (fun hc=>ov_p r (p_fa tf45x4 r))<|o_gg r r (fun hc=>ov_p r (p_load (v:=aI) tv3 (gx r hc) r r))<|o_gg r r (fun hc=>ov_p r (p_neq (gx r hc) r))<|og r r r (fun hc=>(p_picky (gx r hc) r r (fun e=>band hc (keq e))))<|o_p r (p_pickz r r r (fun e=>keq e)) ?_
 refine o_ek (fr':=[(1,.box 0 0),(3,.box 1 0),(44,aB)]) r r<|w_ch h6 r (fun hb7 h7=>?_) (fun hb7 h7=>?_)
 ·
  refine w_sr<|sB r<|o_ek (fr':=[(2,aB)]) r r<|w_ret<|e_seq_r ?_
  obtain rfl:=sy h7
  exact e_ret (rs':=[.tmp 2]) r<|r_tmp (v:=aB) r<|r_nil<|fin_gen [] r r r lr st_nil
 ·
  refine w_skip<|e_kw<|w_seqw<|w_sr<|o_p r (p_fa tf77x2 r)<|o_p r (p_load (v:=aB) tv4 r r r)<|o_p r (p_not r)<|mB r<|og r r r (fun hc=>(p_fa tf45x5 r))<|og r r r (fun hc=>(p_load (v:=aI) tv3 (gx r hc) r r))<|og r r r (fun hc=>(p_neq (gx r hc) r))<|o_p r (p_picky r r r (fun e=>keq e)) ?_
  refine mB r<|og r r r (fun hc=>(p_fa tf77x3 r))<|og r r r (fun hc=>(p_load (v:=aB) tv4 (gx r hc) r r))<|og r r r (fun hc=>(p_not (gx r hc)))<|og r r r (fun hc=>(p_move (v:=aB) (gx r hc)))<|o_gg r r (fun hc=>ov_p r (p_fa tf45x6 r))<|o_gg r r (fun hc=>ov_p r (p_load (v:=aI) tv3 (gx r hc) r r))<|o_gg r r (fun hc=>ov_p r (p_neq (gx r hc) r))<|og r r r (fun hc=>(p_picky (gx r hc) r r (fun e=>band hc (keq e))))<|o_p r (p_pickz r r r (fun e=>keq e))<|mB r<|og r r r (fun hc=>(p_fa tf77x4 r))<|og r r r (fun hc=>(p_load (v:=aB) tv4 (gx r hc) r r)) ?_
  refine og r r r (fun hc=>(p_not (gx r hc)))<|og r r r (fun hc=>(p_move (v:=aB) (gx r hc)))<|o_gg r r (fun hc=>ov_p r (p_fa tf45x7 r))<|o_gg r r (fun hc=>ov_p r (p_load (v:=aS) tv9 (gx r hc) r r))<|o_gg r r (fun hc=>ov_p r (p_sneq (gx r hc) r))<|og r r r (fun hc=>(p_picky (gx r hc) r r (fun e=>band hc (keq e))))<|o_p r (p_pickz r r r (fun e=>keq e))<|mB r<|og r r r (fun hc=>(p_fa tf77x5 r))<|og r r r (fun hc=>(p_load (v:=aB) tv4 (gx r hc) r r))<|og r r r (fun hc=>(p_not (gx r hc)))<|og r r r (fun hc=>(p_move (v:=aB) (gx r hc)))<|o_gg r r (fun hc=>ov_p r (p_fa tf45x8 r)) ?_
  refine o_gg r r (fun hc=>ov_p r (p_load (v:=aS) tv9 (gx r hc) r r))<|o_gg r r (fun hc=>ov_p r (p_sneq (gx r hc) r))<|og r r r (fun hc=>(p_picky (gx r hc) r r (fun e=>band hc (keq e))))<|o_p r (p_pickz r r r (fun e=>keq e))<|o_ek (fr':=[(1,.box 0 0),(3,.box 1 0),(82,aB)]) r r<|w_ch h7 r (fun hb9 h9=>?_) (fun hb9 h9=>?_)
  ·
   refine w_sr<|sB r<|o_ek (fr':=[(2,aB)]) r r<|w_ret<|e_seq_r ?_
   obtain rfl:=sy h9
   exact e_ret (rs':=[.tmp 2]) r<|r_tmp (v:=aB) r<|r_nil<|fin_gen [] r r r lr st_nil
  ·
   refine w_skip<|e_kw<|w_seqw<|w_sr<|o_p r (p_fa tf45x9 r)<|o_p r (p_loads (us:=aIISLL) tv41 r r r r) ?_
   obtain ⟨x11,hx11,h12⟩:=bind_s h9
   refine o_v (ov_call (v:=aB) r (w_ref02xRight hx11) ⟨(le_aggc r ⟨r,r,r,r,r,trivial⟩),trivial⟩ r r r)<|o_p r (p_not r)<|mB r<|og r r r (fun hc=>(p_fa tf77x6 r))<|og r r r (fun hc=>(p_load (v:=aB) tv4 (gx r hc) r r))<|og r r r (fun hc=>(p_not (gx r hc)))<|og r r r (fun hc=>(p_move (v:=aB) (gx r hc)))<|o_gg r r (fun hc=>ov_p r (p_fa tf45x9 r))<|o_gg r r (fun hc=>ov_p r (p_fa tf41x0 (gx r hc)))<|o_gg r r (fun hc=>ov_p r (p_load (v:=aI) tv3 (gx r hc) r r))<|o_gg r r (fun hc=>ov_p r (p_neq (gx r hc) r))<|og r r r (fun hc=>(p_picky (gx r hc) r r (fun e=>band hc (keq e))))<|o_p r (p_pickz r r r (fun e=>keq e)) ?_
   refine o_ek (fr':=[(1,.box 0 0),(3,.box 1 0),(97,aB)]) r r<|w_ch h12 r (fun hb13 h13=>?_) (fun hb13 h13=>?_)
   ·
    refine w_sr<|sB r<|o_ek (fr':=[(2,aB)]) r r<|w_ret<|e_seq_r ?_
    obtain rfl:=sy h13
    exact e_ret (rs':=[.tmp 2]) r<|r_tmp (v:=aB) r<|r_nil<|fin_gen [] r r r lr st_nil
   ·
    refine w_skip<|e_kw<|w_sr<|o_p r (p_fa tf77x7 r)<|o_p r (p_load (v:=aB) tv4 r r r)<|mB r<|og r r r (fun hc=>(p_fa tf45x10 r))<|og r r r (fun hc=>(p_loads (us:=aSIIIIIIIIL) tv43 (gx r hc) r r r))<|og r r r (fun hc=>(p_buildc (c0:=[aS,aI,aI,aI,aI,aI,aI,aI,aI,AV.nil]) (cs:=[aS,aI,aI,aI,aI,aI,aI,aI,aI,AV.nil]) tb43 r fill_nil)) ?_
    obtain ⟨x15,hx15,h16⟩:=bind_s h13
    refine o_g r r (fun hc=>ov_call (v:=aB) r (w_ref20xSamePolicy (gd_some hx15 hc)) ⟨(le_gv (gx r hc) (le_aggc r ⟨r,r,r,r,r,r,r,r,r,r,trivial⟩)),(le_gv (gx r hc) (le_aggc r ⟨r,r,r,r,r,r,r,r,r,⟨_,r⟩,trivial⟩)),trivial⟩ (ok_eq (by repeat (first | exact ok_nil | refine ok_cons r ?_ | refine ok_cons (dgv r) ?_ | refine ok_cons dar ?_))) r r) ?_
    refine o_p r (p_pickz r r r (fun e=>keq e))<|sB r<|o_ek (fr':=[(2,aB)]) r r<|w_ret ?_
    obtain rfl:=sy h16
    exact e_ret (rs':=[.tmp 2]) r<|r_tmp (v:=aB) r<|r_nil<|fin_gen [] r r r lr st_nil
noncomputable def ref22xcommands  : Option (List Int) :=
 some ([(7:Int),(12:Int),(14:Int),(16:Int),(19:Int),(23:Int),(18:Int),(27:Int),(28:Int),(29:Int),(30:Int),(31:Int),(32:Int),(35:Int)]:List Int)
theorem w_ref22xcommands  {res:(List Int)} (h:ref22xcommands=some res):ACalls Tryz.prog 93 [] [] (AV.os 0 1 (rowI .i64) res) []:=by
 unfold ref22xcommands at h
 refine acalls (fn:=Tryz.f93) [0] (by kernel_rfl) Tryz.func93 r (by kernel_rfl) (by kernel_rfl)<|w_sr<|sV (v:=AV.nil) r<|o_ek (fr':=[]) r r<|w_sr<|o_rows (row:=(rowI .i64)) (xs:=([(7:Int),(12:Int),(14:Int),(16:Int),(19:Int),(23:Int),(18:Int),(27:Int),(28:Int),(29:Int),(30:Int),(31:Int),(32:Int),(35:Int)]:List Int)) (rows:=[[_],[_],[_],[_],[_],[_],[_],[_],[_],[_],[_],[_],[_],[_]]) (σ':=[]) [0] ts103 r r r (arow_cons r (arow_cons r (arow_cons r (arow_cons r (arow_cons r (arow_cons r (arow_cons r (arow_cons r (arow_cons r (arow_cons r (arow_cons r (arow_cons r (arow_cons r (arow_cons r arow_nil)))))))))))))) r r<|sV (v:=aO) r<|o_ek (fr':=[(0,aO)]) r r<|w_ret ?_
 obtain rfl:=sy h
 exact e_ret (rs':=[.tmp 0]) r<|r_tmp (v:=aO) r<|r_nil<|fin_gen [16] r r r lr st_nil
noncomputable def ref22xcommand_l1 (x1:(List Int)) (p0kind:Int) (s6:Int):Option (Step Int (Fl Int Unit)) :=
 cond (decide (s6<((x1).length:Int))) ((idx x1 s6).bind fun x8=>cond (decide (x8=p0kind)) (some (Step.out (Fl.done (IntKind.wrap .i64 (s6+(1:Int)))))) (some (Step.next (IntKind.wrap .i64 (s6+(1:Int)))))) (some (Step.out (Fl.go ())))
noncomputable def ref22xcommand (p0kind:Int):Option Int :=
 (ref22xcommands).bind fun x1=>((loopO (ref22xcommand_l1 x1 p0kind) ((0:Int))):Option (Fl Int Unit)).bind fun x3=>Fl.next x3 (fun j5=>(some (0:Int)))
theorem w_ref22xcommand {p0kind:Int}{res:Int} (h:ref22xcommand p0kind=some res):ACalls Tryz.prog 61 [.c (.int .i64 p0kind)] [] (.c (.int .i64 res)) []:=by
 unfold ref22xcommand at h
 refine acalls (fn:=Tryz.f61) [0,2,3,4,9,17] (by kernel_rfl) Tryz.func61 r (by kernel_rfl) (by kernel_rfl)<|w_sr<|sI r<|o_ek (fr':=[(0,aI)]) r r<|w_seqw<|w_region ?_
 obtain ⟨x1,hx1,h2⟩:=bind_s h
 refine o_v (ov_call (v:=aO) r (w_ref22xcommands hx1) trivial r r r)<|sV (v:=aO) r<|o_ek (fr':=[(0,aI),(3,aO)]) r r<|w_seqw<|w_sr<|sI r<|o_ek (fr':=[(0,aI),(3,aO),(4,aI)]) r r ?_
 obtain ⟨x3,hx3,h4⟩:=bind_s h2
 refine w_jtail cl_kw (fun j5=>x3=Fl.go j5) (fun (j5:Unit)=>([]:Fr)) (fun (j5:Unit)=>([]:St)) ?_ ?_
 ·
  refine w_block<|w_loopo _ (fun (s6:Int)=>([(0,.c (.int .i64 p0kind)),(3,AV.os 0 1 (rowI .i64) x1),(4,.c (.int .i64 s6))]:Fr)) (fun (s6:Int)=>([]:St)) hx3 (w_weak [80] 0 r r r r ⟨lr,lr,lr,trivial⟩ st_nil) ?_
  intro s6 st6 hs6 ho6
  unfold ref22xcommand_l1 at hs6
  refine w_seqw<|w_sr<|mI r<|mV (v:=aO) r<|o_p r (p_len ti103 (isl_o r))<|o_p r (p_lss r r)<|o_ek (fr':=[(0,aI),(3,aO),(4,aI),(9,aB)]) r r<|w_ch hs6 r (fun hb7 h7=>?_) (fun hb7 h7=>?_)
  ·
   refine w_skip<|e_kw<|w_seqw<|w_block<|w_sr<|mV (v:=aO) r<|mI r ?_
   obtain ⟨x8,hx8,h9⟩:=bind_s h7
   refine o_p r (p_ia (cs:=[PV.int _ _]) ts103 (isl_o r) r hx8 r)<|o_p r (p_loade (p:=PV.int _ _) tv3 r r)<|mI r<|o_p r (p_eql r r)<|o_ek (fr':=[(0,aI),(3,aO),(4,aI),(17,aB)]) r r<|w_ch h9 r (fun hb10 h10=>?_) (fun hb10 h10=>?_)
   ·
    refine w_sr<|mI r<|o_p r (p_add r r)<|sI r<|o_ek (fr':=[(2,aI)]) r r<|w_ret<|e_blk_r<|e_seq_r<|e_seq_r<|e_blk_r<|e_seq_r<|e_seq_r ?_
    have h11:=un_out h10 ho6
    have h12:=un_done h11 h4
    obtain rfl:=sy h12
    exact e_ret (rs':=[.tmp 2]) r<|r_tmp (v:=aI) r<|r_nil<|fin_gen [] r r r lr st_nil
   ·
    exact w_skip<|e_blk_n<|e_kw<|w_region<|mI r<|o_p r (p_add r r)<|sI r<|o_end (fr':=[(0,aI),(3,aO),(4,aI),(17,aB)]) r<|e_l _ (sy h10) (w_weak [0] 0 r r r r ⟨lr,lr,lr,trivial⟩ st_nil)
  ·
   refine w_exit<|e_seq_x<|e_seq_x<|e_blk_h ?_
   have h14:=un_out h7 ho6
   exact e_j _ (sy h14) (w_weak [] 0 r r r r trivial st_nil)
 ·
  intro j5 hj15
  have h15:=un_go hj15 h4
  refine e_kw<|w_sr<|sI r<|o_ek (fr':=[(2,aI)]) r r<|w_ret ?_
  obtain rfl:=sy h15
  exact e_ret (rs':=[.tmp 2]) r<|r_tmp (v:=aI) r<|r_nil<|fin_gen [] r r r lr st_nil
noncomputable def ref22xIsCommand (p0kind:Int):Option Bool :=
 (ref22xcommand p0kind).bind fun x1=>some (decide ((0:Int)<x1))
theorem w_ref22xIsCommand {p0kind:Int}{res:Bool} (h:ref22xIsCommand p0kind=some res):ACalls Tryz.prog 39 [.c (.int .i64 p0kind)] [] (.c (.bool res)) []:=by
 unfold ref22xIsCommand at h
 refine acalls (fn:=Tryz.f39) [0,2] (by kernel_rfl) Tryz.func39 r (by kernel_rfl) (by kernel_rfl)<|w_sr<|sB r<|o_ek (fr':=[(0,aI)]) r r<|w_sr<|mI r ?_
 obtain ⟨x1,hx1,h2⟩:=bind_s h
 refine o_v (ov_call (v:=aI) r (w_ref22xcommand hx1) ⟨lr,trivial⟩ r r r)<|o_p r (p_gtr r r)<|sB r<|o_ek (fr':=[(2,aB)]) r r<|w_ret ?_
 obtain rfl:=sy h2
 exact e_ret (rs':=[.tmp 2]) r<|r_tmp (v:=aB) r<|r_nil<|fin_gen [] r r r lr st_nil
noncomputable def ref06xletter (p0c:Int):Option Bool :=
 some (cond (cond (cond (cond (decide ((97:Int)≤p0c)) (decide (p0c≤(122:Int))) false) true (cond (decide ((65:Int)≤p0c)) (decide (p0c≤(90:Int))) false)) true (cond (decide ((48:Int)≤p0c)) (decide (p0c≤(57:Int))) false)) true (decide (p0c=(95:Int))))
theorem w_ref06xletter {p0c:Int}{res:Bool} (h:ref06xletter p0c=some res):ACalls Tryz.prog 68 [.c (.int .u8 p0c)] [] (.c (.bool res)) []:=by
 unfold ref06xletter at h
 refine acalls (fn:=Tryz.f68) [0,2] (by kernel_rfl) Tryz.func68 r (by kernel_rfl) (by kernel_rfl)<|w_sr<|sB r<|o_ek (fr':=[(0,aI)]) r r<|w_sr<|mI r<|o_p r (p_geq r r)<|mB r<|og r r r (fun hc=>(p_move (v:=aI) r))<|og r r r (fun hc=>(p_leq (gx r hc) r))<|o_p r (p_picky r r r (fun e=>keq e)) ?_
 refine mB r<|og r r r (fun hc=>(p_move (v:=aI) r))<|og r r r (fun hc=>(p_geq (gx r hc) r))<|og r r r (fun hc=>(p_move (v:=aB) (gx r hc)))<|o_gg r r (fun hc=>ov_p r (p_move (v:=aI) r))<|o_gg r r (fun hc=>ov_p r (p_leq (gx r hc) r))<|og r r r (fun hc=>(p_picky (gx r hc) r r (fun e=>band hc (keq e))))<|o_p r (p_pickz r r r (fun e=>keq e))<|mB r<|og r r r (fun hc=>(p_move (v:=aI) r))<|og r r r (fun hc=>(p_geq (gx r hc) r))<|og r r r (fun hc=>(p_move (v:=aB) (gx r hc)))<|o_gg r r (fun hc=>ov_p r (p_move (v:=aI) r)) ?_
 refine o_gg r r (fun hc=>ov_p r (p_leq (gx r hc) r))<|og r r r (fun hc=>(p_picky (gx r hc) r r (fun e=>band hc (keq e))))<|o_p r (p_pickz r r r (fun e=>keq e))<|mB r<|og r r r (fun hc=>(p_move (v:=aI) r))<|og r r r (fun hc=>(p_eql (gx r hc) r))<|o_p r (p_pickz r r r (fun e=>keq e))<|sB r<|o_ek (fr':=[(2,aB)]) r r<|w_ret ?_
 obtain rfl:=sy h
 exact e_ret (rs':=[.tmp 2]) r<|r_tmp (v:=aB) r<|r_nil<|fin_gen [] r r r lr st_nil
noncomputable def ref06xRight_l1 (p0s:(List UInt8)) (s10:Int):Option (Step Int (Fl Bool Unit)) :=
 cond (decide (s10<((p0s).length:Int))) ((idx p0s s10).bind fun x12=>(ref06xletter ((x12).toNat:Int)).bind fun x14=>cond (!x14) (some (Step.out (Fl.done false))) (some (Step.next (IntKind.wrap .i64 (s10+(1:Int)))))) (some (Step.out (Fl.go ())))
noncomputable def ref06xRight (p0s:(List UInt8)):Option Bool :=
 (gd ((cond (decide (((p0s).length:Int)<(1:Int))) true (decide ((64:Int)<((p0s).length:Int))))==false) (idx p0s (0:Int))).bind fun x1=>(gd (((cond (decide (((p0s).length:Int)<(1:Int))) true (decide ((64:Int)<((p0s).length:Int))))==false)&&((decide ((48:Int)≤((x1).toNat:Int)))==true)) (idx p0s (0:Int))).bind fun x3=>cond (cond (cond (decide (((p0s).length:Int)<(1:Int))) true (decide ((64:Int)<((p0s).length:Int)))) true (cond (decide ((48:Int)≤((x1).toNat:Int))) (decide (((x3).toNat:Int)≤(57:Int))) false)) (some false) (((loopO (ref06xRight_l1 p0s) ((0:Int))):Option (Fl Bool Unit)).bind fun x7=>Fl.next x7 (fun j9=>(some true)))
theorem w_ref06xRight {p0s:(List UInt8)}{res:Bool} (h:ref06xRight p0s=some res):ACalls Tryz.prog 42 [.c (.str p0s)] [] (.c (.bool res)) []:=by
 unfold ref06xRight at h
 refine acalls (fn:=Tryz.f42) [0,2,3,21,25,32] (by kernel_rfl) Tryz.func42 r (by kernel_rfl) (by kernel_rfl)<|w_sr<|sB r<|o_ek (fr':=[(0,aS)]) r r<|w_seqw<|w_sr<|mS r<|o_p r (p_lens ti9 r)<|o_p r (p_lss r r)<|mB r<|og r r r (fun hc=>(p_move (v:=aS) r)) ?_
 refine og r r r (fun hc=>(p_lens ti9 (gx r hc)))<|og r r r (fun hc=>(p_gtr (gx r hc) r))<|o_p r (p_pickz r r r (fun e=>keq e))<|mB r<|og r r r (fun hc=>(p_move (v:=aS) r)) ?_
 obtain ⟨x1,hx1,h2⟩:=bind_s h
 refine og r r r (fun hc=>(p_is ti9 (gx r hc) r (gd_some hx1 hc)))<|og r r r (fun hc=>(p_geq (gx r hc) r))<|og r r r (fun hc=>(p_move (v:=aB) (gx r hc)))<|o_gg r r (fun hc=>ov_p r (p_move (v:=aS) r)) ?_
 obtain ⟨x3,hx3,h4⟩:=bind_s h2
 refine o_gg r r (fun hc=>ov_p r (p_is ti9 (gx r hc) r (gd_some hx3 hc)))<|o_gg r r (fun hc=>ov_p r (p_leq (gx r hc) r))<|og r r r (fun hc=>(p_picky (gx r hc) r r (fun e=>band hc (keq e))))<|o_p r (p_pickz r r r (fun e=>keq e))<|o_ek (fr':=[(0,aS),(21,aB)]) r r<|w_ch h4 r (fun hb5 h5=>?_) (fun hb5 h5=>?_)
 ·
  refine w_sr<|sB r<|o_ek (fr':=[(2,aB)]) r r<|w_ret<|e_seq_r ?_
  obtain rfl:=sy h5
  exact e_ret (rs':=[.tmp 2]) r<|r_tmp (v:=aB) r<|r_nil<|fin_gen [] r r r lr st_nil
 ·
  refine w_skip<|e_kw<|w_seqw<|w_sr<|sI r<|o_ek (fr':=[(0,aS),(3,aI)]) r r ?_
  obtain ⟨x7,hx7,h8⟩:=bind_s h5
  refine w_jtail cl_kw (fun j9=>x7=Fl.go j9) (fun (j9:Unit)=>([]:Fr)) (fun (j9:Unit)=>([]:St)) ?_ ?_
  ·
   refine w_block<|w_loopo _ (fun (s10:Int)=>([(0,.c (.str p0s)),(3,.c (.int .i64 s10))]:Fr)) (fun (s10:Int)=>([]:St)) hx7 (w_weak [] 0 r r r r ⟨lr,lr,trivial⟩ st_nil) ?_
   intro s10 st10 hs10 ho10
   unfold ref06xRight_l1 at hs10
   refine w_seqw<|w_sr<|mI r<|mS r<|o_p r (p_lens ti9 r)<|o_p r (p_lss r r)<|o_ek (fr':=[(0,aS),(3,aI),(25,aB)]) r r<|w_ch hs10 r (fun hb11 h11=>?_) (fun hb11 h11=>?_)
   ·
    refine w_skip<|e_kw<|w_seqw<|w_block<|w_sr<|mS r<|mI r ?_
    obtain ⟨x12,hx12,h13⟩:=bind_s h11
    refine o_p r (p_is ti9 r r hx12) ?_
    obtain ⟨x14,hx14,h15⟩:=bind_s h13
    refine o_v (ov_call (v:=aB) r (w_ref06xletter hx14) ⟨lr,trivial⟩ r r r)<|o_p r (p_not r)<|o_ek (fr':=[(0,aS),(3,aI),(32,aB)]) r r<|w_ch h15 r (fun hb16 h16=>?_) (fun hb16 h16=>?_)
    ·
     refine w_sr<|sB r<|o_ek (fr':=[(2,aB)]) r r<|w_ret<|e_blk_r<|e_seq_r<|e_seq_r<|e_blk_r<|e_seq_r<|e_seq_r ?_
     have h17:=un_out h16 ho10
     have h18:=un_done h17 h8
     obtain rfl:=sy h18
     exact e_ret (rs':=[.tmp 2]) r<|r_tmp (v:=aB) r<|r_nil<|fin_gen [] r r r lr st_nil
    ·
     exact w_skip<|e_blk_n<|e_kw<|w_region<|mI r<|o_p r (p_add r r)<|sI r<|o_end (fr':=[(0,aS),(3,aI),(32,aB)]) r<|e_l _ (sy h16) (w_weak [] 0 r r r r ⟨lr,lr,trivial⟩ st_nil)
   ·
    refine w_exit<|e_seq_x<|e_seq_x<|e_blk_h ?_
    have h20:=un_out h11 ho10
    exact e_j _ (sy h20) (w_weak [] 0 r r r r trivial st_nil)
  ·
   intro j9 hj21
   have h21:=un_go hj21 h8
   refine e_kw<|w_sr<|sB r<|o_ek (fr':=[(2,aB)]) r r<|w_ret ?_
   obtain rfl:=sy h21
   exact e_ret (rs':=[.tmp 2]) r<|r_tmp (v:=aB) r<|r_nil<|fin_gen [] r r r lr st_nil
noncomputable def ref20xin (p0n:Int) (p1low:Int) (p2high:Int):Option Bool :=
 some (cond (decide (p1low≤p0n)) (decide (p0n≤p2high)) false)
theorem w_ref20xin {p0n:Int}{p1low:Int}{p2high:Int}{res:Bool} (h:ref20xin p0n p1low p2high=some res):ACalls Tryz.prog 62 [.c (.int .i64 p0n),.c (.int .i64 p1low),.c (.int .i64 p2high)] [] (.c (.bool res)) []:=by
 unfold ref20xin at h
 refine acalls (fn:=Tryz.f62) [0,1,2,6] (by kernel_rfl) Tryz.func62 r (by kernel_rfl) (by kernel_rfl)<|w_sr<|sB r<|o_ek (fr':=[(0,aI),(1,aI),(2,aI)]) r r<|w_sr<|mI r<|mI r<|o_p r (p_geq r r)<|mB r<|og r r r (fun hc=>(p_move (v:=aI) r))<|og r r r (fun hc=>(p_move (v:=aI) r)) ?_
 refine og r r r (fun hc=>(p_leq (gx r hc) (gx r hc)))<|o_p r (p_picky r r r (fun e=>keq e))<|sB r<|o_ek (fr':=[(6,aB)]) r r<|w_ret ?_
 obtain rfl:=sy h
 exact e_ret (rs':=[.tmp 6]) r<|r_tmp (v:=aB) r<|r_nil<|fin_gen [] r r r lr st_nil
noncomputable def ref02xSame_l1 (p0a:ApiValue) (p1b:ApiValue) (s6:Int):Option (Step Int (Fl Bool Unit)) :=
 cond (decide (s6<((p0a.Keys).length:Int))) ((idx p0a.Keys s6).bind fun x8=>(idx p1b.Keys s6).bind fun x10=>cond (!decide (x8=x10)) (some (Step.out (Fl.done false))) (some (Step.next (IntKind.wrap .i64 (s6+(1:Int)))))) (some (Step.out (Fl.go ())))
noncomputable def ref02xSame_l2 (rec_ref02xSame:ApiValue→ApiValue→Option Bool) (p0a:ApiValue) (p1b:ApiValue) (s21:Int):Option (Step Int (Fl Bool Unit)) :=
 cond (decide (s21<((p0a.Items).length:Int))) ((idx p0a.Items s21).bind fun x23=>(idx p1b.Items s21).bind fun x25=>(rec_ref02xSame x23 x25).bind fun x27=>cond (!x27) (some (Step.out (Fl.done false))) (some (Step.next (IntKind.wrap .i64 (s21+(1:Int)))))) (some (Step.out (Fl.go ())))
noncomputable def ref02xSameF:Nat→ApiValue→ApiValue→Option Bool
 | 0,_,_=>none
 | n+1,p0a,p1b =>
  cond (cond (cond (cond (cond (!decide (p0a.Kind=p1b.Kind)) true (!decide (p0a.Int=p1b.Int))) true (!decide (p0a.Text=p1b.Text))) true (!decide (((p0a.Items).length:Int)=((p1b.Items).length:Int)))) true (!decide (((p0a.Keys).length:Int)=((p1b.Keys).length:Int)))) (some false) (((loopO (ref02xSame_l1 p0a p1b) ((0:Int))):Option (Fl Bool Unit)).bind fun x3=>Fl.next x3 (fun j5=>(((loopO (ref02xSame_l2 (ref02xSameF n) p0a p1b) ((0:Int))):Option (Fl Bool Unit)).bind fun x18=>Fl.next x18 (fun j20=>(some true)))))
theorem wF_ref02xSame:∀ n:Nat,(∀ {p0a:ApiValue}{p1b:ApiValue}{res:Bool},ref02xSameF n p0a p1b=some res→ACalls Tryz.prog 25 [.agg (AV.cs (exApiValue p0a)),.agg (AV.cs (exApiValue p1b))] [] (.c (.bool res)) []):=by
 intro n
 induction n with
 | zero=>exact fun {p0a p1b res} h=>absurd h (by simp [ref02xSameF])
 | succ n ih =>
  have ih_ref02xSame:=@ih
  intro p0a p1b res h
  rw [ref02xSameF] at h
  refine acalls (fn:=Tryz.f25) [0,1,2,3,4,5,6,43,48,61,66,80] (by kernel_rfl) Tryz.func25 r (by kernel_rfl) (by kernel_rfl)<|w_sr<|o_box (v:=.agg aIISLL) (n:=0) (cs:=aIISLL) (σ':=[aIISLL]) r r r r r<|o_box (v:=.agg aIISLL) (n:=1) (cs:=aIISLL) (σ':=[aIISLL,aIISLL]) r r r r r<|sB r<|o_ek (fr':=[(2,.box 0 0),(3,.box 1 0)]) r r<|w_seqw<|w_sr<|o_p r (p_fa tf41x0 r)<|o_p r (p_load (v:=aI) tv3 r r r)<|o_p r (p_fa tf41x0 r) ?_
  refine o_p r (p_load (v:=aI) tv3 r r r)<|o_p r (p_neq r r)<|mB r<|og r r r (fun hc=>(p_fa tf41x1 r))<|og r r r (fun hc=>(p_load (v:=aI) tv3 (gx r hc) r r))<|og r r r (fun hc=>(p_fa tf41x1 r))<|og r r r (fun hc=>(p_load (v:=aI) tv3 (gx r hc) r r))<|og r r r (fun hc=>(p_neq (gx r hc) (gx r hc)))<|o_p r (p_pickz r r r (fun e=>keq e))<|mB r<|og r r r (fun hc=>(p_fa tf41x2 r))<|og r r r (fun hc=>(p_load (v:=aS) tv9 (gx r hc) r r))<|og r r r (fun hc=>(p_fa tf41x2 r)) ?_
  refine og r r r (fun hc=>(p_load (v:=aS) tv9 (gx r hc) r r))<|og r r r (fun hc=>(p_sneq (gx r hc) (gx r hc)))<|o_p r (p_pickz r r r (fun e=>keq e))<|mB r<|og r r r (fun hc=>(p_fa tf41x3 r))<|og r r r (fun hc=>(p_load (v:=aL) tv38 (gx r hc) r r))<|og r r r (fun hc=>(p_len ti38 (isl_c (gx r hc))))<|og r r r (fun hc=>(p_fa tf41x3 r))<|og r r r (fun hc=>(p_load (v:=aL) tv38 (gx r hc) r r))<|og r r r (fun hc=>(p_len ti38 (isl_c (gx r hc))))<|og r r r (fun hc=>(p_neq (gx r hc) (gx r hc)))<|o_p r (p_pickz r r r (fun e=>keq e))<|mB r ?_
  refine og r r r (fun hc=>(p_fa tf41x4 r))<|og r r r (fun hc=>(p_load (v:=aL) tv39 (gx r hc) r r))<|og r r r (fun hc=>(p_len ti39 (isl_c (gx r hc))))<|og r r r (fun hc=>(p_fa tf41x4 r))<|og r r r (fun hc=>(p_load (v:=aL) tv39 (gx r hc) r r))<|og r r r (fun hc=>(p_len ti39 (isl_c (gx r hc))))<|og r r r (fun hc=>(p_neq (gx r hc) (gx r hc)))<|o_p r (p_pickz r r r (fun e=>keq e))<|o_ek (fr':=[(2,.box 0 0),(3,.box 1 0),(43,aB)]) r r<|w_ch h r (fun hb1 h1=>?_) (fun hb1 h1=>?_)
  ·
   refine w_sr<|sB r<|o_ek (fr':=[(4,aB)]) r r<|w_ret<|e_seq_r ?_
   obtain rfl:=sy h1
   exact e_ret (rs':=[.tmp 4]) r<|r_tmp (v:=aB) r<|r_nil<|fin_gen [] r r r lr st_nil
  ·
   refine w_skip<|e_kw<|w_seqw<|w_sr<|sI r<|o_ek (fr':=[(2,.box 0 0),(3,.box 1 0),(5,aI)]) r r ?_
   obtain ⟨x3,hx3,h4⟩:=bind_s h1
   refine w_jtail cl_kw (fun j5=>x3=Fl.go j5) (fun (j5:Unit)=>([(2,.box 0 0),(3,.box 1 0)]:Fr)) (fun (j5:Unit)=>([[.c (.int .i64 p0a.Kind),.c (.int .i64 p0a.Int),.c (.str p0a.Text),.c (PV.ls 5 rowApiValue p0a.Items),.c (PV.ls 1 rowS p0a.Keys)],[.c (.int .i64 p1b.Kind),.c (.int .i64 p1b.Int),.c (.str p1b.Text),.c (PV.ls 5 rowApiValue p1b.Items),.c (PV.ls 1 rowS p1b.Keys)]]:St)) ?_ ?_
   ·
    refine w_block<|w_loopo _ (fun (s6:Int)=>([(2,.box 0 0),(3,.box 1 0),(5,.c (.int .i64 s6))]:Fr)) (fun (s6:Int)=>([[.c (.int .i64 p0a.Kind),.c (.int .i64 p0a.Int),.c (.str p0a.Text),.c (PV.ls 5 rowApiValue p0a.Items),.c (PV.ls 1 rowS p0a.Keys)],[.c (.int .i64 p1b.Kind),.c (.int .i64 p1b.Int),.c (.str p1b.Text),.c (PV.ls 5 rowApiValue p1b.Items),.c (PV.ls 1 rowS p1b.Keys)]]:St)) hx3 (w_weak [] 2 r r r r ⟨lr,lr,lr,trivial⟩ (st_r r (st_r r st_nil))) ?_
    intro s6 st6 hs6 ho6
    unfold ref02xSame_l1 at hs6
    refine w_seqw<|w_sr<|mI r<|o_p r (p_fa tf41x4 r)<|o_p r (p_load (v:=aL) tv39 r r r)<|o_p r (p_len ti39 (isl_c r))<|o_p r (p_lss r r)<|o_ek (fr':=[(2,.box 0 0),(3,.box 1 0),(5,aI),(48,aB)]) r r<|w_ch hs6 r (fun hb7 h7=>?_) (fun hb7 h7=>?_)
    ·
     refine w_skip<|e_kw<|w_seqw<|w_block<|w_seqw<|w_planT [.q 0,.q 1,.q 2,.q 3,.q 4,.q 5,.q 6,.q 7,.q 8,.q 9,.q 10] [(some 51,[2]),(some 52,[51]),(some 53,[5]),(some 54,[52,53]),(some 55,[54]),(some 56,[3]),(some 57,[56]),(some 58,[5]),(some 59,[57,58]),(some 60,[59]),(some 61,[55,60])] [0,1,0,7,15,0,32,0,224,480,1023] (by kernel_rfl)<|dq r r (p_fa tf41x4 r)<|dq r r (p_load (v:=aL) tv39 r r r)<|dq r r (p_move (v:=aI) r) ?_
     obtain ⟨x8,hx8,h9⟩:=bind_s h7
     refine dq r r (p_ia (cs:=[PV.str _]) ts39 (isl_c r) r hx8 r)<|dq r r (p_loade (p:=PV.str _) tv9 r r)<|dq r r (p_fa tf41x4 r)<|dq r r (p_load (v:=aL) tv39 r r r)<|dq r r (p_move (v:=aI) r) ?_
     obtain ⟨x10,hx10,h11⟩:=bind_s h9
     refine dq r r (p_ia (cs:=[PV.str _]) ts39 (isl_c r) r hx10 r)<|dq r r (p_loade (p:=PV.str _) tv9 r r)<|dq r r (p_sneq r r)<|d_ek (fr':=[(2,.box 0 0),(3,.box 1 0),(5,aI),(61,aB)]) r r<|w_ch h11 r (fun hb12 h12=>?_) (fun hb12 h12=>?_)
     ·
      refine w_sr<|sB r<|o_ek (fr':=[(4,aB)]) r r<|w_ret<|e_blk_r<|e_seq_r<|e_seq_r<|e_blk_r<|e_seq_r<|e_seq_r ?_
      have h13:=un_out h12 ho6
      have h14:=un_done h13 h4
      obtain rfl:=sy h14
      exact e_ret (rs':=[.tmp 4]) r<|r_tmp (v:=aB) r<|r_nil<|fin_gen [] r r r lr st_nil
     ·
      exact w_skip<|e_blk_n<|e_kw<|w_region<|mI r<|o_p r (p_add r r)<|sI r<|o_end (fr':=[(2,.box 0 0),(3,.box 1 0),(5,aI),(61,aB)]) r<|e_l _ (sy h12) (w_weak [] 2 r r r r ⟨lr,lr,lr,trivial⟩ (st_r r (st_r r st_nil)))
    ·
     refine w_exit<|e_seq_x<|e_seq_x<|e_blk_h ?_
     have h16:=un_out h7 ho6
     exact e_j _ (sy h16) (w_weak [] 2 r r r r ⟨lr,lr,trivial⟩ (st_r r (st_r r st_nil)))
   ·
    intro j5 hj17
    have h17:=un_go hj17 h4
    refine e_kw<|w_seqw<|w_sr<|sI r<|o_ek (fr':=[(2,.box 0 0),(3,.box 1 0),(6,aI)]) r r ?_
    obtain ⟨x18,hx18,h19⟩:=bind_s h17
    refine w_jtail cl_kw (fun j20=>x18=Fl.go j20) (fun (j20:Unit)=>([]:Fr)) (fun (j20:Unit)=>([[.c (.int .i64 p0a.Kind),.c (.int .i64 p0a.Int),.c (.str p0a.Text),.c (PV.ls 5 rowApiValue p0a.Items),.c (PV.ls 1 rowS p0a.Keys)],[.c (.int .i64 p1b.Kind),.c (.int .i64 p1b.Int),.c (.str p1b.Text),.c (PV.ls 5 rowApiValue p1b.Items),.c (PV.ls 1 rowS p1b.Keys)]]:St)) ?_ ?_
    ·
     refine w_block<|w_loopo _ (fun (s21:Int)=>([(2,.box 0 0),(3,.box 1 0),(6,.c (.int .i64 s21))]:Fr)) (fun (s21:Int)=>([[.c (.int .i64 p0a.Kind),.c (.int .i64 p0a.Int),.c (.str p0a.Text),.c (PV.ls 5 rowApiValue p0a.Items),.c (PV.ls 1 rowS p0a.Keys)],[.c (.int .i64 p1b.Kind),.c (.int .i64 p1b.Int),.c (.str p1b.Text),.c (PV.ls 5 rowApiValue p1b.Items),.c (PV.ls 1 rowS p1b.Keys)]]:St)) hx18 (w_weak [] 2 r r r r ⟨lr,lr,lr,trivial⟩ (st_r r (st_r r st_nil))) ?_
     intro s21 st21 hs21 ho21
     unfold ref02xSame_l2 at hs21
     refine w_seqw<|w_sr<|mI r<|o_p r (p_fa tf41x3 r)<|o_p r (p_load (v:=aL) tv38 r r r)<|o_p r (p_len ti38 (isl_c r))<|o_p r (p_lss r r)<|o_ek (fr':=[(2,.box 0 0),(3,.box 1 0),(6,aI),(66,aB)]) r r<|w_ch hs21 r (fun hb22 h22=>?_) (fun hb22 h22=>?_)
     ·
      refine w_skip<|e_kw<|w_seqw<|w_block<|w_seqw<|w_planT [.q 0,.q 1,.q 2,.q 3,.q 4,.q 5,.q 6,.q 7,.q 8,.q 9,.q 10,.q 11] [(some 69,[2]),(some 70,[69]),(some 71,[6]),(some 72,[70,71]),(some 73,[72]),(some 74,[3]),(some 75,[74]),(some 76,[6]),(some 77,[75,76]),(some 78,[77]),(some 79,[73,78]),(some 80,[79])] [0,1,0,7,15,0,32,0,224,480,1023,2047] (by kernel_rfl)<|dq r r (p_fa tf41x3 r)<|dq r r (p_load (v:=aL) tv38 r r r)<|dq r r (p_move (v:=aI) r) ?_
      obtain ⟨x23,hx23,h24⟩:=bind_s h22
      refine dq r r (p_ia (cs:=[PV.int _ _,PV.int _ _,PV.str _,PV.ls _ _ _,PV.ls _ _ _]) ts38 (isl_c r) r hx23 (rowApiValue_eq _))<|dq r r (p_loades (us:=[PV.int _ _,PV.int _ _,PV.str _,PV.ls _ _ _,PV.ls _ _ _]) tv41 r r r)<|dq r r (p_fa tf41x3 r)<|dq r r (p_load (v:=aL) tv38 r r r)<|dq r r (p_move (v:=aI) r) ?_
      obtain ⟨x25,hx25,h26⟩:=bind_s h24
      refine dq r r (p_ia (cs:=[PV.int _ _,PV.int _ _,PV.str _,PV.ls _ _ _,PV.ls _ _ _]) ts38 (isl_c r) r hx25 (rowApiValue_eq _))<|dq r r (p_loades (us:=[PV.int _ _,PV.int _ _,PV.str _,PV.ls _ _ _,PV.ls _ _ _]) tv41 r r r) ?_
      obtain ⟨x27,hx27,h28⟩:=bind_s h26
      refine d_q r (qv_call (v:=aB) r (ih_ref02xSame hx27) ⟨(le_aggc r ⟨r,r,r,r,r,trivial⟩),(le_aggc r ⟨r,r,r,r,r,trivial⟩),trivial⟩ r)<|dq r r (p_not r)<|d_ek (fr':=[(2,.box 0 0),(3,.box 1 0),(6,aI),(80,aB)]) r r<|w_ch h28 r (fun hb29 h29=>?_) (fun hb29 h29=>?_)
      ·
       refine w_sr<|sB r<|o_ek (fr':=[(4,aB)]) r r<|w_ret<|e_blk_r<|e_seq_r<|e_seq_r<|e_blk_r<|e_seq_r<|e_seq_r ?_
       have h30:=un_out h29 ho21
       have h31:=un_done h30 h19
       obtain rfl:=sy h31
       exact e_ret (rs':=[.tmp 4]) r<|r_tmp (v:=aB) r<|r_nil<|fin_gen [] r r r lr st_nil
      ·
       exact w_skip<|e_blk_n<|e_kw<|w_region<|mI r<|o_p r (p_add r r)<|sI r<|o_end (fr':=[(2,.box 0 0),(3,.box 1 0),(6,aI),(80,aB)]) r<|e_l _ (sy h29) (w_weak [] 2 r r r r ⟨lr,lr,lr,trivial⟩ (st_r r (st_r r st_nil)))
     ·
      refine w_exit<|e_seq_x<|e_seq_x<|e_blk_h ?_
      have h33:=un_out h22 ho21
      exact e_j _ (sy h33) (w_weak [] 2 r r r r trivial (st_r r (st_r r st_nil)))
    ·
     intro j20 hj34
     have h34:=un_go hj34 h19
     refine e_kw<|w_sr<|sB r<|o_ek (fr':=[(4,aB)]) r r<|w_ret ?_
     obtain rfl:=sy h34
     exact e_ret (rs':=[.tmp 4]) r<|r_tmp (v:=aB) r<|r_nil<|fin_gen [] r r r lr st_nil
noncomputable def ref02xSame (p0a:ApiValue) (p1b:ApiValue):Option Bool:=lim fun n=>ref02xSameF n p0a p1b
theorem w_ref02xSame {p0a:ApiValue}{p1b:ApiValue}{res:Bool} (h:ref02xSame p0a p1b=some res):ACalls Tryz.prog 25 [.agg (AV.cs (exApiValue p0a)),.agg (AV.cs (exApiValue p1b))] [] (.c (.bool res)) []:=by
 obtain ⟨n,hn⟩:=lim_some h
 exact (wF_ref02xSame n) hn
noncomputable def ref20xSame (p0a:ApiCommand) (p1b:ApiCommand):Option Bool :=
 (gd ((cond (cond (cond (cond (decide (p0a.Kind=p1b.Kind)) (decide (p0a.Seq=p1b.Seq)) false) (decide (p0a.Name=p1b.Name)) false) (decide (p0a.Key=p1b.Key)) false) (decide (p0a.N=p1b.N)) false)==true) (ref02xSame p0a.Data p1b.Data)).bind fun x1=>(gd ((cond (cond (cond (cond (cond (decide (p0a.Kind=p1b.Kind)) (decide (p0a.Seq=p1b.Seq)) false) (decide (p0a.Name=p1b.Name)) false) (decide (p0a.Key=p1b.Key)) false) (decide (p0a.N=p1b.N)) false) x1 false)==true) (ref20xSamePolicy p0a.Opts p1b.Opts)).bind fun x3=>some (cond (cond (cond (cond (cond (cond (decide (p0a.Kind=p1b.Kind)) (decide (p0a.Seq=p1b.Seq)) false) (decide (p0a.Name=p1b.Name)) false) (decide (p0a.Key=p1b.Key)) false) (decide (p0a.N=p1b.N)) false) x1 false) x3 false)
theorem w_ref20xSame {p0a:ApiCommand}{p1b:ApiCommand}{res:Bool} (h:ref20xSame p0a p1b=some res):ACalls Tryz.prog 63 [.agg (AV.cs (rowApiCommand p0a)),.agg (AV.cs (rowApiCommand p1b))] [] (.c (.bool res)) []:=by
 unfold ref20xSame at h
 refine acalls (fn:=Tryz.f63) [0,1,2,3,4] (by kernel_rfl) Tryz.func63 r (by kernel_rfl) (by kernel_rfl)<|w_sr<|o_box (v:=.agg aIISSIIISLLSIIIIIIIIL) (n:=0) (cs:=aIISSIIISLLSIIIIIIIIL) (σ':=[aIISSIIISLLSIIIIIIIIL]) r r r r r<|o_box (v:=.agg aIISSIIISLLSIIIIIIIIL) (n:=1) (cs:=aIISSIIISLLSIIIIIIIIL) (σ':=[aIISSIIISLLSIIIIIIIIL,aIISSIIISLLSIIIIIIIIL]) r r r r r<|sB r<|o_ek (fr':=[(2,.box 0 0),(3,.box 1 0)]) r r<|w_sr<|o_p r (p_fa tf70x0 r)<|o_p r (p_load (v:=aI) tv3 r r r)<|o_p r (p_fa tf70x0 r)<|o_p r (p_load (v:=aI) tv3 r r r) ?_
 refine o_p r (p_eql r r)<|mB r<|og r r r (fun hc=>(p_fa tf70x1 r))<|og r r r (fun hc=>(p_load (v:=aI) tv3 (gx r hc) r r))<|og r r r (fun hc=>(p_fa tf70x1 r))<|og r r r (fun hc=>(p_load (v:=aI) tv3 (gx r hc) r r))<|og r r r (fun hc=>(p_eql (gx r hc) (gx r hc)))<|o_p r (p_picky r r r (fun e=>keq e))<|mB r<|og r r r (fun hc=>(p_fa tf70x2 r))<|og r r r (fun hc=>(p_load (v:=aS) tv9 (gx r hc) r r))<|og r r r (fun hc=>(p_fa tf70x2 r))<|og r r r (fun hc=>(p_load (v:=aS) tv9 (gx r hc) r r)) ?_
 refine og r r r (fun hc=>(p_seql (gx r hc) (gx r hc)))<|o_p r (p_picky r r r (fun e=>keq e))<|mB r<|og r r r (fun hc=>(p_fa tf70x3 r))<|og r r r (fun hc=>(p_load (v:=aS) tv9 (gx r hc) r r))<|og r r r (fun hc=>(p_fa tf70x3 r))<|og r r r (fun hc=>(p_load (v:=aS) tv9 (gx r hc) r r))<|og r r r (fun hc=>(p_seql (gx r hc) (gx r hc)))<|o_p r (p_picky r r r (fun e=>keq e))<|mB r<|og r r r (fun hc=>(p_fa tf70x4 r))<|og r r r (fun hc=>(p_load (v:=aI) tv3 (gx r hc) r r))<|og r r r (fun hc=>(p_fa tf70x4 r)) ?_
 refine og r r r (fun hc=>(p_load (v:=aI) tv3 (gx r hc) r r))<|og r r r (fun hc=>(p_eql (gx r hc) (gx r hc)))<|o_p r (p_picky r r r (fun e=>keq e))<|mB r<|og r r r (fun hc=>(p_fa tf70x5 r))<|og r r r (fun hc=>(p_loads (us:=aIISLL) tv41 (gx r hc) r r r))<|og r r r (fun hc=>(p_fa tf70x5 r))<|og r r r (fun hc=>(p_loads (us:=aIISLL) tv41 (gx r hc) r r r)) ?_
 obtain ⟨x1,hx1,h2⟩:=bind_s h
 refine o_g r r (fun hc=>ov_call (v:=aB) r (w_ref02xSame (gd_some hx1 hc)) ⟨(le_gv (gx r hc) (le_aggc r ⟨r,r,r,r,r,trivial⟩)),(le_gv (gx r hc) (le_aggc r ⟨r,r,r,r,r,trivial⟩)),trivial⟩ (ok_eq (by repeat (first | exact ok_nil | refine ok_cons r ?_ | refine ok_cons (dgv r) ?_ | refine ok_cons dar ?_))) r r) ?_
 refine o_p r (p_picky r r r (fun e=>keq e))<|mB r<|og r r r (fun hc=>(p_fa tf70x6 r))<|og r r r (fun hc=>(p_loads (us:=aSIIIIIIIIL) tv43 (gx r hc) r r r))<|og r r r (fun hc=>(p_fa tf70x6 r))<|og r r r (fun hc=>(p_loads (us:=aSIIIIIIIIL) tv43 (gx r hc) r r r)) ?_
 obtain ⟨x3,hx3,h4⟩:=bind_s h2
 refine o_g r r (fun hc=>ov_call (v:=aB) r (w_ref20xSamePolicy (gd_some hx3 hc)) ⟨(le_gv (gx r hc) (le_aggc r ⟨r,r,r,r,r,r,r,r,r,r,trivial⟩)),(le_gv (gx r hc) (le_aggc r ⟨r,r,r,r,r,r,r,r,r,r,trivial⟩)),trivial⟩ (ok_eq (by repeat (first | exact ok_nil | refine ok_cons r ?_ | refine ok_cons (dgv r) ?_ | refine ok_cons dar ?_))) r r) ?_
 refine o_p r (p_picky r r r (fun e=>keq e))<|sB r<|o_ek (fr':=[(4,aB)]) r r<|w_ret ?_
 obtain rfl:=sy h4
 exact e_ret (rs':=[.tmp 4]) r<|r_tmp (v:=aB) r<|r_nil<|fin_gen [] r r r lr st_nil
end Go.Proofs.YtmbdbdhdcbdcpaaGreatDoor

import Derived.Test.YtmbdbdhdcbdcpaaGreatDoorGATy
namespace Go.Proofs.YtmbdbdhdcbdcpaaGreatDoor
open Go Abs
set_option maxRecDepth 100000
set_option linter.unusedVariables false
set_option linter.unusedSimpArgs false
noncomputable def ref20xSamePolicy_l1 (p0a:ApiPolicy) (p1b:ApiPolicy) (s8:Int):Option (Step Int (Fl Bool Unit)) :=
 cond (decide (s8<((p0a.Fatal).length:Int))) ((idx p0a.Fatal s8).bind fun x10=>(idx p1b.Fatal s8).bind fun x12=>cond (!decide (x10=x12)) (some (Step.out (Fl.done false))) (some (Step.next (IntKind.wrap .i64 (s8+(1:Int)))))) (some (Step.out (Fl.go ())))
noncomputable def ref20xSamePolicy (p0a:ApiPolicy) (p1b:ApiPolicy):Option Bool :=
 cond (cond (cond (cond (cond (!decide (p0a.Queue=p1b.Queue)) true (!decide (p0a.ToStart=p1b.ToStart))) true (!decide (p0a.ToClose=p1b.ToClose))) true (!decide (p0a.Total=p1b.Total))) true (!decide (p0a.Beat=p1b.Beat))) (some false) (cond (cond (cond (cond (cond (!decide (p0a.First=p1b.First)) true (!decide (p0a.Coef=p1b.Coef))) true (!decide (p0a.Most=p1b.Most))) true (!decide (p0a.Attempts=p1b.Attempts))) true (!decide (((p0a.Fatal).length:Int)=((p1b.Fatal).length:Int)))) (some false) (((loopO (ref20xSamePolicy_l1 p0a p1b) ((0:Int))):Option (Fl Bool Unit)).bind fun x5=>Fl.next x5 (fun j7=>(some true))))
theorem w_ref20xSamePolicy {p0a:ApiPolicy}{p1b:ApiPolicy}{res:Bool} (h:ref20xSamePolicy p0a p1b=some res):ACalls Tryz.prog 26 [.agg (AV.cs (rowApiPolicy p0a)),.agg (AV.cs (rowApiPolicy p1b))] [] (.c (.bool res)) []:=by
 unfold ref20xSamePolicy at h
 refine acalls (fn:=Tryz.f26) [0,1,2,3,4,5,38,73,78,91] (by kernel_rfl) Tryz.func26 r (by kernel_rfl) (by kernel_rfl)<|w_sr<|o_box (v:=.agg aSIIIIIIIIL) (n:=0) (cs:=aSIIIIIIIIL) (σ':=[aSIIIIIIIIL]) r r r r r<|o_box (v:=.agg aSIIIIIIIIL) (n:=1) (cs:=aSIIIIIIIIL) (σ':=[aSIIIIIIIIL,aSIIIIIIIIL]) r r r r r<|sB r<|o_ek (fr':=[(2,.box 0 0),(3,.box 1 0)]) r r<|w_seqw<|w_sr<|o_p r (p_fa tf43x0 r)<|o_p r (p_load (v:=aS) tv9 r r r)<|o_p r (p_fa tf43x0 r) ?_
 refine o_p r (p_load (v:=aS) tv9 r r r)<|o_p r (p_sneq r r)<|mB r<|og r r r (fun hc=>(p_fa tf43x1 r))<|og r r r (fun hc=>(p_load (v:=aI) tv3 (gx r hc) r r))<|og r r r (fun hc=>(p_fa tf43x1 r))<|og r r r (fun hc=>(p_load (v:=aI) tv3 (gx r hc) r r))<|og r r r (fun hc=>(p_neq (gx r hc) (gx r hc)))<|o_p r (p_pickz r r r (fun e=>keq e))<|mB r<|og r r r (fun hc=>(p_fa tf43x2 r))<|og r r r (fun hc=>(p_load (v:=aI) tv3 (gx r hc) r r))<|og r r r (fun hc=>(p_fa tf43x2 r)) ?_
 refine og r r r (fun hc=>(p_load (v:=aI) tv3 (gx r hc) r r))<|og r r r (fun hc=>(p_neq (gx r hc) (gx r hc)))<|o_p r (p_pickz r r r (fun e=>keq e))<|mB r<|og r r r (fun hc=>(p_fa tf43x3 r))<|og r r r (fun hc=>(p_load (v:=aI) tv3 (gx r hc) r r))<|og r r r (fun hc=>(p_fa tf43x3 r))<|og r r r (fun hc=>(p_load (v:=aI) tv3 (gx r hc) r r))<|og r r r (fun hc=>(p_neq (gx r hc) (gx r hc)))<|o_p r (p_pickz r r r (fun e=>keq e))<|mB r<|og r r r (fun hc=>(p_fa tf43x4 r))<|og r r r (fun hc=>(p_load (v:=aI) tv3 (gx r hc) r r)) ?_
 refine og r r r (fun hc=>(p_fa tf43x4 r))<|og r r r (fun hc=>(p_load (v:=aI) tv3 (gx r hc) r r))<|og r r r (fun hc=>(p_neq (gx r hc) (gx r hc)))<|o_p r (p_pickz r r r (fun e=>keq e))<|o_ek (fr':=[(2,.box 0 0),(3,.box 1 0),(38,aB)]) r r<|w_ch h r (fun hb1 h1=>?_) (fun hb1 h1=>?_)
 ·
  refine w_sr<|sB r<|o_ek (fr':=[(4,aB)]) r r<|w_ret<|e_seq_r ?_
  obtain rfl:=sy h1
  exact e_ret (rs':=[.tmp 4]) r<|r_tmp (v:=aB) r<|r_nil<|fin_gen [] r r r lr st_nil
 ·
  refine w_skip<|e_kw<|w_seqw<|w_sr<|o_p r (p_fa tf43x5 r)<|o_p r (p_load (v:=aI) tv3 r r r)<|o_p r (p_fa tf43x5 r)<|o_p r (p_load (v:=aI) tv3 r r r)<|o_p r (p_neq r r)<|mB r<|og r r r (fun hc=>(p_fa tf43x6 r))<|og r r r (fun hc=>(p_load (v:=aI) tv3 (gx r hc) r r)) ?_
  refine og r r r (fun hc=>(p_fa tf43x6 r))<|og r r r (fun hc=>(p_load (v:=aI) tv3 (gx r hc) r r))<|og r r r (fun hc=>(p_neq (gx r hc) (gx r hc)))<|o_p r (p_pickz r r r (fun e=>keq e))<|mB r<|og r r r (fun hc=>(p_fa tf43x7 r))<|og r r r (fun hc=>(p_load (v:=aI) tv3 (gx r hc) r r))<|og r r r (fun hc=>(p_fa tf43x7 r))<|og r r r (fun hc=>(p_load (v:=aI) tv3 (gx r hc) r r))<|og r r r (fun hc=>(p_neq (gx r hc) (gx r hc)))<|o_p r (p_pickz r r r (fun e=>keq e))<|mB r<|og r r r (fun hc=>(p_fa tf43x8 r)) ?_
  refine og r r r (fun hc=>(p_load (v:=aI) tv3 (gx r hc) r r))<|og r r r (fun hc=>(p_fa tf43x8 r))<|og r r r (fun hc=>(p_load (v:=aI) tv3 (gx r hc) r r))<|og r r r (fun hc=>(p_neq (gx r hc) (gx r hc)))<|o_p r (p_pickz r r r (fun e=>keq e))<|mB r<|og r r r (fun hc=>(p_fa tf43x9 r))<|og r r r (fun hc=>(p_load (v:=aL) tv39 (gx r hc) r r))<|og r r r (fun hc=>(p_len ti39 (isl_c (gx r hc))))<|og r r r (fun hc=>(p_fa tf43x9 r))<|og r r r (fun hc=>(p_load (v:=aL) tv39 (gx r hc) r r))<|og r r r (fun hc=>(p_len ti39 (isl_c (gx r hc))))<|og r r r (fun hc=>(p_neq (gx r hc) (gx r hc))) ?_
  refine o_p r (p_pickz r r r (fun e=>keq e))<|o_ek (fr':=[(2,.box 0 0),(3,.box 1 0),(73,aB)]) r r<|w_ch h1 r (fun hb3 h3=>?_) (fun hb3 h3=>?_)
  ·
   refine w_sr<|sB r<|o_ek (fr':=[(4,aB)]) r r<|w_ret<|e_seq_r ?_
   obtain rfl:=sy h3
   exact e_ret (rs':=[.tmp 4]) r<|r_tmp (v:=aB) r<|r_nil<|fin_gen [] r r r lr st_nil
  ·
   refine w_skip<|e_kw<|w_seqw<|w_sr<|sI r<|o_ek (fr':=[(2,.box 0 0),(3,.box 1 0),(5,aI)]) r r ?_
   obtain ⟨x5,hx5,h6⟩:=bind_s h3
   refine w_jtail cl_kw (fun j7=>x5=Fl.go j7) (fun (j7:Unit)=>([]:Fr)) (fun (j7:Unit)=>([[.c (.str p0a.Queue),.c (.int .i64 p0a.ToStart),.c (.int .i64 p0a.ToClose),.c (.int .i64 p0a.Total),.c (.int .i64 p0a.Beat),.c (.int .i64 p0a.First),.c (.int .i64 p0a.Coef),.c (.int .i64 p0a.Most),.c (.int .i64 p0a.Attempts),.c (PV.ls 1 rowS p0a.Fatal)],[.c (.str p1b.Queue),.c (.int .i64 p1b.ToStart),.c (.int .i64 p1b.ToClose),.c (.int .i64 p1b.Total),.c (.int .i64 p1b.Beat),.c (.int .i64 p1b.First),.c (.int .i64 p1b.Coef),.c (.int .i64 p1b.Most),.c (.int .i64 p1b.Attempts),.c (PV.ls 1 rowS p1b.Fatal)]]:St)) ?_ ?_
   ·
    refine w_block<|w_loopo _ (fun (s8:Int)=>([(2,.box 0 0),(3,.box 1 0),(5,.c (.int .i64 s8))]:Fr)) (fun (s8:Int)=>([[.c (.str p0a.Queue),.c (.int .i64 p0a.ToStart),.c (.int .i64 p0a.ToClose),.c (.int .i64 p0a.Total),.c (.int .i64 p0a.Beat),.c (.int .i64 p0a.First),.c (.int .i64 p0a.Coef),.c (.int .i64 p0a.Most),.c (.int .i64 p0a.Attempts),.c (PV.ls 1 rowS p0a.Fatal)],[.c (.str p1b.Queue),.c (.int .i64 p1b.ToStart),.c (.int .i64 p1b.ToClose),.c (.int .i64 p1b.Total),.c (.int .i64 p1b.Beat),.c (.int .i64 p1b.First),.c (.int .i64 p1b.Coef),.c (.int .i64 p1b.Most),.c (.int .i64 p1b.Attempts),.c (PV.ls 1 rowS p1b.Fatal)]]:St)) hx5 (w_weak [] 2 r r r r ⟨lr,lr,lr,trivial⟩ (st_r r (st_r r st_nil))) ?_
    intro s8 st8 hs8 ho8
    unfold ref20xSamePolicy_l1 at hs8
    refine w_seqw<|w_sr<|mI r<|o_p r (p_fa tf43x9 r)<|o_p r (p_load (v:=aL) tv39 r r r)<|o_p r (p_len ti39 (isl_c r))<|o_p r (p_lss r r)<|o_ek (fr':=[(2,.box 0 0),(3,.box 1 0),(5,aI),(78,aB)]) r r<|w_ch hs8 r (fun hb9 h9=>?_) (fun hb9 h9=>?_)
    ·
     refine w_skip<|e_kw<|w_seqw<|w_block<|w_seqw<|w_planT [.q 0,.q 1,.q 2,.q 3,.q 4,.q 5,.q 6,.q 7,.q 8,.q 9,.q 10] [(some 81,[2]),(some 82,[81]),(some 83,[5]),(some 84,[82,83]),(some 85,[84]),(some 86,[3]),(some 87,[86]),(some 88,[5]),(some 89,[87,88]),(some 90,[89]),(some 91,[85,90])] [0,1,0,7,15,0,32,0,224,480,1023] (by kernel_rfl)<|dq r r (p_fa tf43x9 r)<|dq r r (p_load (v:=aL) tv39 r r r)<|dq r r (p_move (v:=aI) r) ?_
     obtain ⟨x10,hx10,h11⟩:=bind_s h9
     refine dq r r (p_ia (cs:=[PV.str _]) ts39 (isl_c r) r hx10 r)<|dq r r (p_loade (p:=PV.str _) tv9 r r)<|dq r r (p_fa tf43x9 r)<|dq r r (p_load (v:=aL) tv39 r r r)<|dq r r (p_move (v:=aI) r) ?_
     obtain ⟨x12,hx12,h13⟩:=bind_s h11
     refine dq r r (p_ia (cs:=[PV.str _]) ts39 (isl_c r) r hx12 r)<|dq r r (p_loade (p:=PV.str _) tv9 r r)<|dq r r (p_sneq r r)<|d_ek (fr':=[(2,.box 0 0),(3,.box 1 0),(5,aI),(91,aB)]) r r<|w_ch h13 r (fun hb14 h14=>?_) (fun hb14 h14=>?_)
     ·
      refine w_sr<|sB r<|o_ek (fr':=[(4,aB)]) r r<|w_ret<|e_blk_r<|e_seq_r<|e_seq_r<|e_blk_r<|e_seq_r<|e_seq_r ?_
      have h15:=un_out h14 ho8
      have h16:=un_done h15 h6
      obtain rfl:=sy h16
      exact e_ret (rs':=[.tmp 4]) r<|r_tmp (v:=aB) r<|r_nil<|fin_gen [] r r r lr st_nil
     ·
      exact w_skip<|e_blk_n<|e_kw<|w_region<|mI r<|o_p r (p_add r r)<|sI r<|o_end (fr':=[(2,.box 0 0),(3,.box 1 0),(5,aI),(91,aB)]) r<|e_l _ (sy h14) (w_weak [] 2 r r r r ⟨lr,lr,lr,trivial⟩ (st_r r (st_r r st_nil)))
    ·
     refine w_exit<|e_seq_x<|e_seq_x<|e_blk_h ?_
     have h18:=un_out h9 ho8
     exact e_j _ (sy h18) (w_weak [] 2 r r r r trivial (st_r r (st_r r st_nil)))
   ·
    intro j7 hj19
    have h19:=un_go hj19 h6
    refine e_kw<|w_sr<|sB r<|o_ek (fr':=[(4,aB)]) r r<|w_ret ?_
    obtain rfl:=sy h19
    exact e_ret (rs':=[.tmp 4]) r<|r_tmp (v:=aB) r<|r_nil<|fin_gen [] r r r lr st_nil
noncomputable def ref22xuses (p0kind:Int):Option Ref22Fields :=
 cond (decide (p0kind=(1:Int))) (some (Ref22Fields.mk false false true false true true true false)) (cond (decide (p0kind=(2:Int))) (some (Ref22Fields.mk false false true false false false false false)) (((cond (decide (p0kind=(3:Int))) (some (decide (p0kind=(3:Int)))) (cond (decide (p0kind=(4:Int))) (some (decide (p0kind=(4:Int)))) (some (decide (p0kind=(6:Int)))))):Option Bool).bind fun x5=>(cond x5 (some (Ref22Fields.mk false true false false false false false false)) (cond (decide (p0kind=(5:Int))) (some (Ref22Fields.mk false true false true false false false false)) (cond (decide (p0kind=(8:Int))) (some (Ref22Fields.mk true true true false false false false false)) (((cond (decide (p0kind=(9:Int))) (some (decide (p0kind=(9:Int)))) (cond (decide (p0kind=(13:Int))) (some (decide (p0kind=(13:Int)))) (some (decide (p0kind=(21:Int)))))):Option Bool).bind fun x17=>(cond x17 (some (Ref22Fields.mk true true false false false false true false)) (((cond (decide (p0kind=(10:Int))) (some (decide (p0kind=(10:Int)))) (some (decide (p0kind=(22:Int))))):Option Bool).bind fun x25=>(cond x25 (some (Ref22Fields.mk true true false false true false true false)) (cond (decide (p0kind=(11:Int))) (some (Ref22Fields.mk true true false true false false false false)) (((cond (decide (p0kind=(15:Int))) (some (decide (p0kind=(15:Int)))) (cond (decide (p0kind=(24:Int))) (some (decide (p0kind=(24:Int)))) (cond (decide (p0kind=(12:Int))) (some (decide (p0kind=(12:Int)))) (some (decide (p0kind=(16:Int))))))):Option Bool).bind fun x34=>(cond x34 (some (Ref22Fields.mk true true false false false false false false)) (cond (decide (p0kind=(17:Int))) (some (Ref22Fields.mk false false false false true true true false)) (cond (decide (p0kind=(20:Int))) (some (Ref22Fields.mk true true false false false true false false)) (cond (decide (p0kind=(25:Int))) (some (Ref22Fields.mk true true false false true false false false)) (cond (decide (p0kind=(26:Int))) (some (Ref22Fields.mk false false false false false true false false)) (cond (decide (p0kind=(33:Int))) (some (Ref22Fields.mk false false false false true false false false)) (cond (decide (p0kind=(7:Int))) (some (Ref22Fields.mk true false false false true false true true)) (cond (decide (p0kind=(14:Int))) (some (Ref22Fields.mk true false true false false false false false)) (cond (decide (p0kind=(19:Int))) (some (Ref22Fields.mk true false true false true true true false)) (cond (decide (p0kind=(23:Int))) (some (Ref22Fields.mk true false false false true true true false)) (cond (decide (p0kind=(18:Int))) (some (Ref22Fields.mk false false true false true false true false)) (cond (decide (p0kind=(27:Int))) (some (Ref22Fields.mk false false false false true true true false)) (cond (decide (p0kind=(28:Int))) (some (Ref22Fields.mk false false true false false true true false)) (cond (decide (p0kind=(31:Int))) (some (Ref22Fields.mk false false false false true false true false)) (((cond (decide (p0kind=(29:Int))) (some (decide (p0kind=(29:Int)))) (cond (decide (p0kind=(30:Int))) (some (decide (p0kind=(30:Int)))) (cond (decide (p0kind=(32:Int))) (some (decide (p0kind=(32:Int)))) (some (decide (p0kind=(35:Int))))))):Option Bool).bind fun x69=>(cond x69 (some (Ref22Fields.mk false false false false false false true false)) (some (Ref22Fields.mk false false false false false false false false)))))))))))))))))))))))))))))
theorem w_ref22xuses {p0kind:Int}{res:Ref22Fields} (h:ref22xuses p0kind=some res):ACalls Tryz.prog 59 [.c (.int .i64 p0kind)] [] (.agg (AV.cs (rowRef22Fields res))) []:=by
 unfold ref22xuses at h
 refine acalls (fn:=Tryz.f59) [0,2,3,4,7,10,15,18,21,26,30,33,39,42,45,48,51,54,57,60,63,66,69,72,75,78] (by kernel_rfl) Tryz.func59 r (by kernel_rfl) (by kernel_rfl)<|w_sr<|o_alloc (n:=0) (cs:=aBBBBBBBB) (σ':=[aBBBBBBBB]) tz77 r r r<|o_ek (fr':=[(0,aI),(2,.box 0 0)]) r r<|w_seqw<|w_sr<|mI r<|o_ek (fr':=[(2,.box 0 0),(3,aI)]) r r<|w_block<|w_seqw<|w_region ?_
 refine o_p r (p_eql r r)<|sB r<|o_ek (fr':=[(2,.box 0 0),(3,aI),(4,aB)]) r r<|w_ch h r (fun hb1 h1=>?_) (fun hb1 h1=>?_)
 ·
  refine w_sr<|o_p r (p_build (cs:=aBBBBBBBB) tb77 r)<|o_store (v:=.agg aBBBBBBBB) (us:=aBBBBBBBB) (cs:=aBBBBBBBB) (σ':=[aBBBBBBBB]) r tv77 r r r r r r r r<|o_ek (fr':=[(2,.box 0 0)]) r r<|w_ret<|e_blk_r<|e_seq_r ?_
  obtain rfl:=sy h1
  exact e_ret (rs':=[.cell 2 77]) r<|r_cells (us:=aBBBBBBBB) (cs:=aBBBBBBBB) tv77 r r r r<|r_nil<|fin_gen [] r r r (le_aggc r ⟨r,r,r,r,r,r,r,r,trivial⟩) st_nil
 ·
  refine w_sr<|o_p r (p_eql r r)<|sB r<|o_ek (fr':=[(2,.box 0 0),(3,aI),(7,aB)]) r r<|w_ch h1 r (fun hb3 h3=>?_) (fun hb3 h3=>?_)
  ·
   refine w_sr<|o_p r (p_build (cs:=aBBBBBBBB) tb77 r)<|o_store (v:=.agg aBBBBBBBB) (us:=aBBBBBBBB) (cs:=aBBBBBBBB) (σ':=[aBBBBBBBB]) r tv77 r r r r r r r r<|o_ek (fr':=[(2,.box 0 0)]) r r<|w_ret<|e_blk_r<|e_seq_r ?_
   obtain rfl:=sy h3
   exact e_ret (rs':=[.cell 2 77]) r<|r_cells (us:=aBBBBBBBB) (cs:=aBBBBBBBB) tv77 r r r r<|r_nil<|fin_gen [] r r r (le_aggc r ⟨r,r,r,r,r,r,r,r,trivial⟩) st_nil
  ·
   obtain ⟨x5,hx5,h6⟩:=bind_s h3
   refine w_join (fun j7=>x5=j7) (fun (j7:Bool)=>([(2,.box 0 0),(3,.c (.int .i64 p0kind)),(10,.c (.bool j7))]:Fr)) (fun (j7:Bool)=>([[.c (.bool false),.c (.bool false),.c (.bool false),.c (.bool false),.c (.bool false),.c (.bool false),.c (.bool false),.c (.bool false)]]:St)) ?_ ?_
   ·
    refine w_sr<|o_p r (p_eql r r)<|sB r<|o_ek (fr':=[(2,.box 0 0),(3,aI),(10,aB)]) r r<|w_ch hx5 r (fun hb8 h8=>?_) (fun hb8 h8=>?_)
    ·
     exact w_skip<|e_j _ (sy h8) (w_weak [] 1 r r r r ⟨lr,lr,lr,trivial⟩ (st_r r st_nil))
    ·
     refine w_sr<|o_p r (p_eql r r)<|sB r<|o_ek (fr':=[(2,.box 0 0),(3,aI),(10,aB)]) r r<|w_ch h8 r (fun hb9 h9=>?_) (fun hb9 h9=>?_)
     ·
      exact w_skip<|e_j _ (sy h9) (w_weak [] 1 r r r r ⟨lr,lr,lr,trivial⟩ (st_r r st_nil))
     ·
      exact w_region<|o_p r (p_eql r r)<|sB r<|o_end (fr':=[(2,.box 0 0),(3,aI),(10,aB)]) r<|e_j _ (sy h9) (w_weak [] 1 r r r r ⟨lr,lr,lr,trivial⟩ (st_r r st_nil))
   ·
    intro j7 hj10
    subst hj10
    refine w_ch h6 r (fun hb11 h11=>?_) (fun hb11 h11=>?_)
    ·
     refine w_sr<|o_p r (p_build (cs:=aBBBBBBBB) tb77 r)<|o_store (v:=.agg aBBBBBBBB) (us:=aBBBBBBBB) (cs:=aBBBBBBBB) (σ':=[aBBBBBBBB]) r tv77 r r r r r r r r<|o_ek (fr':=[(2,.box 0 0)]) r r<|w_ret<|e_blk_r<|e_seq_r ?_
     obtain rfl:=sy h11
     exact e_ret (rs':=[.cell 2 77]) r<|r_cells (us:=aBBBBBBBB) (cs:=aBBBBBBBB) tv77 r r r r<|r_nil<|fin_gen [] r r r (le_aggc r ⟨r,r,r,r,r,r,r,r,trivial⟩) st_nil
    ·
     refine w_sr<|o_p r (p_eql r r)<|sB r<|o_ek (fr':=[(2,.box 0 0),(3,aI),(15,aB)]) r r<|w_ch h11 r (fun hb13 h13=>?_) (fun hb13 h13=>?_)
     ·
      refine w_sr<|o_p r (p_build (cs:=aBBBBBBBB) tb77 r)<|o_store (v:=.agg aBBBBBBBB) (us:=aBBBBBBBB) (cs:=aBBBBBBBB) (σ':=[aBBBBBBBB]) r tv77 r r r r r r r r<|o_ek (fr':=[(2,.box 0 0)]) r r<|w_ret<|e_blk_r<|e_seq_r ?_
      obtain rfl:=sy h13
      exact e_ret (rs':=[.cell 2 77]) r<|r_cells (us:=aBBBBBBBB) (cs:=aBBBBBBBB) tv77 r r r r<|r_nil<|fin_gen [] r r r (le_aggc r ⟨r,r,r,r,r,r,r,r,trivial⟩) st_nil
     ·
      refine w_sr<|o_p r (p_eql r r)<|sB r<|o_ek (fr':=[(2,.box 0 0),(3,aI),(18,aB)]) r r<|w_ch h13 r (fun hb15 h15=>?_) (fun hb15 h15=>?_)
      ·
       refine w_sr<|o_p r (p_build (cs:=aBBBBBBBB) tb77 r)<|o_store (v:=.agg aBBBBBBBB) (us:=aBBBBBBBB) (cs:=aBBBBBBBB) (σ':=[aBBBBBBBB]) r tv77 r r r r r r r r<|o_ek (fr':=[(2,.box 0 0)]) r r<|w_ret<|e_blk_r<|e_seq_r ?_
       obtain rfl:=sy h15
       exact e_ret (rs':=[.cell 2 77]) r<|r_cells (us:=aBBBBBBBB) (cs:=aBBBBBBBB) tv77 r r r r<|r_nil<|fin_gen [] r r r (le_aggc r ⟨r,r,r,r,r,r,r,r,trivial⟩) st_nil
      ·
       obtain ⟨x17,hx17,h18⟩:=bind_s h15
       refine w_join (fun j19=>x17=j19) (fun (j19:Bool)=>([(2,.box 0 0),(3,.c (.int .i64 p0kind)),(21,.c (.bool j19))]:Fr)) (fun (j19:Bool)=>([[.c (.bool false),.c (.bool false),.c (.bool false),.c (.bool false),.c (.bool false),.c (.bool false),.c (.bool false),.c (.bool false)]]:St)) ?_ ?_
       ·
        refine w_sr<|o_p r (p_eql r r)<|sB r<|o_ek (fr':=[(2,.box 0 0),(3,aI),(21,aB)]) r r<|w_ch hx17 r (fun hb20 h20=>?_) (fun hb20 h20=>?_)
        ·
         exact w_skip<|e_j _ (sy h20) (w_weak [] 1 r r r r ⟨lr,lr,lr,trivial⟩ (st_r r st_nil))
        ·
         refine w_sr<|o_p r (p_eql r r)<|sB r<|o_ek (fr':=[(2,.box 0 0),(3,aI),(21,aB)]) r r<|w_ch h20 r (fun hb21 h21=>?_) (fun hb21 h21=>?_)
         ·
          exact w_skip<|e_j _ (sy h21) (w_weak [] 1 r r r r ⟨lr,lr,lr,trivial⟩ (st_r r st_nil))
         ·
          exact w_region<|o_p r (p_eql r r)<|sB r<|o_end (fr':=[(2,.box 0 0),(3,aI),(21,aB)]) r<|e_j _ (sy h21) (w_weak [] 1 r r r r ⟨lr,lr,lr,trivial⟩ (st_r r st_nil))
       ·
        intro j19 hj22
        subst hj22
        refine w_ch h18 r (fun hb23 h23=>?_) (fun hb23 h23=>?_)
        ·
         refine w_sr<|o_p r (p_build (cs:=aBBBBBBBB) tb77 r)<|o_store (v:=.agg aBBBBBBBB) (us:=aBBBBBBBB) (cs:=aBBBBBBBB) (σ':=[aBBBBBBBB]) r tv77 r r r r r r r r<|o_ek (fr':=[(2,.box 0 0)]) r r<|w_ret<|e_blk_r<|e_seq_r ?_
         obtain rfl:=sy h23
         exact e_ret (rs':=[.cell 2 77]) r<|r_cells (us:=aBBBBBBBB) (cs:=aBBBBBBBB) tv77 r r r r<|r_nil<|fin_gen [] r r r (le_aggc r ⟨r,r,r,r,r,r,r,r,trivial⟩) st_nil
        ·
         obtain ⟨x25,hx25,h26⟩:=bind_s h23
         refine w_join (fun j27=>x25=j27) (fun (j27:Bool)=>([(2,.box 0 0),(3,.c (.int .i64 p0kind)),(26,.c (.bool j27))]:Fr)) (fun (j27:Bool)=>([[.c (.bool false),.c (.bool false),.c (.bool false),.c (.bool false),.c (.bool false),.c (.bool false),.c (.bool false),.c (.bool false)]]:St)) ?_ ?_
         ·
          refine w_sr<|o_p r (p_eql r r)<|sB r<|o_ek (fr':=[(2,.box 0 0),(3,aI),(26,aB)]) r r<|w_ch hx25 r (fun hb28 h28=>?_) (fun hb28 h28=>?_)
          ·
           exact w_skip<|e_j _ (sy h28) (w_weak [] 1 r r r r ⟨lr,lr,lr,trivial⟩ (st_r r st_nil))
          ·
           exact w_region<|o_p r (p_eql r r)<|sB r<|o_end (fr':=[(2,.box 0 0),(3,aI),(26,aB)]) r<|e_j _ (sy h28) (w_weak [] 1 r r r r ⟨lr,lr,lr,trivial⟩ (st_r r st_nil))
         ·
          intro j27 hj29
          subst hj29
          refine w_ch h26 r (fun hb30 h30=>?_) (fun hb30 h30=>?_)
          ·
           refine w_sr<|o_p r (p_build (cs:=aBBBBBBBB) tb77 r)<|o_store (v:=.agg aBBBBBBBB) (us:=aBBBBBBBB) (cs:=aBBBBBBBB) (σ':=[aBBBBBBBB]) r tv77 r r r r r r r r<|o_ek (fr':=[(2,.box 0 0)]) r r<|w_ret<|e_blk_r<|e_seq_r ?_
           obtain rfl:=sy h30
           exact e_ret (rs':=[.cell 2 77]) r<|r_cells (us:=aBBBBBBBB) (cs:=aBBBBBBBB) tv77 r r r r<|r_nil<|fin_gen [] r r r (le_aggc r ⟨r,r,r,r,r,r,r,r,trivial⟩) st_nil
          ·
           refine w_sr<|o_p r (p_eql r r)<|sB r<|o_ek (fr':=[(2,.box 0 0),(3,aI),(30,aB)]) r r<|w_ch h30 r (fun hb32 h32=>?_) (fun hb32 h32=>?_)
           ·
            refine w_sr<|o_p r (p_build (cs:=aBBBBBBBB) tb77 r)<|o_store (v:=.agg aBBBBBBBB) (us:=aBBBBBBBB) (cs:=aBBBBBBBB) (σ':=[aBBBBBBBB]) r tv77 r r r r r r r r<|o_ek (fr':=[(2,.box 0 0)]) r r<|w_ret<|e_blk_r<|e_seq_r ?_
            obtain rfl:=sy h32
            exact e_ret (rs':=[.cell 2 77]) r<|r_cells (us:=aBBBBBBBB) (cs:=aBBBBBBBB) tv77 r r r r<|r_nil<|fin_gen [] r r r (le_aggc r ⟨r,r,r,r,r,r,r,r,trivial⟩) st_nil
           ·
            obtain ⟨x34,hx34,h35⟩:=bind_s h32
            refine w_join (fun j36=>x34=j36) (fun (j36:Bool)=>([(2,.box 0 0),(3,.c (.int .i64 p0kind)),(33,.c (.bool j36))]:Fr)) (fun (j36:Bool)=>([[.c (.bool false),.c (.bool false),.c (.bool false),.c (.bool false),.c (.bool false),.c (.bool false),.c (.bool false),.c (.bool false)]]:St)) ?_ ?_
            ·
             refine w_sr<|o_p r (p_eql r r)<|sB r<|o_ek (fr':=[(2,.box 0 0),(3,aI),(33,aB)]) r r<|w_ch hx34 r (fun hb37 h37=>?_) (fun hb37 h37=>?_)
             ·
              exact w_skip<|e_j _ (sy h37) (w_weak [] 1 r r r r ⟨lr,lr,lr,trivial⟩ (st_r r st_nil))
             ·
              refine w_sr<|o_p r (p_eql r r)<|sB r<|o_ek (fr':=[(2,.box 0 0),(3,aI),(33,aB)]) r r<|w_ch h37 r (fun hb38 h38=>?_) (fun hb38 h38=>?_)
              ·
               exact w_skip<|e_j _ (sy h38) (w_weak [] 1 r r r r ⟨lr,lr,lr,trivial⟩ (st_r r st_nil))
              ·
               refine w_sr<|o_p r (p_eql r r)<|sB r<|o_ek (fr':=[(2,.box 0 0),(3,aI),(33,aB)]) r r<|w_ch h38 r (fun hb39 h39=>?_) (fun hb39 h39=>?_)
               ·
                exact w_skip<|e_j _ (sy h39) (w_weak [] 1 r r r r ⟨lr,lr,lr,trivial⟩ (st_r r st_nil))
               ·
                exact w_region<|o_p r (p_eql r r)<|sB r<|o_end (fr':=[(2,.box 0 0),(3,aI),(33,aB)]) r<|e_j _ (sy h39) (w_weak [] 1 r r r r ⟨lr,lr,lr,trivial⟩ (st_r r st_nil))
            ·
             intro j36 hj40
             subst hj40
             refine w_ch h35 r (fun hb41 h41=>?_) (fun hb41 h41=>?_)
             ·
              refine w_sr<|o_p r (p_build (cs:=aBBBBBBBB) tb77 r)<|o_store (v:=.agg aBBBBBBBB) (us:=aBBBBBBBB) (cs:=aBBBBBBBB) (σ':=[aBBBBBBBB]) r tv77 r r r r r r r r<|o_ek (fr':=[(2,.box 0 0)]) r r<|w_ret<|e_blk_r<|e_seq_r ?_
              obtain rfl:=sy h41
              exact e_ret (rs':=[.cell 2 77]) r<|r_cells (us:=aBBBBBBBB) (cs:=aBBBBBBBB) tv77 r r r r<|r_nil<|fin_gen [] r r r (le_aggc r ⟨r,r,r,r,r,r,r,r,trivial⟩) st_nil
             ·
              refine w_sr<|o_p r (p_eql r r)<|sB r<|o_ek (fr':=[(2,.box 0 0),(3,aI),(39,aB)]) r r<|w_ch h41 r (fun hb43 h43=>?_) (fun hb43 h43=>?_)
              ·
               refine w_sr<|o_p r (p_build (cs:=aBBBBBBBB) tb77 r)<|o_store (v:=.agg aBBBBBBBB) (us:=aBBBBBBBB) (cs:=aBBBBBBBB) (σ':=[aBBBBBBBB]) r tv77 r r r r r r r r<|o_ek (fr':=[(2,.box 0 0)]) r r<|w_ret<|e_blk_r<|e_seq_r ?_
               obtain rfl:=sy h43
               exact e_ret (rs':=[.cell 2 77]) r<|r_cells (us:=aBBBBBBBB) (cs:=aBBBBBBBB) tv77 r r r r<|r_nil<|fin_gen [] r r r (le_aggc r ⟨r,r,r,r,r,r,r,r,trivial⟩) st_nil
              ·
               refine w_sr<|o_p r (p_eql r r)<|sB r<|o_ek (fr':=[(2,.box 0 0),(3,aI),(42,aB)]) r r<|w_ch h43 r (fun hb45 h45=>?_) (fun hb45 h45=>?_)
               ·
                refine w_sr<|o_p r (p_build (cs:=aBBBBBBBB) tb77 r)<|o_store (v:=.agg aBBBBBBBB) (us:=aBBBBBBBB) (cs:=aBBBBBBBB) (σ':=[aBBBBBBBB]) r tv77 r r r r r r r r<|o_ek (fr':=[(2,.box 0 0)]) r r<|w_ret<|e_blk_r<|e_seq_r ?_
                obtain rfl:=sy h45
                exact e_ret (rs':=[.cell 2 77]) r<|r_cells (us:=aBBBBBBBB) (cs:=aBBBBBBBB) tv77 r r r r<|r_nil<|fin_gen [] r r r (le_aggc r ⟨r,r,r,r,r,r,r,r,trivial⟩) st_nil
               ·
                refine w_sr<|o_p r (p_eql r r)<|sB r<|o_ek (fr':=[(2,.box 0 0),(3,aI),(45,aB)]) r r<|w_ch h45 r (fun hb47 h47=>?_) (fun hb47 h47=>?_)
                ·
                 refine w_sr<|o_p r (p_build (cs:=aBBBBBBBB) tb77 r)<|o_store (v:=.agg aBBBBBBBB) (us:=aBBBBBBBB) (cs:=aBBBBBBBB) (σ':=[aBBBBBBBB]) r tv77 r r r r r r r r<|o_ek (fr':=[(2,.box 0 0)]) r r<|w_ret<|e_blk_r<|e_seq_r ?_
                 obtain rfl:=sy h47
                 exact e_ret (rs':=[.cell 2 77]) r<|r_cells (us:=aBBBBBBBB) (cs:=aBBBBBBBB) tv77 r r r r<|r_nil<|fin_gen [] r r r (le_aggc r ⟨r,r,r,r,r,r,r,r,trivial⟩) st_nil
                ·
                 refine w_sr<|o_p r (p_eql r r)<|sB r<|o_ek (fr':=[(2,.box 0 0),(3,aI),(48,aB)]) r r<|w_ch h47 r (fun hb49 h49=>?_) (fun hb49 h49=>?_)
                 ·
                  refine w_sr<|o_p r (p_build (cs:=aBBBBBBBB) tb77 r)<|o_store (v:=.agg aBBBBBBBB) (us:=aBBBBBBBB) (cs:=aBBBBBBBB) (σ':=[aBBBBBBBB]) r tv77 r r r r r r r r<|o_ek (fr':=[(2,.box 0 0)]) r r<|w_ret<|e_blk_r<|e_seq_r ?_
                  obtain rfl:=sy h49
                  exact e_ret (rs':=[.cell 2 77]) r<|r_cells (us:=aBBBBBBBB) (cs:=aBBBBBBBB) tv77 r r r r<|r_nil<|fin_gen [] r r r (le_aggc r ⟨r,r,r,r,r,r,r,r,trivial⟩) st_nil
                 ·
                  refine w_sr<|o_p r (p_eql r r)<|sB r<|o_ek (fr':=[(2,.box 0 0),(3,aI),(51,aB)]) r r<|w_ch h49 r (fun hb51 h51=>?_) (fun hb51 h51=>?_)
                  ·
                   refine w_sr<|o_p r (p_build (cs:=aBBBBBBBB) tb77 r)<|o_store (v:=.agg aBBBBBBBB) (us:=aBBBBBBBB) (cs:=aBBBBBBBB) (σ':=[aBBBBBBBB]) r tv77 r r r r r r r r<|o_ek (fr':=[(2,.box 0 0)]) r r<|w_ret<|e_blk_r<|e_seq_r ?_
                   obtain rfl:=sy h51
                   exact e_ret (rs':=[.cell 2 77]) r<|r_cells (us:=aBBBBBBBB) (cs:=aBBBBBBBB) tv77 r r r r<|r_nil<|fin_gen [] r r r (le_aggc r ⟨r,r,r,r,r,r,r,r,trivial⟩) st_nil
                  ·
                   refine w_sr<|o_p r (p_eql r r)<|sB r<|o_ek (fr':=[(2,.box 0 0),(3,aI),(54,aB)]) r r<|w_ch h51 r (fun hb53 h53=>?_) (fun hb53 h53=>?_)
                   ·
                    refine w_sr<|o_p r (p_build (cs:=aBBBBBBBB) tb77 r)<|o_store (v:=.agg aBBBBBBBB) (us:=aBBBBBBBB) (cs:=aBBBBBBBB) (σ':=[aBBBBBBBB]) r tv77 r r r r r r r r<|o_ek (fr':=[(2,.box 0 0)]) r r<|w_ret<|e_blk_r<|e_seq_r ?_
                    obtain rfl:=sy h53
                    exact e_ret (rs':=[.cell 2 77]) r<|r_cells (us:=aBBBBBBBB) (cs:=aBBBBBBBB) tv77 r r r r<|r_nil<|fin_gen [] r r r (le_aggc r ⟨r,r,r,r,r,r,r,r,trivial⟩) st_nil
                   ·
                    refine w_sr<|o_p r (p_eql r r)<|sB r<|o_ek (fr':=[(2,.box 0 0),(3,aI),(57,aB)]) r r<|w_ch h53 r (fun hb55 h55=>?_) (fun hb55 h55=>?_)
                    ·
                     refine w_sr<|o_p r (p_build (cs:=aBBBBBBBB) tb77 r)<|o_store (v:=.agg aBBBBBBBB) (us:=aBBBBBBBB) (cs:=aBBBBBBBB) (σ':=[aBBBBBBBB]) r tv77 r r r r r r r r<|o_ek (fr':=[(2,.box 0 0)]) r r<|w_ret<|e_blk_r<|e_seq_r ?_
                     obtain rfl:=sy h55
                     exact e_ret (rs':=[.cell 2 77]) r<|r_cells (us:=aBBBBBBBB) (cs:=aBBBBBBBB) tv77 r r r r<|r_nil<|fin_gen [] r r r (le_aggc r ⟨r,r,r,r,r,r,r,r,trivial⟩) st_nil
                    ·
                     refine w_sr<|o_p r (p_eql r r)<|sB r<|o_ek (fr':=[(2,.box 0 0),(3,aI),(60,aB)]) r r<|w_ch h55 r (fun hb57 h57=>?_) (fun hb57 h57=>?_)
                     ·
                      refine w_sr<|o_p r (p_build (cs:=aBBBBBBBB) tb77 r)<|o_store (v:=.agg aBBBBBBBB) (us:=aBBBBBBBB) (cs:=aBBBBBBBB) (σ':=[aBBBBBBBB]) r tv77 r r r r r r r r<|o_ek (fr':=[(2,.box 0 0)]) r r<|w_ret<|e_blk_r<|e_seq_r ?_
                      obtain rfl:=sy h57
                      exact e_ret (rs':=[.cell 2 77]) r<|r_cells (us:=aBBBBBBBB) (cs:=aBBBBBBBB) tv77 r r r r<|r_nil<|fin_gen [] r r r (le_aggc r ⟨r,r,r,r,r,r,r,r,trivial⟩) st_nil
                     ·
                      refine w_sr<|o_p r (p_eql r r)<|sB r<|o_ek (fr':=[(2,.box 0 0),(3,aI),(63,aB)]) r r<|w_ch h57 r (fun hb59 h59=>?_) (fun hb59 h59=>?_)
                      ·
                       refine w_sr<|o_p r (p_build (cs:=aBBBBBBBB) tb77 r)<|o_store (v:=.agg aBBBBBBBB) (us:=aBBBBBBBB) (cs:=aBBBBBBBB) (σ':=[aBBBBBBBB]) r tv77 r r r r r r r r<|o_ek (fr':=[(2,.box 0 0)]) r r<|w_ret<|e_blk_r<|e_seq_r ?_
                       obtain rfl:=sy h59
                       exact e_ret (rs':=[.cell 2 77]) r<|r_cells (us:=aBBBBBBBB) (cs:=aBBBBBBBB) tv77 r r r r<|r_nil<|fin_gen [] r r r (le_aggc r ⟨r,r,r,r,r,r,r,r,trivial⟩) st_nil
                      ·
                       refine w_sr<|o_p r (p_eql r r)<|sB r<|o_ek (fr':=[(2,.box 0 0),(3,aI),(66,aB)]) r r<|w_ch h59 r (fun hb61 h61=>?_) (fun hb61 h61=>?_)
                       ·
                        refine w_sr<|o_p r (p_build (cs:=aBBBBBBBB) tb77 r)<|o_store (v:=.agg aBBBBBBBB) (us:=aBBBBBBBB) (cs:=aBBBBBBBB) (σ':=[aBBBBBBBB]) r tv77 r r r r r r r r<|o_ek (fr':=[(2,.box 0 0)]) r r<|w_ret<|e_blk_r<|e_seq_r ?_
                        obtain rfl:=sy h61
                        exact e_ret (rs':=[.cell 2 77]) r<|r_cells (us:=aBBBBBBBB) (cs:=aBBBBBBBB) tv77 r r r r<|r_nil<|fin_gen [] r r r (le_aggc r ⟨r,r,r,r,r,r,r,r,trivial⟩) st_nil
                       ·
                        refine w_sr<|o_p r (p_eql r r)<|sB r<|o_ek (fr':=[(2,.box 0 0),(3,aI),(69,aB)]) r r<|w_ch h61 r (fun hb63 h63=>?_) (fun hb63 h63=>?_)
                        ·
                         refine w_sr<|o_p r (p_build (cs:=aBBBBBBBB) tb77 r)<|o_store (v:=.agg aBBBBBBBB) (us:=aBBBBBBBB) (cs:=aBBBBBBBB) (σ':=[aBBBBBBBB]) r tv77 r r r r r r r r<|o_ek (fr':=[(2,.box 0 0)]) r r<|w_ret<|e_blk_r<|e_seq_r ?_
                         obtain rfl:=sy h63
                         exact e_ret (rs':=[.cell 2 77]) r<|r_cells (us:=aBBBBBBBB) (cs:=aBBBBBBBB) tv77 r r r r<|r_nil<|fin_gen [] r r r (le_aggc r ⟨r,r,r,r,r,r,r,r,trivial⟩) st_nil
                        ·
                         refine w_sr<|o_p r (p_eql r r)<|sB r<|o_ek (fr':=[(2,.box 0 0),(3,aI),(72,aB)]) r r<|w_ch h63 r (fun hb65 h65=>?_) (fun hb65 h65=>?_)
                         ·
                          refine w_sr<|o_p r (p_build (cs:=aBBBBBBBB) tb77 r)<|o_store (v:=.agg aBBBBBBBB) (us:=aBBBBBBBB) (cs:=aBBBBBBBB) (σ':=[aBBBBBBBB]) r tv77 r r r r r r r r<|o_ek (fr':=[(2,.box 0 0)]) r r<|w_ret<|e_blk_r<|e_seq_r ?_
                          obtain rfl:=sy h65
                          exact e_ret (rs':=[.cell 2 77]) r<|r_cells (us:=aBBBBBBBB) (cs:=aBBBBBBBB) tv77 r r r r<|r_nil<|fin_gen [] r r r (le_aggc r ⟨r,r,r,r,r,r,r,r,trivial⟩) st_nil
                         ·
                          refine w_sr<|o_p r (p_eql r r)<|sB r<|o_ek (fr':=[(2,.box 0 0),(3,aI),(75,aB)]) r r<|w_ch h65 r (fun hb67 h67=>?_) (fun hb67 h67=>?_)
                          ·
                           refine w_sr<|o_p r (p_build (cs:=aBBBBBBBB) tb77 r)<|o_store (v:=.agg aBBBBBBBB) (us:=aBBBBBBBB) (cs:=aBBBBBBBB) (σ':=[aBBBBBBBB]) r tv77 r r r r r r r r<|o_ek (fr':=[(2,.box 0 0)]) r r<|w_ret<|e_blk_r<|e_seq_r ?_
                           obtain rfl:=sy h67
                           exact e_ret (rs':=[.cell 2 77]) r<|r_cells (us:=aBBBBBBBB) (cs:=aBBBBBBBB) tv77 r r r r<|r_nil<|fin_gen [] r r r (le_aggc r ⟨r,r,r,r,r,r,r,r,trivial⟩) st_nil
                          ·
                           obtain ⟨x69,hx69,h70⟩:=bind_s h67
                           refine w_join (fun j71=>x69=j71) (fun (j71:Bool)=>([(2,.box 0 0),(78,.c (.bool j71))]:Fr)) (fun (j71:Bool)=>([[.c (.bool false),.c (.bool false),.c (.bool false),.c (.bool false),.c (.bool false),.c (.bool false),.c (.bool false),.c (.bool false)]]:St)) ?_ ?_
                           ·
                            refine w_sr<|o_p r (p_eql r r)<|sB r<|o_ek (fr':=[(2,.box 0 0),(3,aI),(78,aB)]) r r<|w_ch hx69 r (fun hb72 h72=>?_) (fun hb72 h72=>?_)
                            ·
                             exact w_skip<|e_j _ (sy h72) (w_weak [] 1 r r r r ⟨lr,lr,trivial⟩ (st_r r st_nil))
                            ·
                             refine w_sr<|o_p r (p_eql r r)<|sB r<|o_ek (fr':=[(2,.box 0 0),(3,aI),(78,aB)]) r r<|w_ch h72 r (fun hb73 h73=>?_) (fun hb73 h73=>?_)
                             ·
                              exact w_skip<|e_j _ (sy h73) (w_weak [] 1 r r r r ⟨lr,lr,trivial⟩ (st_r r st_nil))
                             ·
                              refine w_sr<|o_p r (p_eql r r)<|sB r<|o_ek (fr':=[(2,.box 0 0),(3,aI),(78,aB)]) r r<|w_ch h73 r (fun hb74 h74=>?_) (fun hb74 h74=>?_)
                              ·
                               exact w_skip<|e_j _ (sy h74) (w_weak [] 1 r r r r ⟨lr,lr,trivial⟩ (st_r r st_nil))
                              ·
                               exact w_region<|o_p r (p_eql r r)<|sB r<|o_end (fr':=[(2,.box 0 0),(3,aI),(78,aB)]) r<|e_j _ (sy h74) (w_weak [] 1 r r r r ⟨lr,lr,trivial⟩ (st_r r st_nil))
                           ·
                            intro j71 hj75
                            subst hj75
                            refine w_ch h70 r (fun hb76 h76=>?_) (fun hb76 h76=>?_)
                            ·
                             refine w_sr<|o_p r (p_build (cs:=aBBBBBBBB) tb77 r)<|o_store (v:=.agg aBBBBBBBB) (us:=aBBBBBBBB) (cs:=aBBBBBBBB) (σ':=[aBBBBBBBB]) r tv77 r r r r r r r r<|o_ek (fr':=[(2,.box 0 0)]) r r<|w_ret<|e_blk_r<|e_seq_r ?_
                             obtain rfl:=sy h76
                             exact e_ret (rs':=[.cell 2 77]) r<|r_cells (us:=aBBBBBBBB) (cs:=aBBBBBBBB) tv77 r r r r<|r_nil<|fin_gen [] r r r (le_aggc r ⟨r,r,r,r,r,r,r,r,trivial⟩) st_nil
                            ·
                             refine w_skip<|e_blk_n<|e_kw<|w_sr<|o_p r (p_build (cs:=aBBBBBBBB) tb77 r)<|o_store (v:=.agg aBBBBBBBB) (us:=aBBBBBBBB) (cs:=aBBBBBBBB) (σ':=[aBBBBBBBB]) r tv77 r r r r r r r r<|o_ek (fr':=[(2,.box 0 0)]) r r<|w_ret ?_
                             obtain rfl:=sy h76
                             exact e_ret (rs':=[.cell 2 77]) r<|r_cells (us:=aBBBBBBBB) (cs:=aBBBBBBBB) tv77 r r r r<|r_nil<|fin_gen [] r r r (le_aggc r ⟨r,r,r,r,r,r,r,r,trivial⟩) st_nil
noncomputable def ref02xRising_l1 (p0keys:(List (List UInt8))) (s4:Int):Option (Step Int (Fl Bool Unit)) :=
 cond (decide (s4<((p0keys).length:Int))) ((idx p0keys (IntKind.wrap .i64 (s4 - (1:Int)))).bind fun x6=>(idx p0keys s4).bind fun x8=>cond (!Op.bytesLess x6 x8) (some (Step.out (Fl.done false))) (some (Step.next (IntKind.wrap .i64 (s4+(1:Int)))))) (some (Step.out (Fl.go ())))
noncomputable def ref02xRising (p0keys:(List (List UInt8))):Option Bool :=
 ((loopO (ref02xRising_l1 p0keys) ((1:Int))):Option (Fl Bool Unit)).bind fun x1=>Fl.next x1 (fun j3=>(some true))
theorem w_ref02xRising {p0keys:(List (List UInt8))}{res:Bool} (h:ref02xRising p0keys=some res):ACalls Tryz.prog 105 [.c (PV.ls 1 rowS p0keys)] [] (.c (.bool res)) []:=by
 unfold ref02xRising at h
 refine acalls (fn:=Tryz.f105) [0,2,3,7,19] (by kernel_rfl) Tryz.func105 r (by kernel_rfl) (by kernel_rfl)<|w_sr<|sB r<|o_ek (fr':=[(0,aL)]) r r<|w_seqw<|w_sr<|sI r<|o_ek (fr':=[(0,aL),(3,aI)]) r r ?_
 obtain ⟨x1,hx1,h2⟩:=bind_s h
 refine w_jtail cl_kw (fun j3=>x1=Fl.go j3) (fun (j3:Unit)=>([]:Fr)) (fun (j3:Unit)=>([]:St)) ?_ ?_
 ·
  refine w_block<|w_loopo _ (fun (s4:Int)=>([(0,.c (PV.ls 1 rowS p0keys)),(3,.c (.int .i64 s4))]:Fr)) (fun (s4:Int)=>([]:St)) hx1 (w_weak [] 0 r r r r ⟨lr,lr,trivial⟩ st_nil) ?_
  intro s4 st4 hs4 ho4
  unfold ref02xRising_l1 at hs4
  refine w_seqw<|w_sr<|mI r<|mL r<|o_p r (p_len ti39 (isl_c r))<|o_p r (p_lss r r)<|o_ek (fr':=[(0,aL),(3,aI),(7,aB)]) r r<|w_ch hs4 r (fun hb5 h5=>?_) (fun hb5 h5=>?_)
  ·
   refine w_skip<|e_kw<|w_seqw<|w_block<|w_seqw<|w_planT [.q 0,.q 1,.q 2,.q 3,.q 4,.q 5,.q 6,.q 7,.q 8,.q 9] [(some 10,[0]),(some 11,[3]),(some 12,[11]),(some 13,[10,12]),(some 14,[13]),(some 15,[0]),(some 16,[3]),(some 17,[15,16]),(some 18,[17]),(some 19,[14,18])] [0,0,2,7,15,0,0,96,224,511] (by kernel_rfl)<|dq r r (p_move (v:=aL) r)<|dq r r (p_move (v:=aI) r)<|dq r r (p_sub r r) ?_
   obtain ⟨x6,hx6,h7⟩:=bind_s h5
   refine dq r r (p_ia (cs:=[PV.str _]) ts39 (isl_c r) r hx6 r)<|dq r r (p_loade (p:=PV.str _) tv9 r r)<|dq r r (p_move (v:=aL) r)<|dq r r (p_move (v:=aI) r) ?_
   obtain ⟨x8,hx8,h9⟩:=bind_s h7
   refine dq r r (p_ia (cs:=[PV.str _]) ts39 (isl_c r) r hx8 r)<|dq r r (p_loade (p:=PV.str _) tv9 r r)<|dq r r (p_sgeq r r)<|d_ek (fr':=[(0,aL),(3,aI),(19,aB)]) r r<|w_ch h9 r (fun hb10 h10=>?_) (fun hb10 h10=>?_)
   ·
    refine w_sr<|sB r<|o_ek (fr':=[(2,aB)]) r r<|w_ret<|e_blk_r<|e_seq_r<|e_seq_r<|e_blk_r<|e_seq_r<|e_seq_r ?_
    have h11:=un_out h10 ho4
    have h12:=un_done h11 h2
    obtain rfl:=sy h12
    exact e_ret (rs':=[.tmp 2]) r<|r_tmp (v:=aB) r<|r_nil<|fin_gen [] r r r lr st_nil
   ·
    exact w_skip<|e_blk_n<|e_kw<|w_region<|mI r<|o_p r (p_add r r)<|sI r<|o_end (fr':=[(0,aL),(3,aI),(19,aB)]) r<|e_l _ (sy h10) (w_weak [] 0 r r r r ⟨lr,lr,trivial⟩ st_nil)
  ·
   refine w_exit<|e_seq_x<|e_seq_x<|e_blk_h ?_
   have h14:=un_out h5 ho4
   exact e_j _ (sy h14) (w_weak [] 0 r r r r trivial st_nil)
 ·
  intro j3 hj15
  have h15:=un_go hj15 h2
  refine e_kw<|w_sr<|sB r<|o_ek (fr':=[(2,aB)]) r r<|w_ret ?_
  obtain rfl:=sy h15
  exact e_ret (rs':=[.tmp 2]) r<|r_tmp (v:=aB) r<|r_nil<|fin_gen [] r r r lr st_nil
noncomputable def ref02xWellFormed_l1 (rec_ref02xWellFormed:ApiValue→Option Bool) (p0C:ApiValue) (s4:Int):Option (Step Int (Fl Bool Unit)) :=
 cond (decide (s4<((p0C.Items).length:Int))) ((idx p0C.Items s4).bind fun x6=>(rec_ref02xWellFormed x6).bind fun x8=>cond (!x8) (some (Step.out (Fl.done false))) (some (Step.next (IntKind.wrap .i64 (s4+(1:Int)))))) (some (Step.out (Fl.go ())))
noncomputable def ref02xWellFormedF:Nat→ApiValue→Option Bool
 | 0,_=>none
 | n+1,p0C =>
  ((loopO (ref02xWellFormed_l1 (ref02xWellFormedF n) p0C) ((0:Int))):Option (Fl Bool Unit)).bind fun x1=>Fl.next x1 (fun j3=>(cond (decide (p0C.Kind=(0:Int))) (some (cond (cond (cond (decide (p0C.Int=(0:Int))) (decide (p0C.Text=([]:List UInt8))) false) (decide (((p0C.Items).length:Int)=(0:Int))) false) (decide (((p0C.Keys).length:Int)=(0:Int))) false)) (cond (decide (p0C.Kind=(1:Int))) (some (cond (cond (cond (cond (decide (p0C.Int=(0:Int))) true (decide (p0C.Int=(1:Int)))) (decide (p0C.Text=([]:List UInt8))) false) (decide (((p0C.Items).length:Int)=(0:Int))) false) (decide (((p0C.Keys).length:Int)=(0:Int))) false)) (cond (decide (p0C.Kind=(2:Int))) (some (cond (cond (decide (p0C.Text=([]:List UInt8))) (decide (((p0C.Items).length:Int)=(0:Int))) false) (decide (((p0C.Keys).length:Int)=(0:Int))) false)) (cond (decide (p0C.Kind=(3:Int))) (some (cond (cond (decide (p0C.Int=(0:Int))) (decide (((p0C.Items).length:Int)=(0:Int))) false) (decide (((p0C.Keys).length:Int)=(0:Int))) false)) (cond (decide (p0C.Kind=(4:Int))) (some (cond (cond (decide (p0C.Int=(0:Int))) (decide (p0C.Text=([]:List UInt8))) false) (decide (((p0C.Keys).length:Int)=(0:Int))) false)) (cond (decide (p0C.Kind=(5:Int))) ((gd ((cond (cond (decide (p0C.Int=(0:Int))) (decide (p0C.Text=([]:List UInt8))) false) (decide (((p0C.Keys).length:Int)=((p0C.Items).length:Int))) false)==true) (ref02xRising p0C.Keys)).bind fun x27=>some (cond (cond (cond (decide (p0C.Int=(0:Int))) (decide (p0C.Text=([]:List UInt8))) false) (decide (((p0C.Keys).length:Int)=((p0C.Items).length:Int))) false) x27 false)) (cond (decide (p0C.Kind=(6:Int))) (some (cond (cond (cond (decide ((0:Int)≤p0C.Int)) (decide (p0C.Text=([]:List UInt8))) false) (decide (((p0C.Items).length:Int)=(0:Int))) false) (decide (((p0C.Keys).length:Int)=(0:Int))) false)) (some false)))))))))
theorem wF_ref02xWellFormed:∀ n:Nat,(∀ {p0C:ApiValue}{res:Bool},ref02xWellFormedF n p0C=some res→ACalls Tryz.prog 90 [.agg (AV.cs (exApiValue p0C))] [] (.c (.bool res)) []):=by
 intro n
 induction n with
 | zero=>exact fun {p0C res} h=>absurd h (by simp [ref02xWellFormedF])
 | succ n ih =>
  have ih_ref02xWellFormed:=@ih
  intro p0C res h
  rw [ref02xWellFormedF] at h
  refine acalls (fn:=Tryz.f90) [0,1,2,3,8,17,19,20,42,69,86,103,119,143] (by kernel_rfl) Tryz.func90 r (by kernel_rfl) (by kernel_rfl)<|w_sr<|o_box (v:=.agg aIISLL) (n:=0) (cs:=aIISLL) (σ':=[aIISLL]) r r r r r<|sB r<|o_ek (fr':=[(1,.box 0 0)]) r r<|w_seqw<|w_sr<|sI r<|o_ek (fr':=[(1,.box 0 0),(3,aI)]) r r ?_
  obtain ⟨x1,hx1,h2⟩:=bind_s h
  refine w_jtail cl_kw (fun j3=>x1=Fl.go j3) (fun (j3:Unit)=>([(1,.box 0 0)]:Fr)) (fun (j3:Unit)=>([[.c (.int .i64 p0C.Kind),.c (.int .i64 p0C.Int),.c (.str p0C.Text),.c (PV.ls 5 rowApiValue p0C.Items),.c (PV.ls 1 rowS p0C.Keys)]]:St)) ?_ ?_
  ·
   refine w_block<|w_loopo _ (fun (s4:Int)=>([(1,.box 0 0),(3,.c (.int .i64 s4))]:Fr)) (fun (s4:Int)=>([[.c (.int .i64 p0C.Kind),.c (.int .i64 p0C.Int),.c (.str p0C.Text),.c (PV.ls 5 rowApiValue p0C.Items),.c (PV.ls 1 rowS p0C.Keys)]]:St)) hx1 (w_weak [] 1 r r r r ⟨lr,lr,trivial⟩ (st_r r st_nil)) ?_
   intro s4 st4 hs4 ho4
   unfold ref02xWellFormed_l1 at hs4
   refine w_seqw<|w_sr<|mI r<|o_p r (p_fa tf41x3 r)<|o_p r (p_load (v:=aL) tv38 r r r)<|o_p r (p_len ti38 (isl_c r))<|o_p r (p_lss r r)<|o_ek (fr':=[(1,.box 0 0),(3,aI),(8,aB)]) r r<|w_ch hs4 r (fun hb5 h5=>?_) (fun hb5 h5=>?_)
   ·
    refine w_skip<|e_kw<|w_seqw<|w_block<|w_sr<|o_p r (p_fa tf41x3 r)<|o_p r (p_load (v:=aL) tv38 r r r)<|mI r ?_
    obtain ⟨x6,hx6,h7⟩:=bind_s h5
    refine o_p r (p_ia (cs:=[PV.int _ _,PV.int _ _,PV.str _,PV.ls _ _ _,PV.ls _ _ _]) ts38 (isl_c r) r hx6 (rowApiValue_eq _))<|o_p r (p_loades (us:=[PV.int _ _,PV.int _ _,PV.str _,PV.ls _ _ _,PV.ls _ _ _]) tv41 r r r) ?_
    obtain ⟨x8,hx8,h9⟩:=bind_s h7
    refine o_v (ov_call (v:=aB) r (ih_ref02xWellFormed hx8) ⟨(le_aggc r ⟨r,r,r,r,r,trivial⟩),trivial⟩ r r r)<|o_p r (p_not r)<|o_ek (fr':=[(1,.box 0 0),(3,aI),(17,aB)]) r r<|w_ch h9 r (fun hb10 h10=>?_) (fun hb10 h10=>?_)
    ·
     refine w_sr<|sB r<|o_ek (fr':=[(2,aB)]) r r<|w_ret<|e_blk_r<|e_seq_r<|e_seq_r<|e_blk_r<|e_seq_r<|e_seq_r ?_
     have h11:=un_out h10 ho4
     have h12:=un_done h11 h2
     obtain rfl:=sy h12
     exact e_ret (rs':=[.tmp 2]) r<|r_tmp (v:=aB) r<|r_nil<|fin_gen [] r r r lr st_nil
    ·
     exact w_skip<|e_blk_n<|e_kw<|w_region<|mI r<|o_p r (p_add r r)<|sI r<|o_end (fr':=[(1,.box 0 0),(3,aI),(17,aB)]) r<|e_l _ (sy h10) (w_weak [] 1 r r r r ⟨lr,lr,trivial⟩ (st_r r st_nil))
   ·
    refine w_exit<|e_seq_x<|e_seq_x<|e_blk_h ?_
    have h14:=un_out h5 ho4
    exact e_j _ (sy h14) (w_weak [] 1 r r r r ⟨lr,trivial⟩ (st_r r st_nil))
  ·
   intro j3 hj15
   have h15:=un_go hj15 h2
   refine e_kw<|w_seqw<|w_sr<|o_p r (p_fa tf41x0 r)<|o_p r (p_load (v:=aI) tv3 r r r)<|o_ek (fr':=[(1,.box 0 0),(19,aI)]) r r<|w_block<|w_sr<|o_p r (p_eql r r)<|sB r<|o_ek (fr':=[(1,.box 0 0),(19,aI),(20,aB)]) r r ?_
   refine w_ch h15 r (fun hb16 h16=>?_) (fun hb16 h16=>?_)
   ·
    refine w_sr<|o_p r (p_fa tf41x1 r)<|o_p r (p_load (v:=aI) tv3 r r r)<|o_p r (p_eql r r)<|mB r<|og r r r (fun hc=>(p_fa tf41x2 r))<|og r r r (fun hc=>(p_load (v:=aS) tv9 (gx r hc) r r))<|og r r r (fun hc=>(p_seql (gx r hc) r))<|o_p r (p_picky r r r (fun e=>keq e))<|mB r<|og r r r (fun hc=>(p_fa tf41x3 r))<|og r r r (fun hc=>(p_load (v:=aL) tv38 (gx r hc) r r)) ?_
    refine og r r r (fun hc=>(p_len ti38 (isl_c (gx r hc))))<|og r r r (fun hc=>(p_eql (gx r hc) r))<|o_p r (p_picky r r r (fun e=>keq e))<|mB r<|og r r r (fun hc=>(p_fa tf41x4 r))<|og r r r (fun hc=>(p_load (v:=aL) tv39 (gx r hc) r r))<|og r r r (fun hc=>(p_len ti39 (isl_c (gx r hc))))<|og r r r (fun hc=>(p_eql (gx r hc) r))<|o_p r (p_picky r r r (fun e=>keq e))<|sB r<|o_ek (fr':=[(2,aB)]) r r<|w_ret<|e_blk_r ?_
    refine e_seq_r ?_
    obtain rfl:=sy h16
    exact e_ret (rs':=[.tmp 2]) r<|r_tmp (v:=aB) r<|r_nil<|fin_gen [] r r r lr st_nil
   ·
    refine w_sr<|o_p r (p_eql r r)<|sB r<|o_ek (fr':=[(1,.box 0 0),(19,aI),(42,aB)]) r r<|w_ch h16 r (fun hb18 h18=>?_) (fun hb18 h18=>?_)
    ·
     refine w_sr<|o_p r (p_fa tf41x1 r)<|o_p r (p_load (v:=aI) tv3 r r r)<|o_p r (p_eql r r)<|mB r<|og r r r (fun hc=>(p_fa tf41x1 r))<|og r r r (fun hc=>(p_load (v:=aI) tv3 (gx r hc) r r))<|og r r r (fun hc=>(p_eql (gx r hc) r))<|o_p r (p_pickz r r r (fun e=>keq e))<|mB r<|og r r r (fun hc=>(p_fa tf41x2 r))<|og r r r (fun hc=>(p_load (v:=aS) tv9 (gx r hc) r r)) ?_
     refine og r r r (fun hc=>(p_seql (gx r hc) r))<|o_p r (p_picky r r r (fun e=>keq e))<|mB r<|og r r r (fun hc=>(p_fa tf41x3 r))<|og r r r (fun hc=>(p_load (v:=aL) tv38 (gx r hc) r r))<|og r r r (fun hc=>(p_len ti38 (isl_c (gx r hc))))<|og r r r (fun hc=>(p_eql (gx r hc) r))<|o_p r (p_picky r r r (fun e=>keq e))<|mB r<|og r r r (fun hc=>(p_fa tf41x4 r))<|og r r r (fun hc=>(p_load (v:=aL) tv39 (gx r hc) r r))<|og r r r (fun hc=>(p_len ti39 (isl_c (gx r hc))))<|og r r r (fun hc=>(p_eql (gx r hc) r)) ?_
     refine o_p r (p_picky r r r (fun e=>keq e))<|sB r<|o_ek (fr':=[(2,aB)]) r r<|w_ret<|e_blk_r<|e_seq_r ?_
     obtain rfl:=sy h18
     exact e_ret (rs':=[.tmp 2]) r<|r_tmp (v:=aB) r<|r_nil<|fin_gen [] r r r lr st_nil
    ·
     refine w_sr<|o_p r (p_eql r r)<|sB r<|o_ek (fr':=[(1,.box 0 0),(19,aI),(69,aB)]) r r<|w_ch h18 r (fun hb20 h20=>?_) (fun hb20 h20=>?_)
     ·
      refine w_sr<|o_p r (p_fa tf41x2 r)<|o_p r (p_load (v:=aS) tv9 r r r)<|o_p r (p_seql r r)<|mB r<|og r r r (fun hc=>(p_fa tf41x3 r))<|og r r r (fun hc=>(p_load (v:=aL) tv38 (gx r hc) r r))<|og r r r (fun hc=>(p_len ti38 (isl_c (gx r hc))))<|og r r r (fun hc=>(p_eql (gx r hc) r))<|o_p r (p_picky r r r (fun e=>keq e))<|mB r<|og r r r (fun hc=>(p_fa tf41x4 r)) ?_
      refine og r r r (fun hc=>(p_load (v:=aL) tv39 (gx r hc) r r))<|og r r r (fun hc=>(p_len ti39 (isl_c (gx r hc))))<|og r r r (fun hc=>(p_eql (gx r hc) r))<|o_p r (p_picky r r r (fun e=>keq e))<|sB r<|o_ek (fr':=[(2,aB)]) r r<|w_ret<|e_blk_r<|e_seq_r ?_
      obtain rfl:=sy h20
      exact e_ret (rs':=[.tmp 2]) r<|r_tmp (v:=aB) r<|r_nil<|fin_gen [] r r r lr st_nil
     ·
      refine w_sr<|o_p r (p_eql r r)<|sB r<|o_ek (fr':=[(1,.box 0 0),(19,aI),(86,aB)]) r r<|w_ch h20 r (fun hb22 h22=>?_) (fun hb22 h22=>?_)
      ·
       refine w_sr<|o_p r (p_fa tf41x1 r)<|o_p r (p_load (v:=aI) tv3 r r r)<|o_p r (p_eql r r)<|mB r<|og r r r (fun hc=>(p_fa tf41x3 r))<|og r r r (fun hc=>(p_load (v:=aL) tv38 (gx r hc) r r))<|og r r r (fun hc=>(p_len ti38 (isl_c (gx r hc))))<|og r r r (fun hc=>(p_eql (gx r hc) r))<|o_p r (p_picky r r r (fun e=>keq e))<|mB r<|og r r r (fun hc=>(p_fa tf41x4 r)) ?_
       refine og r r r (fun hc=>(p_load (v:=aL) tv39 (gx r hc) r r))<|og r r r (fun hc=>(p_len ti39 (isl_c (gx r hc))))<|og r r r (fun hc=>(p_eql (gx r hc) r))<|o_p r (p_picky r r r (fun e=>keq e))<|sB r<|o_ek (fr':=[(2,aB)]) r r<|w_ret<|e_blk_r<|e_seq_r ?_
       obtain rfl:=sy h22
       exact e_ret (rs':=[.tmp 2]) r<|r_tmp (v:=aB) r<|r_nil<|fin_gen [] r r r lr st_nil
      ·
       refine w_sr<|o_p r (p_eql r r)<|sB r<|o_ek (fr':=[(1,.box 0 0),(19,aI),(103,aB)]) r r<|w_ch h22 r (fun hb24 h24=>?_) (fun hb24 h24=>?_)
       ·
        refine w_sr<|o_p r (p_fa tf41x1 r)<|o_p r (p_load (v:=aI) tv3 r r r)<|o_p r (p_eql r r)<|mB r<|og r r r (fun hc=>(p_fa tf41x2 r))<|og r r r (fun hc=>(p_load (v:=aS) tv9 (gx r hc) r r))<|og r r r (fun hc=>(p_seql (gx r hc) r))<|o_p r (p_picky r r r (fun e=>keq e))<|mB r<|og r r r (fun hc=>(p_fa tf41x4 r))<|og r r r (fun hc=>(p_load (v:=aL) tv39 (gx r hc) r r)) ?_
        refine og r r r (fun hc=>(p_len ti39 (isl_c (gx r hc))))<|og r r r (fun hc=>(p_eql (gx r hc) r))<|o_p r (p_picky r r r (fun e=>keq e))<|sB r<|o_ek (fr':=[(2,aB)]) r r<|w_ret<|e_blk_r<|e_seq_r ?_
        obtain rfl:=sy h24
        exact e_ret (rs':=[.tmp 2]) r<|r_tmp (v:=aB) r<|r_nil<|fin_gen [] r r r lr st_nil
       ·
        refine w_sr<|o_p r (p_eql r r)<|sB r<|o_ek (fr':=[(1,.box 0 0),(19,aI),(119,aB)]) r r<|w_ch h24 r (fun hb26 h26=>?_) (fun hb26 h26=>?_)
        ·
         refine w_sr<|o_p r (p_fa tf41x1 r)<|o_p r (p_load (v:=aI) tv3 r r r)<|o_p r (p_eql r r)<|mB r<|og r r r (fun hc=>(p_fa tf41x2 r))<|og r r r (fun hc=>(p_load (v:=aS) tv9 (gx r hc) r r))<|og r r r (fun hc=>(p_seql (gx r hc) r))<|o_p r (p_picky r r r (fun e=>keq e))<|mB r<|og r r r (fun hc=>(p_fa tf41x4 r))<|og r r r (fun hc=>(p_load (v:=aL) tv39 (gx r hc) r r)) ?_
         refine og r r r (fun hc=>(p_len ti39 (isl_c (gx r hc))))<|og r r r (fun hc=>(p_fa tf41x3 r))<|og r r r (fun hc=>(p_load (v:=aL) tv38 (gx r hc) r r))<|og r r r (fun hc=>(p_len ti38 (isl_c (gx r hc))))<|og r r r (fun hc=>(p_eql (gx r hc) (gx r hc)))<|o_p r (p_picky r r r (fun e=>keq e))<|mB r<|og r r r (fun hc=>(p_fa tf41x4 r))<|og r r r (fun hc=>(p_load (v:=aL) tv39 (gx r hc) r r)) ?_
         obtain ⟨x27,hx27,h28⟩:=bind_s h26
         refine o_g r r (fun hc=>ov_call (v:=aB) r (w_ref02xRising (gd_some hx27 hc)) ⟨(le_gv (gx r hc) lr),trivial⟩ (ok_eq (by repeat (first | exact ok_nil | refine ok_cons r ?_ | refine ok_cons (dgv r) ?_ | refine ok_cons dar ?_))) r r) ?_
         refine o_p r (p_picky r r r (fun e=>keq e))<|sB r<|o_ek (fr':=[(2,aB)]) r r<|w_ret<|e_blk_r<|e_seq_r ?_
         obtain rfl:=sy h28
         exact e_ret (rs':=[.tmp 2]) r<|r_tmp (v:=aB) r<|r_nil<|fin_gen [] r r r lr st_nil
        ·
         refine w_sr<|o_p r (p_eql r r)<|sB r<|o_ek (fr':=[(1,.box 0 0),(143,aB)]) r r<|w_ch h26 r (fun hb30 h30=>?_) (fun hb30 h30=>?_)
         ·
          refine w_sr<|o_p r (p_fa tf41x1 r)<|o_p r (p_load (v:=aI) tv3 r r r)<|o_p r (p_geq r r)<|mB r<|og r r r (fun hc=>(p_fa tf41x2 r))<|og r r r (fun hc=>(p_load (v:=aS) tv9 (gx r hc) r r))<|og r r r (fun hc=>(p_seql (gx r hc) r))<|o_p r (p_picky r r r (fun e=>keq e))<|mB r<|og r r r (fun hc=>(p_fa tf41x3 r))<|og r r r (fun hc=>(p_load (v:=aL) tv38 (gx r hc) r r)) ?_
          refine og r r r (fun hc=>(p_len ti38 (isl_c (gx r hc))))<|og r r r (fun hc=>(p_eql (gx r hc) r))<|o_p r (p_picky r r r (fun e=>keq e))<|mB r<|og r r r (fun hc=>(p_fa tf41x4 r))<|og r r r (fun hc=>(p_load (v:=aL) tv39 (gx r hc) r r))<|og r r r (fun hc=>(p_len ti39 (isl_c (gx r hc))))<|og r r r (fun hc=>(p_eql (gx r hc) r))<|o_p r (p_picky r r r (fun e=>keq e))<|sB r<|o_ek (fr':=[(2,aB)]) r r<|w_ret<|e_blk_r ?_
          refine e_seq_r ?_
          obtain rfl:=sy h30
          exact e_ret (rs':=[.tmp 2]) r<|r_tmp (v:=aB) r<|r_nil<|fin_gen [] r r r lr st_nil
         ·
          refine w_skip<|e_blk_n<|e_kw<|w_sr<|sB r<|o_ek (fr':=[(2,aB)]) r r<|w_ret ?_
          obtain rfl:=sy h30
          exact e_ret (rs':=[.tmp 2]) r<|r_tmp (v:=aB) r<|r_nil<|fin_gen [] r r r lr st_nil
noncomputable def ref02xWellFormed (p0C:ApiValue):Option Bool:=lim fun n=>ref02xWellFormedF n p0C
theorem w_ref02xWellFormed {p0C:ApiValue}{res:Bool} (h:ref02xWellFormed p0C=some res):ACalls Tryz.prog 90 [.agg (AV.cs (exApiValue p0C))] [] (.c (.bool res)) []:=by
 obtain ⟨n,hn⟩:=lim_some h
 exact (wF_ref02xWellFormed n) hn
end Go.Proofs.YtmbdbdhdcbdcpaaGreatDoor

import Derived.Test.YtmbdbdhdcbdcpaaGreatDoorGATy
import Derived.Test.YtmbdbdhdcbdcpaaGreatDoorGAF6
namespace Go.Proofs.YtmbdbdhdcbdcpaaGreatDoor
open Go Abs
set_option maxRecDepth 100000
set_option linter.unusedVariables false
set_option linter.unusedSimpArgs false
noncomputable def ref20xbare (p0c:ApiCommand):Option ApiCommand :=
 ((((cond (decide (p0c.Kind=(1:Int))) (some (decide (p0c.Kind=(1:Int)))) (cond (decide (p0c.Kind=(2:Int))) (some (decide (p0c.Kind=(2:Int)))) (cond (decide (p0c.Kind=(3:Int))) (some (decide (p0c.Kind=(3:Int)))) (cond (decide (p0c.Kind=(4:Int))) (some (decide (p0c.Kind=(4:Int)))) (cond (decide (p0c.Kind=(5:Int))) (some (decide (p0c.Kind=(5:Int)))) (some (decide (p0c.Kind=(6:Int))))))))):Option Bool).bind fun x4=>(cond x4 (some (0:Int)) (some p0c.Seq))):Option Int).bind fun x1=>(((((cond (decide (p0c.Kind=(1:Int))) (some (decide (p0c.Kind=(1:Int)))) (cond (decide (p0c.Kind=(5:Int))) (some (decide (p0c.Kind=(5:Int)))) (cond (decide (p0c.Kind=(6:Int))) (some (decide (p0c.Kind=(6:Int)))) (cond (decide (p0c.Kind=(7:Int))) (some (decide (p0c.Kind=(7:Int)))) (cond (decide (p0c.Kind=(8:Int))) (some (decide (p0c.Kind=(8:Int)))) (some (decide (p0c.Kind=(12:Int))))))))):Option Bool).bind fun x18=>(cond x18 (some ([]:List UInt8)) (some p0c.Name))):Option (List UInt8)).bind fun x15=>(((((cond (decide (p0c.Kind=(5:Int))) (some (decide (p0c.Kind=(5:Int)))) (cond (decide (p0c.Kind=(6:Int))) (some (decide (p0c.Kind=(6:Int)))) (cond (decide (p0c.Kind=(8:Int))) (some (decide (p0c.Kind=(8:Int)))) (some (decide (p0c.Kind=(9:Int))))))):Option Bool).bind fun x32=>(cond x32 (some ([]:List UInt8)) (some p0c.Key))):Option (List UInt8)).bind fun x29=>(((((cond (decide (p0c.Kind=(3:Int))) (some (decide (p0c.Kind=(3:Int)))) (cond (decide (p0c.Kind=(5:Int))) (some (decide (p0c.Kind=(5:Int)))) (cond (decide (p0c.Kind=(7:Int))) (some (decide (p0c.Kind=(7:Int)))) (some (decide (p0c.Kind=(9:Int))))))):Option Bool).bind fun x44=>(cond x44 (some (0:Int)) (some p0c.N))):Option Int).bind fun x41=>(((((cond (decide (p0c.Kind=(2:Int))) (some (decide (p0c.Kind=(2:Int)))) (cond (decide (p0c.Kind=(3:Int))) (some (decide (p0c.Kind=(3:Int)))) (some (decide (p0c.Kind=(4:Int)))))):Option Bool).bind fun x56=>(cond x56 (some (ApiCommand.mk p0c.Kind x1 x15 x29 x41 p0c.Data p0c.Opts)) (some (ApiCommand.mk p0c.Kind x1 x15 x29 x41 (ApiValue.mk (0:Int) (0:Int) ([]:List UInt8) ([]:(List ApiValue)) ([]:(List (List UInt8)))) p0c.Opts)))):Option ApiCommand).bind fun x53=>(cond (decide (x53.Kind=(1:Int))) (some (ApiCommand.mk x53.Kind x53.Seq x53.Name x53.Key x53.N x53.Data (ApiPolicy.mk ([]:List UInt8) (0:Int) (0:Int) (0:Int) (0:Int) (0:Int) (0:Int) (0:Int) (0:Int) ([]:(List (List UInt8)))))) (some x53))))))
theorem w_ref20xbare {p0c:ApiCommand}{res:ApiCommand} (h:ref20xbare p0c=some res):ACalls Tryz.prog 64 [.agg (AV.cs (rowApiCommand p0c))] [] (.agg (AV.cs (rowApiCommand res))) []:=by
 unfold ref20xbare at h
 refine acalls (fn:=Tryz.f64) [0,1,2,4,5,14,15,24,25,32,33,40,43,49] (by kernel_rfl) Tryz.func64 r (by kernel_rfl) (by kernel_rfl)<|w_sr<|o_box (v:=.agg aIISSIIISLLSIIIIIIIIL) (n:=0) (cs:=aIISSIIISLLSIIIIIIIIL) (σ':=[aIISSIIISLLSIIIIIIIIL]) r r r r r<|o_alloc (n:=1) (cs:=[aI,aI,aS,aS,aI,aI,aI,aS,AV.nil,AV.nil,aS,aI,aI,aI,aI,aI,aI,aI,aI,AV.nil]) (σ':=[aIISSIIISLLSIIIIIIIIL,[aI,aI,aS,aS,aI,aI,aI,aS,AV.nil,AV.nil,aS,aI,aI,aI,aI,aI,aI,aI,aI,AV.nil]]) tz70 r r r<|o_ek (fr':=[(1,.box 0 0),(2,.box 1 0)]) r r ?_
 obtain ⟨x1,hx1,h2⟩:=bind_s h
 refine w_join (fun j3=>x1=j3) (fun (j3:Int)=>([(1,.box 0 0),(2,.box 1 0)]:Fr)) (fun (j3:Int)=>([[.c (.int .i64 p0c.Kind),.c (.int .i64 j3),.c (.str p0c.Name),.c (.str p0c.Key),.c (.int .i64 p0c.N),.c (.int .i64 p0c.Data.Kind),.c (.int .i64 p0c.Data.Int),.c (.str p0c.Data.Text),.c (PV.ls 5 rowApiValue p0c.Data.Items),.c (PV.ls 1 rowS p0c.Data.Keys),.c (.str p0c.Opts.Queue),.c (.int .i64 p0c.Opts.ToStart),.c (.int .i64 p0c.Opts.ToClose),.c (.int .i64 p0c.Opts.Total),.c (.int .i64 p0c.Opts.Beat),.c (.int .i64 p0c.Opts.First),.c (.int .i64 p0c.Opts.Coef),.c (.int .i64 p0c.Opts.Most),.c (.int .i64 p0c.Opts.Attempts),.c (PV.ls 1 rowS p0c.Opts.Fatal)],[.c (.int .i64 (0:Int)),.c (.int .i64 (0:Int)),.c (.str ([]:List UInt8)),.c (.str ([]:List UInt8)),.c (.int .i64 (0:Int)),.c (.int .i64 (0:Int)),.c (.int .i64 (0:Int)),.c (.str ([]:List UInt8)),AV.nil,AV.nil,.c (.str ([]:List UInt8)),.c (.int .i64 (0:Int)),.c (.int .i64 (0:Int)),.c (.int .i64 (0:Int)),.c (.int .i64 (0:Int)),.c (.int .i64 (0:Int)),.c (.int .i64 (0:Int)),.c (.int .i64 (0:Int)),.c (.int .i64 (0:Int)),AV.nil]]:St)) ?_ ?_
 ·
  refine w_sr<|o_p r (p_fa tf70x0 r)<|o_p r (p_load (v:=aI) tv3 r r r)<|o_ek (fr':=[(1,.box 0 0),(2,.box 1 0),(4,aI)]) r r<|w_block ?_
  obtain ⟨x4,hx4,h5⟩:=bind_s hx1
  refine w_join (fun j6=>x4=j6) (fun (j6:Bool)=>([(1,.box 0 0),(2,.box 1 0),(5,.c (.bool j6))]:Fr)) (fun (j6:Bool)=>([[.c (.int .i64 p0c.Kind),.c (.int .i64 p0c.Seq),.c (.str p0c.Name),.c (.str p0c.Key),.c (.int .i64 p0c.N),.c (.int .i64 p0c.Data.Kind),.c (.int .i64 p0c.Data.Int),.c (.str p0c.Data.Text),.c (PV.ls 5 rowApiValue p0c.Data.Items),.c (PV.ls 1 rowS p0c.Data.Keys),.c (.str p0c.Opts.Queue),.c (.int .i64 p0c.Opts.ToStart),.c (.int .i64 p0c.Opts.ToClose),.c (.int .i64 p0c.Opts.Total),.c (.int .i64 p0c.Opts.Beat),.c (.int .i64 p0c.Opts.First),.c (.int .i64 p0c.Opts.Coef),.c (.int .i64 p0c.Opts.Most),.c (.int .i64 p0c.Opts.Attempts),.c (PV.ls 1 rowS p0c.Opts.Fatal)],[.c (.int .i64 (0:Int)),.c (.int .i64 (0:Int)),.c (.str ([]:List UInt8)),.c (.str ([]:List UInt8)),.c (.int .i64 (0:Int)),.c (.int .i64 (0:Int)),.c (.int .i64 (0:Int)),.c (.str ([]:List UInt8)),AV.nil,AV.nil,.c (.str ([]:List UInt8)),.c (.int .i64 (0:Int)),.c (.int .i64 (0:Int)),.c (.int .i64 (0:Int)),.c (.int .i64 (0:Int)),.c (.int .i64 (0:Int)),.c (.int .i64 (0:Int)),.c (.int .i64 (0:Int)),.c (.int .i64 (0:Int)),AV.nil]]:St)) ?_ ?_
  ·
   refine w_sr<|o_p r (p_eql r r)<|sB r<|o_ek (fr':=[(1,.box 0 0),(2,.box 1 0),(4,aI),(5,aB)]) r r<|w_ch hx4 r (fun hb7 h7=>?_) (fun hb7 h7=>?_)
   ·
    exact w_skip<|e_j _ (sy h7) (w_weak [] 2 r r r r ⟨lr,lr,lr,trivial⟩ (st_r r (st_r r st_nil)))
   ·
    refine w_sr<|o_p r (p_eql r r)<|sB r<|o_ek (fr':=[(1,.box 0 0),(2,.box 1 0),(4,aI),(5,aB)]) r r<|w_ch h7 r (fun hb8 h8=>?_) (fun hb8 h8=>?_)
    ·
     exact w_skip<|e_j _ (sy h8) (w_weak [] 2 r r r r ⟨lr,lr,lr,trivial⟩ (st_r r (st_r r st_nil)))
    ·
     refine w_sr<|o_p r (p_eql r r)<|sB r<|o_ek (fr':=[(1,.box 0 0),(2,.box 1 0),(4,aI),(5,aB)]) r r<|w_ch h8 r (fun hb9 h9=>?_) (fun hb9 h9=>?_)
     ·
      exact w_skip<|e_j _ (sy h9) (w_weak [] 2 r r r r ⟨lr,lr,lr,trivial⟩ (st_r r (st_r r st_nil)))
     ·
      refine w_sr<|o_p r (p_eql r r)<|sB r<|o_ek (fr':=[(1,.box 0 0),(2,.box 1 0),(4,aI),(5,aB)]) r r<|w_ch h9 r (fun hb10 h10=>?_) (fun hb10 h10=>?_)
      ·
       exact w_skip<|e_j _ (sy h10) (w_weak [] 2 r r r r ⟨lr,lr,lr,trivial⟩ (st_r r (st_r r st_nil)))
      ·
       refine w_sr<|o_p r (p_eql r r)<|sB r<|o_ek (fr':=[(1,.box 0 0),(2,.box 1 0),(4,aI),(5,aB)]) r r<|w_ch h10 r (fun hb11 h11=>?_) (fun hb11 h11=>?_)
       ·
        exact w_skip<|e_j _ (sy h11) (w_weak [] 2 r r r r ⟨lr,lr,lr,trivial⟩ (st_r r (st_r r st_nil)))
       ·
        exact w_region<|o_p r (p_eql r r)<|sB r<|o_end (fr':=[(1,.box 0 0),(2,.box 1 0),(4,aI),(5,aB)]) r<|e_j _ (sy h11) (w_weak [] 2 r r r r ⟨lr,lr,lr,trivial⟩ (st_r r (st_r r st_nil)))
  ·
   intro j6 hj12
   subst hj12
   refine w_ch h5 r (fun hb13 h13=>?_) (fun hb13 h13=>?_)
   ·
    exact w_region<|o_p r (p_fa tf70x1 r)<|o_store (v:=aI) (us:=[aI]) (cs:=aIISSIIISLLSIIIIIIIIL) (σ':=[aIISSIIISLLSIIIIIIIIL,[aI,aI,aS,aS,aI,aI,aI,aS,AV.nil,AV.nil,aS,aI,aI,aI,aI,aI,aI,aI,aI,AV.nil]]) r tv3 r r r r r r r r<|o_end (fr':=[(1,.box 0 0),(2,.box 1 0),(5,aB)]) r<|e_blk_n<|e_j _ (sy h13) (w_weak [] 2 r r r r ⟨lr,lr,trivial⟩ (st_r r (st_r r st_nil)))
   ·
    exact w_skip<|e_blk_n<|e_j _ (sy h13) (w_weak [] 2 r r r r ⟨lr,lr,trivial⟩ (st_r r (st_r r st_nil)))
 ·
  intro j3 hj14
  subst hj14
  obtain ⟨x15,hx15,h16⟩:=bind_s h2
  refine w_join (fun j17=>x15=j17) (fun (j17:(List UInt8))=>([(1,.box 0 0),(2,.box 1 0)]:Fr)) (fun (j17:(List UInt8))=>([[.c (.int .i64 p0c.Kind),.c (.int .i64 x1),.c (.str j17),.c (.str p0c.Key),.c (.int .i64 p0c.N),.c (.int .i64 p0c.Data.Kind),.c (.int .i64 p0c.Data.Int),.c (.str p0c.Data.Text),.c (PV.ls 5 rowApiValue p0c.Data.Items),.c (PV.ls 1 rowS p0c.Data.Keys),.c (.str p0c.Opts.Queue),.c (.int .i64 p0c.Opts.ToStart),.c (.int .i64 p0c.Opts.ToClose),.c (.int .i64 p0c.Opts.Total),.c (.int .i64 p0c.Opts.Beat),.c (.int .i64 p0c.Opts.First),.c (.int .i64 p0c.Opts.Coef),.c (.int .i64 p0c.Opts.Most),.c (.int .i64 p0c.Opts.Attempts),.c (PV.ls 1 rowS p0c.Opts.Fatal)],[.c (.int .i64 (0:Int)),.c (.int .i64 (0:Int)),.c (.str ([]:List UInt8)),.c (.str ([]:List UInt8)),.c (.int .i64 (0:Int)),.c (.int .i64 (0:Int)),.c (.int .i64 (0:Int)),.c (.str ([]:List UInt8)),AV.nil,AV.nil,.c (.str ([]:List UInt8)),.c (.int .i64 (0:Int)),.c (.int .i64 (0:Int)),.c (.int .i64 (0:Int)),.c (.int .i64 (0:Int)),.c (.int .i64 (0:Int)),.c (.int .i64 (0:Int)),.c (.int .i64 (0:Int)),.c (.int .i64 (0:Int)),AV.nil]]:St)) ?_ ?_
  ·
   refine w_sr<|o_p r (p_fa tf70x0 r)<|o_p r (p_load (v:=aI) tv3 r r r)<|o_ek (fr':=[(1,.box 0 0),(2,.box 1 0),(14,aI)]) r r<|w_block ?_
   obtain ⟨x18,hx18,h19⟩:=bind_s hx15
   refine w_join (fun j20=>x18=j20) (fun (j20:Bool)=>([(1,.box 0 0),(2,.box 1 0),(15,.c (.bool j20))]:Fr)) (fun (j20:Bool)=>([[.c (.int .i64 p0c.Kind),.c (.int .i64 x1),.c (.str p0c.Name),.c (.str p0c.Key),.c (.int .i64 p0c.N),.c (.int .i64 p0c.Data.Kind),.c (.int .i64 p0c.Data.Int),.c (.str p0c.Data.Text),.c (PV.ls 5 rowApiValue p0c.Data.Items),.c (PV.ls 1 rowS p0c.Data.Keys),.c (.str p0c.Opts.Queue),.c (.int .i64 p0c.Opts.ToStart),.c (.int .i64 p0c.Opts.ToClose),.c (.int .i64 p0c.Opts.Total),.c (.int .i64 p0c.Opts.Beat),.c (.int .i64 p0c.Opts.First),.c (.int .i64 p0c.Opts.Coef),.c (.int .i64 p0c.Opts.Most),.c (.int .i64 p0c.Opts.Attempts),.c (PV.ls 1 rowS p0c.Opts.Fatal)],[.c (.int .i64 (0:Int)),.c (.int .i64 (0:Int)),.c (.str ([]:List UInt8)),.c (.str ([]:List UInt8)),.c (.int .i64 (0:Int)),.c (.int .i64 (0:Int)),.c (.int .i64 (0:Int)),.c (.str ([]:List UInt8)),AV.nil,AV.nil,.c (.str ([]:List UInt8)),.c (.int .i64 (0:Int)),.c (.int .i64 (0:Int)),.c (.int .i64 (0:Int)),.c (.int .i64 (0:Int)),.c (.int .i64 (0:Int)),.c (.int .i64 (0:Int)),.c (.int .i64 (0:Int)),.c (.int .i64 (0:Int)),AV.nil]]:St)) ?_ ?_
   ·
    refine w_sr<|o_p r (p_eql r r)<|sB r<|o_ek (fr':=[(1,.box 0 0),(2,.box 1 0),(14,aI),(15,aB)]) r r<|w_ch hx18 r (fun hb21 h21=>?_) (fun hb21 h21=>?_)
    ·
     exact w_skip<|e_j _ (sy h21) (w_weak [] 2 r r r r ⟨lr,lr,lr,trivial⟩ (st_r r (st_r r st_nil)))
    ·
     refine w_sr<|o_p r (p_eql r r)<|sB r<|o_ek (fr':=[(1,.box 0 0),(2,.box 1 0),(14,aI),(15,aB)]) r r<|w_ch h21 r (fun hb22 h22=>?_) (fun hb22 h22=>?_)
     ·
      exact w_skip<|e_j _ (sy h22) (w_weak [] 2 r r r r ⟨lr,lr,lr,trivial⟩ (st_r r (st_r r st_nil)))
     ·
      refine w_sr<|o_p r (p_eql r r)<|sB r<|o_ek (fr':=[(1,.box 0 0),(2,.box 1 0),(14,aI),(15,aB)]) r r<|w_ch h22 r (fun hb23 h23=>?_) (fun hb23 h23=>?_)
      ·
       exact w_skip<|e_j _ (sy h23) (w_weak [] 2 r r r r ⟨lr,lr,lr,trivial⟩ (st_r r (st_r r st_nil)))
      ·
       refine w_sr<|o_p r (p_eql r r)<|sB r<|o_ek (fr':=[(1,.box 0 0),(2,.box 1 0),(14,aI),(15,aB)]) r r<|w_ch h23 r (fun hb24 h24=>?_) (fun hb24 h24=>?_)
       ·
        exact w_skip<|e_j _ (sy h24) (w_weak [] 2 r r r r ⟨lr,lr,lr,trivial⟩ (st_r r (st_r r st_nil)))
       ·
        refine w_sr<|o_p r (p_eql r r)<|sB r<|o_ek (fr':=[(1,.box 0 0),(2,.box 1 0),(14,aI),(15,aB)]) r r<|w_ch h24 r (fun hb25 h25=>?_) (fun hb25 h25=>?_)
        ·
         exact w_skip<|e_j _ (sy h25) (w_weak [] 2 r r r r ⟨lr,lr,lr,trivial⟩ (st_r r (st_r r st_nil)))
        ·
         exact w_region<|o_p r (p_eql r r)<|sB r<|o_end (fr':=[(1,.box 0 0),(2,.box 1 0),(14,aI),(15,aB)]) r<|e_j _ (sy h25) (w_weak [] 2 r r r r ⟨lr,lr,lr,trivial⟩ (st_r r (st_r r st_nil)))
   ·
    intro j20 hj26
    subst hj26
    refine w_ch h19 r (fun hb27 h27=>?_) (fun hb27 h27=>?_)
    ·
     exact w_region<|o_p r (p_fa tf70x2 r)<|o_store (v:=aS) (us:=[aS]) (cs:=aIISSIIISLLSIIIIIIIIL) (σ':=[aIISSIIISLLSIIIIIIIIL,[aI,aI,aS,aS,aI,aI,aI,aS,AV.nil,AV.nil,aS,aI,aI,aI,aI,aI,aI,aI,aI,AV.nil]]) r tv9 r r r r r r r r<|o_end (fr':=[(1,.box 0 0),(2,.box 1 0),(15,aB)]) r<|e_blk_n<|e_j _ (sy h27) (w_weak [] 2 r r r r ⟨lr,lr,trivial⟩ (st_r r (st_r r st_nil)))
    ·
     exact w_skip<|e_blk_n<|e_j _ (sy h27) (w_weak [] 2 r r r r ⟨lr,lr,trivial⟩ (st_r r (st_r r st_nil)))
  ·
   intro j17 hj28
   subst hj28
   obtain ⟨x29,hx29,h30⟩:=bind_s h16
   refine w_join (fun j31=>x29=j31) (fun (j31:(List UInt8))=>([(1,.box 0 0),(2,.box 1 0)]:Fr)) (fun (j31:(List UInt8))=>([[.c (.int .i64 p0c.Kind),.c (.int .i64 x1),.c (.str x15),.c (.str j31),.c (.int .i64 p0c.N),.c (.int .i64 p0c.Data.Kind),.c (.int .i64 p0c.Data.Int),.c (.str p0c.Data.Text),.c (PV.ls 5 rowApiValue p0c.Data.Items),.c (PV.ls 1 rowS p0c.Data.Keys),.c (.str p0c.Opts.Queue),.c (.int .i64 p0c.Opts.ToStart),.c (.int .i64 p0c.Opts.ToClose),.c (.int .i64 p0c.Opts.Total),.c (.int .i64 p0c.Opts.Beat),.c (.int .i64 p0c.Opts.First),.c (.int .i64 p0c.Opts.Coef),.c (.int .i64 p0c.Opts.Most),.c (.int .i64 p0c.Opts.Attempts),.c (PV.ls 1 rowS p0c.Opts.Fatal)],[.c (.int .i64 (0:Int)),.c (.int .i64 (0:Int)),.c (.str ([]:List UInt8)),.c (.str ([]:List UInt8)),.c (.int .i64 (0:Int)),.c (.int .i64 (0:Int)),.c (.int .i64 (0:Int)),.c (.str ([]:List UInt8)),AV.nil,AV.nil,.c (.str ([]:List UInt8)),.c (.int .i64 (0:Int)),.c (.int .i64 (0:Int)),.c (.int .i64 (0:Int)),.c (.int .i64 (0:Int)),.c (.int .i64 (0:Int)),.c (.int .i64 (0:Int)),.c (.int .i64 (0:Int)),.c (.int .i64 (0:Int)),AV.nil]]:St)) ?_ ?_
   ·
    refine w_sr<|o_p r (p_fa tf70x0 r)<|o_p r (p_load (v:=aI) tv3 r r r)<|o_ek (fr':=[(1,.box 0 0),(2,.box 1 0),(24,aI)]) r r<|w_block ?_
    obtain ⟨x32,hx32,h33⟩:=bind_s hx29
    refine w_join (fun j34=>x32=j34) (fun (j34:Bool)=>([(1,.box 0 0),(2,.box 1 0),(25,.c (.bool j34))]:Fr)) (fun (j34:Bool)=>([[.c (.int .i64 p0c.Kind),.c (.int .i64 x1),.c (.str x15),.c (.str p0c.Key),.c (.int .i64 p0c.N),.c (.int .i64 p0c.Data.Kind),.c (.int .i64 p0c.Data.Int),.c (.str p0c.Data.Text),.c (PV.ls 5 rowApiValue p0c.Data.Items),.c (PV.ls 1 rowS p0c.Data.Keys),.c (.str p0c.Opts.Queue),.c (.int .i64 p0c.Opts.ToStart),.c (.int .i64 p0c.Opts.ToClose),.c (.int .i64 p0c.Opts.Total),.c (.int .i64 p0c.Opts.Beat),.c (.int .i64 p0c.Opts.First),.c (.int .i64 p0c.Opts.Coef),.c (.int .i64 p0c.Opts.Most),.c (.int .i64 p0c.Opts.Attempts),.c (PV.ls 1 rowS p0c.Opts.Fatal)],[.c (.int .i64 (0:Int)),.c (.int .i64 (0:Int)),.c (.str ([]:List UInt8)),.c (.str ([]:List UInt8)),.c (.int .i64 (0:Int)),.c (.int .i64 (0:Int)),.c (.int .i64 (0:Int)),.c (.str ([]:List UInt8)),AV.nil,AV.nil,.c (.str ([]:List UInt8)),.c (.int .i64 (0:Int)),.c (.int .i64 (0:Int)),.c (.int .i64 (0:Int)),.c (.int .i64 (0:Int)),.c (.int .i64 (0:Int)),.c (.int .i64 (0:Int)),.c (.int .i64 (0:Int)),.c (.int .i64 (0:Int)),AV.nil]]:St)) ?_ ?_
    ·
     refine w_sr<|o_p r (p_eql r r)<|sB r<|o_ek (fr':=[(1,.box 0 0),(2,.box 1 0),(24,aI),(25,aB)]) r r<|w_ch hx32 r (fun hb35 h35=>?_) (fun hb35 h35=>?_)
     ·
      exact w_skip<|e_j _ (sy h35) (w_weak [] 2 r r r r ⟨lr,lr,lr,trivial⟩ (st_r r (st_r r st_nil)))
     ·
      refine w_sr<|o_p r (p_eql r r)<|sB r<|o_ek (fr':=[(1,.box 0 0),(2,.box 1 0),(24,aI),(25,aB)]) r r<|w_ch h35 r (fun hb36 h36=>?_) (fun hb36 h36=>?_)
      ·
       exact w_skip<|e_j _ (sy h36) (w_weak [] 2 r r r r ⟨lr,lr,lr,trivial⟩ (st_r r (st_r r st_nil)))
      ·
       refine w_sr<|o_p r (p_eql r r)<|sB r<|o_ek (fr':=[(1,.box 0 0),(2,.box 1 0),(24,aI),(25,aB)]) r r<|w_ch h36 r (fun hb37 h37=>?_) (fun hb37 h37=>?_)
       ·
        exact w_skip<|e_j _ (sy h37) (w_weak [] 2 r r r r ⟨lr,lr,lr,trivial⟩ (st_r r (st_r r st_nil)))
       ·
        exact w_region<|o_p r (p_eql r r)<|sB r<|o_end (fr':=[(1,.box 0 0),(2,.box 1 0),(24,aI),(25,aB)]) r<|e_j _ (sy h37) (w_weak [] 2 r r r r ⟨lr,lr,lr,trivial⟩ (st_r r (st_r r st_nil)))
    ·
     intro j34 hj38
     subst hj38
     refine w_ch h33 r (fun hb39 h39=>?_) (fun hb39 h39=>?_)
     ·
      exact w_region<|o_p r (p_fa tf70x3 r)<|o_store (v:=aS) (us:=[aS]) (cs:=aIISSIIISLLSIIIIIIIIL) (σ':=[aIISSIIISLLSIIIIIIIIL,[aI,aI,aS,aS,aI,aI,aI,aS,AV.nil,AV.nil,aS,aI,aI,aI,aI,aI,aI,aI,aI,AV.nil]]) r tv9 r r r r r r r r<|o_end (fr':=[(1,.box 0 0),(2,.box 1 0),(25,aB)]) r<|e_blk_n<|e_j _ (sy h39) (w_weak [] 2 r r r r ⟨lr,lr,trivial⟩ (st_r r (st_r r st_nil)))
     ·
      exact w_skip<|e_blk_n<|e_j _ (sy h39) (w_weak [] 2 r r r r ⟨lr,lr,trivial⟩ (st_r r (st_r r st_nil)))
   ·
    intro j31 hj40
    subst hj40
    obtain ⟨x41,hx41,h42⟩:=bind_s h30
    refine w_join (fun j43=>x41=j43) (fun (j43:Int)=>([(1,.box 0 0),(2,.box 1 0)]:Fr)) (fun (j43:Int)=>([[.c (.int .i64 p0c.Kind),.c (.int .i64 x1),.c (.str x15),.c (.str x29),.c (.int .i64 j43),.c (.int .i64 p0c.Data.Kind),.c (.int .i64 p0c.Data.Int),.c (.str p0c.Data.Text),.c (PV.ls 5 rowApiValue p0c.Data.Items),.c (PV.ls 1 rowS p0c.Data.Keys),.c (.str p0c.Opts.Queue),.c (.int .i64 p0c.Opts.ToStart),.c (.int .i64 p0c.Opts.ToClose),.c (.int .i64 p0c.Opts.Total),.c (.int .i64 p0c.Opts.Beat),.c (.int .i64 p0c.Opts.First),.c (.int .i64 p0c.Opts.Coef),.c (.int .i64 p0c.Opts.Most),.c (.int .i64 p0c.Opts.Attempts),.c (PV.ls 1 rowS p0c.Opts.Fatal)],[.c (.int .i64 (0:Int)),.c (.int .i64 (0:Int)),.c (.str ([]:List UInt8)),.c (.str ([]:List UInt8)),.c (.int .i64 (0:Int)),.c (.int .i64 (0:Int)),.c (.int .i64 (0:Int)),.c (.str ([]:List UInt8)),AV.nil,AV.nil,.c (.str ([]:List UInt8)),.c (.int .i64 (0:Int)),.c (.int .i64 (0:Int)),.c (.int .i64 (0:Int)),.c (.int .i64 (0:Int)),.c (.int .i64 (0:Int)),.c (.int .i64 (0:Int)),.c (.int .i64 (0:Int)),.c (.int .i64 (0:Int)),AV.nil]]:St)) ?_ ?_
    ·
     refine w_sr<|o_p r (p_fa tf70x0 r)<|o_p r (p_load (v:=aI) tv3 r r r)<|o_ek (fr':=[(1,.box 0 0),(2,.box 1 0),(32,aI)]) r r<|w_block ?_
     obtain ⟨x44,hx44,h45⟩:=bind_s hx41
     refine w_join (fun j46=>x44=j46) (fun (j46:Bool)=>([(1,.box 0 0),(2,.box 1 0),(33,.c (.bool j46))]:Fr)) (fun (j46:Bool)=>([[.c (.int .i64 p0c.Kind),.c (.int .i64 x1),.c (.str x15),.c (.str x29),.c (.int .i64 p0c.N),.c (.int .i64 p0c.Data.Kind),.c (.int .i64 p0c.Data.Int),.c (.str p0c.Data.Text),.c (PV.ls 5 rowApiValue p0c.Data.Items),.c (PV.ls 1 rowS p0c.Data.Keys),.c (.str p0c.Opts.Queue),.c (.int .i64 p0c.Opts.ToStart),.c (.int .i64 p0c.Opts.ToClose),.c (.int .i64 p0c.Opts.Total),.c (.int .i64 p0c.Opts.Beat),.c (.int .i64 p0c.Opts.First),.c (.int .i64 p0c.Opts.Coef),.c (.int .i64 p0c.Opts.Most),.c (.int .i64 p0c.Opts.Attempts),.c (PV.ls 1 rowS p0c.Opts.Fatal)],[.c (.int .i64 (0:Int)),.c (.int .i64 (0:Int)),.c (.str ([]:List UInt8)),.c (.str ([]:List UInt8)),.c (.int .i64 (0:Int)),.c (.int .i64 (0:Int)),.c (.int .i64 (0:Int)),.c (.str ([]:List UInt8)),AV.nil,AV.nil,.c (.str ([]:List UInt8)),.c (.int .i64 (0:Int)),.c (.int .i64 (0:Int)),.c (.int .i64 (0:Int)),.c (.int .i64 (0:Int)),.c (.int .i64 (0:Int)),.c (.int .i64 (0:Int)),.c (.int .i64 (0:Int)),.c (.int .i64 (0:Int)),AV.nil]]:St)) ?_ ?_
     ·
      refine w_sr<|o_p r (p_eql r r)<|sB r<|o_ek (fr':=[(1,.box 0 0),(2,.box 1 0),(32,aI),(33,aB)]) r r<|w_ch hx44 r (fun hb47 h47=>?_) (fun hb47 h47=>?_)
      ·
       exact w_skip<|e_j _ (sy h47) (w_weak [] 2 r r r r ⟨lr,lr,lr,trivial⟩ (st_r r (st_r r st_nil)))
      ·
       refine w_sr<|o_p r (p_eql r r)<|sB r<|o_ek (fr':=[(1,.box 0 0),(2,.box 1 0),(32,aI),(33,aB)]) r r<|w_ch h47 r (fun hb48 h48=>?_) (fun hb48 h48=>?_)
       ·
        exact w_skip<|e_j _ (sy h48) (w_weak [] 2 r r r r ⟨lr,lr,lr,trivial⟩ (st_r r (st_r r st_nil)))
       ·
        refine w_sr<|o_p r (p_eql r r)<|sB r<|o_ek (fr':=[(1,.box 0 0),(2,.box 1 0),(32,aI),(33,aB)]) r r<|w_ch h48 r (fun hb49 h49=>?_) (fun hb49 h49=>?_)
        ·
         exact w_skip<|e_j _ (sy h49) (w_weak [] 2 r r r r ⟨lr,lr,lr,trivial⟩ (st_r r (st_r r st_nil)))
        ·
         exact w_region<|o_p r (p_eql r r)<|sB r<|o_end (fr':=[(1,.box 0 0),(2,.box 1 0),(32,aI),(33,aB)]) r<|e_j _ (sy h49) (w_weak [] 2 r r r r ⟨lr,lr,lr,trivial⟩ (st_r r (st_r r st_nil)))
     ·
      intro j46 hj50
      subst hj50
      refine w_ch h45 r (fun hb51 h51=>?_) (fun hb51 h51=>?_)
      ·
       exact w_region<|o_p r (p_fa tf70x4 r)<|o_store (v:=aI) (us:=[aI]) (cs:=aIISSIIISLLSIIIIIIIIL) (σ':=[aIISSIIISLLSIIIIIIIIL,[aI,aI,aS,aS,aI,aI,aI,aS,AV.nil,AV.nil,aS,aI,aI,aI,aI,aI,aI,aI,aI,AV.nil]]) r tv3 r r r r r r r r<|o_end (fr':=[(1,.box 0 0),(2,.box 1 0),(33,aB)]) r<|e_blk_n<|e_j _ (sy h51) (w_weak [] 2 r r r r ⟨lr,lr,trivial⟩ (st_r r (st_r r st_nil)))
      ·
       exact w_skip<|e_blk_n<|e_j _ (sy h51) (w_weak [] 2 r r r r ⟨lr,lr,trivial⟩ (st_r r (st_r r st_nil)))
    ·
     intro j43 hj52
     subst hj52
     obtain ⟨x53,hx53,h54⟩:=bind_s h42
     refine w_join (fun j55=>x53=j55) (fun (j55:ApiCommand)=>([(1,.box 0 0),(2,.box 1 0)]:Fr)) (fun (j55:ApiCommand)=>([[.c (.int .i64 j55.Kind),.c (.int .i64 j55.Seq),.c (.str j55.Name),.c (.str j55.Key),.c (.int .i64 j55.N),.c (.int .i64 j55.Data.Kind),.c (.int .i64 j55.Data.Int),.c (.str j55.Data.Text),.c (PV.ls 5 rowApiValue j55.Data.Items),.c (PV.ls 1 rowS j55.Data.Keys),.c (.str j55.Opts.Queue),.c (.int .i64 j55.Opts.ToStart),.c (.int .i64 j55.Opts.ToClose),.c (.int .i64 j55.Opts.Total),.c (.int .i64 j55.Opts.Beat),.c (.int .i64 j55.Opts.First),.c (.int .i64 j55.Opts.Coef),.c (.int .i64 j55.Opts.Most),.c (.int .i64 j55.Opts.Attempts),.c (PV.ls 1 rowS j55.Opts.Fatal)],[.c (.int .i64 (0:Int)),.c (.int .i64 (0:Int)),.c (.str ([]:List UInt8)),.c (.str ([]:List UInt8)),.c (.int .i64 (0:Int)),.c (.int .i64 (0:Int)),.c (.int .i64 (0:Int)),.c (.str ([]:List UInt8)),AV.nil,AV.nil,.c (.str ([]:List UInt8)),.c (.int .i64 (0:Int)),.c (.int .i64 (0:Int)),.c (.int .i64 (0:Int)),.c (.int .i64 (0:Int)),.c (.int .i64 (0:Int)),.c (.int .i64 (0:Int)),.c (.int .i64 (0:Int)),.c (.int .i64 (0:Int)),AV.nil]]:St)) ?_ ?_
     ·
      refine w_sr<|o_p r (p_fa tf70x0 r)<|o_p r (p_load (v:=aI) tv3 r r r)<|o_ek (fr':=[(1,.box 0 0),(2,.box 1 0),(40,aI)]) r r<|w_block ?_
      obtain ⟨x56,hx56,h57⟩:=bind_s hx53
      refine w_join (fun j58=>x56=j58) (fun (j58:Bool)=>([(1,.box 0 0),(2,.box 1 0),(43,.c (.bool j58))]:Fr)) (fun (j58:Bool)=>([[.c (.int .i64 p0c.Kind),.c (.int .i64 x1),.c (.str x15),.c (.str x29),.c (.int .i64 x41),.c (.int .i64 p0c.Data.Kind),.c (.int .i64 p0c.Data.Int),.c (.str p0c.Data.Text),.c (PV.ls 5 rowApiValue p0c.Data.Items),.c (PV.ls 1 rowS p0c.Data.Keys),.c (.str p0c.Opts.Queue),.c (.int .i64 p0c.Opts.ToStart),.c (.int .i64 p0c.Opts.ToClose),.c (.int .i64 p0c.Opts.Total),.c (.int .i64 p0c.Opts.Beat),.c (.int .i64 p0c.Opts.First),.c (.int .i64 p0c.Opts.Coef),.c (.int .i64 p0c.Opts.Most),.c (.int .i64 p0c.Opts.Attempts),.c (PV.ls 1 rowS p0c.Opts.Fatal)],[.c (.int .i64 (0:Int)),.c (.int .i64 (0:Int)),.c (.str ([]:List UInt8)),.c (.str ([]:List UInt8)),.c (.int .i64 (0:Int)),.c (.int .i64 (0:Int)),.c (.int .i64 (0:Int)),.c (.str ([]:List UInt8)),AV.nil,AV.nil,.c (.str ([]:List UInt8)),.c (.int .i64 (0:Int)),.c (.int .i64 (0:Int)),.c (.int .i64 (0:Int)),.c (.int .i64 (0:Int)),.c (.int .i64 (0:Int)),.c (.int .i64 (0:Int)),.c (.int .i64 (0:Int)),.c (.int .i64 (0:Int)),AV.nil]]:St)) ?_ ?_
      ·
       refine w_sr<|o_p r (p_eql r r)<|sB r<|o_ek (fr':=[(1,.box 0 0),(2,.box 1 0),(40,aI),(43,aB)]) r r<|w_ch hx56 r (fun hb59 h59=>?_) (fun hb59 h59=>?_)
       ·
        exact w_skip<|e_j _ (sy h59) (w_weak [] 2 r r r r ⟨lr,lr,lr,trivial⟩ (st_r r (st_r r st_nil)))
       ·
        refine w_sr<|o_p r (p_eql r r)<|sB r<|o_ek (fr':=[(1,.box 0 0),(2,.box 1 0),(40,aI),(43,aB)]) r r<|w_ch h59 r (fun hb60 h60=>?_) (fun hb60 h60=>?_)
        ·
         exact w_skip<|e_j _ (sy h60) (w_weak [] 2 r r r r ⟨lr,lr,lr,trivial⟩ (st_r r (st_r r st_nil)))
        ·
         exact w_region<|o_p r (p_eql r r)<|sB r<|o_end (fr':=[(1,.box 0 0),(2,.box 1 0),(40,aI),(43,aB)]) r<|e_j _ (sy h60) (w_weak [] 2 r r r r ⟨lr,lr,lr,trivial⟩ (st_r r (st_r r st_nil)))
      ·
       intro j58 hj61
       subst hj61
       refine w_ch h57 r (fun hb62 h62=>?_) (fun hb62 h62=>?_)
       ·
        exact w_skip<|e_blk_n<|e_j _ (sy h62) (w_weak [] 2 r r r r ⟨lr,lr,trivial⟩ (st_r r (st_r r st_nil)))
       ·
        exact w_region<|o_p r (p_build (cs:=[aI,aI,aS,AV.nil,AV.nil]) tb41 r)<|o_p r (p_fa tf70x5 r)<|o_store (v:=.agg [aI,aI,aS,AV.nil,AV.nil]) (us:=[aI,aI,aS,AV.nil,AV.nil]) (cs:=aIISSIIISLLSIIIIIIIIL) (σ':=[[aI,aI,aS,aS,aI,aI,aI,aS,AV.nil,AV.nil,aS,aI,aI,aI,aI,aI,aI,aI,aI,aL],[aI,aI,aS,aS,aI,aI,aI,aS,AV.nil,AV.nil,aS,aI,aI,aI,aI,aI,aI,aI,aI,AV.nil]]) r tv41 r r r r r r r r<|o_end (fr':=[(1,.box 0 0),(2,.box 1 0),(43,aB)]) r<|e_blk_n<|e_j _ (sy h62) (w_weak [] 2 r r r r ⟨lr,lr,trivial⟩ (st_p ⟨lr,lr,lr,lr,lr,lr,lr,lr,le_nls,le_nls,lr,lr,lr,lr,lr,lr,lr,lr,lr,lr,trivial⟩ (st_r r st_nil)))
     ·
      intro j55 hj63
      subst hj63
      refine w_seqw<|w_sr<|o_p r (p_fa tf70x0 r)<|o_p r (p_load (v:=aI) tv3 r r r)<|o_p r (p_eql r r)<|o_ek (fr':=[(1,.box 0 0),(2,.box 1 0),(49,aB)]) r r<|w_ch h54 r (fun hb64 h64=>?_) (fun hb64 h64=>?_)
      ·
       refine w_region<|o_p r (p_buildc (c0:=[aS,aI,aI,aI,aI,aI,aI,aI,aI,AV.nil]) (cs:=[aS,aI,aI,aI,aI,aI,aI,aI,aI,AV.nil]) tb43 r fill_nil)<|o_p r (p_fa tf70x6 r)<|o_store (v:=.agg [aS,aI,aI,aI,aI,aI,aI,aI,aI,AV.nil]) (us:=[aS,aI,aI,aI,aI,aI,aI,aI,aI,AV.nil]) (cs:=aIISSIIISLLSIIIIIIIIL) (σ':=[[aI,aI,aS,aS,aI,aI,aI,aS,aL,aL,aS,aI,aI,aI,aI,aI,aI,aI,aI,AV.nil],[aI,aI,aS,aS,aI,aI,aI,aS,AV.nil,AV.nil,aS,aI,aI,aI,aI,aI,aI,aI,aI,AV.nil]]) r tv43 r r r r r r r r<|o_ek (fr':=[(1,.box 0 0),(2,.box 1 0)]) r r<|w_sr<|o_p r (p_loads (us:=[aI,aI,aS,aS,aI,aI,aI,aS,aL,aL,aS,aI,aI,aI,aI,aI,aI,aI,aI,AV.nil]) tv70 r r r r)<|o_store (v:=.agg [aI,aI,aS,aS,aI,aI,aI,aS,aL,aL,aS,aI,aI,aI,aI,aI,aI,aI,aI,AV.nil]) (us:=[aI,aI,aS,aS,aI,aI,aI,aS,aL,aL,aS,aI,aI,aI,aI,aI,aI,aI,aI,AV.nil]) (cs:=[aI,aI,aS,aS,aI,aI,aI,aS,AV.nil,AV.nil,aS,aI,aI,aI,aI,aI,aI,aI,aI,AV.nil]) (σ':=[[aI,aI,aS,aS,aI,aI,aI,aS,aL,aL,aS,aI,aI,aI,aI,aI,aI,aI,aI,AV.nil],[aI,aI,aS,aS,aI,aI,aI,aS,aL,aL,aS,aI,aI,aI,aI,aI,aI,aI,aI,AV.nil]]) r tv70 r r r r r r r r<|o_ek (fr':=[(2,.box 1 0)]) r r<|w_ret ?_
       obtain rfl:=sy h64
       exact e_ret (rs':=[.cell 2 70]) r<|r_cells (us:=[aI,aI,aS,aS,aI,aI,aI,aS,aL,aL,aS,aI,aI,aI,aI,aI,aI,aI,aI,AV.nil]) (cs:=[aI,aI,aS,aS,aI,aI,aI,aS,aL,aL,aS,aI,aI,aI,aI,aI,aI,aI,aI,AV.nil]) tv70 r r r r<|r_nil<|fin_gen [] r r r (le_aggc r ⟨r,r,r,r,r,r,r,r,r,r,r,r,r,r,r,r,r,r,r,⟨_,r⟩,trivial⟩) st_nil
      ·
       refine w_skip<|e_kw<|w_sr<|o_p r (p_loads (us:=aIISSIIISLLSIIIIIIIIL) tv70 r r r r)<|o_store (v:=.agg aIISSIIISLLSIIIIIIIIL) (us:=aIISSIIISLLSIIIIIIIIL) (cs:=[aI,aI,aS,aS,aI,aI,aI,aS,AV.nil,AV.nil,aS,aI,aI,aI,aI,aI,aI,aI,aI,AV.nil]) (σ':=[aIISSIIISLLSIIIIIIIIL,aIISSIIISLLSIIIIIIIIL]) r tv70 r r r r r r r r<|o_ek (fr':=[(2,.box 1 0)]) r r<|w_ret ?_
       obtain rfl:=sy h64
       exact e_ret (rs':=[.cell 2 70]) r<|r_cells (us:=aIISSIIISLLSIIIIIIIIL) (cs:=aIISSIIISLLSIIIIIIIIL) tv70 r r r r<|r_nil<|fin_gen [] r r r (le_aggc r ⟨r,r,r,r,r,r,r,r,r,r,r,r,r,r,r,r,r,r,r,r,trivial⟩) st_nil
noncomputable def ref20xIdent_l1 (p0s:(List UInt8)) (s6:Int):Option (Step Int (Fl Bool Unit)) :=
 cond (decide (s6<((p0s).length:Int))) ((idx p0s s6).bind fun x8=>(gd ((decide (((x8).toNat:Int)<(33:Int)))==false) (idx p0s s6)).bind fun x10=>(gd ((cond (decide (((x8).toNat:Int)<(33:Int))) true (decide ((126:Int)<((x10).toNat:Int))))==false) (idx p0s s6)).bind fun x12=>(gd ((cond (cond (decide (((x8).toNat:Int)<(33:Int))) true (decide ((126:Int)<((x10).toNat:Int)))) true (decide (((x12).toNat:Int)=(47:Int))))==false) (idx p0s s6)).bind fun x14=>cond (cond (cond (cond (decide (((x8).toNat:Int)<(33:Int))) true (decide ((126:Int)<((x10).toNat:Int)))) true (decide (((x12).toNat:Int)=(47:Int)))) true (decide (((x14).toNat:Int)=(34:Int)))) (some (Step.out (Fl.done false))) (some (Step.next (IntKind.wrap .i64 (s6+(1:Int)))))) (some (Step.out (Fl.go ())))
noncomputable def ref20xIdent (p0s:(List UInt8)):Option Bool :=
 cond (cond (decide (((p0s).length:Int)<(1:Int))) true (decide ((64:Int)<((p0s).length:Int)))) (some false) (((loopO (ref20xIdent_l1 p0s) ((0:Int))):Option (Fl Bool Unit)).bind fun x3=>Fl.next x3 (fun j5=>(some true)))
theorem w_ref20xIdent {p0s:(List UInt8)}{res:Bool} (h:ref20xIdent p0s=some res):ACalls Tryz.prog 65 [.c (.str p0s)] [] (.c (.bool res)) []:=by
 unfold ref20xIdent at h
 refine acalls (fn:=Tryz.f65) [0,2,3,11,15,39] (by kernel_rfl) Tryz.func65 r (by kernel_rfl) (by kernel_rfl)<|w_sr<|sB r<|o_ek (fr':=[(0,aS)]) r r<|w_seqw<|w_sr<|mS r<|o_p r (p_lens ti9 r)<|o_p r (p_lss r r)<|mB r<|og r r r (fun hc=>(p_move (v:=aS) r)) ?_
 refine og r r r (fun hc=>(p_lens ti9 (gx r hc)))<|og r r r (fun hc=>(p_gtr (gx r hc) r))<|o_p r (p_pickz r r r (fun e=>keq e))<|o_ek (fr':=[(0,aS),(11,aB)]) r r<|w_ch h r (fun hb1 h1=>?_) (fun hb1 h1=>?_)
 ·
  refine w_sr<|sB r<|o_ek (fr':=[(2,aB)]) r r<|w_ret<|e_seq_r ?_
  obtain rfl:=sy h1
  exact e_ret (rs':=[.tmp 2]) r<|r_tmp (v:=aB) r<|r_nil<|fin_gen [] r r r lr st_nil
 ·
  refine w_skip<|e_kw<|w_seqw<|w_sr<|sI r<|o_ek (fr':=[(0,aS),(3,aI)]) r r ?_
  obtain ⟨x3,hx3,h4⟩:=bind_s h1
  refine w_jtail cl_kw (fun j5=>x3=Fl.go j5) (fun (j5:Unit)=>([]:Fr)) (fun (j5:Unit)=>([]:St)) ?_ ?_
  ·
   refine w_block<|w_loopo _ (fun (s6:Int)=>([(0,.c (.str p0s)),(3,.c (.int .i64 s6))]:Fr)) (fun (s6:Int)=>([]:St)) hx3 (w_weak [] 0 r r r r ⟨lr,lr,trivial⟩ st_nil) ?_
   intro s6 st6 hs6 ho6
   unfold ref20xIdent_l1 at hs6
   refine w_seqw<|w_sr<|mI r<|mS r<|o_p r (p_lens ti9 r)<|o_p r (p_lss r r)<|o_ek (fr':=[(0,aS),(3,aI),(15,aB)]) r r<|w_ch hs6 r (fun hb7 h7=>?_) (fun hb7 h7=>?_)
   ·
    refine w_skip<|e_kw<|w_seqw<|w_block<|w_sr<|mS r<|mI r ?_
    obtain ⟨x8,hx8,h9⟩:=bind_s h7
    refine o_p r (p_is ti9 r r hx8)<|o_p r (p_lss r r)<|mB r<|og r r r (fun hc=>(p_move (v:=aS) r))<|og r r r (fun hc=>(p_move (v:=aI) r)) ?_
    obtain ⟨x10,hx10,h11⟩:=bind_s h9
    refine og r r r (fun hc=>(p_is ti9 (gx r hc) (gx r hc) (gd_some hx10 hc)))<|og r r r (fun hc=>(p_gtr (gx r hc) r))<|o_p r (p_pickz r r r (fun e=>keq e))<|mB r<|og r r r (fun hc=>(p_move (v:=aS) r))<|og r r r (fun hc=>(p_move (v:=aI) r)) ?_
    obtain ⟨x12,hx12,h13⟩:=bind_s h11
    refine og r r r (fun hc=>(p_is ti9 (gx r hc) (gx r hc) (gd_some hx12 hc)))<|og r r r (fun hc=>(p_eql (gx r hc) r))<|o_p r (p_pickz r r r (fun e=>keq e))<|mB r<|og r r r (fun hc=>(p_move (v:=aS) r))<|og r r r (fun hc=>(p_move (v:=aI) r)) ?_
    obtain ⟨x14,hx14,h15⟩:=bind_s h13
    refine og r r r (fun hc=>(p_is ti9 (gx r hc) (gx r hc) (gd_some hx14 hc)))<|og r r r (fun hc=>(p_eql (gx r hc) r))<|o_p r (p_pickz r r r (fun e=>keq e))<|o_ek (fr':=[(0,aS),(3,aI),(39,aB)]) r r<|w_ch h15 r (fun hb16 h16=>?_) (fun hb16 h16=>?_)
    ·
     refine w_sr<|sB r<|o_ek (fr':=[(2,aB)]) r r<|w_ret<|e_blk_r<|e_seq_r<|e_seq_r<|e_blk_r<|e_seq_r<|e_seq_r ?_
     have h17:=un_out h16 ho6
     have h18:=un_done h17 h4
     obtain rfl:=sy h18
     exact e_ret (rs':=[.tmp 2]) r<|r_tmp (v:=aB) r<|r_nil<|fin_gen [] r r r lr st_nil
    ·
     exact w_skip<|e_blk_n<|e_kw<|w_region<|mI r<|o_p r (p_add r r)<|sI r<|o_end (fr':=[(0,aS),(3,aI),(39,aB)]) r<|e_l _ (sy h16) (w_weak [] 0 r r r r ⟨lr,lr,trivial⟩ st_nil)
   ·
    refine w_exit<|e_seq_x<|e_seq_x<|e_blk_h ?_
    have h20:=un_out h7 ho6
    exact e_j _ (sy h20) (w_weak [] 0 r r r r trivial st_nil)
  ·
   intro j5 hj21
   have h21:=un_go hj21 h4
   refine e_kw<|w_sr<|sB r<|o_ek (fr':=[(2,aB)]) r r<|w_ret ?_
   obtain rfl:=sy h21
   exact e_ret (rs':=[.tmp 2]) r<|r_tmp (v:=aB) r<|r_nil<|fin_gen [] r r r lr st_nil
noncomputable def ref20xRightPolicy_l1 (p0o:ApiPolicy) (s4:Int):Option (Step Int (Fl Bool Unit)) :=
 cond (decide (s4<((([p0o.ToStart,p0o.ToClose,p0o.Total,p0o.Beat,p0o.First,p0o.Most]:List Int)).length:Int))) ((idx ([p0o.ToStart,p0o.ToClose,p0o.Total,p0o.Beat,p0o.First,p0o.Most]:List Int) s4).bind fun x6=>(ref20xin x6 (0:Int) (1099511627776:Int)).bind fun x8=>cond (!x8) (some (Step.out (Fl.done false))) (some (Step.next (IntKind.wrap .i64 (s4+(1:Int)))))) (some (Step.out (Fl.go ())))
noncomputable def ref20xRightPolicy_l2 (p0o:ApiPolicy) (s19:Int):Option (Step Int (Fl Bool Unit)) :=
 cond (decide (s19<((p0o.Fatal).length:Int))) ((idx p0o.Fatal s19).bind fun x21=>cond (decide ((4096:Int)<((x21).length:Int))) (some (Step.out (Fl.done false))) (some (Step.next (IntKind.wrap .i64 (s19+(1:Int)))))) (some (Step.out (Fl.go ())))
noncomputable def ref20xRightPolicy (p0o:ApiPolicy):Option Bool :=
 ((loopO (ref20xRightPolicy_l1 p0o) ((0:Int))):Option (Fl Bool Unit)).bind fun x1=>Fl.next x1 (fun j3=>(((loopO (ref20xRightPolicy_l2 p0o) ((0:Int))):Option (Fl Bool Unit)).bind fun x16=>Fl.next x16 (fun j18=>((gd ((decide (p0o.Queue=([]:List UInt8)))==false) (ref06xRight p0o.Queue)).bind fun x29=>(gd ((cond (decide (p0o.Queue=([]:List UInt8))) true x29)==true) (ref20xin p0o.Coef (0:Int) (10000:Int))).bind fun x31=>(gd ((cond (cond (decide (p0o.Queue=([]:List UInt8))) true x29) x31 false)==true) (ref20xin p0o.Attempts (0:Int) (1000:Int))).bind fun x33=>some (cond (cond (cond (cond (decide (p0o.Queue=([]:List UInt8))) true x29) x31 false) x33 false) (decide (((p0o.Fatal).length:Int)≤(64:Int))) false)))))
theorem w_ref20xRightPolicy {p0o:ApiPolicy}{res:Bool} (h:ref20xRightPolicy p0o=some res):ACalls Tryz.prog 66 [.agg (AV.cs (rowApiPolicy p0o))] [] (.c (.bool res)) []:=by
 unfold ref20xRightPolicy at h
 refine acalls (fn:=Tryz.f66) [0,1,2,3,4,5,22,30,35,44] (by kernel_rfl) Tryz.func66 r (by kernel_rfl) (by kernel_rfl)<|w_sr<|o_box (v:=.agg aSIIIIIIIIL) (n:=0) (cs:=aSIIIIIIIIL) (σ':=[aSIIIIIIIIL]) r r r r r<|sB r<|o_ek (fr':=[(1,.box 0 0)]) r r<|w_sr<|o_p r (p_fa tf43x1 r)<|o_p r (p_load (v:=aI) tv3 r r r)<|o_p r (p_fa tf43x2 r)<|o_p r (p_load (v:=aI) tv3 r r r)<|o_p r (p_fa tf43x3 r) ?_
 refine o_p r (p_load (v:=aI) tv3 r r r)<|o_p r (p_fa tf43x4 r)<|o_p r (p_load (v:=aI) tv3 r r r)<|o_p r (p_fa tf43x5 r)<|o_p r (p_load (v:=aI) tv3 r r r)<|o_p r (p_fa tf43x7 r)<|o_p r (p_load (v:=aI) tv3 r r r)<|o_rows (row:=(rowI .i64)) (xs:=([p0o.ToStart,p0o.ToClose,p0o.Total,p0o.Beat,p0o.First,p0o.Most]:List Int)) (rows:=[[_],[_],[_],[_],[_],[_]]) (σ':=[aSIIIIIIIIL]) [0] ts103 r r r (arow_cons r (arow_cons r (arow_cons r (arow_cons r (arow_cons r (arow_cons r arow_nil)))))) r r<|sV (v:=aO) r<|o_ek (fr':=[(1,.box 0 0),(3,aO)]) r r<|w_seqw<|w_seqw<|w_region ?_
 refine sI r<|o_ek (fr':=[(1,.box 0 0),(3,aO),(4,aI)]) r r ?_
 obtain ⟨x1,hx1,h2⟩:=bind_s h
 refine w_jtail cl_kw (fun j3=>x1=Fl.go j3) (fun (j3:Unit)=>([(1,.box 0 0)]:Fr)) (fun (j3:Unit)=>([[.c (.str p0o.Queue),.c (.int .i64 p0o.ToStart),.c (.int .i64 p0o.ToClose),.c (.int .i64 p0o.Total),.c (.int .i64 p0o.Beat),.c (.int .i64 p0o.First),.c (.int .i64 p0o.Coef),.c (.int .i64 p0o.Most),.c (.int .i64 p0o.Attempts),.c (PV.ls 1 rowS p0o.Fatal)]]:St)) ?_ ?_
 ·
  refine w_block<|w_loopo _ (fun (s4:Int)=>([(1,.box 0 0),(3,AV.os 0 1 (rowI .i64) ([p0o.ToStart,p0o.ToClose,p0o.Total,p0o.Beat,p0o.First,p0o.Most]:List Int)),(4,.c (.int .i64 s4))]:Fr)) (fun (s4:Int)=>([[.c (.str p0o.Queue),.c (.int .i64 p0o.ToStart),.c (.int .i64 p0o.ToClose),.c (.int .i64 p0o.Total),.c (.int .i64 p0o.Beat),.c (.int .i64 p0o.First),.c (.int .i64 p0o.Coef),.c (.int .i64 p0o.Most),.c (.int .i64 p0o.Attempts),.c (PV.ls 1 rowS p0o.Fatal)]]:St)) hx1 (w_weak [288] 1 r r r r ⟨lr,lr,lr,trivial⟩ (st_r r st_nil)) ?_
  intro s4 st4 hs4 ho4
  unfold ref20xRightPolicy_l1 at hs4
  refine w_seqw<|w_sr<|mI r<|mV (v:=aO) r<|o_p r (p_len ti103 (isl_o r))<|o_p r (p_lss r r)<|o_ek (fr':=[(1,.box 0 0),(3,aO),(4,aI),(22,aB)]) r r<|w_ch hs4 r (fun hb5 h5=>?_) (fun hb5 h5=>?_)
  ·
   refine w_skip<|e_kw<|w_seqw<|w_block<|w_sr<|mV (v:=aO) r<|mI r ?_
   obtain ⟨x6,hx6,h7⟩:=bind_s h5
   refine o_p r (p_ia (cs:=[PV.int _ _]) ts103 (isl_o r) r hx6 r)<|o_p r (p_loade (p:=PV.int _ _) tv3 r r) ?_
   obtain ⟨x8,hx8,h9⟩:=bind_s h7
   refine o_v (ov_call (v:=aB) r (w_ref20xin hx8) ⟨lr,lr,lr,trivial⟩ r r r)<|o_p r (p_not r)<|o_ek (fr':=[(1,.box 0 0),(3,aO),(4,aI),(30,aB)]) r r<|w_ch h9 r (fun hb10 h10=>?_) (fun hb10 h10=>?_)
   ·
    refine w_sr<|sB r<|o_ek (fr':=[(2,aB)]) r r<|w_ret<|e_blk_r<|e_seq_r<|e_seq_r<|e_blk_r<|e_seq_r<|e_seq_r ?_
    have h11:=un_out h10 ho4
    have h12:=un_done h11 h2
    obtain rfl:=sy h12
    exact e_ret (rs':=[.tmp 2]) r<|r_tmp (v:=aB) r<|r_nil<|fin_gen [] r r r lr st_nil
   ·
    exact w_skip<|e_blk_n<|e_kw<|w_region<|mI r<|o_p r (p_add r r)<|sI r<|o_end (fr':=[(1,.box 0 0),(3,aO),(4,aI),(30,aB)]) r<|e_l _ (sy h10) (w_weak [0] 1 r r r r ⟨lr,lr,lr,trivial⟩ (st_r r st_nil))
  ·
   refine w_exit<|e_seq_x<|e_seq_x<|e_blk_h ?_
   have h14:=un_out h5 ho4
   exact e_j _ (sy h14) (w_weak [] 1 r r r r ⟨lr,trivial⟩ (st_r r st_nil))
 ·
  intro j3 hj15
  have h15:=un_go hj15 h2
  refine e_kw<|w_seqw<|w_sr<|sI r<|o_ek (fr':=[(1,.box 0 0),(5,aI)]) r r ?_
  obtain ⟨x16,hx16,h17⟩:=bind_s h15
  refine w_jtail cl_kw (fun j18=>x16=Fl.go j18) (fun (j18:Unit)=>([(1,.box 0 0)]:Fr)) (fun (j18:Unit)=>([[.c (.str p0o.Queue),.c (.int .i64 p0o.ToStart),.c (.int .i64 p0o.ToClose),.c (.int .i64 p0o.Total),.c (.int .i64 p0o.Beat),.c (.int .i64 p0o.First),.c (.int .i64 p0o.Coef),.c (.int .i64 p0o.Most),.c (.int .i64 p0o.Attempts),.c (PV.ls 1 rowS p0o.Fatal)]]:St)) ?_ ?_
  ·
   refine w_block<|w_loopo _ (fun (s19:Int)=>([(1,.box 0 0),(5,.c (.int .i64 s19))]:Fr)) (fun (s19:Int)=>([[.c (.str p0o.Queue),.c (.int .i64 p0o.ToStart),.c (.int .i64 p0o.ToClose),.c (.int .i64 p0o.Total),.c (.int .i64 p0o.Beat),.c (.int .i64 p0o.First),.c (.int .i64 p0o.Coef),.c (.int .i64 p0o.Most),.c (.int .i64 p0o.Attempts),.c (PV.ls 1 rowS p0o.Fatal)]]:St)) hx16 (w_weak [] 1 r r r r ⟨lr,lr,trivial⟩ (st_r r st_nil)) ?_
   intro s19 st19 hs19 ho19
   unfold ref20xRightPolicy_l2 at hs19
   refine w_seqw<|w_sr<|mI r<|o_p r (p_fa tf43x9 r)<|o_p r (p_load (v:=aL) tv39 r r r)<|o_p r (p_len ti39 (isl_c r))<|o_p r (p_lss r r)<|o_ek (fr':=[(1,.box 0 0),(5,aI),(35,aB)]) r r<|w_ch hs19 r (fun hb20 h20=>?_) (fun hb20 h20=>?_)
   ·
    refine w_skip<|e_kw<|w_seqw<|w_block<|w_sr<|o_p r (p_fa tf43x9 r)<|o_p r (p_load (v:=aL) tv39 r r r)<|mI r ?_
    obtain ⟨x21,hx21,h22⟩:=bind_s h20
    refine o_p r (p_ia (cs:=[PV.str _]) ts39 (isl_c r) r hx21 r)<|o_p r (p_loade (p:=PV.str _) tv9 r r)<|o_p r (p_lens ti9 r)<|o_p r (p_gtr r r)<|o_ek (fr':=[(1,.box 0 0),(5,aI),(44,aB)]) r r<|w_ch h22 r (fun hb23 h23=>?_) (fun hb23 h23=>?_)
    ·
     refine w_sr<|sB r<|o_ek (fr':=[(2,aB)]) r r<|w_ret<|e_blk_r<|e_seq_r<|e_seq_r<|e_blk_r<|e_seq_r<|e_seq_r ?_
     have h24:=un_out h23 ho19
     have h25:=un_done h24 h17
     obtain rfl:=sy h25
     exact e_ret (rs':=[.tmp 2]) r<|r_tmp (v:=aB) r<|r_nil<|fin_gen [] r r r lr st_nil
    ·
     exact w_skip<|e_blk_n<|e_kw<|w_region<|mI r<|o_p r (p_add r r)<|sI r<|o_end (fr':=[(1,.box 0 0),(5,aI),(44,aB)]) r<|e_l _ (sy h23) (w_weak [] 1 r r r r ⟨lr,lr,trivial⟩ (st_r r st_nil))
   ·
    refine w_exit<|e_seq_x<|e_seq_x<|e_blk_h ?_
    have h27:=un_out h20 ho19
    exact e_j _ (sy h27) (w_weak [] 1 r r r r ⟨lr,trivial⟩ (st_r r st_nil))
  ·
   intro j18 hj28
   have h28:=un_go hj28 h17
   refine e_kw<|w_sr<|o_p r (p_fa tf43x0 r)<|o_p r (p_load (v:=aS) tv9 r r r)<|o_p r (p_seql r r)<|mB r<|og r r r (fun hc=>(p_fa tf43x0 r))<|og r r r (fun hc=>(p_load (v:=aS) tv9 (gx r hc) r r)) ?_
   obtain ⟨x29,hx29,h30⟩:=bind_s h28
   refine o_g r r (fun hc=>ov_call (v:=aB) r (w_ref06xRight (gd_some hx29 hc)) ⟨(le_gv (gx r hc) lr),trivial⟩ (ok_eq (by repeat (first | exact ok_nil | refine ok_cons r ?_ | refine ok_cons (dgv r) ?_ | refine ok_cons dar ?_))) r r) ?_
   refine o_p r (p_pickz r r r (fun e=>keq e))<|mB r<|og r r r (fun hc=>(p_fa tf43x6 r))<|og r r r (fun hc=>(p_load (v:=aI) tv3 (gx r hc) r r)) ?_
   obtain ⟨x31,hx31,h32⟩:=bind_s h30
   refine o_g r r (fun hc=>ov_call (v:=aB) r (w_ref20xin (gd_some hx31 hc)) ⟨(le_gv (gx r hc) lr),lr,lr,trivial⟩ (ok_eq (by repeat (first | exact ok_nil | refine ok_cons r ?_ | refine ok_cons (dgv r) ?_ | refine ok_cons dar ?_))) r r) ?_
   refine o_p r (p_picky r r r (fun e=>keq e))<|mB r<|og r r r (fun hc=>(p_fa tf43x8 r))<|og r r r (fun hc=>(p_load (v:=aI) tv3 (gx r hc) r r)) ?_
   obtain ⟨x33,hx33,h34⟩:=bind_s h32
   refine o_g r r (fun hc=>ov_call (v:=aB) r (w_ref20xin (gd_some hx33 hc)) ⟨(le_gv (gx r hc) lr),lr,lr,trivial⟩ (ok_eq (by repeat (first | exact ok_nil | refine ok_cons r ?_ | refine ok_cons (dgv r) ?_ | refine ok_cons dar ?_))) r r) ?_
   refine o_p r (p_picky r r r (fun e=>keq e))<|mB r<|og r r r (fun hc=>(p_fa tf43x9 r))<|og r r r (fun hc=>(p_load (v:=aL) tv39 (gx r hc) r r))<|og r r r (fun hc=>(p_len ti39 (isl_c (gx r hc))))<|og r r r (fun hc=>(p_leq (gx r hc) r))<|o_p r (p_picky r r r (fun e=>keq e))<|sB r<|o_ek (fr':=[(2,aB)]) r r<|w_ret ?_
   obtain rfl:=sy h34
   exact e_ret (rs':=[.tmp 2]) r<|r_tmp (v:=aB) r<|r_nil<|fin_gen [] r r r lr st_nil
noncomputable def ref20xInput_l1 (p0v:ApiValue) (s8:Int):Option (Step Int (Fl Bool Unit)) :=
 (idx p0v.Items (1:Int)).bind fun x9=>cond (decide (s8<((x9.Items).length:Int))) ((idx p0v.Items (1:Int)).bind fun x12=>(idx x12.Items s8).bind fun x14=>(gd ((cond (!decide (x14.Kind=(4:Int))) true (!decide (((x14.Items).length:Int)=(2:Int))))==false) (idx x14.Items (0:Int))).bind fun x16=>(gd ((cond (cond (!decide (x14.Kind=(4:Int))) true (!decide (((x14.Items).length:Int)=(2:Int)))) true (!decide (x16.Kind=(3:Int))))==false) (idx x14.Items (0:Int))).bind fun x18=>(gd ((cond (cond (!decide (x14.Kind=(4:Int))) true (!decide (((x14.Items).length:Int)=(2:Int)))) true (!decide (x16.Kind=(3:Int))))==false) (ref06xRight x18.Text)).bind fun x20=>cond (cond (cond (cond (!decide (x14.Kind=(4:Int))) true (!decide (((x14.Items).length:Int)=(2:Int)))) true (!decide (x16.Kind=(3:Int)))) true (!x20)) (some (Step.out (Fl.done false))) (some (Step.next (IntKind.wrap .i64 (s8+(1:Int)))))) (some (Step.out (Fl.go ())))
noncomputable def ref20xInput (p0v:ApiValue):Option Bool :=
 (gd ((cond (!decide (p0v.Kind=(4:Int))) true (!decide (((p0v.Items).length:Int)=(2:Int))))==false) (idx p0v.Items (1:Int))).bind fun x1=>cond (cond (cond (!decide (p0v.Kind=(4:Int))) true (!decide (((p0v.Items).length:Int)=(2:Int)))) true (!decide (x1.Kind=(4:Int)))) (some false) (((loopO (ref20xInput_l1 p0v) ((0:Int))):Option (Fl Bool Unit)).bind fun x5=>Fl.next x5 (fun j7=>(some true)))
theorem w_ref20xInput {p0v:ApiValue}{res:Bool} (h:ref20xInput p0v=some res):ACalls Tryz.prog 67 [.agg (AV.cs (exApiValue p0v))] [] (.c (.bool res)) []:=by
 unfold ref20xInput at h
 refine acalls (fn:=Tryz.f67) [0,1,2,3,4,21,29,65] (by kernel_rfl) Tryz.func67 r (by kernel_rfl) (by kernel_rfl)<|w_sr<|o_box (v:=.agg aIISLL) (n:=0) (cs:=aIISLL) (σ':=[aIISLL]) r r r r r<|sB r<|o_ek (fr':=[(1,.box 0 0)]) r r<|w_seqw<|w_sr<|o_p r (p_fa tf41x0 r)<|o_p r (p_load (v:=aI) tv3 r r r)<|o_p r (p_neq r r)<|mB r ?_
 refine og r r r (fun hc=>(p_fa tf41x3 r))<|og r r r (fun hc=>(p_load (v:=aL) tv38 (gx r hc) r r))<|og r r r (fun hc=>(p_len ti38 (isl_c (gx r hc))))<|og r r r (fun hc=>(p_neq (gx r hc) r))<|o_p r (p_pickz r r r (fun e=>keq e))<|mB r<|og r r r (fun hc=>(p_fa tf41x3 r))<|og r r r (fun hc=>(p_load (v:=aL) tv38 (gx r hc) r r)) ?_
 obtain ⟨x1,hx1,h2⟩:=bind_s h
 refine og r r r (fun hc=>(p_ia (cs:=[PV.int _ _,PV.int _ _,PV.str _,PV.ls _ _ _,PV.ls _ _ _]) ts38 (isl_c (gx r hc)) r (gd_some hx1 hc) (rowApiValue_eq _)))<|og r r r (fun hc=>(p_fae tf41x0 (gx r hc)))<|og r r r (fun hc=>(p_loade (p:=PV.int _ _) tv3 (gx r hc) r))<|og r r r (fun hc=>(p_neq (gx r hc) r))<|o_p r (p_pickz r r r (fun e=>keq e))<|o_ek (fr':=[(1,.box 0 0),(21,aB)]) r r<|w_ch h2 r (fun hb3 h3=>?_) (fun hb3 h3=>?_)
 ·
  refine w_sr<|sB r<|o_ek (fr':=[(2,aB)]) r r<|w_ret<|e_seq_r ?_
  obtain rfl:=sy h3
  exact e_ret (rs':=[.tmp 2]) r<|r_tmp (v:=aB) r<|r_nil<|fin_gen [] r r r lr st_nil
 ·
  refine w_skip<|e_kw<|w_seqw<|w_sr<|sI r<|o_ek (fr':=[(1,.box 0 0),(3,aI)]) r r ?_
  obtain ⟨x5,hx5,h6⟩:=bind_s h3
  refine w_jtail cl_kw (fun j7=>x5=Fl.go j7) (fun (j7:Unit)=>([]:Fr)) (fun (j7:Unit)=>([[.c (.int .i64 p0v.Kind),.c (.int .i64 p0v.Int),.c (.str p0v.Text),.c (PV.ls 5 rowApiValue p0v.Items),.c (PV.ls 1 rowS p0v.Keys)]]:St)) ?_ ?_
  ·
   refine w_block<|w_loopo _ (fun (s8:Int)=>([(1,.box 0 0),(3,.c (.int .i64 s8))]:Fr)) (fun (s8:Int)=>([[.c (.int .i64 p0v.Kind),.c (.int .i64 p0v.Int),.c (.str p0v.Text),.c (PV.ls 5 rowApiValue p0v.Items),.c (PV.ls 1 rowS p0v.Keys)]]:St)) hx5 (w_weak [] 1 r r r r ⟨lr,lr,trivial⟩ (st_r r st_nil)) ?_
   intro s8 st8 hs8 ho8
   unfold ref20xInput_l1 at hs8
   refine w_seqw<|w_sr<|mI r<|o_p r (p_fa tf41x3 r)<|o_p r (p_load (v:=aL) tv38 r r r) ?_
   obtain ⟨x9,hx9,h10⟩:=bind_s hs8
   refine o_p r (p_ia (cs:=[PV.int _ _,PV.int _ _,PV.str _,PV.ls _ _ _,PV.ls _ _ _]) ts38 (isl_c r) r hx9 (rowApiValue_eq _))<|o_p r (p_fae tf41x3 r)<|o_p r (p_loade (p:=PV.ls _ _ _) tv38 r r)<|o_p r (p_len ti38 (isl_c r))<|o_p r (p_lss r r)<|o_ek (fr':=[(1,.box 0 0),(3,aI),(29,aB)]) r r<|w_ch h10 r (fun hb11 h11=>?_) (fun hb11 h11=>?_)
   ·
    refine w_skip<|e_kw<|w_seqw<|w_block<|w_sr<|o_p r (p_fa tf41x3 r)<|o_p r (p_load (v:=aL) tv38 r r r) ?_
    obtain ⟨x12,hx12,h13⟩:=bind_s h11
    refine o_p r (p_ia (cs:=[PV.int _ _,PV.int _ _,PV.str _,PV.ls _ _ _,PV.ls _ _ _]) ts38 (isl_c r) r hx12 (rowApiValue_eq _))<|o_p r (p_fae tf41x3 r)<|o_p r (p_loade (p:=PV.ls _ _ _) tv38 r r)<|mI r ?_
    obtain ⟨x14,hx14,h15⟩:=bind_s h13
    refine o_p r (p_ia (cs:=[PV.int _ _,PV.int _ _,PV.str _,PV.ls _ _ _,PV.ls _ _ _]) ts38 (isl_c r) r hx14 (rowApiValue_eq _))<|o_p r (p_loades (us:=[PV.int _ _,PV.int _ _,PV.str _,PV.ls _ _ _,PV.ls _ _ _]) tv41 r r r)<|o_alloc (n:=1) (cs:=[aI,aI,aS,AV.nil,AV.nil]) (σ':=[aIISLL,[aI,aI,aS,AV.nil,AV.nil]]) tz41 r r r<|o_store (v:=.agg aIISLL) (us:=aIISLL) (cs:=[aI,aI,aS,AV.nil,AV.nil]) (σ':=[aIISLL,aIISLL]) r tv41 r r r r r r r r<|o_ek (fr':=[(1,.box 0 0),(3,aI),(4,.box 1 0)]) r r<|w_sr<|o_p r (p_fa tf41x0 r)<|o_p r (p_load (v:=aI) tv3 r r r)<|o_p r (p_neq r r)<|mB r<|og r r r (fun hc=>(p_fa tf41x3 r))<|og r r r (fun hc=>(p_load (v:=aL) tv38 (gx r hc) r r)) ?_
    refine og r r r (fun hc=>(p_len ti38 (isl_c (gx r hc))))<|og r r r (fun hc=>(p_neq (gx r hc) r))<|o_p r (p_pickz r r r (fun e=>keq e))<|mB r<|og r r r (fun hc=>(p_fa tf41x3 r))<|og r r r (fun hc=>(p_load (v:=aL) tv38 (gx r hc) r r)) ?_
    obtain ⟨x16,hx16,h17⟩:=bind_s h15
    refine og r r r (fun hc=>(p_ia (cs:=[PV.int _ _,PV.int _ _,PV.str _,PV.ls _ _ _,PV.ls _ _ _]) ts38 (isl_c (gx r hc)) r (gd_some hx16 hc) (rowApiValue_eq _)))<|og r r r (fun hc=>(p_fae tf41x0 (gx r hc)))<|og r r r (fun hc=>(p_loade (p:=PV.int _ _) tv3 (gx r hc) r))<|og r r r (fun hc=>(p_neq (gx r hc) r))<|o_p r (p_pickz r r r (fun e=>keq e))<|mB r<|og r r r (fun hc=>(p_fa tf41x3 r))<|og r r r (fun hc=>(p_load (v:=aL) tv38 (gx r hc) r r)) ?_
    obtain ⟨x18,hx18,h19⟩:=bind_s h17
    refine og r r r (fun hc=>(p_ia (cs:=[PV.int _ _,PV.int _ _,PV.str _,PV.ls _ _ _,PV.ls _ _ _]) ts38 (isl_c (gx r hc)) r (gd_some hx18 hc) (rowApiValue_eq _)))<|og r r r (fun hc=>(p_fae tf41x2 (gx r hc)))<|og r r r (fun hc=>(p_loade (p:=PV.str _) tv9 (gx r hc) r)) ?_
    obtain ⟨x20,hx20,h21⟩:=bind_s h19
    refine o_g r r (fun hc=>ov_call (v:=aB) r (w_ref06xRight (gd_some hx20 hc)) ⟨(le_gv (gx r hc) lr),trivial⟩ (ok_eq (by repeat (first | exact ok_nil | refine ok_cons r ?_ | refine ok_cons (dgv r) ?_ | refine ok_cons dar ?_))) r r) ?_
    refine og r r r (fun hc=>(p_not (gx r hc)))<|o_p r (p_pickz r r r (fun e=>keq e))<|o_ek (fr':=[(1,.box 0 0),(3,aI),(65,aB)]) r r<|w_ch h21 r (fun hb22 h22=>?_) (fun hb22 h22=>?_)
    ·
     refine w_sr<|sB r<|o_ek (fr':=[(2,aB)]) r r<|w_ret<|e_blk_r<|e_seq_r<|e_seq_r<|e_blk_r<|e_seq_r<|e_seq_r ?_
     have h23:=un_out h22 ho8
     have h24:=un_done h23 h6
     obtain rfl:=sy h24
     exact e_ret (rs':=[.tmp 2]) r<|r_tmp (v:=aB) r<|r_nil<|fin_gen [] r r r lr st_nil
    ·
     exact w_skip<|e_blk_n<|e_kw<|w_region<|mI r<|o_p r (p_add r r)<|sI r<|o_end (fr':=[(1,.box 0 0),(3,aI),(65,aB)]) r<|e_l _ (sy h22) (w_weak [] 1 r r r r ⟨lr,lr,trivial⟩ (st_r r st_nil))
   ·
    refine w_exit<|e_seq_x<|e_seq_x<|e_blk_h ?_
    have h26:=un_out h11 ho8
    exact e_j _ (sy h26) (w_weak [] 1 r r r r trivial (st_r r st_nil))
  ·
   intro j7 hj27
   have h27:=un_go hj27 h6
   refine e_kw<|w_sr<|sB r<|o_ek (fr':=[(2,aB)]) r r<|w_ret ?_
   obtain rfl:=sy h27
   exact e_ret (rs':=[.tmp 2]) r<|r_tmp (v:=aB) r<|r_nil<|fin_gen [] r r r lr st_nil
noncomputable def ref20xRight (p0C:ApiCommand):Option Bool :=
 (ref20xin p0C.Kind (1:Int) (14:Int)).bind fun x1=>(gd ((!x1)==false) (ref20xbare p0C)).bind fun x3=>(gd ((!x1)==false) (ref20xSame x3 (ApiCommand.mk p0C.Kind (0:Int) ([]:List UInt8) ([]:List UInt8) (0:Int) (ApiValue.mk (0:Int) (0:Int) ([]:List UInt8) ([]:(List ApiValue)) ([]:(List (List UInt8)))) (ApiPolicy.mk ([]:List UInt8) (0:Int) (0:Int) (0:Int) (0:Int) (0:Int) (0:Int) (0:Int) (0:Int) ([]:(List (List UInt8))))))).bind fun x5=>(gd ((cond (!x1) true (!x5))==false) (ref02xRight p0C.Data)).bind fun x7=>cond (cond (cond (!x1) true (!x5)) true (!x7)) (some false) ((ref20xin p0C.Seq (1:Int) (2000:Int)).bind fun x11=>(ref06xRight p0C.Name).bind fun x13=>(ref20xIdent p0C.Key).bind fun x15=>cond (decide (p0C.Kind=(1:Int))) ((gd ((cond x11 x13 false)==true) (ref20xRightPolicy p0C.Opts)).bind fun x18=>some (cond (cond x11 x13 false) x18 false)) (((cond (decide (p0C.Kind=(2:Int))) (some (decide (p0C.Kind=(2:Int)))) (some (decide (p0C.Kind=(4:Int))))):Option Bool).bind fun x21=>(cond x21 (some x11) (cond (decide (p0C.Kind=(3:Int))) ((gd (x11==true) (ref20xin p0C.N (1:Int) (1099511627776:Int))).bind fun x29=>some (cond x11 x29 false)) (cond (decide (p0C.Kind=(5:Int))) ((gd ((cond (cond x11 x13 false) x15 false)==true) (ref20xin p0C.N (0:Int) (2:Int))).bind fun x33=>some (cond (cond (cond x11 x13 false) x15 false) x33 false)) (cond (decide (p0C.Kind=(6:Int))) (some (cond (cond x11 x13 false) x15 false)) (cond (decide (p0C.Kind=(7:Int))) ((gd ((x13==true)&&((decide (p0C.N=(-1:Int)))==false)) (ref20xin p0C.N (0:Int) (2147483647:Int))).bind fun x39=>some (cond x13 (cond (decide (p0C.N=(-1:Int))) true (cond x39 (decide (p0C.Data.Kind=(0:Int))) false)) false)) (cond (decide (p0C.Kind=(8:Int))) (some (cond x15 x13 false)) (cond (decide (p0C.Kind=(9:Int))) ((gd (x15==true) (ref20xin p0C.N (0:Int) (1:Int))).bind fun x45=>some (cond x15 x45 false)) (cond (decide (p0C.Kind=(10:Int))) (some (decide (p0C.Data.Kind=(5:Int)))) (cond (decide (p0C.Kind=(12:Int))) (some (decide (((p0C.Name).length:Int)≤(4096:Int)))) (cond (decide (p0C.Kind=(14:Int))) ((ref20xInput p0C.Data).bind fun x53=>some x53) (some true)))))))))))))
theorem w_ref20xRight {p0C:ApiCommand}{res:Bool} (h:ref20xRight p0C=some res):ACalls Tryz.prog 40 [.agg (AV.cs (rowApiCommand p0C))] [] (.c (.bool res)) []:=by
 unfold ref20xRight at h
 refine acalls (fn:=Tryz.f40) [0,1,2,3,4,5,24,35,36,47,51,59,73,82,101,107,115,121,127] (by kernel_rfl) Tryz.func40 r (by kernel_rfl) (by kernel_rfl)<|w_sr<|o_box (v:=.agg aIISSIIISLLSIIIIIIIIL) (n:=0) (cs:=aIISSIIISLLSIIIIIIIIL) (σ':=[aIISSIIISLLSIIIIIIIIL]) r r r r r<|sB r<|o_ek (fr':=[(1,.box 0 0)]) r r<|w_seqw<|w_seqw<|w_planT [.q 0,.q 1,.q 2,.q 3,.q 4,.q 5,.q 6,.q 7,.q 8,.q 9,.q 10,.q 11,.q 12,.q 13,.q 14,.q 15,.q 16,.q 17,.q 18] [(some 6,[1]),(some 7,[6]),(some 8,[7]),(some 9,[8]),(some 10,[9]),(some 11,[1,10]),(some 12,[11,10]),(some 13,[1,10]),(some 14,[13,10]),(some 15,[14,10]),(some 16,[12,15,10]),(some 17,[16,10]),(some 18,[10,17]),(some 19,[18]),(some 20,[1,19]),(some 21,[20,19]),(some 22,[21,19]),(some 23,[22,19]),(some 24,[19,23])] [0,1,3,7,15,31,63,31,159,415,1023,2047,4095,8191,16383,32767,65535,131071,262143] (by kernel_rfl)<|dq r r (p_fa tf70x0 r)<|dq r r (p_load (v:=aI) tv3 r r r) ?_
 obtain ⟨x1,hx1,h2⟩:=bind_s h
 refine d_q r (qv_call (v:=aB) r (w_ref20xin hx1) ⟨lr,lr,lr,trivial⟩ r)<|dq r r (p_not r)<|dq r r (p_move (v:=aB) r)<|d_g r r r (fun hc=>qv_p r (p_loads (us:=aIISSIIISLLSIIIIIIIIL) tv70 r r r r)) ?_
 obtain ⟨x3,hx3,h4⟩:=bind_s h2
 refine d_g r r r (fun hc=>qv_call (v:=.agg aIISSIIISLLSIIIIIIIIL) r (w_ref20xbare (gd_some hx3 hc)) ⟨(le_gv (gx r hc) (le_aggc r ⟨r,r,r,r,r,r,r,r,r,r,r,r,r,r,r,r,r,r,r,r,trivial⟩)),trivial⟩ r)<|d_g r r r (fun hc=>qv_p r (p_fa tf70x0 r))<|d_g r r r (fun hc=>qv_p r (p_load (v:=aI) tv3 (gx r hc) r r))<|d_g r r r (fun hc=>qv_p r (p_buildc (c0:=[aI,aI,aS,aS,aI,aI,aI,aS,AV.nil,AV.nil,aS,aI,aI,aI,aI,aI,aI,aI,aI,AV.nil]) (cs:=[aI,aI,aS,aS,aI,aI,aI,aS,AV.nil,AV.nil,aS,aI,aI,aI,aI,aI,aI,aI,aI,AV.nil]) tb70 r (fill_cons (v:=aI) (us:=[_]) (cs':=u20) r (gx r hc) r r r r fill_nil))) ?_
 obtain ⟨x5,hx5,h6⟩:=bind_s h4
 refine d_g r r r (fun hc=>qv_call (v:=aB) r (w_ref20xSame (gd_some hx5 hc)) ⟨(le_gv (gx r hc) (le_aggc r ⟨r,r,r,r,r,r,r,r,r,r,r,r,r,r,r,r,r,r,r,r,trivial⟩)),(le_gv (gx r hc) (le_aggc r ⟨r,r,r,r,r,r,r,r,⟨_,r⟩,⟨_,r⟩,r,r,r,r,r,r,r,r,r,⟨_,r⟩,trivial⟩)),trivial⟩ r)<|d_g r r r (fun hc=>qv_p r (p_not (gx r hc)))<|dq r r (p_pickz r r r (fun e=>keq e))<|dq r r (p_move (v:=aB) r)<|d_g r r r (fun hc=>qv_p r (p_fa tf70x5 r))<|d_g r r r (fun hc=>qv_p r (p_loads (us:=aIISLL) tv41 (gx r hc) r r r)) ?_
 obtain ⟨x7,hx7,h8⟩:=bind_s h6
 refine d_g r r r (fun hc=>qv_call (v:=aB) r (w_ref02xRight (gd_some hx7 hc)) ⟨(le_gv (gx r hc) (le_aggc r ⟨r,r,r,r,r,trivial⟩)),trivial⟩ r)<|d_g r r r (fun hc=>qv_p r (p_not (gx r hc)))<|dq r r (p_pickz r r r (fun e=>keq e))<|d_ek (fr':=[(1,.box 0 0),(24,aB)]) r r<|w_ch h8 r (fun hb9 h9=>?_) (fun hb9 h9=>?_)
 ·
  refine w_sr<|sB r<|o_ek (fr':=[(2,aB)]) r r<|w_ret<|e_seq_r ?_
  obtain rfl:=sy h9
  exact e_ret (rs':=[.tmp 2]) r<|r_tmp (v:=aB) r<|r_nil<|fin_gen [] r r r lr st_nil
 ·
  refine w_skip<|e_kw<|w_sr<|o_p r (p_fa tf70x1 r)<|o_p r (p_load (v:=aI) tv3 r r r) ?_
  obtain ⟨x11,hx11,h12⟩:=bind_s h9
  refine o_v (ov_call (v:=aB) r (w_ref20xin hx11) ⟨lr,lr,lr,trivial⟩ r r r)<|sB r<|o_ek (fr':=[(1,.box 0 0),(3,aB)]) r r<|w_sr<|o_p r (p_fa tf70x2 r)<|o_p r (p_load (v:=aS) tv9 r r r) ?_
  obtain ⟨x13,hx13,h14⟩:=bind_s h12
  refine o_v (ov_call (v:=aB) r (w_ref06xRight hx13) ⟨lr,trivial⟩ r r r)<|sB r<|o_ek (fr':=[(1,.box 0 0),(3,aB),(4,aB)]) r r<|w_sr<|o_p r (p_fa tf70x3 r)<|o_p r (p_load (v:=aS) tv9 r r r) ?_
  obtain ⟨x15,hx15,h16⟩:=bind_s h14
  refine o_v (ov_call (v:=aB) r (w_ref20xIdent hx15) ⟨lr,trivial⟩ r r r)<|sB r<|o_ek (fr':=[(1,.box 0 0),(3,aB),(4,aB),(5,aB)]) r r<|w_seqw<|w_sr<|o_p r (p_fa tf70x0 r)<|o_p r (p_load (v:=aI) tv3 r r r)<|o_ek (fr':=[(1,.box 0 0),(3,aB),(4,aB),(5,aB),(35,aI)]) r r<|w_block<|w_sr<|o_p r (p_eql r r) ?_
  refine sB r<|o_ek (fr':=[(1,.box 0 0),(3,aB),(4,aB),(5,aB),(35,aI),(36,aB)]) r r<|w_ch h16 r (fun hb17 h17=>?_) (fun hb17 h17=>?_)
  ·
   refine w_sr<|mB r<|mB r<|og r r r (fun hc=>(p_move (v:=aB) r))<|o_p r (p_picky r r r (fun e=>keq e))<|mB r<|og r r r (fun hc=>(p_fa tf70x6 r))<|og r r r (fun hc=>(p_loads (us:=aSIIIIIIIIL) tv43 (gx r hc) r r r)) ?_
   obtain ⟨x18,hx18,h19⟩:=bind_s h17
   refine o_g r r (fun hc=>ov_call (v:=aB) r (w_ref20xRightPolicy (gd_some hx18 hc)) ⟨(le_gv (gx r hc) (le_aggc r ⟨r,r,r,r,r,r,r,r,r,r,trivial⟩)),trivial⟩ (ok_eq (by repeat (first | exact ok_nil | refine ok_cons r ?_ | refine ok_cons (dgv r) ?_ | refine ok_cons dar ?_))) r r) ?_
   refine o_p r (p_picky r r r (fun e=>keq e))<|sB r<|o_ek (fr':=[(2,aB)]) r r<|w_ret<|e_blk_r<|e_seq_r ?_
   obtain rfl:=sy h19
   exact e_ret (rs':=[.tmp 2]) r<|r_tmp (v:=aB) r<|r_nil<|fin_gen [] r r r lr st_nil
  ·
   obtain ⟨x21,hx21,h22⟩:=bind_s h17
   refine w_join (fun j23=>x21=j23) (fun (j23:Bool)=>([(1,.box 0 0),(3,.c (.bool x11)),(4,.c (.bool x13)),(5,.c (.bool x15)),(35,.c (.int .i64 p0C.Kind)),(47,.c (.bool j23))]:Fr)) (fun (j23:Bool)=>([[.c (.int .i64 p0C.Kind),.c (.int .i64 p0C.Seq),.c (.str p0C.Name),.c (.str p0C.Key),.c (.int .i64 p0C.N),.c (.int .i64 p0C.Data.Kind),.c (.int .i64 p0C.Data.Int),.c (.str p0C.Data.Text),.c (PV.ls 5 rowApiValue p0C.Data.Items),.c (PV.ls 1 rowS p0C.Data.Keys),.c (.str p0C.Opts.Queue),.c (.int .i64 p0C.Opts.ToStart),.c (.int .i64 p0C.Opts.ToClose),.c (.int .i64 p0C.Opts.Total),.c (.int .i64 p0C.Opts.Beat),.c (.int .i64 p0C.Opts.First),.c (.int .i64 p0C.Opts.Coef),.c (.int .i64 p0C.Opts.Most),.c (.int .i64 p0C.Opts.Attempts),.c (PV.ls 1 rowS p0C.Opts.Fatal)]]:St)) ?_ ?_
   ·
    refine w_sr<|o_p r (p_eql r r)<|sB r<|o_ek (fr':=[(1,.box 0 0),(3,aB),(4,aB),(5,aB),(35,aI),(47,aB)]) r r<|w_ch hx21 r (fun hb24 h24=>?_) (fun hb24 h24=>?_)
    ·
     exact w_skip<|e_j _ (sy h24) (w_weak [] 1 r r r r ⟨lr,lr,lr,lr,lr,lr,trivial⟩ (st_r r st_nil))
    ·
     exact w_region<|o_p r (p_eql r r)<|sB r<|o_end (fr':=[(1,.box 0 0),(3,aB),(4,aB),(5,aB),(35,aI),(47,aB)]) r<|e_j _ (sy h24) (w_weak [] 1 r r r r ⟨lr,lr,lr,lr,lr,lr,trivial⟩ (st_r r st_nil))
   ·
    intro j23 hj25
    subst hj25
    refine w_ch h22 r (fun hb26 h26=>?_) (fun hb26 h26=>?_)
    ·
     refine w_sr<|mB r<|sB r<|o_ek (fr':=[(2,aB)]) r r<|w_ret<|e_blk_r<|e_seq_r ?_
     obtain rfl:=sy h26
     exact e_ret (rs':=[.tmp 2]) r<|r_tmp (v:=aB) r<|r_nil<|fin_gen [] r r r lr st_nil
    ·
     refine w_sr<|o_p r (p_eql r r)<|sB r<|o_ek (fr':=[(1,.box 0 0),(3,aB),(4,aB),(5,aB),(35,aI),(51,aB)]) r r<|w_ch h26 r (fun hb28 h28=>?_) (fun hb28 h28=>?_)
     ·
      refine w_sr<|mB r<|mB r<|og r r r (fun hc=>(p_fa tf70x4 r))<|og r r r (fun hc=>(p_load (v:=aI) tv3 (gx r hc) r r)) ?_
      obtain ⟨x29,hx29,h30⟩:=bind_s h28
      refine o_g r r (fun hc=>ov_call (v:=aB) r (w_ref20xin (gd_some hx29 hc)) ⟨(le_gv (gx r hc) lr),lr,lr,trivial⟩ (ok_eq (by repeat (first | exact ok_nil | refine ok_cons r ?_ | refine ok_cons (dgv r) ?_ | refine ok_cons dar ?_))) r r) ?_
      refine o_p r (p_picky r r r (fun e=>keq e))<|sB r<|o_ek (fr':=[(2,aB)]) r r<|w_ret<|e_blk_r<|e_seq_r ?_
      obtain rfl:=sy h30
      exact e_ret (rs':=[.tmp 2]) r<|r_tmp (v:=aB) r<|r_nil<|fin_gen [] r r r lr st_nil
     ·
      refine w_sr<|o_p r (p_eql r r)<|sB r<|o_ek (fr':=[(1,.box 0 0),(3,aB),(4,aB),(5,aB),(35,aI),(59,aB)]) r r<|w_ch h28 r (fun hb32 h32=>?_) (fun hb32 h32=>?_)
      ·
       refine w_sr<|mB r<|mB r<|og r r r (fun hc=>(p_move (v:=aB) r))<|o_p r (p_picky r r r (fun e=>keq e))<|mB r<|og r r r (fun hc=>(p_move (v:=aB) r))<|o_p r (p_picky r r r (fun e=>keq e))<|mB r<|og r r r (fun hc=>(p_fa tf70x4 r))<|og r r r (fun hc=>(p_load (v:=aI) tv3 (gx r hc) r r)) ?_
       obtain ⟨x33,hx33,h34⟩:=bind_s h32
       refine o_g r r (fun hc=>ov_call (v:=aB) r (w_ref20xin (gd_some hx33 hc)) ⟨(le_gv (gx r hc) lr),lr,lr,trivial⟩ (ok_eq (by repeat (first | exact ok_nil | refine ok_cons r ?_ | refine ok_cons (dgv r) ?_ | refine ok_cons dar ?_))) r r) ?_
       refine o_p r (p_picky r r r (fun e=>keq e))<|sB r<|o_ek (fr':=[(2,aB)]) r r<|w_ret<|e_blk_r<|e_seq_r ?_
       obtain rfl:=sy h34
       exact e_ret (rs':=[.tmp 2]) r<|r_tmp (v:=aB) r<|r_nil<|fin_gen [] r r r lr st_nil
      ·
       refine w_sr<|o_p r (p_eql r r)<|sB r<|o_ek (fr':=[(1,.box 0 0),(3,aB),(4,aB),(5,aB),(35,aI),(73,aB)]) r r<|w_ch h32 r (fun hb36 h36=>?_) (fun hb36 h36=>?_)
       ·
        refine w_sr<|mB r<|mB r<|og r r r (fun hc=>(p_move (v:=aB) r))<|o_p r (p_picky r r r (fun e=>keq e))<|mB r<|og r r r (fun hc=>(p_move (v:=aB) r))<|o_p r (p_picky r r r (fun e=>keq e))<|sB r<|o_ek (fr':=[(2,aB)]) r r<|w_ret<|e_blk_r ?_
        refine e_seq_r ?_
        obtain rfl:=sy h36
        exact e_ret (rs':=[.tmp 2]) r<|r_tmp (v:=aB) r<|r_nil<|fin_gen [] r r r lr st_nil
       ·
        refine w_sr<|o_p r (p_eql r r)<|sB r<|o_ek (fr':=[(1,.box 0 0),(4,aB),(5,aB),(35,aI),(82,aB)]) r r<|w_ch h36 r (fun hb38 h38=>?_) (fun hb38 h38=>?_)
        ·
         refine w_sr<|mB r<|mB r<|og r r r (fun hc=>(p_fa tf70x4 r))<|og r r r (fun hc=>(p_load (v:=aI) tv3 (gx r hc) r r))<|og r r r (fun hc=>(p_eql (gx r hc) r))<|og r r r (fun hc=>(p_move (v:=aB) (gx r hc)))<|o_gg r r (fun hc=>ov_p r (p_fa tf70x4 r))<|o_gg r r (fun hc=>ov_p r (p_load (v:=aI) tv3 (gx r hc) r r)) ?_
         obtain ⟨x39,hx39,h40⟩:=bind_s h38
         refine o_gg r r (fun hc=>ov_call (v:=aB) r (w_ref20xin (gd_some hx39 hc)) ⟨(le_gv (gx r hc) lr),lr,lr,trivial⟩ (ok_eq (by repeat (first | exact ok_nil | refine ok_cons r ?_ | refine ok_cons (dgv r) ?_ | refine ok_cons dar ?_))) r r) ?_
         refine o_gg r r (fun hc=>ov_p r (p_move (v:=aB) (gx r hc)))<|o_gg r r (fun hc=>ov_p r (p_fa tf70x5 r))<|o_gg r r (fun hc=>ov_p r (p_fa tf41x0 (gx r hc)))<|o_gg r r (fun hc=>ov_p r (p_load (v:=aI) tv3 (gx r hc) r r))<|o_gg r r (fun hc=>ov_p r (p_eql (gx r hc) r))<|o_gg r r (fun hc=>ov_p r (p_picky (gx r hc) r r (fun e=>band hc (keq e))))<|og r r r (fun hc=>(p_pickz (gx r hc) r r (fun e=>band hc (keq e))))<|o_p r (p_picky r r r (fun e=>keq e))<|sB r<|o_ek (fr':=[(2,aB)]) r r<|w_ret<|e_blk_r<|e_seq_r ?_
         obtain rfl:=sy h40
         exact e_ret (rs':=[.tmp 2]) r<|r_tmp (v:=aB) r<|r_nil<|fin_gen [] r r r lr st_nil
        ·
         refine w_sr<|o_p r (p_eql r r)<|sB r<|o_ek (fr':=[(1,.box 0 0),(4,aB),(5,aB),(35,aI),(101,aB)]) r r<|w_ch h38 r (fun hb42 h42=>?_) (fun hb42 h42=>?_)
         ·
          refine w_sr<|mB r<|mB r<|og r r r (fun hc=>(p_move (v:=aB) r))<|o_p r (p_picky r r r (fun e=>keq e))<|sB r<|o_ek (fr':=[(2,aB)]) r r<|w_ret<|e_blk_r<|e_seq_r ?_
          obtain rfl:=sy h42
          exact e_ret (rs':=[.tmp 2]) r<|r_tmp (v:=aB) r<|r_nil<|fin_gen [] r r r lr st_nil
         ·
          refine w_sr<|o_p r (p_eql r r)<|sB r<|o_ek (fr':=[(1,.box 0 0),(5,aB),(35,aI),(107,aB)]) r r<|w_ch h42 r (fun hb44 h44=>?_) (fun hb44 h44=>?_)
          ·
           refine w_sr<|mB r<|mB r<|og r r r (fun hc=>(p_fa tf70x4 r))<|og r r r (fun hc=>(p_load (v:=aI) tv3 (gx r hc) r r)) ?_
           obtain ⟨x45,hx45,h46⟩:=bind_s h44
           refine o_g r r (fun hc=>ov_call (v:=aB) r (w_ref20xin (gd_some hx45 hc)) ⟨(le_gv (gx r hc) lr),lr,lr,trivial⟩ (ok_eq (by repeat (first | exact ok_nil | refine ok_cons r ?_ | refine ok_cons (dgv r) ?_ | refine ok_cons dar ?_))) r r) ?_
           refine o_p r (p_picky r r r (fun e=>keq e))<|sB r<|o_ek (fr':=[(2,aB)]) r r<|w_ret<|e_blk_r<|e_seq_r ?_
           obtain rfl:=sy h46
           exact e_ret (rs':=[.tmp 2]) r<|r_tmp (v:=aB) r<|r_nil<|fin_gen [] r r r lr st_nil
          ·
           refine w_sr<|o_p r (p_eql r r)<|sB r<|o_ek (fr':=[(1,.box 0 0),(35,aI),(115,aB)]) r r<|w_ch h44 r (fun hb48 h48=>?_) (fun hb48 h48=>?_)
           ·
            refine w_sr<|o_p r (p_fa tf70x5 r)<|o_p r (p_fa tf41x0 r)<|o_p r (p_load (v:=aI) tv3 r r r)<|o_p r (p_eql r r)<|sB r<|o_ek (fr':=[(2,aB)]) r r<|w_ret<|e_blk_r<|e_seq_r ?_
            obtain rfl:=sy h48
            exact e_ret (rs':=[.tmp 2]) r<|r_tmp (v:=aB) r<|r_nil<|fin_gen [] r r r lr st_nil
           ·
            refine w_sr<|o_p r (p_eql r r)<|sB r<|o_ek (fr':=[(1,.box 0 0),(35,aI),(121,aB)]) r r<|w_ch h48 r (fun hb50 h50=>?_) (fun hb50 h50=>?_)
            ·
             refine w_sr<|o_p r (p_fa tf70x2 r)<|o_p r (p_load (v:=aS) tv9 r r r)<|o_p r (p_lens ti9 r)<|o_p r (p_leq r r)<|sB r<|o_ek (fr':=[(2,aB)]) r r<|w_ret<|e_blk_r<|e_seq_r ?_
             obtain rfl:=sy h50
             exact e_ret (rs':=[.tmp 2]) r<|r_tmp (v:=aB) r<|r_nil<|fin_gen [] r r r lr st_nil
            ·
             refine w_sr<|o_p r (p_eql r r)<|sB r<|o_ek (fr':=[(1,.box 0 0),(127,aB)]) r r<|w_ch h50 r (fun hb52 h52=>?_) (fun hb52 h52=>?_)
             ·
              refine w_sr<|o_p r (p_fa tf70x5 r)<|o_p r (p_loads (us:=aIISLL) tv41 r r r r) ?_
              obtain ⟨x53,hx53,h54⟩:=bind_s h52
              refine o_v (ov_call (v:=aB) r (w_ref20xInput hx53) ⟨(le_aggc r ⟨r,r,r,r,r,trivial⟩),trivial⟩ r r r)<|sB r<|o_ek (fr':=[(2,aB)]) r r<|w_ret<|e_blk_r<|e_seq_r ?_
              obtain rfl:=sy h54
              exact e_ret (rs':=[.tmp 2]) r<|r_tmp (v:=aB) r<|r_nil<|fin_gen [] r r r lr st_nil
             ·
              refine w_skip<|e_blk_n<|e_kw<|w_sr<|sB r<|o_ek (fr':=[(2,aB)]) r r<|w_ret ?_
              obtain rfl:=sy h52
              exact e_ret (rs':=[.tmp 2]) r<|r_tmp (v:=aB) r<|r_nil<|fin_gen [] r r r lr st_nil
noncomputable def ref22xasCommand (p0e:ApiEvent):Option ApiCommand :=
 (ref22xcommand p0e.Kind).bind fun x1=>some (ApiCommand.mk x1 p0e.Seq p0e.Name p0e.Key p0e.N p0e.Data p0e.Opts)
theorem w_ref22xasCommand {p0e:ApiEvent}{res:ApiCommand} (h:ref22xasCommand p0e=some res):ACalls Tryz.prog 41 [.agg (AV.cs (rowApiEvent p0e))] [] (.agg (AV.cs (rowApiCommand res))) []:=by
 unfold ref22xasCommand at h
 refine acalls (fn:=Tryz.f41) [0,1,2] (by kernel_rfl) Tryz.func41 r (by kernel_rfl) (by kernel_rfl)<|w_sr<|o_box (v:=.agg aIIIIIIISSIISLLSIIIIIIIIL) (n:=0) (cs:=aIIIIIIISSIISLLSIIIIIIIIL) (σ':=[aIIIIIIISSIISLLSIIIIIIIIL]) r r r r r<|o_alloc (n:=1) (cs:=[aI,aI,aS,aS,aI,aI,aI,aS,AV.nil,AV.nil,aS,aI,aI,aI,aI,aI,aI,aI,aI,AV.nil]) (σ':=[aIIIIIIISSIISLLSIIIIIIIIL,[aI,aI,aS,aS,aI,aI,aI,aS,AV.nil,AV.nil,aS,aI,aI,aI,aI,aI,aI,aI,aI,AV.nil]]) tz70 r r r<|o_ek (fr':=[(1,.box 0 0),(2,.box 1 0)]) r r<|w_seqw<|w_planT [.q 0,.q 1,.q 2,.q 3,.q 4,.q 5,.q 6,.q 7,.q 8,.q 9,.q 10,.q 11,.q 12,.q 13,.q 14,.q 15,.n 16 []] [(some 3,[1]),(some 4,[3]),(some 5,[4]),(some 6,[1]),(some 7,[6]),(some 8,[1]),(some 9,[8]),(some 10,[1]),(some 11,[10]),(some 12,[1]),(some 13,[12]),(some 14,[1]),(some 15,[14]),(some 16,[1]),(some 17,[16]),(some 18,[5,7,9,11,13,15,17]),(none,[2,18])] [0,1,3,0,8,0,32,0,128,0,512,0,2048,0,8192,32767,65535] (by kernel_rfl)<|dq r r (p_fa tf45x1 r)<|dq r r (p_load (v:=aI) tv3 r r r) ?_
 obtain ⟨x1,hx1,h2⟩:=bind_s h
 refine d_q r (qv_call (v:=aI) r (w_ref22xcommand hx1) ⟨lr,trivial⟩ r)<|dq r r (p_fa tf45x3 r)<|dq r r (p_load (v:=aI) tv3 r r r)<|dq r r (p_fa tf45x7 r)<|dq r r (p_load (v:=aS) tv9 r r r)<|dq r r (p_fa tf45x8 r)<|dq r r (p_load (v:=aS) tv9 r r r)<|dq r r (p_fa tf45x5 r)<|dq r r (p_load (v:=aI) tv3 r r r)<|dq r r (p_fa tf45x9 r)<|dq r r (p_loads (us:=aIISLL) tv41 r r r r)<|dq r r (p_fa tf45x10 r)<|dq r r (p_loads (us:=aSIIIIIIIIL) tv43 r r r r) ?_
 refine dq r r (p_buildc (c0:=[aI,aI,aS,aS,aI,aI,aI,aS,AV.nil,AV.nil,aS,aI,aI,aI,aI,aI,aI,aI,aI,AV.nil]) (cs:=aIISSIIISLLSIIIIIIIIL) tb70 r (fill_cons (v:=aI) (us:=[_]) (cs':=u20) r r r r r r (fill_cons (v:=aI) (us:=[_]) (cs':=u20) r r r r r r (fill_cons (v:=aS) (us:=[_]) (cs':=u20) r r r r r r (fill_cons (v:=aS) (us:=[_]) (cs':=u20) r r r r r r (fill_cons (v:=aI) (us:=[_]) (cs':=u20) r r r r r r (fill_cons (v:=.agg aIISLL) (us:=u5) (cs':=u20) r r r r r r (fill_cons (v:=.agg aSIIIIIIIIL) (us:=u10) (cs':=u20) r r r r r r fill_nil))))))))<|d_n r ?_ r
 refine o_store (v:=.agg aIISSIIISLLSIIIIIIIIL) (us:=aIISSIIISLLSIIIIIIIIL) (cs:=[aI,aI,aS,aS,aI,aI,aI,aS,AV.nil,AV.nil,aS,aI,aI,aI,aI,aI,aI,aI,aI,AV.nil]) (σ':=[aIIIIIIISSIISLLSIIIIIIIIL,aIISSIIISLLSIIIIIIIIL]) r tv70 r r r r r r r r<|o_rc<|⟨rc_nil,?_⟩
 refine d_ek (fr':=[(2,.box 1 0)]) r r<|w_ret ?_
 obtain rfl:=sy h2
 exact e_ret (rs':=[.cell 2 70]) r<|r_cells (us:=aIISSIIISLLSIIIIIIIIL) (cs:=aIISSIIISLLSIIIIIIIIL) tv70 r r r r<|r_nil<|fin_gen [] r r r (le_aggc r ⟨r,r,r,r,r,r,r,r,r,r,r,r,r,r,r,r,r,r,r,r,trivial⟩) st_nil
end Go.Proofs.YtmbdbdhdcbdcpaaGreatDoor

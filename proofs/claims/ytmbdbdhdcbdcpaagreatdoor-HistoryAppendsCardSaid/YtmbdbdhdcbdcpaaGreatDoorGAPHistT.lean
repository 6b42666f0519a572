/- history.Turns plainly; the first example. -/
import Derived.Test.YtmbdbdhdcbdcpaaGreatDoorGAPHist2
import Derived.Test.YtmbdbdhdcbdcpaaGreatDoorGAF4
namespace Go.Proofs.YtmbdbdhdcbdcpaaGreatDoor
open Go Abs
set_option linter.unusedSimpArgs false
set_option linter.unusedVariables false
def nx (l:List ApiEvent) (s:Nat):Nat:=s+((l.drop s).takeWhile fun e=>isCmd e.Kind).length
theorem nx_out {l:List ApiEvent}{s:Nat} (h:l.length≤s):nx l s=s:=by unfold nx;rw [List.drop_eq_nil_of_le h];rfl
theorem nx_in {l:List ApiEvent}{s:Nat} (h:s<l.length):nx l s=if isCmd l[s].Kind then nx l (s+1) else s:=by
 unfold nx
 rw [List.drop_eq_getElem_cons h,List.takeWhile_cons]
 cases isCmd l[s].Kind
 ·
  rfl
 ·
  simp only [if_true,List.length_cons];omega
theorem nx_loop {l:List ApiEvent} (hn:l.length≤9223372036854775806) {body:Int→Option (Step Int Int)} (h:∀ s:Nat,s<l.length→body (s:Int)=some (if isCmd l[s]!.Kind then .next ((s+1:Nat):Int) else .out (s:Int)))
  (hout:body (l.length:Int)=some (.out (l.length:Int))):∀ s:Nat,s≤l.length→loopO body (s:Int)=some (nx l s:Int):=by
 intro s
 induction hk:l.length - s generalizing s with
 | zero =>
  intro hs
  obtain rfl:s=l.length:=by omega
  rw [loopO_eq,hout,nx_out (Nat.le_refl _)];rfl
 | succ k ih =>
  intro hs
  have hs':s<l.length:=by omega
  rw [loopO_eq,h s hs',nx_in hs',getElem!_pos l s hs']
  cases isCmd l[s].Kind
  ·
   rfl
  ·
   exact ih (s+1) (by omega) (by omega)
def turnP (l:List ApiEvent) (i:Nat):Option (Int × Int × Int × Bool) :=
 if (l[i]?.map (·.Kind))=some 3 then some (match l[i+1]? with
  | none=>((i:Int),(-1:Int),(l.length:Int),false)
  | some f=>((i:Int),(i:Int)+1,if f.Kind=4 then (nx l (i+2):Int) else (i:Int)+2,decide (f.Kind=4))) else none
def mkH (t:Int × Int × Int × Bool):HistoryTurn:=⟨t.1,t.2.1,t.2.2.1,t.2.2.2⟩
def turnsP (l:List ApiEvent):List (Int × Int × Int × Bool):=(List.range l.length).filterMap (turnP l)
theorem Turns_l2 {l:List ApiEvent} (hn:l.length≤9223372036854775806) {f:ApiEvent} (hf:f.Kind=4) {s:Nat} (hs:s≤l.length):loopO (history_Turns_l2 l f) (s:Int)=some (nx l s:Int):=by
 refine nx_loop hn (fun s hs=>?_) ?_ s hs
 ·
  unfold history_Turns_l2
  have:decide ((s:Int)<(l.length:Int))=true:=decide_eq_true (by omega)
  rw [hf,this,getElem!_pos l s hs]
  simp only [decide_true,cond_true,beq_self_eq_true,gd,if_true]
  rw [idx_ok hs,Option.bind_some,IsCommand_eq,Option.bind_some,w64s hs (by omega)]
  unfold isCmd
  cases (!decide (cmdOf l[s].Kind=0)) <;> rfl
 ·
  unfold history_Turns_l2
  have:decide ((l.length:Int)<(l.length:Int))=false:=decide_eq_false (by omega)
  rw [hf,this]
  simp only [decide_true,cond_true]
  rfl
theorem Turns_l2n {l:List ApiEvent}{f:ApiEvent} (hf:¬f.Kind=4) (s:Int):loopO (history_Turns_l2 l f) s=some s:=by
 have:history_Turns_l2 l f s=some (.out s):=by
  unfold history_Turns_l2
  rw [decide_eq_false hf,cond_false]
  rfl
 rw [loopO_eq,this];rfl
theorem Turns_eq {l:List ApiEvent} (hl:okLs 272 okApiEvent l) (hn:l.length≤2000):history_Turns l=some (if chk 0 l zeroK=0 then (turnsP l).map mkH else []):=by
 unfold history_Turns
 rw [Check_eq hl,if_neg (by omega),Option.bind_some,Bool.cond_not,cond_d]
 by_cases h0:chk 0 l zeroK=0
 ·
  rw [if_pos h0,if_pos h0]
  have hfm:(turnsP l).map mkH=(List.range l.length).filterMap fun i=>(turnP l i).map mkH:=by unfold turnsP;rw [List.map_filterMap]
  rw [hfm,loop_fm (fun i=>(turnP l i).map mkH) (List.range l.length) (fun acc i hi ha=>?_) (fun acc=>?_)]
  ·
   rfl
  ·
   rw [List.length_range] at hi
   rw [List.getElem_range]
   unfold history_Turns_l1 turnP
   have e1:IntKind.i64.wrap ((i:Int)+1)=((i+1:Nat):Int):=w64s hi (by omega)
   have e2:IntKind.i64.wrap ((i:Int)+2)=((i+2:Nat):Int):=by rw [w64 (by omega) (by omega)];omega
   have e3:IntKind.i64.wrap ((l.length:Int) - 1)=(l.length:Int) - 1:=w64 (by omega) (by omega)
   simp only
   rw [cond_d,if_pos (by omega),idx_ok hi,Option.bind_some,List.getElem?_eq_getElem hi,Option.map_some,e1,e2,e3]
   by_cases h3:l[i].Kind=3
   ·
    rw [decide_eq_true h3,if_pos (by rw [h3]),Bool.not_true,cond_false,cond_d]
    by_cases hlast:i+1=l.length
    ·
     rw [if_pos (by omega),app_ok (by simp only [List.length_singleton];omega),List.getElem?_eq_none (by omega)]
     rfl
    ·
     have hi1:i+1<l.length:=by omega
     rw [if_neg (by omega),idx_ok hi1,Option.bind_some,List.getElem?_eq_getElem hi1]
     by_cases h4:l[i+1].Kind=4
     ·
      rw [Turns_l2 (by omega) h4 (by omega),Option.bind_some,app_ok (by simp only [List.length_singleton];omega)]
      dsimp only [Option.map,mkH]
      rw [if_pos h4];rfl
     ·
      rw [Turns_l2n h4,Option.bind_some,app_ok (by simp only [List.length_singleton];omega)]
      dsimp only [Option.map,mkH]
      rw [if_neg h4];rfl
   ·
    rw [decide_eq_false h3,if_neg (fun hx=>h3 (Option.some.inj hx)),Bool.not_false,cond_true]
    simp
  ·
   rw [List.length_range]
   unfold history_Turns_l1
   simp only
   rw [cond_d,if_neg (by omega)]
 ·
  rw [if_neg h0,if_neg h0]
noncomputable def ex24:List ApiEvent:=law24xexample.getD []
theorem ex24_eq:law24xexample=some ex24:=rfl
theorem okV4:okApiValue ⟨4,0,[],[],[]⟩:=(okApiValue_iff _).2 (by simp [okI,okS,okLs])
theorem okV0':okApiValue ⟨0,0,[],[],[]⟩:=(okApiValue_iff _).2 (by simp [okI,okS,okLs])
theorem okV44:okApiValue ⟨4,0,[],[⟨0,0,[],[],[]⟩,⟨4,0,[],[],[]⟩],[]⟩:=(okApiValue_iff _).2 ⟨by simp [okI],by simp [okI],by simp [okS],⟨by simp,by simp,fun x hx=>by
 simp only [List.mem_cons,List.not_mem_nil,or_false] at hx
 rcases hx with rfl | rfl
 ·
  exact okV0'
 ·
  exact okV4⟩,by simp [okLs]⟩
theorem ex24_ok:okLs 272 okApiEvent ex24:=by
 unfold ex24 law24xexample
 simp only [Option.getD_some]
 refine ⟨by simp,by simp,fun x hx=>?_⟩
 simp only [List.mem_cons,List.not_mem_nil,or_false] at hx
 rcases hx with rfl | rfl | rfl | rfl | rfl
 all_goals
  refine ⟨?_,?_,?_,?_,?_,?_,?_,?_,?_,?_,?_⟩
  all_goals first | (simp [okI];done) | (simp [okS];done) | exact okV0' | exact okV44 | (simp [okApiPolicy,okI,okS,okLs];done)
theorem works24:law24xworks=some true:=by
 unfold law24xworks
 rw [ex24_eq]
 simp only [Option.bind_some]
 rw [Turns_eq ex24_ok (by decide),Check_eq ex24_ok,history_Status_eq (by decide)]
 rw [show chk 0 ex24 zeroK=0 by decide +kernel,show turnsP ex24=[(2,3,5,true)] by decide +kernel,show statusS ex24=(0,-1) by decide +kernel]
 rfl
end Go.Proofs.YtmbdbdhdcbdcpaaGreatDoor

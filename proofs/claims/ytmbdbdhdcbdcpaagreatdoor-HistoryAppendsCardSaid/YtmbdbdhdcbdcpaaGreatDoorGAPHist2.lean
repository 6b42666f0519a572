/- history.Check as a recursion; HistoryPrefixes. -/
import Derived.Test.YtmbdbdhdcbdcpaaGreatDoorGAPHist1
import Derived.Test.YtmbdbdhdcbdcpaaGreatDoorGAF4
namespace Go.Proofs.YtmbdbdhdcbdcpaaGreatDoor
open Go Abs
set_option linter.unusedSimpArgs false
set_option linter.unusedVariables false
def outB (i:Nat) (e:ApiEvent) (k:HistoryChecker):Bool:=!decide (e.ID=(i:Int)+1)||(decide (0<i)&&decide (e.Time<k.before_.Time))
noncomputable def errE (i:Nat) (e:ApiEvent) (k:HistoryChecker):Int :=
 if eright e=false then 11 else if outB i e k then 30 else if (allowsP i e k).1=false then 16 else 0
def nextK (i:Nat) (e:ApiEvent) (k:HistoryChecker):HistoryChecker:=⟨(allowsP i e k).2.task_,(allowsP i e k).2.ref_,e,(stK e.Kind).2⟩
noncomputable def chk:Nat→List ApiEvent→HistoryChecker→Int
 | _,[],_=>0
 | i,e :: l,k=>if errE i e k=0 then chk (i+1) l (nextK i e k) else errE i e k
def zeroK:HistoryChecker:=⟨0,0,⟨0,0,0,0,0,0,0,[],[],⟨0,0,[],[],[]⟩,⟨[],0,0,0,0,0,0,0,0,[]⟩⟩,false⟩
theorem Closes_eq (k:Int):event_Closes k=some (stK k).2:=by unfold event_Closes;rw [event_Status_eq,Option.bind_some]
theorem Check_l1 {l:List ApiEvent} (hl:okLs 272 okApiEvent l) (i:Nat) (hi:i<l.length) (k:HistoryChecker):history_Check_l1 l ((i:Int),k) =
  some (if errE i l[i] k=0 then .next (((i+1:Nat):Int),nextK i l[i] k) else .out (.done (errE i l[i] k))):=by
 have hn:l.length≤9223372036854775807:=hl.1
 have he:okApiEvent l[i]:=hl.2.2 _ (List.getElem_mem hi)
 unfold history_Check_l1
 simp only
 rw [cond_d,if_pos (by omega),idx_ok hi,Option.bind_some,event_Right_eq he,Option.bind_some,w64s hi hn,allows_eq,Option.bind_some,Closes_eq,Option.bind_some]
 have hb:(cond (!decide (l[i].ID=((i+1:Nat):Int))) true (cond (decide ((0:Int)<(i:Int))) (decide (l[i].Time<k.before_.Time)) false))=outB i l[i] k:=by
  unfold outB
  rw [Bool.cond_true_left,Bool.cond_false_right]
  congr 2
  rw [decide_eq_decide];omega
 rw [hb]
 unfold errE nextK
 cases eright l[i]
 ·
  rfl
 ·
  cases outB i l[i] k
  ·
   cases (allowsP i l[i] k).1 <;> rfl
  ·
   rfl
theorem Check_loop {l:List ApiEvent} (hl:okLs 272 okApiEvent l):∀ (suf pre:List ApiEvent) (k:HistoryChecker),l=pre++suf→∃ k',loopO (history_Check_l1 l) ((pre.length:Int),k)=some (if chk pre.length suf k=0 then .go k' else .done (chk pre.length suf k)):=by
 intro suf
 induction suf with
 | nil =>
  intro pre k e
  rw [List.append_nil] at e
  refine ⟨k,?_⟩
  have h1:history_Check_l1 l ((pre.length:Int),k)=some (.out (.go k)):=by
   unfold history_Check_l1
   simp only
   rw [cond_d,if_neg (by rw [← e];omega)]
  rw [loopO_eq,h1,Option.bind_some]
  unfold chk
  rfl
 | cons x suf ih =>
  intro pre k e
  have hi:pre.length<l.length:=by rw [e];simp
  have hx:l[pre.length]=x:=by simp [e]
  rw [loopO_eq,Check_l1 hl _ hi,hx]
  unfold chk
  by_cases h0:errE pre.length x k=0
  ·
   obtain ⟨k',hk⟩:=ih (pre++[x]) (nextK pre.length x k) (by simp [e])
   rw [List.length_append,List.length_singleton] at hk
   refine ⟨k',?_⟩
   simp only [h0,if_true,Option.bind_some]
   exact hk
  ·
   refine ⟨k,?_⟩
   simp only [h0,if_false,Option.bind_some]
theorem Check_eq {l:List ApiEvent} (hl:okLs 272 okApiEvent l):history_Check l=some (if 2000<l.length then 6 else chk 0 l zeroK):=by
 unfold history_Check
 rw [cond_d]
 by_cases h:2000<l.length
 ·
  rw [if_pos (by omega),if_pos h]
 ·
  rw [if_neg (by omega),if_neg h]
  obtain ⟨k',hk⟩:=Check_loop hl l [] zeroK rfl
  have hk:loopO (history_Check_l1 l) ((0:Int),zeroK)=_:=hk
  unfold zeroK at hk
  rw [hk,Option.bind_some]
  split
  ·
   rename_i h0
   rw [Fl.next]
   exact congrArg some h0.symm
  ·
   rfl
end Go.Proofs.YtmbdbdhdcbdcpaaGreatDoor

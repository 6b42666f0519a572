/- The status of a history, plainly. -/
import Derived.Test.YtmbdbdhdcbdcpaaGreatDoorGAPFirst
import Derived.Test.YtmbdbdhdcbdcpaaGreatDoorGAF0
namespace Go.Proofs.YtmbdbdhdcbdcpaaGreatDoor
open Go Abs
set_option linter.unusedSimpArgs false
set_option linter.unusedVariables false
def stK (k:Int):Int × Bool:=if k=30 then (1,true) else if k=31 then (2,true) else if k=32 then (3,true) else if k=33 then (4,true) else if k=34 then (5,true) else if k=35 then (6,true) else (0,false)
theorem event_Status_eq (k:Int):event_Status k=some (stK k):=by
 unfold event_Status stK
 repeat rw [cond_d]
 repeat' split
 all_goals rfl
def statusS (l:List ApiEvent):Int × Int:=match firstF (fun e:ApiEvent=>(stK e.Kind).2) l 0 with | some (i,e)=>((stK e.Kind).1,(i:Int)) | none=>(0,-1)
theorem history_Status_eq {l:List ApiEvent} (h:l.length≤9223372036854775807):history_Status l=some (statusS l):=by
 unfold history_Status statusS
 rw [loop_first (l:=l) (fun e:ApiEvent=>(stK e.Kind).2) (fun i e=>((stK e.Kind).1,(i:Int))) (fun i hi=>?_) ?_,Option.bind_some]
 ·
  cases firstF (fun e:ApiEvent=>(stK e.Kind).2) l 0 with
  | none=>rfl
  | some x=>rfl
 ·
  unfold history_Status_l1
  rw [cond_d,if_neg (by omega)]
 ·
  unfold history_Status_l1
  rw [cond_d,if_pos (by omega),idx_ok hi,Option.bind_some,event_Status_eq,Option.bind_some,w64s hi h]
  cases (stK l[i].Kind).2 <;> rfl
end Go.Proofs.YtmbdbdhdcbdcpaaGreatDoor

/- The first element with a property. -/
import Derived.Test.YtmbdbdhdcbdcpaaGreatDoorGAPLoop
namespace Go.Proofs.YtmbdbdhdcbdcpaaGreatDoor
open Go Abs
set_option linter.unusedSimpArgs false
set_option linter.unusedVariables false
def firstF {α:Type} (p:α→Bool):List α→Nat→Option (Nat × α)
 | [],_=>none
 | x :: l,k=>if p x then some (k,x) else firstF p l (k+1)
def firstR {α τ:Type} (d:Nat→α→τ):Option (Nat × α)→Fl τ Unit
 | some (i,x)=>.done (d i x)
 | none=>.go ()
theorem loop_first_aux {α τ:Type}{l:List α}{p:α→Bool}{d:Nat→α→τ}{body:Int→Option (Step Int (Fl τ Unit))} (h:∀ (i:Nat) (hi:i<l.length),body (i:Int)=some (if p l[i] then .out (.done (d i l[i])) else .next ((i+1:Nat):Int)))
  (hout:body (l.length:Int)=some (.out (.go ()))):∀ (suf pre:List α),l=pre++suf→loopO body (pre.length:Int)=some (firstR d (firstF p suf pre.length)):=by
 intro suf
 induction suf with
 | nil =>
  intro pre e
  rw [List.append_nil] at e
  rw [loopO_eq,← e,hout];rfl
 | cons x suf ih =>
  intro pre e
  have hi:pre.length<l.length:=by rw [e];simp
  have hx:l[pre.length]=x:=by simp [e]
  rw [loopO_eq,h _ hi,hx]
  cases hp:p x
  ·
   have:=ih (pre++[x]) (by simp [e])
   rw [List.length_append,List.length_singleton] at this
   simp only [firstF,hp,Bool.false_eq_true,if_false,Option.bind_some]
   exact this
  ·
   simp only [firstF,hp,if_true,Option.bind_some,firstR]
theorem loop_first {α τ:Type}{l:List α} (p:α→Bool) (d:Nat→α→τ) {body:Int→Option (Step Int (Fl τ Unit))} (h:∀ (i:Nat) (hi:i<l.length),body (i:Int)=some (if p l[i] then .out (.done (d i l[i])) else .next ((i+1:Nat):Int)))
 (hout:body (l.length:Int)=some (.out (.go ()))):loopO body (0:Int)=some (firstR d (firstF p l 0)):=loop_first_aux h hout l [] rfl
end Go.Proofs.YtmbdbdhdcbdcpaaGreatDoor

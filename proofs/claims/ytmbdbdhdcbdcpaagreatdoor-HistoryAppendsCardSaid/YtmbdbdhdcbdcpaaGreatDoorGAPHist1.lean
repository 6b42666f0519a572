/- history.Check plainly. -/
import Derived.Test.YtmbdbdhdcbdcpaaGreatDoorGAPEv2
import Derived.Test.YtmbdbdhdcbdcpaaGreatDoorGAF4
namespace Go.Proofs.YtmbdbdhdcbdcpaaGreatDoor
open Go Abs
set_option linter.unusedSimpArgs false
set_option linter.unusedVariables false
def stepP (e:ApiEvent) (k:HistoryChecker):Bool × Bool × HistoryChecker :=
 if e.Kind=2 then (decide (k.task_=0),true,⟨1,e.ID,k.before_,k.closed_⟩)
 else if e.Kind=3 then (decide (k.task_=1)&&decide (e.Ref=k.ref_),true,⟨2,e.ID,k.before_,k.closed_⟩)
 else if e.Kind=4∨e.Kind=5∨e.Kind=6 then (decide (k.task_=2)&&decide (e.Ref=k.ref_),true,⟨0,k.ref_,k.before_,k.closed_⟩)
 else (false,false,k)
theorem step_eq (e:ApiEvent) (k:HistoryChecker):history_checker_step_v2 e k=some (stepP e k):=by
 unfold history_checker_step_v2 stepP
 by_cases h2:e.Kind=2
 ·
  simp [h2,Fl.next]
 ·
  by_cases h3:e.Kind=3
  ·
   simp [h3,Fl.next,Bool.cond_false_right]
  ·
   by_cases h4:e.Kind=4
   ·
    simp [h4,Fl.next,Bool.cond_false_right]
   ·
    by_cases h5:e.Kind=5
    ·
     simp [h5,Fl.next,Bool.cond_false_right]
    ·
     by_cases h6:e.Kind=6
     ·
      simp [h6,Fl.next,Bool.cond_false_right]
     ·
      simp [h2,h3,h4,h5,h6,Fl.next]
def actB (k:Int):Bool:=decide (k=9)||decide (k=10)||decide (k=11)||decide (k=13)
theorem act_eq (k:Int):history_closesActivity k=some (actB k):=by unfold history_closesActivity actB;simp only [Bool.cond_true_left]
def isCmd (k:Int):Bool:=!decide (cmdOf k=0)
def bar1 (i:Nat) (e:ApiEvent) (k:HistoryChecker):Bool:=k.closed_||(!(decide (i=0)==decide (e.Kind=1)))||(decide (i=1)&&!decide (e.Kind=2))
def bar2 (i:Nat) (e:ApiEvent) (k:HistoryChecker):Bool:=decide (0<i)&&decide (k.before_.Kind=8)&&(!actB e.Kind||!decide (e.Seq=k.before_.Seq))
def bar3 (e:ApiEvent) (k:HistoryChecker):Bool:=decide (k.task_=2)&&!decide (e.Kind=33)&&!decide (e.Kind=34)
def allowsP (i:Nat) (e:ApiEvent) (k:HistoryChecker):Bool × HistoryChecker :=
 if bar1 i e k then (false,k)
 else if bar2 i e k then (false,k)
 else if (stepP e k).2.1 then ((stepP e k).1,(stepP e k).2.2)
 else if bar3 e k then (false,(stepP e k).2.2)
 else if isCmd e.Kind then (decide (k.before_.Kind=4)||isCmd k.before_.Kind,(stepP e k).2.2)
 else (true,(stepP e k).2.2)
theorem gd2 {a b:Bool}{α:Type} (f:Bool→Bool) (x y:Option α):((gd (a==true) (some b)).bind fun (z:Bool)=>cond (cond a (f z) false) x y)=cond (cond a (f b) false) x y:=by cases a <;> rfl
theorem allows_eq (i:Nat) (e:ApiEvent) (k:HistoryChecker):history_checker_allows_v2 (i:Int) e k=some (allowsP i e k):=by
 unfold history_checker_allows_v2 allowsP
 have e0:decide ((i:Int)=0)=decide (i=0):=by rw [decide_eq_decide];omega
 have e1:decide ((i:Int)=1)=decide (i=1):=by rw [decide_eq_decide];omega
 have e2:decide ((0:Int)<(i:Int))=decide (0<i):=by rw [decide_eq_decide];omega
 rw [e0,e1,e2,or3,Option.bind_some]
 rw [show (k.closed_||(!(decide (i=0)==decide (e.Kind=1)))||cond (decide (i=1)) (!decide (e.Kind=2)) false)=bar1 i e k by unfold bar1;rw [Bool.cond_false_right]]
 cases bar1 i e k
 ·
  rw [cond_false,act_eq,gd2 (fun z=>cond (!z) true (!decide (e.Seq=k.before_.Seq))),step_eq,Option.bind_some]
  rw [show (cond (cond (decide (0<i)) (decide (k.before_.Kind=8)) false) (cond (!actB e.Kind) true (!decide (e.Seq=k.before_.Seq))) false)=bar2 i e k by unfold bar2;simp only [Bool.cond_false_right,Bool.cond_true_left]]
  cases bar2 i e k
  ·
   simp only [cond_false,Bool.false_eq_true,if_false,IsCommand_eq,Option.bind_some]
   cases (stepP e k).2.1
   ·
    simp only [cond_false,Bool.false_eq_true,if_false]
    rw [show (cond (cond (decide (k.task_=2)) (!decide (e.Kind=33)) false) (!decide (e.Kind=34)) false)=bar3 e k by unfold bar3;simp only [Bool.cond_false_right]]
    cases bar3 e k
    ·
     simp only [cond_false,Bool.false_eq_true,if_false]
     rw [show (!decide (cmdOf e.Kind=0))=isCmd e.Kind from rfl,show (!decide (cmdOf k.before_.Kind=0))=isCmd k.before_.Kind from rfl]
     cases isCmd e.Kind
     ·
      rfl
     ·
      cases decide (k.before_.Kind=4) <;> rfl
    ·
     rfl
   ·
    rfl
  ·
   rfl
 ·
  rfl
end Go.Proofs.YtmbdbdhdcbdcpaaGreatDoor

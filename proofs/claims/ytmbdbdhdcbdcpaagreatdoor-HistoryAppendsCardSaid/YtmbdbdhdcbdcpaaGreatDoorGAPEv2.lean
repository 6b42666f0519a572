/- Events: kinds and names, plainly. -/
import Derived.Test.YtmbdbdhdcbdcpaaGreatDoorGAPStat
import Derived.Test.YtmbdbdhdcbdcpaaGreatDoorGAPEv1
import Derived.Test.YtmbdbdhdcbdcpaaGreatDoorGAPFew
import Derived.Test.YtmbdbdhdcbdcpaaGreatDoorGAF3
import Derived.Test.YtmbdbdhdcbdcpaaGreatDoorGAF6
import Derived.Test.YtmbdbdhdcbdcpaaGreatDoorGAF9
namespace Go.Proofs.YtmbdbdhdcbdcpaaGreatDoor
open Go Abs
set_option linter.unusedSimpArgs false
set_option linter.unusedVariables false
set_option maxRecDepth 20000
theorem cmdOf_range (k:Int):0≤cmdOf k∧cmdOf k≤14:=by
 unfold cmdOf
 repeat' split
 all_goals omega
theorem IsCommand_eq (k:Int):event_IsCommand k=some (!decide (cmdOf k=0)):=by unfold event_IsCommand;rw [commandOf_eq,Option.bind_some]
def cmds14:List Int:=[7,12,14,16,19,23,18,27,28,29,30,31,32,35]
theorem refcommand_eq (k:Int):ref22xcommand k=some (cmdOf k):=by
 unfold ref22xcommand
 rw [show ref22xcommands=some cmds14 from rfl,Option.bind_some]
 rw [loop_first (l:=cmds14) (fun x=>decide (x=k)) (fun i _=>(i:Int)+1) (fun i hi=>?_) ?_,Option.bind_some]
 ·
  unfold cmdOf
  by_cases h7:k=7
  ·
   subst h7;rfl
  by_cases h12:k=12
  ·
   subst h12;rfl
  by_cases h14:k=14
  ·
   subst h14;rfl
  by_cases h16:k=16
  ·
   subst h16;rfl
  by_cases h19:k=19
  ·
   subst h19;rfl
  by_cases h23:k=23
  ·
   subst h23;rfl
  by_cases h18:k=18
  ·
   subst h18;rfl
  by_cases h27:k=27
  ·
   subst h27;rfl
  by_cases h28:k=28
  ·
   subst h28;rfl
  by_cases h29:k=29
  ·
   subst h29;rfl
  by_cases h30:k=30
  ·
   subst h30;rfl
  by_cases h31:k=31
  ·
   subst h31;rfl
  by_cases h32:k=32
  ·
   subst h32;rfl
  by_cases h35:k=35
  ·
   subst h35;rfl
  simp [cmds14,firstF,firstR,Fl.next,h7,h12,h14,h16,h19,h23,h18,h27,h28,h29,h30,h31,h32,h35,Ne.symm h7,Ne.symm h12,Ne.symm h14,Ne.symm h16,Ne.symm h19,Ne.symm h23,Ne.symm h18,Ne.symm h27,Ne.symm h28,Ne.symm h29,Ne.symm h30,Ne.symm h31,Ne.symm h32,Ne.symm h35]
 ·
  unfold ref22xcommand_l1
  rw [cond_d,if_neg (by omega)]
 ·
  have h:i<14:=hi
  unfold ref22xcommand_l1
  rw [cond_d,if_pos (by omega),idx_ok hi,Option.bind_some,w64s hi (by show (14:Nat)≤_;omega)]
  simp only [decide_eq_true_eq,cond_d]
  split <;> rfl
theorem refIsCommand_eq (k:Int):ref22xIsCommand k=some (!decide (cmdOf k=0)):=by
 unfold ref22xIsCommand
 rw [refcommand_eq,Option.bind_some]
 have:=(cmdOf_range k).1
 by_cases h:cmdOf k=0
 ·
  rw [h];rfl
 ·
  have h2:0<cmdOf k:=by omega
  simp [h,h2]
def esame (a b:ApiEvent):Bool:=decide (a.ID=b.ID)&&decide (a.Kind=b.Kind)&&decide (a.Time=b.Time)&&decide (a.Seq=b.Seq)&&decide (a.Ref=b.Ref)&&decide (a.N=b.N)&&decide (a.Code=b.Code)&&decide (a.Name=b.Name)&&decide (a.Key=b.Key)&&vsame a.Data b.Data&&psame a.Opts b.Opts
theorem same_tail {a b c:Bool}:((gd (a==true) (some b)).bind fun (x1:Bool)=>(gd ((cond a x1 false)==true) (some c)).bind fun (x3:Bool)=>some (cond (cond a x1 false) x3 false))=some (a&&b&&c):=by cases a <;> cases b <;> rfl
theorem refSame22_eq {a b:ApiEvent} (h:okApiEvent a):ref22xSame a b=some (esame a b):=by
 have hd:okApiValue a.Data:=h.2.2.2.2.2.2.2.2.2.1
 have ho:okApiPolicy a.Opts:=h.2.2.2.2.2.2.2.2.2.2
 unfold ref22xSame esame
 rw [refSame_eq hd,refSamePolicy_eq ho,same_tail]
 simp only [Bool.cond_false_right]
theorem esame_refl (a:ApiEvent):esame a a=true:=by unfold esame;simp [vsame_refl,psame_refl]

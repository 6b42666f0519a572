/- Identifiers. -/
import Derived.Test.YtmbdbdhdcbdcpaaGreatDoorGAPLoop
import Derived.Test.YtmbdbdhdcbdcpaaGreatDoorGAF2
import Derived.Test.YtmbdbdhdcbdcpaaGreatDoorGAF7
namespace Go.Proofs.YtmbdbdhdcbdcpaaGreatDoor
open Go Abs
set_option linter.unusedSimpArgs false
set_option linter.unusedVariables false
def badC (c:UInt8):Bool:=decide (c.toNat<33)||decide (126<c.toNat)||decide (c.toNat=47)||decide (c.toNat=34)
def iright (s:List UInt8):Bool:=decide (1≤s.length)&&decide (s.length≤64)&&s.all fun c=>!badC c
theorem badC_eq (c:UInt8):(cond (cond (cond (decide ((c.toNat:Int)<33)) true (decide ((126:Int)<(c.toNat:Int)))) true (decide ((c.toNat:Int)=47))) true (decide ((c.toNat:Int)=34)))=badC c:=by
 unfold badC
 rw [Bool.eq_iff_iff]
 by_cases h1:c.toNat<33
 ·
  have:(c.toNat:Int)<33:=by omega
  simp [h1,this]
 ·
  have e1:¬(c.toNat:Int)<33:=by omega
  by_cases h2:126<c.toNat
  ·
   have:(126:Int)<(c.toNat:Int):=by omega
   simp [h1,e1,h2,this]
  ·
   have e2:¬(126:Int)<(c.toNat:Int):=by omega
   simp [h1,e1,h2,e2]
   by_cases h3:(c.toNat:Int)=47 <;> simp [h3] <;> omega
theorem bad_step {τ:Type}{s:List UInt8}{i:Nat} (hi:i<s.length) (a b:τ):(((idx s (i:Int)).bind fun (x6:UInt8)=>(gd ((decide (((x6).toNat:Int)<(33:Int)))==false) (idx s (i:Int))).bind fun (x8:UInt8)=>(gd ((cond (decide (((x6).toNat:Int)<(33:Int))) true (decide ((126:Int)<((x8).toNat:Int))))==false) (idx s (i:Int))).bind fun (x10:UInt8)=>(gd ((cond (cond (decide (((x6).toNat:Int)<(33:Int))) true (decide ((126:Int)<((x8).toNat:Int)))) true (decide (((x10).toNat:Int)=(47:Int))))==false) (idx s (i:Int))).bind fun (x12:UInt8)=>cond (cond (cond (cond (decide (((x6).toNat:Int)<(33:Int))) true (decide ((126:Int)<((x8).toNat:Int)))) true (decide (((x10).toNat:Int)=(47:Int)))) true (decide (((x12).toNat:Int)=(34:Int)))) (some a) (some b)):Option τ)=some (if !badC s[i] then b else a):=by
 rw [idx_ok hi,Option.bind_some]
 generalize s[i]=c
 rw [← badC_eq]
 by_cases h1:(c.toNat:Int)<33
 ·
  simp [h1,gd]
 ·
  by_cases h2:(126:Int)<(c.toNat:Int)
  ·
   have h2':¬(c.toNat:Int)≤126:=by omega
   simp [h1,h2,h2',gd]
  ·
   by_cases h3:(c.toNat:Int)=47
   ·
    simp [h1,h2,h3,gd]
   ·
    simp only [h1,h2,h3,decide_false,cond_false,beq_self_eq_true,gd,if_true,Option.bind_some]
    by_cases h4:(c.toNat:Int)=34 <;> simp [h4]
theorem ident_eq {s:List UInt8} (hs:s.length≤9223372036854775807):command_ident s=some (iright s):=by
 unfold command_ident iright
 rw [loop_all s.length (fun i=>!badC (s.getD i default)) false (fun i hi=>?_) ?_,Option.bind_some,all_range s fun c=>!badC c]
 ·
  cases s.all fun c=>!badC c
  ·
   simp [Fl.next]
  ·
   simp only [if_true,Fl.next,command_in,Option.bind_some,Bool.and_true]
   congr 1
   rw [Bool.eq_iff_iff]
   by_cases h:(1:Int)≤s.length <;> simp [h] <;> omega
 ·
  unfold command_ident_l1
  rw [cond_d,if_neg (by omega)]
 ·
  unfold command_ident_l1
  rw [cond_d,if_pos (by omega),bad_step hi,w64s hi hs]
  simp only [List.getD_eq_getElem?_getD,List.getElem?_eq_getElem hi,Option.getD_some]
theorem refIdent_eq {s:List UInt8}:ref20xIdent s=some (iright s):=by
 unfold ref20xIdent iright
 by_cases h0:s.length<1∨64<s.length
 ·
  have e:(cond (decide ((s.length:Int)<1)) true (decide ((64:Int)<(s.length:Int))))=true:=by simp;omega
  rw [e]
  have:(decide (1≤s.length)&&decide (s.length≤64))=false:=by simp;omega
  rw [this];rfl
 ·
  have e:(cond (decide ((s.length:Int)<1)) true (decide ((64:Int)<(s.length:Int))))=false:=by simp;omega
  have:(decide (1≤s.length)&&decide (s.length≤64))=true:=by simp;omega
  rw [e,this,cond_false]
  rw [loop_all s.length (fun i=>!badC (s.getD i default)) false (fun i hi=>?_) ?_,Option.bind_some,all_range s fun c=>!badC c]
  ·
   cases s.all fun c=>!badC c <;> rfl
  ·
   unfold ref20xIdent_l1
   rw [cond_d,if_neg (by omega)]
  ·
   unfold ref20xIdent_l1
   rw [cond_d,if_pos (by omega),bad_step hi,w64s hi (by omega)]
   simp only [List.getD_eq_getElem?_getD,List.getElem?_eq_getElem hi,Option.getD_some]
end Go.Proofs.YtmbdbdhdcbdcpaaGreatDoor

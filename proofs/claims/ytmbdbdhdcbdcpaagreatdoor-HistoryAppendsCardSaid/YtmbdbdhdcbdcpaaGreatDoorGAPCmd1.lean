/- Commands, plainly: command.Right is its reference. -/
import Derived.Test.YtmbdbdhdcbdcpaaGreatDoorGAPVal2
import Derived.Test.YtmbdbdhdcbdcpaaGreatDoorGAPName
import Derived.Test.YtmbdbdhdcbdcpaaGreatDoorGAPIdent
import Derived.Test.YtmbdbdhdcbdcpaaGreatDoorGAF1
import Derived.Test.YtmbdbdhdcbdcpaaGreatDoorGAF2
import Derived.Test.YtmbdbdhdcbdcpaaGreatDoorGAF5
import Derived.Test.YtmbdbdhdcbdcpaaGreatDoorGAF6
import Derived.Test.YtmbdbdhdcbdcpaaGreatDoorGAF7
namespace Go.Proofs.YtmbdbdhdcbdcpaaGreatDoor
open Go Abs
set_option linter.unusedSimpArgs false
set_option linter.unusedVariables false
def inB (n l h:Int):Bool:=decide (l≤n)&&decide (n≤h)
theorem command_in_eq {n l h:Int}:command_in n l h=some (inB n l h):=by unfold command_in inB;rw [Bool.cond_eq_ite];by_cases h1:l≤n <;> simp [h1]
theorem ref20in_eq {n l h:Int}:ref20xin n l h=some (inB n l h):=by unfold ref20xin inB;rw [Bool.cond_eq_ite];by_cases h1:l≤n <;> simp [h1]
def psame (a b:ApiPolicy):Bool:=decide (a.Queue=b.Queue)&&decide (a.ToStart=b.ToStart)&&decide (a.ToClose=b.ToClose)&&decide (a.Total=b.Total)&&decide (a.Beat=b.Beat)&&decide (a.First=b.First)&&decide (a.Coef=b.Coef)&&decide (a.Most=b.Most)&&decide (a.Attempts=b.Attempts)&&decide (a.Fatal=b.Fatal)
theorem SamePolicy_eq {a b:ApiPolicy} (h:okApiPolicy a):command_SamePolicy a b=some (psame a b):=by
 have hf:a.Fatal.length≤9223372036854775807:=h.2.2.2.2.2.2.2.2.2.1
 unfold command_SamePolicy psame
 rw [strings_eq hf]
 simp only [command_numbers,Option.bind_some,cond_nd]
 by_cases h1:a.ToStart=b.ToStart
 ·
  by_cases h2:a.ToClose=b.ToClose
  ·
   by_cases h3:a.Total=b.Total
   ·
    by_cases h4:a.Beat=b.Beat
    ·
     by_cases h5:a.First=b.First
     ·
      by_cases h6:a.Coef=b.Coef
      ·
       by_cases h7:a.Most=b.Most
       ·
        by_cases h8:a.Attempts=b.Attempts
        ·
         by_cases h9:a.Queue=b.Queue <;> simp [h1,h2,h3,h4,h5,h6,h7,h8,h9,gd]
        ·
         simp [h1,h2,h3,h4,h5,h6,h7,h8]
       ·
        simp [h1,h2,h3,h4,h5,h6,h7]
      ·
       simp [h1,h2,h3,h4,h5,h6]
     ·
      simp [h1,h2,h3,h4,h5]
    ·
     simp [h1,h2,h3,h4]
   ·
    simp [h1,h2,h3]
  ·
   simp [h1,h2]
 ·
  simp [h1]
theorem all_opt {a b:List (List UInt8)} (hlen:a.length=b.length):((List.range a.length).all fun i=>decide (a[i]?=b[i]?))=decide (a=b):=by
 rw [Bool.eq_iff_iff,List.all_eq_true]
 simp only [decide_eq_true_eq]
 constructor
 ·
  refine fun h6=>List.ext_getElem? fun i=>?_
  by_cases hi:i<a.length
  ·
   exact h6 i (List.mem_range.2 hi)
  ·
   rw [List.getElem?_eq_none (by omega),List.getElem?_eq_none (by omega)]
 ·
  intro e i _;rw [e]
theorem refSamePolicy_eq {a b:ApiPolicy} (h:okApiPolicy a):ref20xSamePolicy a b=some (psame a b):=by
 have hf:a.Fatal.length≤9223372036854775807:=h.2.2.2.2.2.2.2.2.2.1
 unfold ref20xSamePolicy psame
 have hl:(a.Fatal.length:Int)=b.Fatal.length→loopO (ref20xSamePolicy_l1 a b) (0:Int)=some (if decide (a.Fatal=b.Fatal) then .go () else .done false):=fun hlen=>by
  rw [loop_all a.Fatal.length (fun i=>decide (a.Fatal[i]?=b.Fatal[i]?)) false (fun i hi=>?_) ?_]
  ·
   rw [all_opt (by omega)]
  ·
   unfold ref20xSamePolicy_l1
   rw [cond_d,if_neg (by omega)]
  ·
   unfold ref20xSamePolicy_l1
   have hb:i<b.Fatal.length:=by omega
   rw [cond_d,if_pos (by omega),idx_ok hi,Option.bind_some,idx_ok hb,Option.bind_some,cond_nd,w64s hi hf,List.getElem?_eq_getElem hi,List.getElem?_eq_getElem hb]
   simp only [Option.some.injEq,decide_eq_true_eq]
   split <;> rfl
 by_cases h0:(a.Fatal.length:Int)=b.Fatal.length
 ·
  rw [hl h0]
  by_cases h9:a.Fatal=b.Fatal
  ·
   simp only [h9,decide_true,if_true,Option.bind_some,Fl.next,Bool.not_true]
   cases decide (a.Queue=b.Queue) <;> cases decide (a.ToStart=b.ToStart) <;> cases decide (a.ToClose=b.ToClose) <;> cases decide (a.Total=b.Total) <;> cases decide (a.Beat=b.Beat) <;> first | rfl | (cases decide (a.First=b.First) <;> cases decide (a.Coef=b.Coef) <;> cases decide (a.Most=b.Most) <;> cases decide (a.Attempts=b.Attempts) <;> rfl)
  ·
   simp only [h9,h0,decide_true,decide_false,Option.bind_some,Fl.next,Bool.and_false]
   simp
 ·
  have h9:a.Fatal≠b.Fatal:=fun e=>h0 (by rw [e])
  simp [h0,h9]
theorem longs2_eq {ks:List (List UInt8)} (h:ks.length≤9223372036854775807):slices_ContainsFunc_string_string_command_RightPolicy_1 ks=some (ks.any longS):=by
 unfold slices_ContainsFunc_string_string_command_RightPolicy_1 slices_IndexFunc_string_string_command_RightPolicy_1
 obtain ⟨x,h1,h2⟩:=loop_find (body:=slices_IndexFunc_string_string_command_RightPolicy_1_l1 ks) ks longS (fun i hi=>by
  unfold slices_IndexFunc_string_string_command_RightPolicy_1_l1
  rw [cond_d,if_pos (by omega),idx_ok hi,Option.bind_some,command_RightPolicy_1,Option.bind_some,w64s hi h]
  show cond (longS ks[i]) _ _=_
  cases longS ks[i] <;> rfl) (by
  unfold slices_IndexFunc_string_string_command_RightPolicy_1_l1
  rw [cond_d,if_neg (by omega)])
 rw [h1,Option.bind_some,h2]
def six (o:ApiPolicy):List Int:=[o.ToStart,o.ToClose,o.Total,o.Beat,o.First,o.Most]
def pright (o:ApiPolicy):Bool:=(decide (o.Queue=[])||nright o.Queue)&&decide (o.Fatal.length≤64)&&(six o).all (fun n=>inB n 0 1099511627776)&&inB o.Coef 0 10000&&inB o.Attempts 0 1000&&!o.Fatal.any longS
theorem RightPolicy_eq {o:ApiPolicy} (h:okApiPolicy o):command_RightPolicy o=some (pright o):=by
 have hf:o.Fatal.length≤9223372036854775807:=h.2.2.2.2.2.2.2.2.2.1
 unfold command_RightPolicy pright
 rw [name_Right_eq,longs2_eq hf]
 simp only [command_in_eq]
 rw [loop_all (six o).length (fun i=>inB ((six o).getD i default) 0 1099511627776) false (fun i hi=>?_) ?_,Option.bind_some,all_range (six o) fun n=>inB n 0 1099511627776]
 ·
  by_cases h0:(64:Int)<o.Fatal.length
  ·
   have h1:¬o.Fatal.length≤64:=by omega
   by_cases hq:o.Queue=[] <;> cases nright o.Queue <;> simp [hq,h0,h1,gd]
  ·
   have h1:o.Fatal.length≤64:=by omega
   cases (six o).all fun n=>inB n 0 1099511627776
   ·
    by_cases hq:o.Queue=[] <;> cases nright o.Queue <;> simp [hq,h0,h1,gd,Fl.next]
   ·
    by_cases hq:o.Queue=[] <;> cases nright o.Queue <;> cases inB o.Coef 0 10000 <;> cases inB o.Attempts 0 1000 <;> simp [hq,h0,h1,gd,Fl.next]
 ·
  unfold command_RightPolicy_l1
  rw [cond_d,if_neg (by unfold six;omega)]
 ·
  unfold command_RightPolicy_l1
  have hi':i<[o.ToStart,o.ToClose,o.Total,o.Beat,o.First,o.Most].length:=hi
  rw [cond_d,if_pos (by omega),idx_ok hi',Option.bind_some,command_in_eq,Option.bind_some,w64s hi (by unfold six;simp)]
  simp only [List.getD_eq_getElem?_getD,List.getElem?_eq_getElem hi,Option.getD_some]
  show cond (!inB (six o)[i] 0 1099511627776) _ _=_
  cases inB (six o)[i] 0 1099511627776 <;> rfl
theorem refRightPolicy_eq {o:ApiPolicy} (h:okApiPolicy o):ref20xRightPolicy o=some (pright o):=by
 have hf:o.Fatal.length≤9223372036854775807:=h.2.2.2.2.2.2.2.2.2.1
 unfold ref20xRightPolicy pright
 rw [ref06Right_eq]
 simp only [ref20in_eq]
 rw [loop_all (six o).length (fun i=>inB ((six o).getD i default) 0 1099511627776) false (fun i hi=>?_) ?_,Option.bind_some,all_range (six o) fun n=>inB n 0 1099511627776]
 ·
  rw [loop_all o.Fatal.length (fun i=>!longS (o.Fatal.getD i default)) false (fun i hi=>?_) ?_,Option.bind_some,all_range o.Fatal fun n=>!longS n,← not_any_all]
  ·
   have e:decide ((o.Fatal.length:Int)≤64)=decide (o.Fatal.length≤64):=by rw [Bool.eq_iff_iff];simp;omega
   rw [e]
   cases (six o).all fun n=>inB n 0 1099511627776
   ·
    simp [Fl.next]
   ·
    cases o.Fatal.any longS
    ·
     by_cases hq:o.Queue=[] <;> cases nright o.Queue <;> cases inB o.Coef 0 10000 <;> cases inB o.Attempts 0 1000 <;> simp [hq,gd,Fl.next]
    ·
     simp [Fl.next]
  ·
   unfold ref20xRightPolicy_l2
   rw [cond_d,if_neg (by omega)]
  ·
   unfold ref20xRightPolicy_l2
   rw [cond_d,if_pos (by omega),idx_ok hi,Option.bind_some,w64s hi hf]
   simp only [List.getD_eq_getElem?_getD,List.getElem?_eq_getElem hi,Option.getD_some]
   show cond (longS o.Fatal[i]) _ _=_
   cases longS o.Fatal[i] <;> rfl
 ·
  unfold ref20xRightPolicy_l1
  rw [cond_d,if_neg (by unfold six;omega)]
 ·
  unfold ref20xRightPolicy_l1
  have hi':i<[o.ToStart,o.ToClose,o.Total,o.Beat,o.First,o.Most].length:=hi
  rw [cond_d,if_pos (by omega),idx_ok hi',Option.bind_some,ref20in_eq,Option.bind_some,w64s hi (by unfold six;simp)]
  simp only [List.getD_eq_getElem?_getD,List.getElem?_eq_getElem hi,Option.getD_some]
  show cond (!inB (six o)[i] 0 1099511627776) _ _=_
  cases inB (six o)[i] 0 1099511627776 <;> rfl
def pairB (x:ApiValue):Bool:=match x.Items with
 | [a,_]=>decide (x.Kind=4)&&decide (a.Kind=3)&&nright a.Text
 | _=>false
def inpB (v:ApiValue):Bool:=match v.Items with
 | [_,b]=>decide (v.Kind=4)&&decide (b.Kind=4)&&b.Items.all pairB
 | _=>false
theorem len2 {α:Type}{l:List α} (h:l.length=2):∃ a b,l=[a,b]:=by
 match l,h with
 | [a,b],_=>exact ⟨a,b,rfl⟩
theorem pair_not2 {x:ApiValue} (h:¬x.Items.length=2):pairB x=false:=by
 unfold pairB
 split
 ·
  rename_i hx;exact absurd (by rw [hx];rfl) h
 ·
  rfl
theorem inp_not2 {x:ApiValue} (h:¬x.Items.length=2):inpB x=false:=by
 unfold inpB
 split
 ·
  rename_i hx;exact absurd (by rw [hx];rfl) h
 ·
  rfl
theorem pair_cond {x:ApiValue}:(cond (!decide (x.Kind=4)) true (!decide ((x.Items.length:Int)=2)))=!(decide (x.Kind=4)&&decide (x.Items.length=2)):=by
 by_cases h1:x.Kind=4
 ·
  rw [Bool.eq_iff_iff];simp [h1];omega
 ·
  simp [h1]
theorem input1_eq (x:ApiValue):command_input_1 x=some (!pairB x):=by
 unfold command_input_1
 simp only [pair_cond,name_Right_eq]
 by_cases h2:x.Items.length=2
 ·
  obtain ⟨a,b,hab⟩:=len2 h2
  unfold pairB
  rw [hab]
  have h0:idx [a,b] (0:Int)=some a:=rfl
  rw [h0]
  by_cases h1:x.Kind=4 <;> by_cases h3:a.Kind=3 <;> simp [h1,h3,gd]
 ·
  have:pairB x=false:=pair_not2 h2
  simp [this,h2,gd]
theorem input_eq {v:ApiValue} (hv:okApiValue v):command_input v=some (inpB v):=by
 obtain ⟨k0,k1,k2,k3,k4⟩:=(okApiValue_iff v).1 hv
 unfold command_input
 simp only [pair_cond]
 by_cases h2:v.Items.length=2
 ·
  obtain ⟨a,b,hab⟩:=len2 h2
  obtain ⟨_,_,_,hb,_⟩:=(okApiValue_iff b).1 (k3.2.2 b (by rw [hab];simp))
  unfold inpB
  rw [hab]
  have h0:idx [a,b] (1:Int)=some b:=rfl
  have hC:slices_ContainsFunc_api_Value_api_Value_command_input_1 b.Items=some (b.Items.any fun x=>!pairB x):=by
   unfold slices_ContainsFunc_api_Value_api_Value_command_input_1 slices_IndexFunc_api_Value_api_Value_command_input_1
   obtain ⟨x,h1,h2⟩:=loop_find (body:=slices_IndexFunc_api_Value_api_Value_command_input_1_l1 b.Items) b.Items (fun x=>!pairB x) (fun i hi=>by
    unfold slices_IndexFunc_api_Value_api_Value_command_input_1_l1
    rw [cond_d,if_pos (by omega),idx_ok hi,Option.bind_some,input1_eq,Option.bind_some,w64s hi hb.1]
    cases pairB b.Items[i] <;> rfl) (by
    unfold slices_IndexFunc_api_Value_api_Value_command_input_1_l1
    rw [cond_d,if_neg (by omega)])
   rw [h1,Option.bind_some,h2]
  have hA:(!b.Items.any fun x=>!pairB x)=b.Items.all pairB:=by rw [not_any_all];simp
  rw [h0]
  by_cases h1:v.Kind=4 <;> by_cases h3:b.Kind=4
  ·
   simp only [h1,h3,List.length_cons,List.length_nil,decide_true,Bool.and_self,Bool.not_true,cond_false,beq_self_eq_true,gd,if_true,Option.bind_some,hC,hA,Bool.true_and]
  ·
   simp [h1,h3,gd]
  ·
   simp [h1,h3,gd]
  ·
   simp [h1,h3,gd]
 ·
  have:inpB v=false:=inp_not2 h2
  simp [this,h2,gd]
theorem refInput_eq {v:ApiValue} (hv:okApiValue v):ref20xInput v=some (inpB v):=by
 obtain ⟨k0,k1,k2,k3,k4⟩:=(okApiValue_iff v).1 hv
 unfold ref20xInput
 simp only [pair_cond]
 by_cases h2:v.Items.length=2
 ·
  obtain ⟨a,b,hab⟩:=len2 h2
  obtain ⟨_,_,_,hb,_⟩:=(okApiValue_iff b).1 (k3.2.2 b (by rw [hab];simp))
  have h0:idx v.Items (1:Int)=some b:=by rw [hab];rfl
  have hi2:inpB v=(decide (v.Kind=4)&&decide (b.Kind=4)&&b.Items.all pairB):=by unfold inpB;rw [hab]
  have hC:loopO (ref20xInput_l1 v) (0:Int)=some (if b.Items.all pairB then .go () else .done false):=by
   rw [loop_all b.Items.length (fun i=>pairB (b.Items.getD i default)) false (fun i hi=>?_) ?_,all_range b.Items pairB]
   ·
    unfold ref20xInput_l1
    rw [h0,Option.bind_some,cond_d,if_neg (by omega)]
   ·
    unfold ref20xInput_l1
    rw [h0,Option.bind_some,cond_d,if_pos (by omega),Option.bind_some,idx_ok hi,Option.bind_some,w64s hi hb.1]
    simp only [List.getD_eq_getElem?_getD,List.getElem?_eq_getElem hi,Option.getD_some,pair_cond,ref06Right_eq]
    generalize b.Items[i]=x
    by_cases h2:x.Items.length=2
    ·
     obtain ⟨c,d,hcd⟩:=len2 h2
     have hp:pairB x=(decide (x.Kind=4)&&decide (c.Kind=3)&&nright c.Text):=by unfold pairB;rw [hcd]
     have h0:idx x.Items (0:Int)=some c:=by rw [hcd];rfl
     rw [h0,hp,h2]
     by_cases h1:x.Kind=4 <;> by_cases h3:c.Kind=3
     ·
      simp only [h1,h3,decide_true,Bool.and_self,Bool.not_true,cond_false,beq_self_eq_true,gd,if_true,Option.bind_some,Bool.true_and]
      cases nright c.Text <;> rfl
     ·
      simp [h1,h3,gd]
     ·
      simp [h1,h3,gd]
     ·
      simp [h1,h3,gd]
    ·
     have:pairB x=false:=pair_not2 h2
     simp [this,h2,gd]
  rw [h0,h2,hC,hi2]
  by_cases h1:v.Kind=4 <;> by_cases h3:b.Kind=4
  ·
   simp only [h1,h3,decide_true,Bool.and_self,Bool.not_true,cond_false,beq_self_eq_true,gd,if_true,Option.bind_some,Bool.true_and]
   cases b.Items.all pairB <;> rfl
  ·
   simp [h1,h3,gd]
  ·
   simp [h1,h3,gd]
  ·
   simp [h1,h3,gd]
 ·
  have:inpB v=false:=inp_not2 h2
  simp [this,h2,gd]
end Go.Proofs.YtmbdbdhdcbdcpaaGreatDoor

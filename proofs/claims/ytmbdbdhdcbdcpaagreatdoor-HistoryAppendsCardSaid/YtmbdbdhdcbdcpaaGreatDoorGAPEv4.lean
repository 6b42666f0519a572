/- Events: what makes one right, by the reference. -/
import Derived.Test.YtmbdbdhdcbdcpaaGreatDoorGAPEv2
import Derived.Test.YtmbdbdhdcbdcpaaGreatDoorGAPNum
import Derived.Test.YtmbdbdhdcbdcpaaGreatDoorGAF4
import Derived.Test.YtmbdbdhdcbdcpaaGreatDoorGAF5
import Derived.Test.YtmbdbdhdcbdcpaaGreatDoorGAF6
import Derived.Test.YtmbdbdhdcbdcpaaGreatDoorGAF7
import Derived.Test.YtmbdbdhdcbdcpaaGreatDoorGAF8
namespace Go.Proofs.YtmbdbdhdcbdcpaaGreatDoor
open Go Abs
set_option linter.unusedSimpArgs false
set_option linter.unusedVariables false
theorem refin22_eq {n l h:Int}:ref22xin n l h=some (inB n l h):=by unfold ref22xin inB;rw [Bool.cond_eq_ite];by_cases h1:l≤n <;> simp [h1]
theorem refIdent22_eq {s:List UInt8} (hs:s.length≤9223372036854775807):ref22xIdent s=some (iright s):=(show ref22xIdent s=event_identifier s from rfl).trans (identifier_eq hs)
theorem refInput22_eq {v:ApiValue} (hv:okApiValue v):ref22xInput v=some (vright v&&inpB v):=by
 obtain ⟨k0,k1,k2,k3,k4⟩:=(okApiValue_iff v).1 hv
 unfold ref22xInput
 rw [refRight02_eq hv,Option.bind_some]
 cases vright v
 ·
  simp [gd]
 simp only [Bool.not_true,cond_false,Bool.true_and]
 rw [pair_cond]
 by_cases h2:v.Items.length=2
 ·
  obtain ⟨a,b,hab⟩:=len2 h2
  obtain ⟨_,_,_,hb,_⟩:=(okApiValue_iff b).1 (k3.2.2 b (by rw [hab];simp))
  have h0:idx v.Items (1:Int)=some b:=by rw [hab];rfl
  have hi2:inpB v=(decide (v.Kind=4)&&decide (b.Kind=4)&&b.Items.all pairB):=by unfold inpB;rw [hab]
  have hC:loopO (ref22xInput_l1 b) (0:Int)=some (if b.Items.all pairB then .go () else .done false):=by
   rw [loop_all b.Items.length (fun i=>pairB (b.Items.getD i default)) false (fun i hi=>?_) ?_,all_range b.Items pairB]
   ·
    unfold ref22xInput_l1
    rw [cond_d,if_neg (by omega)]
   ·
    unfold ref22xInput_l1
    rw [cond_d,if_pos (by omega),idx_ok hi,w64s hi hb.1]
    simp only [List.getD_eq_getElem?_getD,List.getElem?_eq_getElem hi,Option.getD_some,ref06Right_eq,Option.bind_some]
    generalize b.Items[i]=x
    by_cases h1:x.Kind=4
    ·
     by_cases h2:x.Items.length=2
     ·
      obtain ⟨c,d,hcd⟩:=len2 h2
      have hp:pairB x=(decide (x.Kind=4)&&decide (c.Kind=3)&&nright c.Text):=by unfold pairB;rw [hcd]
      have h0:idx x.Items (0:Int)=some c:=by rw [hcd];rfl
      rw [hp,h1]
      by_cases h3:c.Kind=3
      ·
       simp [h2,h0,h3,gd]
       cases nright c.Text <;> rfl
      ·
       simp [h2,h0,h3,gd]
     ·
      have:pairB x=false:=pair_not2 h2
      have h2':¬((x.Items.length:Int)=2):=by omega
      simp [this,h1,h2',gd]
    ·
     have hp:pairB x=false:=by unfold pairB;split <;> simp [h1]
     simp [hp,h1,gd]
  rw [h0,h2,hi2]
  by_cases h1:v.Kind=4 <;> by_cases h3:b.Kind=4
  ·
   simp only [h1,h3,decide_true,Bool.and_self,Bool.not_true,cond_false,beq_self_eq_true,gd,if_true,Option.bind_some,Bool.true_and,hC]
   cases b.Items.all pairB <;> rfl
  ·
   simp [h1,h3,gd]
  ·
   simp [h1,h3,gd]
  ·
   simp [h1,h3,gd]
 ·
  have:inpB v=false:=inp_not2 h2
  simp [this,h2,gd]
def usesR (k:Int):Ref22Fields :=
 cond (decide (k=1)) ⟨false,false,true,false,true,true,true,false⟩ (cond (decide (k=2)) ⟨false,false,true,false,false,false,false,false⟩ (cond (decide (k=3)||decide (k=4)||decide (k=6)) ⟨false,true,false,false,false,false,false,false⟩
 (cond (decide (k=5)) ⟨false,true,false,true,false,false,false,false⟩ (cond (decide (k=8)) ⟨true,true,true,false,false,false,false,false⟩ (cond (decide (k=9)||decide (k=13)||decide (k=21)) ⟨true,true,false,false,false,false,true,false⟩
 (cond (decide (k=10)||decide (k=22)) ⟨true,true,false,false,true,false,true,false⟩ (cond (decide (k=11)) ⟨true,true,false,true,false,false,false,false⟩ (cond (decide (k=15)||decide (k=24)||decide (k=12)||decide (k=16)) ⟨true,true,false,false,false,false,false,false⟩
 (cond (decide (k=17)) ⟨false,false,false,false,true,true,true,false⟩ (cond (decide (k=20)) ⟨true,true,false,false,false,true,false,false⟩ (cond (decide (k=25)) ⟨true,true,false,false,true,false,false,false⟩
 (cond (decide (k=26)) ⟨false,false,false,false,false,true,false,false⟩ (cond (decide (k=33)) ⟨false,false,false,false,true,false,false,false⟩ (cond (decide (k=7)) ⟨true,false,false,false,true,false,true,true⟩ (cond (decide (k=14)) ⟨true,false,true,false,false,false,false,false⟩
 (cond (decide (k=19)) ⟨true,false,true,false,true,true,true,false⟩ (cond (decide (k=23)) ⟨true,false,false,false,true,true,true,false⟩ (cond (decide (k=18)) ⟨false,false,true,false,true,false,true,false⟩ (cond (decide (k=27)) ⟨false,false,false,false,true,true,true,false⟩
 (cond (decide (k=28)) ⟨false,false,true,false,false,true,true,false⟩ (cond (decide (k=31)) ⟨false,false,false,false,true,false,true,false⟩ (cond (decide (k=29)||decide (k=30)||decide (k=32)||decide (k=35)) ⟨false,false,false,false,false,false,true,false⟩ ⟨false,false,false,false,false,false,false,false⟩))))))))))))))))))))))
theorem uses22_eq (k:Int):ref22xuses k=some (usesR k):=by
 unfold ref22xuses usesR
 simp only [or3,or2,Option.bind_some]
 simp only [cond_push,Bool.or_assoc]
noncomputable def bareR (u:Ref22Fields) (e:ApiEvent):Bool :=
 (if u.seq_ then inB e.Seq 1 2000 else decide (e.Seq=0))&&(if u.ref_ then inB e.Ref 1 2000 else decide (e.Ref=0))&&(u.n_||decide (e.N=0))&&(u.code_||decide (e.Code=0))&&(u.name_||decide (e.Name=[]))&&(u.key_||decide (e.Key=[]))&&vright e.Data&&(u.data_||decide (e.Data.Kind=0))&&(u.opts_||psame e.Opts zeroP)
theorem bare22_eq {e:ApiEvent} (h:okApiEvent e):ref22xbare e=some (bareR (usesR e.Kind) e):=by
 have hd:okApiValue e.Data:=h.2.2.2.2.2.2.2.2.2.1
 have ho:okApiPolicy e.Opts:=h.2.2.2.2.2.2.2.2.2.2
 unfold ref22xbare bareR
 rw [uses22_eq,Option.bind_some,show (ApiPolicy.mk [] 0 0 0 0 0 0 0 0 [])=zeroP from rfl,refSamePolicy_eq ho,refRight02_eq hd]
 simp only [refin22_eq]
 generalize usesR e.Kind=u
 obtain ⟨u1,u2,u3,u4,u5,u6,u7,u8⟩:=u
 simp only
 generalize inB e.Seq 1 2000=a1
 generalize inB e.Ref 1 2000=a2
 generalize decide (e.Seq=0)=b1
 generalize decide (e.Ref=0)=b2
 generalize decide (e.N=0)=b3
 generalize decide (e.Code=0)=b4
 generalize decide (e.Name=[])=b5
 generalize decide (e.Key=[])=b6
 generalize vright e.Data=b7
 generalize decide (e.Data.Kind=0)=b8
 generalize psame e.Opts zeroP=b9
 have h1:∃ r,(if u1=true then a1 else b1)=r:=⟨_,rfl⟩
 cases u1
 ·
  cases u2
  ·
   cases b1 <;> cases b2 <;> simp [gd] <;> cases u3 <;> cases b3 <;> cases u4 <;> cases b4 <;> simp <;> cases u5 <;> cases b5 <;> cases u6 <;> cases b6 <;> simp <;> cases b7 <;> cases u7 <;> cases b8 <;> cases u8 <;> simp
  ·
   cases b1 <;> cases a2 <;> simp [gd] <;> cases u3 <;> cases b3 <;> cases u4 <;> cases b4 <;> simp <;> cases u5 <;> cases b5 <;> cases u6 <;> cases b6 <;> simp <;> cases b7 <;> cases u7 <;> cases b8 <;> cases u8 <;> simp
 ·
  cases u2
  ·
   cases a1 <;> cases b2 <;> simp [gd] <;> cases u3 <;> cases b3 <;> cases u4 <;> cases b4 <;> simp <;> cases u5 <;> cases b5 <;> cases u6 <;> cases b6 <;> simp <;> cases b7 <;> cases u7 <;> cases b8 <;> cases u8 <;> simp
  ·
   cases a1 <;> cases a2 <;> simp [gd] <;> cases u3 <;> cases b3 <;> cases u4 <;> cases b4 <;> simp <;> cases u5 <;> cases b5 <;> cases u6 <;> cases b6 <;> simp <;> cases b7 <;> cases u7 <;> cases b8 <;> cases u8 <;> simp
noncomputable def partR (e:ApiEvent):Bool :=
 cond (decide (e.Kind=1)) (nright e.Name&&iright e.Key&&(vright e.Data&&inpB e.Data)&&inB e.N 0 4294967295) (cond (decide (e.Kind=2)) (decide (1≤e.N)) (cond (decide (e.Kind=5)) (inB e.Code 1 30) (cond (decide (e.Kind=8)) (inB e.N 1 1000) (cond (decide (e.Kind=11)) (inB e.Code 1 4)
 (cond (decide (e.Kind=10)||decide (e.Kind=22)||decide (e.Kind=25)) (decide ((e.Name.length:Int)≤4096)) (cond (decide (e.Kind=17)) (nright e.Name&&iright e.Key) (cond (decide (e.Kind=20)) (numberS e.Key).2 (cond (decide (e.Kind=26)) (iright e.Key) (cond (decide (e.Kind=33)) (decide ((e.Name.length:Int)≤64)) true)))))))))
noncomputable def rright (e:ApiEvent):Bool :=
 inB e.Kind 1 35&&inB e.ID 0 2000&&inB e.Time 0 1099511627776&&bareR (usesR e.Kind) e&&(if cmdOf e.Kind=0 then partR e else cright ⟨cmdOf e.Kind,e.Seq,e.Name,e.Key,e.N,e.Data,e.Opts⟩)
theorem ref22Right_eq {e:ApiEvent} (h:okApiEvent e):ref22xRight e=some (rright e):=by
 have hd:okApiValue e.Data:=h.2.2.2.2.2.2.2.2.2.1
 have hk:okS e.Key:=h.2.2.2.2.2.2.2.2.1
 unfold okS at hk
 unfold ref22xRight rright ref22xasCommand
 simp only [refin22_eq,bare22_eq h,refIsCommand_eq,refcommand_eq,ref06Right_eq,refIdent22_eq (show e.Key.length≤9223372036854775807 by omega),refInput22_eq hd,refNumber_eq (show e.Key.length≤140737488355328 by omega),Option.bind_some,ref20Right_eq (okCmd h (okI_cmdOf _))]
 cases inB e.Kind 1 35
 ·
  simp [gd]
 cases inB e.ID 0 2000
 ·
  simp [gd]
 cases inB e.Time 0 1099511627776
 ·
  simp [gd]
 cases bareR (usesR e.Kind) e
 ·
  simp [gd]
 simp only [Bool.not_true,cond_false,beq_self_eq_true,gd,if_true,Option.bind_some,Bool.true_and,cond_nd]
 split
 ·
  unfold partR
  simp only [or3,Option.bind_some]
  generalize nright e.Name=a
  generalize iright e.Key=b
  generalize (vright e.Data&&inpB e.Data)=c
  generalize inB e.N 0 4294967295=d
  have e1:((if (a==true)=true then some b else some default).bind fun (x4:Bool)=>(if ((cond a x4 false)==true)=true then some c else some default).bind fun (x6:Bool)=>(if ((cond (cond a x4 false) x6 false)==true)=true then some d else some default).bind fun (x8:Bool)=>some (cond (cond (cond a x4 false) x6 false) x8 false))=some (a&&b&&c&&d):=by
   cases a <;> cases b <;> cases c <;> rfl
  have e2:((if (a==true)=true then some b else some default).bind fun (x:Bool)=>some (cond a x false))=some (a&&b):=by cases a <;> rfl
  rw [e1,e2]
  simp only [cond_push,Bool.or_assoc]
 ·
  rfl
theorem zero_right {v:ApiValue} (h:vright v=true):vsame v zeroV=decide (v.Kind=0):=by
 rw [Bool.eq_iff_iff,vsame_iff (hgt v) v zeroV (Nat.le_refl _),decide_eq_true_eq]
 constructor
 ·
  rintro rfl;rfl
 ·
  intro hk
  unfold vright at h
  simp only [Bool.and_eq_true] at h
  have h2:fmd false v=true:=by first | exact h.2 | exact h.1 | exact h.1.2 | exact h.2.1
  rw [fmd_eq] at h2
  simp only [Bool.and_eq_true] at h2
  have h3:=h2.1
  unfold floc at h3
  rw [if_pos hk] at h3
  simp only [Bool.and_eq_true,decide_eq_true_eq] at h3
  obtain ⟨⟨⟨a,b⟩,c⟩,d⟩:=h3
  cases v
  simp only at *
  subst hk a b
  rw [List.eq_nil_of_length_eq_zero c,List.eq_nil_of_length_eq_zero d]
  rfl
end Go.Proofs.YtmbdbdhdcbdcpaaGreatDoor

/- Events: what makes one right, by the program. -/
import Derived.Test.YtmbdbdhdcbdcpaaGreatDoorGAPCmd2
import Derived.Test.YtmbdbdhdcbdcpaaGreatDoorGAPNm
import Derived.Test.YtmbdbdhdcbdcpaaGreatDoorGAF0
import Derived.Test.YtmbdbdhdcbdcpaaGreatDoorGAF2
import Derived.Test.YtmbdbdhdcbdcpaaGreatDoorGAF3
namespace Go.Proofs.YtmbdbdhdcbdcpaaGreatDoor
open Go Abs
set_option linter.unusedSimpArgs false
set_option linter.unusedVariables false
theorem within_eq {n l h:Int}:event_within n l h=some (inB n l h):=by unfold event_within inB;rw [Bool.cond_eq_ite];by_cases h1:l≤n <;> simp [h1]
theorem identifier_eq {s:List UInt8} (hs:s.length≤9223372036854775807):event_identifier s=some (iright s):=(show event_identifier s=command_ident s from rfl).trans (ident_eq hs)
theorem evInput_eq {v:ApiValue} (hv:okApiValue v):event_input v=some (inpB v):=by
 obtain ⟨k0,k1,k2,k3,k4⟩:=(okApiValue_iff v).1 hv
 unfold event_input
 simp only [pair_cond]
 by_cases h2:v.Items.length=2
 ·
  obtain ⟨a,b,hab⟩:=len2 h2
  obtain ⟨_,_,_,hb,_⟩:=(okApiValue_iff b).1 (k3.2.2 b (by rw [hab];simp))
  have h0:idx v.Items (1:Int)=some b:=by rw [hab];rfl
  have hi2:inpB v=(decide (v.Kind=4)&&decide (b.Kind=4)&&b.Items.all pairB):=by unfold inpB;rw [hab]
  have hC:loopO (event_input_l1 b) (0:Int)=some (if b.Items.all pairB then .go () else .done false):=by
   rw [loop_all b.Items.length (fun i=>pairB (b.Items.getD i default)) false (fun i hi=>?_) ?_,all_range b.Items pairB]
   ·
    unfold event_input_l1
    rw [cond_d,if_neg (by omega)]
   ·
    unfold event_input_l1
    rw [cond_d,if_pos (by omega),idx_ok hi,Option.bind_some,w64s hi hb.1]
    simp only [List.getD_eq_getElem?_getD,List.getElem?_eq_getElem hi,Option.getD_some,pair_cond,name_Right_eq]
    generalize b.Items[i]=x
    by_cases h2:x.Items.length=2
    ·
     obtain ⟨c,d,hcd⟩:=len2 h2
     have hp:pairB x=(decide (x.Kind=4)&&decide (c.Kind=3)&&nright c.Text):=by unfold pairB;rw [hcd]
     have h0:idx x.Items (0:Int)=some c:=by rw [hcd];rfl
     rw [h0,hp,h2]
     by_cases h1:x.Kind=4 <;> by_cases h3:c.Kind=3
     ·
      simp only [h1,h3,decide_true,Bool.and_self,Bool.not_true,cond_false,beq_self_eq_true,gd,if_true,Option.bind_some,Bool.true_and]
      cases nright c.Text <;> rfl
     ·
      simp [h1,h3,gd]
     ·
      simp [h1,h3,gd]
     ·
      simp [h1,h3,gd]
    ·
     have:pairB x=false:=pair_not2 h2
     simp [this,h2,gd]
  rw [h0,h2,hi2]
  by_cases h1:v.Kind=4 <;> by_cases h3:b.Kind=4
  ·
   simp only [h1,h3,decide_true,Bool.and_self,Bool.not_true,cond_false,beq_self_eq_true,gd,if_true,Option.bind_some,Bool.true_and,hC]
   cases b.Items.all pairB <;> rfl
  ·
   simp [h1,h3,gd]
  ·
   simp [h1,h3,gd]
  ·
   simp [h1,h3,gd]
 ·
  have:inpB v=false:=inp_not2 h2
  simp [this,h2,gd]
def cmdOf (k:Int):Int:=if k=7 then 1 else if k=12 then 2 else if k=14 then 3 else if k=16 then 4 else if k=19 then 5 else if k=23 then 6 else if k=18 then 7 else if k=27 then 8 else if k=28 then 9 else if k=29 then 10 else if k=30 then 11 else if k=31 then 12 else if k=32 then 13 else if k=35 then 14 else 0
theorem ite_push {α:Type}{p:Prop} [Decidable p] {a b:α}:(if p then some a else some b)=some (if p then a else b):=by split <;> rfl
theorem commandOf_eq (k:Int):event_commandOf k=some (cmdOf k):=by
 unfold event_commandOf cmdOf
 simp only [cond_d,ite_push]
theorem or3 {a b c:Bool}:(cond a (some a) (cond b (some b) (some c)))=some (a||b||c):=by cases a <;> cases b <;> rfl
theorem or2 {a b:Bool}:(cond a (some a) (some b))=some (a||b):=by cases a <;> rfl
theorem cond_push {α:Type}{c:Bool}{a b:α}:cond c (some a) (some b)=some (cond c a b):=by cases c <;> rfl
def usesE (k:Int):EventUses :=
 cond (decide (k=1)) ⟨false,false,true,false,true,true,true⟩ (cond (decide (k=2)) ⟨false,false,true,false,false,false,false⟩ (cond (decide (k=3)||decide (k=4)||decide (k=6)) ⟨false,true,false,false,false,false,false⟩
 (cond (decide (k=5)) ⟨false,true,false,true,false,false,false⟩ (cond (decide (k=8)) ⟨true,true,true,false,false,false,false⟩ (cond (decide (k=9)||decide (k=13)||decide (k=21)) ⟨true,true,false,false,false,false,true⟩
 (cond (decide (k=10)||decide (k=22)) ⟨true,true,false,false,true,false,true⟩ (cond (decide (k=11)) ⟨true,true,false,true,false,false,false⟩ (cond (decide (k=15)||decide (k=24)) ⟨true,true,false,false,false,false,false⟩
 (cond (decide (k=17)) ⟨false,false,false,false,true,true,true⟩ (cond (decide (k=20)) ⟨true,true,false,false,false,true,false⟩ (cond (decide (k=25)) ⟨true,true,false,false,true,false,false⟩
 (cond (decide (k=26)) ⟨false,false,false,false,false,true,false⟩ (cond (decide (k=33)) ⟨false,false,false,false,true,false,false⟩ ⟨false,false,false,false,false,false,false⟩)))))))))))))
theorem used_eq (k:Int):event_used k=some (usesE k):=by
 unfold event_used usesE
 simp only [or3,or2,Option.bind_some]
 simp only [cond_push,Bool.or_assoc]
def emptyB (u:EventUses) (e:ApiEvent):Bool :=
 (u.seq_||decide (e.Seq=0))&&(u.ref_||decide (e.Ref=0))&&(u.n_||decide (e.N=0))&&(u.code_||decide (e.Code=0))&&(u.name_||decide (e.Name=[]))&&(u.key_||decide (e.Key=[]))&&(u.data_||vsame e.Data zeroV)&&psame e.Opts zeroP
theorem empty_eq {u:EventUses}{e:ApiEvent} (h:okApiEvent e):event_uses_empty u e=some (emptyB u e):=by
 have hd:okApiValue e.Data:=h.2.2.2.2.2.2.2.2.2.1
 have ho:okApiPolicy e.Opts:=h.2.2.2.2.2.2.2.2.2.2
 unfold event_uses_empty emptyB
 rw [show (ApiValue.mk 0 0 [] [] [])=zeroV from rfl,show (ApiPolicy.mk [] 0 0 0 0 0 0 0 0 [])=zeroP from rfl,value_Same_eq hd,SamePolicy_eq ho]
 simp only [Bool.cond_true_left,Bool.cond_false_right]
 generalize ((u.seq_||decide (e.Seq=0))&&(u.ref_||decide (e.Ref=0))&&(u.n_||decide (e.N=0))&&(u.code_||decide (e.Code=0))&&(u.name_||decide (e.Name=[]))&&(u.key_||decide (e.Key=[])))=b
 cases b
 ·
  simp [gd]
 ·
  cases u.data_
  ·
   cases vsame e.Data zeroV <;> simp [gd]
  ·
   simp [gd]
noncomputable def cmdB (e:ApiEvent) (k:Int):Bool:=decide (e.Code=0)&&(if k=2∨k=4 then inB e.Ref 1 2000 else decide (e.Ref=0))&&cright ⟨k,e.Seq,e.Name,e.Key,e.N,e.Data,e.Opts⟩
theorem okCmd {e:ApiEvent} (h:okApiEvent e) {k:Int} (hk:okI k):okApiCommand ⟨k,e.Seq,e.Name,e.Key,e.N,e.Data,e.Opts⟩:=by
 obtain ⟨h1,h2,h3,h4,h5,h6,h7,h8,h9,h10,h11⟩:=h
 exact ⟨hk,h4,h8,h9,h6,h10,h11⟩
theorem commanded_eq {e:ApiEvent} (h:okApiEvent e) {k:Int} (hk:okI k):event_commanded e k=some (cmdB e k):=by
 unfold event_commanded cmdB
 rw [command_Right_eq (okCmd h hk),within_eq]
 generalize cright _=c
 generalize inB e.Ref 1 2000=r
 by_cases hc:e.Code=0 <;> by_cases h2:k=2 <;> by_cases h4:k=4 <;> by_cases hr:e.Ref=0 <;> simp [hc,h2,h4,hr,gd] <;> cases r <;> simp
def partB (e:ApiEvent):Bool :=
 cond (decide (e.Kind=1)) (nright e.Name&&iright e.Key&&inB e.N 0 4294967295&&inpB e.Data) (cond (decide (e.Kind=2)) (decide (1≤e.N)) (cond (decide (e.Kind=5)) (inB e.Code 1 30) (cond (decide (e.Kind=8)) (inB e.N 1 1000) (cond (decide (e.Kind=11)) (inB e.Code 1 4)
 (cond (decide (e.Kind=10)||decide (e.Kind=22)||decide (e.Kind=25)) (decide ((e.Name.length:Int)≤4096)) (cond (decide (e.Kind=33)) (decide ((e.Name.length:Int)≤64)) (cond (decide (e.Kind=17)) (nright e.Name&&iright e.Key) (cond (decide (e.Kind=26)) (iright e.Key) (cond (decide (e.Kind=20)) (numberS e.Key).2 true)))))))))
theorem gd_and {a b:Bool}:((gd (a==true) (some b)).bind fun (x:Bool)=>some (cond a x false))=some (a&&b):=by cases a <;> rfl
theorem particular_eq {e:ApiEvent} (h:okApiEvent e):event_particular e=some (partB e):=by
 have hd:okApiValue e.Data:=h.2.2.2.2.2.2.2.2.2.1
 have hk:okS e.Key:=h.2.2.2.2.2.2.2.2.1
 unfold okS at hk
 unfold event_particular partB
 simp only [name_Right_eq,identifier_eq (show e.Key.length≤9223372036854775807 by omega),within_eq,evInput_eq hd,name_Number_eq (show e.Key.length≤140737488355328 by omega),or3,Option.bind_some]
 generalize nright e.Name=a
 generalize iright e.Key=b
 generalize inB e.N 0 4294967295=c
 generalize inpB e.Data=d
 have:((gd (a==true) (some b)).bind fun x4=>(gd ((cond a x4 false)==true) (some c)).bind fun x6=>(gd ((cond (cond a x4 false) x6 false)==true) (some d)).bind fun x8=>some (cond (cond (cond a x4 false) x6 false) x8 false))=some (a&&b&&c&&d):=by
  cases a <;> cases b <;> cases c <;> rfl
 rw [this]
 simp only [gd_and]
 simp only [cond_push,Bool.or_assoc]
noncomputable def eright (e:ApiEvent):Bool :=
 inB e.Kind 1 35&&inB e.ID 0 2000&&inB e.Time 0 1099511627776&&vright e.Data&&(if cmdOf e.Kind=0 then emptyB (usesE e.Kind) e&&(!(usesE e.Kind).seq_||inB e.Seq 1 2000)&&(!(usesE e.Kind).ref_||inB e.Ref 1 2000)&&partB e else cmdB e (cmdOf e.Kind))
theorem okI_cmdOf (k:Int):okI (cmdOf k):=by
 unfold cmdOf okI
 repeat' split
 all_goals omega
theorem event_Right_eq {e:ApiEvent} (h:okApiEvent e):event_Right e=some (eright e):=by
 have hd:okApiValue e.Data:=h.2.2.2.2.2.2.2.2.2.1
 unfold event_Right eright
 simp only [within_eq,value_Right_eq hd,commandOf_eq,used_eq,empty_eq h,commanded_eq h (okI_cmdOf _),particular_eq h,Option.bind_some]
 cases inB e.Kind 1 35
 ·
  simp [gd]
 cases inB e.ID 0 2000
 ·
  simp [gd]
 cases inB e.Time 0 1099511627776
 ·
  simp [gd]
 cases vright e.Data
 ·
  simp [gd]
 simp only [Bool.not_true,cond_false,beq_self_eq_true,gd,if_true,Option.bind_some,Bool.true_and,cond_nd]
 split
 ·
  rename_i h0
  generalize usesE e.Kind=u
  cases emptyB u e
  ·
   simp
  ·
   cases u.seq_ <;> cases u.ref_ <;> cases inB e.Seq 1 2000 <;> cases inB e.Ref 1 2000 <;> simp
 ·
  simp
end Go.Proofs.YtmbdbdhdcbdcpaaGreatDoor

/- Plain laws: what the functions compute, with no program in sight. -/
import Derived.Test.YtnigjppddilpcaaGreatDoorGEPP2
import Derived.Test.YtnigjppddilpcaaGreatDoorGEF8
import Derived.Test.YtnigjppddilpcaaGreatDoorGEF9
import Derived.Test.YtnigjppddilpcaaGreatDoorGEF10
import Derived.Test.YtnigjppddilpcaaGreatDoorGEPP0
import Derived.Test.YtnigjppddilpcaaGreatDoorGEF4
import Derived.Test.YtnigjppddilpcaaGreatDoorGEPP1
import Derived.Test.YtnigjppddilpcaaGreatDoorGEF6
namespace Go.Proofs.YtnigjppddilpcaaGreatDoor
open Go Abs
set_option linter.unusedSimpArgs false
set_option linter.unusedVariables false
theorem aFH {n l h:Int}:nG n l h=some (inB n l h):=by unfold nG inB;rw [Bool.cond_eq_ite];by_cases h1:l≤n <;> simp [h1]
theorem aGt {s:List UInt8} (hs:s.length≤9223372036854775807):pZ s=some (oT s):=(show pZ s=iN s from rfl).trans (aBB hs)
theorem aGu {v:aC} (hv:cL v):vN v=some (cH v&&wT v):=by
 obtain ⟨k0,k1,k2,k3,k4⟩:=(dH v).1 hv
 unfold vN
 rw [yD hv,Option.bind_some]
 cases cH v
 ·
  simp [gd]
 simp only [Bool.not_true,cond_false,Bool.true_and]
 rw [uJ]
 by_cases h2:v.Items.length=2
 ·
  obtain ⟨a,b,hab⟩:=aIU h2
  obtain ⟨_,_,_,hb,_⟩:=(dH b).1 (k3.2.2 b (by rw [hab];simp))
  have h0:hG v.Items (1:Int)=some b:=by rw [hab];rfl
  have hi2:wT v=(decide (v.Kind=4)&&decide (b.Kind=4)&&b.Items.all jE):=by unfold wT;rw [hab]
  have hC:dR (qB b) (0:Int)=some (if b.Items.all jE then .go () else .done false):=by
   rw [iJ b.Items.length (fun i=>jE (b.Items.getD i default)) false (fun i hi=>?_) ?_,lA b.Items jE]
   ·
    unfold qB
    rw [cG,if_neg (by omega)]
   ·
    unfold qB
    rw [cG,if_pos (by omega),eW hi,iW hi hb.1]
    simp only [List.getD_eq_getElem?_getD,List.getElem?_eq_getElem hi,Option.getD_some,rM,Option.bind_some]
    generalize b.Items[i]=x
    by_cases h1:x.Kind=4
    ·
     by_cases h2:x.Items.length=2
     ·
      obtain ⟨c,d,hcd⟩:=aIU h2
      have hp:jE x=(decide (x.Kind=4)&&decide (c.Kind=3)&&jJ c.Text):=by unfold jE;rw [hcd]
      have h0:hG x.Items (0:Int)=some c:=by rw [hcd];rfl
      rw [hp,h1]
      by_cases h3:c.Kind=3
      ·
       simp [h2,h0,h3,gd]
       cases jJ c.Text <;> rfl
      ·
       simp [h2,h0,h3,gd]
     ·
      have:jE x=false:=aBi h2
      have h2':¬((x.Items.length:Int)=2):=by omega
      simp [this,h1,h2',gd]
    ·
     have hp:jE x=false:=by unfold jE;split <;> simp [h1]
     simp [hp,h1,gd]
  rw [h0,h2,hi2]
  by_cases h1:v.Kind=4 <;> by_cases h3:b.Kind=4
  ·
   simp only [h1,h3,decide_true,Bool.and_self,Bool.not_true,cond_false,beq_self_eq_true,gd,if_true,Option.bind_some,Bool.true_and,hC]
   cases b.Items.all jE <;> rfl
  ·
   simp [h1,h3,gd]
  ·
   simp [h1,h3,gd]
  ·
   simp [h1,h3,gd]
 ·
  have:wT v=false:=aCD h2
  simp [this,h2,gd]
def eZ (k:Int):dZ :=
 cond (decide (k=1)) ⟨false,false,true,false,true,true,true,false⟩ (cond (decide (k=2)) ⟨false,false,true,false,false,false,false,false⟩ (cond (decide (k=3)||decide (k=4)||decide (k=6)) ⟨false,true,false,false,false,false,false,false⟩
 (cond (decide (k=5)) ⟨false,true,false,true,false,false,false,false⟩ (cond (decide (k=8)) ⟨true,true,true,false,false,false,false,false⟩ (cond (decide (k=9)||decide (k=13)||decide (k=21)) ⟨true,true,false,false,false,false,true,false⟩
 (cond (decide (k=10)||decide (k=22)) ⟨true,true,false,false,true,false,true,false⟩ (cond (decide (k=11)) ⟨true,true,false,true,false,false,false,false⟩ (cond (decide (k=15)||decide (k=24)||decide (k=12)||decide (k=16)) ⟨true,true,false,false,false,false,false,false⟩
 (cond (decide (k=17)) ⟨false,false,false,false,true,true,true,false⟩ (cond (decide (k=20)) ⟨true,true,false,false,false,true,false,false⟩ (cond (decide (k=25)) ⟨true,true,false,false,true,false,false,false⟩
 (cond (decide (k=26)) ⟨false,false,false,false,false,true,false,false⟩ (cond (decide (k=33)) ⟨false,false,false,false,true,false,false,false⟩ (cond (decide (k=7)) ⟨true,false,false,false,true,false,true,true⟩ (cond (decide (k=14)) ⟨true,false,true,false,false,false,false,false⟩
 (cond (decide (k=19)) ⟨true,false,true,false,true,true,true,false⟩ (cond (decide (k=23)) ⟨true,false,false,false,true,true,true,false⟩ (cond (decide (k=18)) ⟨false,false,true,false,true,false,true,false⟩ (cond (decide (k=27)) ⟨false,false,false,false,true,true,true,false⟩
 (cond (decide (k=28)) ⟨false,false,true,false,false,true,true,false⟩ (cond (decide (k=31)) ⟨false,false,false,false,true,false,true,false⟩ (cond (decide (k=29)||decide (k=30)||decide (k=32)||decide (k=35)) ⟨false,false,false,false,false,false,true,false⟩ ⟨false,false,false,false,false,false,false,false⟩))))))))))))))))))))))
theorem aMr (k:Int):xC k=some (eZ k):=by
 unfold xC eZ
 simp only [or3,or2,Option.bind_some]
 simp only [aBe,Bool.or_assoc]
noncomputable def eY (u:dZ) (e:bI):Bool :=
 (if u.seq_ then inB e.Seq 1 2000 else decide (e.Seq=0))&&(if u.ref_ then inB e.Ref 1 2000 else decide (e.Ref=0))&&(u.n_||decide (e.N=0))&&(u.code_||decide (e.Code=0))&&(u.name_||decide (e.Name=[]))&&(u.key_||decide (e.Key=[]))&&cH e.Data&&(u.data_||decide (e.Data.Kind=0))&&(u.opts_||xW e.Opts wA)
set_option maxHeartbeats 2000000 in
theorem aLO {e:bI} (h:dW e):xB e=some (eY (eZ e.Kind) e):=by
 have hd:cL e.Data:=h.2.2.2.2.2.2.2.2.2.1
 have ho:fH e.Opts:=h.2.2.2.2.2.2.2.2.2.2
 unfold xB eY
 rw [aMr,Option.bind_some,show (bG.mk [] 0 0 0 0 0 0 0 0 [])=wA from rfl,uL ho,yD hd]
 simp only [aFH]
 generalize eZ e.Kind=u
 obtain ⟨u1,u2,u3,u4,u5,u6,u7,u8⟩:=u
 simp only
 generalize inB e.Seq 1 2000=a1
 generalize inB e.Ref 1 2000=a2
 generalize decide (e.Seq=0)=b1
 generalize decide (e.Ref=0)=b2
 generalize decide (e.N=0)=b3
 generalize decide (e.Code=0)=b4
 generalize decide (e.Name=[])=b5
 generalize decide (e.Key=[])=b6
 generalize cH e.Data=b7
 generalize decide (e.Data.Kind=0)=b8
 generalize xW e.Opts wA=b9
 have h1:∃ r,(if u1=true then a1 else b1)=r:=⟨_,rfl⟩
 cases u1
 ·
  cases u2
  ·
   cases b1 <;> cases b2 <;> simp [gd] <;> cases u3 <;> cases b3 <;> cases u4 <;> cases b4 <;> simp <;> cases u5 <;> cases b5 <;> cases u6 <;> cases b6 <;> simp <;> cases b7 <;> cases u7 <;> cases b8 <;> cases u8 <;> simp
  ·
   cases b1 <;> cases a2 <;> simp [gd] <;> cases u3 <;> cases b3 <;> cases u4 <;> cases b4 <;> simp <;> cases u5 <;> cases b5 <;> cases u6 <;> cases b6 <;> simp <;> cases b7 <;> cases u7 <;> cases b8 <;> cases u8 <;> simp
 ·
  cases u2
  ·
   cases a1 <;> cases b2 <;> simp [gd] <;> cases u3 <;> cases b3 <;> cases u4 <;> cases b4 <;> simp <;> cases u5 <;> cases b5 <;> cases u6 <;> cases b6 <;> simp <;> cases b7 <;> cases u7 <;> cases b8 <;> cases u8 <;> simp
  ·
   cases a1 <;> cases a2 <;> simp [gd] <;> cases u3 <;> cases b3 <;> cases u4 <;> cases b4 <;> simp <;> cases u5 <;> cases b5 <;> cases u6 <;> cases b6 <;> simp <;> cases b7 <;> cases u7 <;> cases b8 <;> cases u8 <;> simp
noncomputable def iB (e:bI):Bool :=
 cond (decide (e.Kind=1)) (jJ e.Name&&oT e.Key&&(cH e.Data&&wT e.Data)&&inB e.N 0 4294967295) (cond (decide (e.Kind=2)) (decide (1≤e.N)) (cond (decide (e.Kind=5)) (inB e.Code 1 30) (cond (decide (e.Kind=8)) (inB e.N 1 1000) (cond (decide (e.Kind=11)) (inB e.Code 1 4)
 (cond (decide (e.Kind=10)||decide (e.Kind=22)||decide (e.Kind=25)) (decide ((e.Name.length:Int)≤4096)) (cond (decide (e.Kind=17)) (jJ e.Name&&oT e.Key) (cond (decide (e.Kind=20)) (qL e.Key).2 (cond (decide (e.Kind=26)) (oT e.Key) (cond (decide (e.Kind=33)) (decide ((e.Name.length:Int)≤64)) true)))))))))
noncomputable def aFM (e:bI):Bool :=
 inB e.Kind 1 35&&inB e.ID 0 2000&&inB e.Time 0 1099511627776&&eY (eZ e.Kind) e&&(if dP e.Kind=0 then iB e else fJ ⟨dP e.Kind,e.Seq,e.Name,e.Key,e.N,e.Data,e.Opts⟩)
theorem aGs {e:bI} (h:dW e):qC e=some (aFM e):=by
 have hd:cL e.Data:=h.2.2.2.2.2.2.2.2.2.1
 have hk:okS e.Key:=h.2.2.2.2.2.2.2.2.1
 unfold okS at hk
 unfold qC aFM rU
 simp only [aFH,aLO h,aEb,aBF,rM,aGt (show e.Key.length≤9223372036854775807 by omega),aGu hd,aHX (show e.Key.length≤140737488355328 by omega),Option.bind_some,aGr (aPB h (aG5 _))]
 cases inB e.Kind 1 35
 ·
  simp [gd]
 cases inB e.ID 0 2000
 ·
  simp [gd]
 cases inB e.Time 0 1099511627776
 ·
  simp [gd]
 cases eY (eZ e.Kind) e
 ·
  simp [gd]
 simp only [Bool.not_true,cond_false,beq_self_eq_true,gd,if_true,Option.bind_some,Bool.true_and,uO]
 split
 ·
  unfold iB
  simp only [or3,Option.bind_some]
  generalize jJ e.Name=a
  generalize oT e.Key=b
  generalize (cH e.Data&&wT e.Data)=c
  generalize inB e.N 0 4294967295=d
  have e1:((if (a==true)=true then some b else some default).bind fun (x4:Bool)=>(if ((cond a x4 false)==true)=true then some c else some default).bind fun (x6:Bool)=>(if ((cond (cond a x4 false) x6 false)==true)=true then some d else some default).bind fun (x8:Bool)=>some (cond (cond (cond a x4 false) x6 false) x8 false))=some (a&&b&&c&&d):=by
   cases a <;> cases b <;> cases c <;> rfl
  have e2:((if (a==true)=true then some b else some default).bind fun (x:Bool)=>some (cond a x false))=some (a&&b):=by cases a <;> rfl
  rw [e1,e2]
  simp only [aBe,Bool.or_assoc]
 ·
  rfl
theorem aKO {v:aC} (h:cH v=true):eF v eR=decide (v.Kind=0):=by
 rw [Bool.eq_iff_iff,aHn (sW v) v eR (Nat.le_refl _),decide_eq_true_eq]
 constructor
 ·
  rintro rfl;rfl
 ·
  intro hk
  unfold cH at h
  simp only [Bool.and_eq_true] at h
  have h2:wK false v=true:=by first | exact h.2 | exact h.1 | exact h.1.2 | exact h.2.1
  rw [aBX] at h2
  simp only [Bool.and_eq_true] at h2
  have h3:=h2.1
  unfold zI at h3
  rw [if_pos hk] at h3
  simp only [Bool.and_eq_true,decide_eq_true_eq] at h3
  obtain ⟨⟨⟨a,b⟩,c⟩,d⟩:=h3
  cases v
  simp only at *
  subst hk a b
  rw [List.eq_nil_of_length_eq_zero c,List.eq_nil_of_length_eq_zero d]
  rfl
end Go.Proofs.YtnigjppddilpcaaGreatDoor
namespace Go.Proofs.YtnigjppddilpcaaGreatDoor
open Go Abs
set_option linter.unusedSimpArgs false
set_option linter.unusedVariables false
end Go.Proofs.YtnigjppddilpcaaGreatDoor
namespace Go.Proofs.YtnigjppddilpcaaGreatDoor
open Go Abs
set_option linter.unusedSimpArgs false
set_option linter.unusedVariables false
set_option maxRecDepth 20000
theorem aPN {sq rf n cd:Int}{nm ky:List UInt8}{d:aC}{op:bG} (hz:cH d=true→eF d eR=decide (d.Kind=0)):(cH d&&(fR (eE 1) ⟨0,1,0,sq,rf,n,cd,nm,ky,d,op⟩&&(!(eE 1).seq_||inB sq 1 2000)&&(!(eE 1).ref_||inB rf 1 2000)&&hZ ⟨0,1,0,sq,rf,n,cd,nm,ky,d,op⟩))=(eY (eZ 1) ⟨0,1,0,sq,rf,n,cd,nm,ky,d,op⟩&&iB ⟨0,1,0,sq,rf,n,cd,nm,ky,d,op⟩):=by
 unfold fR eY eE eZ hZ iB
 simp only [Int.reduceEq,decide_true,decide_false,cond_true,cond_false,Bool.or_false,Bool.false_or,if_true,if_false,Bool.false_eq_true,Bool.true_or,Bool.true_and,Bool.and_true,Bool.not_true,Bool.not_false]
 grind
theorem aPO {sq rf n cd:Int}{nm ky:List UInt8}{d:aC}{op:bG} (hz:cH d=true→eF d eR=decide (d.Kind=0)):(cH d&&(fR (eE 2) ⟨0,2,0,sq,rf,n,cd,nm,ky,d,op⟩&&(!(eE 2).seq_||inB sq 1 2000)&&(!(eE 2).ref_||inB rf 1 2000)&&hZ ⟨0,2,0,sq,rf,n,cd,nm,ky,d,op⟩))=(eY (eZ 2) ⟨0,2,0,sq,rf,n,cd,nm,ky,d,op⟩&&iB ⟨0,2,0,sq,rf,n,cd,nm,ky,d,op⟩):=by
 unfold fR eY eE eZ hZ iB
 simp only [Int.reduceEq,decide_true,decide_false,cond_true,cond_false,Bool.or_false,Bool.false_or,if_true,if_false,Bool.false_eq_true,Bool.true_or,Bool.true_and,Bool.and_true,Bool.not_true,Bool.not_false]
 grind
theorem aPP {sq rf n cd:Int}{nm ky:List UInt8}{d:aC}{op:bG} (hz:cH d=true→eF d eR=decide (d.Kind=0)):(cH d&&(fR (eE 3) ⟨0,3,0,sq,rf,n,cd,nm,ky,d,op⟩&&(!(eE 3).seq_||inB sq 1 2000)&&(!(eE 3).ref_||inB rf 1 2000)&&hZ ⟨0,3,0,sq,rf,n,cd,nm,ky,d,op⟩))=(eY (eZ 3) ⟨0,3,0,sq,rf,n,cd,nm,ky,d,op⟩&&iB ⟨0,3,0,sq,rf,n,cd,nm,ky,d,op⟩):=by
 unfold fR eY eE eZ hZ iB
 simp only [Int.reduceEq,decide_true,decide_false,cond_true,cond_false,Bool.or_false,Bool.false_or,if_true,if_false,Bool.false_eq_true,Bool.true_or,Bool.true_and,Bool.and_true,Bool.not_true,Bool.not_false]
 grind
theorem aPQ {sq rf n cd:Int}{nm ky:List UInt8}{d:aC}{op:bG} (hz:cH d=true→eF d eR=decide (d.Kind=0)):(cH d&&(fR (eE 4) ⟨0,4,0,sq,rf,n,cd,nm,ky,d,op⟩&&(!(eE 4).seq_||inB sq 1 2000)&&(!(eE 4).ref_||inB rf 1 2000)&&hZ ⟨0,4,0,sq,rf,n,cd,nm,ky,d,op⟩))=(eY (eZ 4) ⟨0,4,0,sq,rf,n,cd,nm,ky,d,op⟩&&iB ⟨0,4,0,sq,rf,n,cd,nm,ky,d,op⟩):=by
 unfold fR eY eE eZ hZ iB
 simp only [Int.reduceEq,decide_true,decide_false,cond_true,cond_false,Bool.or_false,Bool.false_or,if_true,if_false,Bool.false_eq_true,Bool.true_or,Bool.true_and,Bool.and_true,Bool.not_true,Bool.not_false]
 grind
theorem aPR {sq rf n cd:Int}{nm ky:List UInt8}{d:aC}{op:bG} (hz:cH d=true→eF d eR=decide (d.Kind=0)):(cH d&&(fR (eE 5) ⟨0,5,0,sq,rf,n,cd,nm,ky,d,op⟩&&(!(eE 5).seq_||inB sq 1 2000)&&(!(eE 5).ref_||inB rf 1 2000)&&hZ ⟨0,5,0,sq,rf,n,cd,nm,ky,d,op⟩))=(eY (eZ 5) ⟨0,5,0,sq,rf,n,cd,nm,ky,d,op⟩&&iB ⟨0,5,0,sq,rf,n,cd,nm,ky,d,op⟩):=by
 unfold fR eY eE eZ hZ iB
 simp only [Int.reduceEq,decide_true,decide_false,cond_true,cond_false,Bool.or_false,Bool.false_or,if_true,if_false,Bool.false_eq_true,Bool.true_or,Bool.true_and,Bool.and_true,Bool.not_true,Bool.not_false]
 grind
theorem aPS {sq rf n cd:Int}{nm ky:List UInt8}{d:aC}{op:bG} (hz:cH d=true→eF d eR=decide (d.Kind=0)):(cH d&&(fR (eE 6) ⟨0,6,0,sq,rf,n,cd,nm,ky,d,op⟩&&(!(eE 6).seq_||inB sq 1 2000)&&(!(eE 6).ref_||inB rf 1 2000)&&hZ ⟨0,6,0,sq,rf,n,cd,nm,ky,d,op⟩))=(eY (eZ 6) ⟨0,6,0,sq,rf,n,cd,nm,ky,d,op⟩&&iB ⟨0,6,0,sq,rf,n,cd,nm,ky,d,op⟩):=by
 unfold fR eY eE eZ hZ iB
 simp only [Int.reduceEq,decide_true,decide_false,cond_true,cond_false,Bool.or_false,Bool.false_or,if_true,if_false,Bool.false_eq_true,Bool.true_or,Bool.true_and,Bool.and_true,Bool.not_true,Bool.not_false]
 grind
theorem aPT {sq rf n cd:Int}{nm ky:List UInt8}{d:aC}{op:bG} (hz:cH d=true→eF d eR=decide (d.Kind=0)):qX ⟨0,7,0,sq,rf,n,cd,nm,ky,d,op⟩ 1=(eY (eZ 7) ⟨0,7,0,sq,rf,n,cd,nm,ky,d,op⟩&&fJ ⟨1,sq,nm,ky,n,d,op⟩):=by
 unfold qX
 simp only
 cases hC:fJ ⟨1,sq,nm,ky,n,d,op⟩
 ·
  simp
 ·
  unfold fJ at hC
  simp only [fG,qU,Int.reduceEq,if_true,if_false,Bool.and_eq_true,Bool.or_eq_true,Bool.not_true,Bool.not_false,Bool.true_or,Bool.false_or,true_and,decide_eq_true_eq] at hC
  unfold eY eZ
  simp only [Int.reduceEq,decide_true,decide_false,cond_true,cond_false,Bool.or_false,Bool.false_or,if_true,if_false,Bool.false_eq_true,Bool.true_or,Bool.true_and,Bool.and_true,or_false,false_or,or_true,true_or]
  grind
theorem aPU {sq rf n cd:Int}{nm ky:List UInt8}{d:aC}{op:bG} (hz:cH d=true→eF d eR=decide (d.Kind=0)):(cH d&&(fR (eE 8) ⟨0,8,0,sq,rf,n,cd,nm,ky,d,op⟩&&(!(eE 8).seq_||inB sq 1 2000)&&(!(eE 8).ref_||inB rf 1 2000)&&hZ ⟨0,8,0,sq,rf,n,cd,nm,ky,d,op⟩))=(eY (eZ 8) ⟨0,8,0,sq,rf,n,cd,nm,ky,d,op⟩&&iB ⟨0,8,0,sq,rf,n,cd,nm,ky,d,op⟩):=by
 unfold fR eY eE eZ hZ iB
 simp only [Int.reduceEq,decide_true,decide_false,cond_true,cond_false,Bool.or_false,Bool.false_or,if_true,if_false,Bool.false_eq_true,Bool.true_or,Bool.true_and,Bool.and_true,Bool.not_true,Bool.not_false]
 grind
theorem aPV {sq rf n cd:Int}{nm ky:List UInt8}{d:aC}{op:bG} (hz:cH d=true→eF d eR=decide (d.Kind=0)):(cH d&&(fR (eE 9) ⟨0,9,0,sq,rf,n,cd,nm,ky,d,op⟩&&(!(eE 9).seq_||inB sq 1 2000)&&(!(eE 9).ref_||inB rf 1 2000)&&hZ ⟨0,9,0,sq,rf,n,cd,nm,ky,d,op⟩))=(eY (eZ 9) ⟨0,9,0,sq,rf,n,cd,nm,ky,d,op⟩&&iB ⟨0,9,0,sq,rf,n,cd,nm,ky,d,op⟩):=by
 unfold fR eY eE eZ hZ iB
 simp only [Int.reduceEq,decide_true,decide_false,cond_true,cond_false,Bool.or_false,Bool.false_or,if_true,if_false,Bool.false_eq_true,Bool.true_or,Bool.true_and,Bool.and_true,Bool.not_true,Bool.not_false]
 grind
theorem aNY {sq rf n cd:Int}{nm ky:List UInt8}{d:aC}{op:bG} (hz:cH d=true→eF d eR=decide (d.Kind=0)):(cH d&&(fR (eE 10) ⟨0,10,0,sq,rf,n,cd,nm,ky,d,op⟩&&(!(eE 10).seq_||inB sq 1 2000)&&(!(eE 10).ref_||inB rf 1 2000)&&hZ ⟨0,10,0,sq,rf,n,cd,nm,ky,d,op⟩))=(eY (eZ 10) ⟨0,10,0,sq,rf,n,cd,nm,ky,d,op⟩&&iB ⟨0,10,0,sq,rf,n,cd,nm,ky,d,op⟩):=by
 unfold fR eY eE eZ hZ iB
 simp only [Int.reduceEq,decide_true,decide_false,cond_true,cond_false,Bool.or_false,Bool.false_or,if_true,if_false,Bool.false_eq_true,Bool.true_or,Bool.true_and,Bool.and_true,Bool.not_true,Bool.not_false]
 grind
theorem aNZ {sq rf n cd:Int}{nm ky:List UInt8}{d:aC}{op:bG} (hz:cH d=true→eF d eR=decide (d.Kind=0)):(cH d&&(fR (eE 11) ⟨0,11,0,sq,rf,n,cd,nm,ky,d,op⟩&&(!(eE 11).seq_||inB sq 1 2000)&&(!(eE 11).ref_||inB rf 1 2000)&&hZ ⟨0,11,0,sq,rf,n,cd,nm,ky,d,op⟩))=(eY (eZ 11) ⟨0,11,0,sq,rf,n,cd,nm,ky,d,op⟩&&iB ⟨0,11,0,sq,rf,n,cd,nm,ky,d,op⟩):=by
 unfold fR eY eE eZ hZ iB
 simp only [Int.reduceEq,decide_true,decide_false,cond_true,cond_false,Bool.or_false,Bool.false_or,if_true,if_false,Bool.false_eq_true,Bool.true_or,Bool.true_and,Bool.and_true,Bool.not_true,Bool.not_false]
 grind
theorem aN0 {sq rf n cd:Int}{nm ky:List UInt8}{d:aC}{op:bG} (hz:cH d=true→eF d eR=decide (d.Kind=0)):qX ⟨0,12,0,sq,rf,n,cd,nm,ky,d,op⟩ 2=(eY (eZ 12) ⟨0,12,0,sq,rf,n,cd,nm,ky,d,op⟩&&fJ ⟨2,sq,nm,ky,n,d,op⟩):=by
 unfold qX
 simp only
 cases hC:fJ ⟨2,sq,nm,ky,n,d,op⟩
 ·
  simp
 ·
  unfold fJ at hC
  simp only [fG,qU,Int.reduceEq,if_true,if_false,Bool.and_eq_true,Bool.or_eq_true,Bool.not_true,Bool.not_false,Bool.true_or,Bool.false_or,true_and,decide_eq_true_eq] at hC
  unfold eY eZ
  simp only [Int.reduceEq,decide_true,decide_false,cond_true,cond_false,Bool.or_false,Bool.false_or,if_true,if_false,Bool.false_eq_true,Bool.true_or,Bool.true_and,Bool.and_true,or_false,false_or,or_true,true_or]
  grind
theorem aN1 {sq rf n cd:Int}{nm ky:List UInt8}{d:aC}{op:bG} (hz:cH d=true→eF d eR=decide (d.Kind=0)):(cH d&&(fR (eE 13) ⟨0,13,0,sq,rf,n,cd,nm,ky,d,op⟩&&(!(eE 13).seq_||inB sq 1 2000)&&(!(eE 13).ref_||inB rf 1 2000)&&hZ ⟨0,13,0,sq,rf,n,cd,nm,ky,d,op⟩))=(eY (eZ 13) ⟨0,13,0,sq,rf,n,cd,nm,ky,d,op⟩&&iB ⟨0,13,0,sq,rf,n,cd,nm,ky,d,op⟩):=by
 unfold fR eY eE eZ hZ iB
 simp only [Int.reduceEq,decide_true,decide_false,cond_true,cond_false,Bool.or_false,Bool.false_or,if_true,if_false,Bool.false_eq_true,Bool.true_or,Bool.true_and,Bool.and_true,Bool.not_true,Bool.not_false]
 grind
theorem aN2 {sq rf n cd:Int}{nm ky:List UInt8}{d:aC}{op:bG} (hz:cH d=true→eF d eR=decide (d.Kind=0)):qX ⟨0,14,0,sq,rf,n,cd,nm,ky,d,op⟩ 3=(eY (eZ 14) ⟨0,14,0,sq,rf,n,cd,nm,ky,d,op⟩&&fJ ⟨3,sq,nm,ky,n,d,op⟩):=by
 unfold qX
 simp only
 cases hC:fJ ⟨3,sq,nm,ky,n,d,op⟩
 ·
  simp
 ·
  unfold fJ at hC
  simp only [fG,qU,Int.reduceEq,if_true,if_false,Bool.and_eq_true,Bool.or_eq_true,Bool.not_true,Bool.not_false,Bool.true_or,Bool.false_or,true_and,decide_eq_true_eq] at hC
  unfold eY eZ
  simp only [Int.reduceEq,decide_true,decide_false,cond_true,cond_false,Bool.or_false,Bool.false_or,if_true,if_false,Bool.false_eq_true,Bool.true_or,Bool.true_and,Bool.and_true,or_false,false_or,or_true,true_or]
  grind
theorem aN3 {sq rf n cd:Int}{nm ky:List UInt8}{d:aC}{op:bG} (hz:cH d=true→eF d eR=decide (d.Kind=0)):(cH d&&(fR (eE 15) ⟨0,15,0,sq,rf,n,cd,nm,ky,d,op⟩&&(!(eE 15).seq_||inB sq 1 2000)&&(!(eE 15).ref_||inB rf 1 2000)&&hZ ⟨0,15,0,sq,rf,n,cd,nm,ky,d,op⟩))=(eY (eZ 15) ⟨0,15,0,sq,rf,n,cd,nm,ky,d,op⟩&&iB ⟨0,15,0,sq,rf,n,cd,nm,ky,d,op⟩):=by
 unfold fR eY eE eZ hZ iB
 simp only [Int.reduceEq,decide_true,decide_false,cond_true,cond_false,Bool.or_false,Bool.false_or,if_true,if_false,Bool.false_eq_true,Bool.true_or,Bool.true_and,Bool.and_true,Bool.not_true,Bool.not_false]
 grind
theorem aN4 {sq rf n cd:Int}{nm ky:List UInt8}{d:aC}{op:bG} (hz:cH d=true→eF d eR=decide (d.Kind=0)):qX ⟨0,16,0,sq,rf,n,cd,nm,ky,d,op⟩ 4=(eY (eZ 16) ⟨0,16,0,sq,rf,n,cd,nm,ky,d,op⟩&&fJ ⟨4,sq,nm,ky,n,d,op⟩):=by
 unfold qX
 simp only
 cases hC:fJ ⟨4,sq,nm,ky,n,d,op⟩
 ·
  simp
 ·
  unfold fJ at hC
  simp only [fG,qU,Int.reduceEq,if_true,if_false,Bool.and_eq_true,Bool.or_eq_true,Bool.not_true,Bool.not_false,Bool.true_or,Bool.false_or,true_and,decide_eq_true_eq] at hC
  unfold eY eZ
  simp only [Int.reduceEq,decide_true,decide_false,cond_true,cond_false,Bool.or_false,Bool.false_or,if_true,if_false,Bool.false_eq_true,Bool.true_or,Bool.true_and,Bool.and_true,or_false,false_or,or_true,true_or]
  grind
theorem aN5 {sq rf n cd:Int}{nm ky:List UInt8}{d:aC}{op:bG} (hz:cH d=true→eF d eR=decide (d.Kind=0)):(cH d&&(fR (eE 17) ⟨0,17,0,sq,rf,n,cd,nm,ky,d,op⟩&&(!(eE 17).seq_||inB sq 1 2000)&&(!(eE 17).ref_||inB rf 1 2000)&&hZ ⟨0,17,0,sq,rf,n,cd,nm,ky,d,op⟩))=(eY (eZ 17) ⟨0,17,0,sq,rf,n,cd,nm,ky,d,op⟩&&iB ⟨0,17,0,sq,rf,n,cd,nm,ky,d,op⟩):=by
 unfold fR eY eE eZ hZ iB
 simp only [Int.reduceEq,decide_true,decide_false,cond_true,cond_false,Bool.or_false,Bool.false_or,if_true,if_false,Bool.false_eq_true,Bool.true_or,Bool.true_and,Bool.and_true,Bool.not_true,Bool.not_false]
 grind
theorem aN6 {sq rf n cd:Int}{nm ky:List UInt8}{d:aC}{op:bG} (hz:cH d=true→eF d eR=decide (d.Kind=0)):qX ⟨0,18,0,sq,rf,n,cd,nm,ky,d,op⟩ 7=(eY (eZ 18) ⟨0,18,0,sq,rf,n,cd,nm,ky,d,op⟩&&fJ ⟨7,sq,nm,ky,n,d,op⟩):=by
 unfold qX
 simp only
 cases hC:fJ ⟨7,sq,nm,ky,n,d,op⟩
 ·
  simp
 ·
  unfold fJ at hC
  simp only [fG,qU,Int.reduceEq,if_true,if_false,Bool.and_eq_true,Bool.or_eq_true,Bool.not_true,Bool.not_false,Bool.true_or,Bool.false_or,true_and,decide_eq_true_eq] at hC
  unfold eY eZ
  simp only [Int.reduceEq,decide_true,decide_false,cond_true,cond_false,Bool.or_false,Bool.false_or,if_true,if_false,Bool.false_eq_true,Bool.true_or,Bool.true_and,Bool.and_true,or_false,false_or,or_true,true_or]
  grind
theorem aN7 {sq rf n cd:Int}{nm ky:List UInt8}{d:aC}{op:bG} (hz:cH d=true→eF d eR=decide (d.Kind=0)):qX ⟨0,19,0,sq,rf,n,cd,nm,ky,d,op⟩ 5=(eY (eZ 19) ⟨0,19,0,sq,rf,n,cd,nm,ky,d,op⟩&&fJ ⟨5,sq,nm,ky,n,d,op⟩):=by
 unfold qX
 simp only
 cases hC:fJ ⟨5,sq,nm,ky,n,d,op⟩
 ·
  simp
 ·
  unfold fJ at hC
  simp only [fG,qU,Int.reduceEq,if_true,if_false,Bool.and_eq_true,Bool.or_eq_true,Bool.not_true,Bool.not_false,Bool.true_or,Bool.false_or,true_and,decide_eq_true_eq] at hC
  unfold eY eZ
  simp only [Int.reduceEq,decide_true,decide_false,cond_true,cond_false,Bool.or_false,Bool.false_or,if_true,if_false,Bool.false_eq_true,Bool.true_or,Bool.true_and,Bool.and_true,or_false,false_or,or_true,true_or]
  grind
theorem aN8 {sq rf n cd:Int}{nm ky:List UInt8}{d:aC}{op:bG} (hz:cH d=true→eF d eR=decide (d.Kind=0)):(cH d&&(fR (eE 20) ⟨0,20,0,sq,rf,n,cd,nm,ky,d,op⟩&&(!(eE 20).seq_||inB sq 1 2000)&&(!(eE 20).ref_||inB rf 1 2000)&&hZ ⟨0,20,0,sq,rf,n,cd,nm,ky,d,op⟩))=(eY (eZ 20) ⟨0,20,0,sq,rf,n,cd,nm,ky,d,op⟩&&iB ⟨0,20,0,sq,rf,n,cd,nm,ky,d,op⟩):=by
 unfold fR eY eE eZ hZ iB
 simp only [Int.reduceEq,decide_true,decide_false,cond_true,cond_false,Bool.or_false,Bool.false_or,if_true,if_false,Bool.false_eq_true,Bool.true_or,Bool.true_and,Bool.and_true,Bool.not_true,Bool.not_false]
 grind
theorem aN9 {sq rf n cd:Int}{nm ky:List UInt8}{d:aC}{op:bG} (hz:cH d=true→eF d eR=decide (d.Kind=0)):(cH d&&(fR (eE 21) ⟨0,21,0,sq,rf,n,cd,nm,ky,d,op⟩&&(!(eE 21).seq_||inB sq 1 2000)&&(!(eE 21).ref_||inB rf 1 2000)&&hZ ⟨0,21,0,sq,rf,n,cd,nm,ky,d,op⟩))=(eY (eZ 21) ⟨0,21,0,sq,rf,n,cd,nm,ky,d,op⟩&&iB ⟨0,21,0,sq,rf,n,cd,nm,ky,d,op⟩):=by
 unfold fR eY eE eZ hZ iB
 simp only [Int.reduceEq,decide_true,decide_false,cond_true,cond_false,Bool.or_false,Bool.false_or,if_true,if_false,Bool.false_eq_true,Bool.true_or,Bool.true_and,Bool.and_true,Bool.not_true,Bool.not_false]
 grind
theorem aOa {sq rf n cd:Int}{nm ky:List UInt8}{d:aC}{op:bG} (hz:cH d=true→eF d eR=decide (d.Kind=0)):(cH d&&(fR (eE 22) ⟨0,22,0,sq,rf,n,cd,nm,ky,d,op⟩&&(!(eE 22).seq_||inB sq 1 2000)&&(!(eE 22).ref_||inB rf 1 2000)&&hZ ⟨0,22,0,sq,rf,n,cd,nm,ky,d,op⟩))=(eY (eZ 22) ⟨0,22,0,sq,rf,n,cd,nm,ky,d,op⟩&&iB ⟨0,22,0,sq,rf,n,cd,nm,ky,d,op⟩):=by
 unfold fR eY eE eZ hZ iB
 simp only [Int.reduceEq,decide_true,decide_false,cond_true,cond_false,Bool.or_false,Bool.false_or,if_true,if_false,Bool.false_eq_true,Bool.true_or,Bool.true_and,Bool.and_true,Bool.not_true,Bool.not_false]
 grind
theorem aOb {sq rf n cd:Int}{nm ky:List UInt8}{d:aC}{op:bG} (hz:cH d=true→eF d eR=decide (d.Kind=0)):qX ⟨0,23,0,sq,rf,n,cd,nm,ky,d,op⟩ 6=(eY (eZ 23) ⟨0,23,0,sq,rf,n,cd,nm,ky,d,op⟩&&fJ ⟨6,sq,nm,ky,n,d,op⟩):=by
 unfold qX
 simp only
 cases hC:fJ ⟨6,sq,nm,ky,n,d,op⟩
 ·
  simp
 ·
  unfold fJ at hC
  simp only [fG,qU,Int.reduceEq,if_true,if_false,Bool.and_eq_true,Bool.or_eq_true,Bool.not_true,Bool.not_false,Bool.true_or,Bool.false_or,true_and,decide_eq_true_eq] at hC
  unfold eY eZ
  simp only [Int.reduceEq,decide_true,decide_false,cond_true,cond_false,Bool.or_false,Bool.false_or,if_true,if_false,Bool.false_eq_true,Bool.true_or,Bool.true_and,Bool.and_true,or_false,false_or,or_true,true_or]
  grind
theorem aOc {sq rf n cd:Int}{nm ky:List UInt8}{d:aC}{op:bG} (hz:cH d=true→eF d eR=decide (d.Kind=0)):(cH d&&(fR (eE 24) ⟨0,24,0,sq,rf,n,cd,nm,ky,d,op⟩&&(!(eE 24).seq_||inB sq 1 2000)&&(!(eE 24).ref_||inB rf 1 2000)&&hZ ⟨0,24,0,sq,rf,n,cd,nm,ky,d,op⟩))=(eY (eZ 24) ⟨0,24,0,sq,rf,n,cd,nm,ky,d,op⟩&&iB ⟨0,24,0,sq,rf,n,cd,nm,ky,d,op⟩):=by
 unfold fR eY eE eZ hZ iB
 simp only [Int.reduceEq,decide_true,decide_false,cond_true,cond_false,Bool.or_false,Bool.false_or,if_true,if_false,Bool.false_eq_true,Bool.true_or,Bool.true_and,Bool.and_true,Bool.not_true,Bool.not_false]
 grind
theorem aOd {sq rf n cd:Int}{nm ky:List UInt8}{d:aC}{op:bG} (hz:cH d=true→eF d eR=decide (d.Kind=0)):(cH d&&(fR (eE 25) ⟨0,25,0,sq,rf,n,cd,nm,ky,d,op⟩&&(!(eE 25).seq_||inB sq 1 2000)&&(!(eE 25).ref_||inB rf 1 2000)&&hZ ⟨0,25,0,sq,rf,n,cd,nm,ky,d,op⟩))=(eY (eZ 25) ⟨0,25,0,sq,rf,n,cd,nm,ky,d,op⟩&&iB ⟨0,25,0,sq,rf,n,cd,nm,ky,d,op⟩):=by
 unfold fR eY eE eZ hZ iB
 simp only [Int.reduceEq,decide_true,decide_false,cond_true,cond_false,Bool.or_false,Bool.false_or,if_true,if_false,Bool.false_eq_true,Bool.true_or,Bool.true_and,Bool.and_true,Bool.not_true,Bool.not_false]
 grind
theorem aOe {sq rf n cd:Int}{nm ky:List UInt8}{d:aC}{op:bG} (hz:cH d=true→eF d eR=decide (d.Kind=0)):(cH d&&(fR (eE 26) ⟨0,26,0,sq,rf,n,cd,nm,ky,d,op⟩&&(!(eE 26).seq_||inB sq 1 2000)&&(!(eE 26).ref_||inB rf 1 2000)&&hZ ⟨0,26,0,sq,rf,n,cd,nm,ky,d,op⟩))=(eY (eZ 26) ⟨0,26,0,sq,rf,n,cd,nm,ky,d,op⟩&&iB ⟨0,26,0,sq,rf,n,cd,nm,ky,d,op⟩):=by
 unfold fR eY eE eZ hZ iB
 simp only [Int.reduceEq,decide_true,decide_false,cond_true,cond_false,Bool.or_false,Bool.false_or,if_true,if_false,Bool.false_eq_true,Bool.true_or,Bool.true_and,Bool.and_true,Bool.not_true,Bool.not_false]
 grind
theorem aOf {sq rf n cd:Int}{nm ky:List UInt8}{d:aC}{op:bG} (hz:cH d=true→eF d eR=decide (d.Kind=0)):qX ⟨0,27,0,sq,rf,n,cd,nm,ky,d,op⟩ 8=(eY (eZ 27) ⟨0,27,0,sq,rf,n,cd,nm,ky,d,op⟩&&fJ ⟨8,sq,nm,ky,n,d,op⟩):=by
 unfold qX
 simp only
 cases hC:fJ ⟨8,sq,nm,ky,n,d,op⟩
 ·
  simp
 ·
  unfold fJ at hC
  simp only [fG,qU,Int.reduceEq,if_true,if_false,Bool.and_eq_true,Bool.or_eq_true,Bool.not_true,Bool.not_false,Bool.true_or,Bool.false_or,true_and,decide_eq_true_eq] at hC
  unfold eY eZ
  simp only [Int.reduceEq,decide_true,decide_false,cond_true,cond_false,Bool.or_false,Bool.false_or,if_true,if_false,Bool.false_eq_true,Bool.true_or,Bool.true_and,Bool.and_true,or_false,false_or,or_true,true_or]
  grind
theorem aOg {sq rf n cd:Int}{nm ky:List UInt8}{d:aC}{op:bG} (hz:cH d=true→eF d eR=decide (d.Kind=0)):qX ⟨0,28,0,sq,rf,n,cd,nm,ky,d,op⟩ 9=(eY (eZ 28) ⟨0,28,0,sq,rf,n,cd,nm,ky,d,op⟩&&fJ ⟨9,sq,nm,ky,n,d,op⟩):=by
 unfold qX
 simp only
 cases hC:fJ ⟨9,sq,nm,ky,n,d,op⟩
 ·
  simp
 ·
  unfold fJ at hC
  simp only [fG,qU,Int.reduceEq,if_true,if_false,Bool.and_eq_true,Bool.or_eq_true,Bool.not_true,Bool.not_false,Bool.true_or,Bool.false_or,true_and,decide_eq_true_eq] at hC
  unfold eY eZ
  simp only [Int.reduceEq,decide_true,decide_false,cond_true,cond_false,Bool.or_false,Bool.false_or,if_true,if_false,Bool.false_eq_true,Bool.true_or,Bool.true_and,Bool.and_true,or_false,false_or,or_true,true_or]
  grind
theorem aOh {sq rf n cd:Int}{nm ky:List UInt8}{d:aC}{op:bG} (hz:cH d=true→eF d eR=decide (d.Kind=0)):qX ⟨0,29,0,sq,rf,n,cd,nm,ky,d,op⟩ 10=(eY (eZ 29) ⟨0,29,0,sq,rf,n,cd,nm,ky,d,op⟩&&fJ ⟨10,sq,nm,ky,n,d,op⟩):=by
 unfold qX
 simp only
 cases hC:fJ ⟨10,sq,nm,ky,n,d,op⟩
 ·
  simp
 ·
  unfold fJ at hC
  simp only [fG,qU,Int.reduceEq,if_true,if_false,Bool.and_eq_true,Bool.or_eq_true,Bool.not_true,Bool.not_false,Bool.true_or,Bool.false_or,true_and,decide_eq_true_eq] at hC
  unfold eY eZ
  simp only [Int.reduceEq,decide_true,decide_false,cond_true,cond_false,Bool.or_false,Bool.false_or,if_true,if_false,Bool.false_eq_true,Bool.true_or,Bool.true_and,Bool.and_true,or_false,false_or,or_true,true_or]
  grind
theorem aOi {sq rf n cd:Int}{nm ky:List UInt8}{d:aC}{op:bG} (hz:cH d=true→eF d eR=decide (d.Kind=0)):qX ⟨0,30,0,sq,rf,n,cd,nm,ky,d,op⟩ 11=(eY (eZ 30) ⟨0,30,0,sq,rf,n,cd,nm,ky,d,op⟩&&fJ ⟨11,sq,nm,ky,n,d,op⟩):=by
 unfold qX
 simp only
 cases hC:fJ ⟨11,sq,nm,ky,n,d,op⟩
 ·
  simp
 ·
  unfold fJ at hC
  simp only [fG,qU,Int.reduceEq,if_true,if_false,Bool.and_eq_true,Bool.or_eq_true,Bool.not_true,Bool.not_false,Bool.true_or,Bool.false_or,true_and,decide_eq_true_eq] at hC
  unfold eY eZ
  simp only [Int.reduceEq,decide_true,decide_false,cond_true,cond_false,Bool.or_false,Bool.false_or,if_true,if_false,Bool.false_eq_true,Bool.true_or,Bool.true_and,Bool.and_true,or_false,false_or,or_true,true_or]
  grind
theorem aOj {sq rf n cd:Int}{nm ky:List UInt8}{d:aC}{op:bG} (hz:cH d=true→eF d eR=decide (d.Kind=0)):qX ⟨0,31,0,sq,rf,n,cd,nm,ky,d,op⟩ 12=(eY (eZ 31) ⟨0,31,0,sq,rf,n,cd,nm,ky,d,op⟩&&fJ ⟨12,sq,nm,ky,n,d,op⟩):=by
 unfold qX
 simp only
 cases hC:fJ ⟨12,sq,nm,ky,n,d,op⟩
 ·
  simp
 ·
  unfold fJ at hC
  simp only [fG,qU,Int.reduceEq,if_true,if_false,Bool.and_eq_true,Bool.or_eq_true,Bool.not_true,Bool.not_false,Bool.true_or,Bool.false_or,true_and,decide_eq_true_eq] at hC
  unfold eY eZ
  simp only [Int.reduceEq,decide_true,decide_false,cond_true,cond_false,Bool.or_false,Bool.false_or,if_true,if_false,Bool.false_eq_true,Bool.true_or,Bool.true_and,Bool.and_true,or_false,false_or,or_true,true_or]
  grind
theorem aOk {sq rf n cd:Int}{nm ky:List UInt8}{d:aC}{op:bG} (hz:cH d=true→eF d eR=decide (d.Kind=0)):qX ⟨0,32,0,sq,rf,n,cd,nm,ky,d,op⟩ 13=(eY (eZ 32) ⟨0,32,0,sq,rf,n,cd,nm,ky,d,op⟩&&fJ ⟨13,sq,nm,ky,n,d,op⟩):=by
 unfold qX
 simp only
 cases hC:fJ ⟨13,sq,nm,ky,n,d,op⟩
 ·
  simp
 ·
  unfold fJ at hC
  simp only [fG,qU,Int.reduceEq,if_true,if_false,Bool.and_eq_true,Bool.or_eq_true,Bool.not_true,Bool.not_false,Bool.true_or,Bool.false_or,true_and,decide_eq_true_eq] at hC
  unfold eY eZ
  simp only [Int.reduceEq,decide_true,decide_false,cond_true,cond_false,Bool.or_false,Bool.false_or,if_true,if_false,Bool.false_eq_true,Bool.true_or,Bool.true_and,Bool.and_true,or_false,false_or,or_true,true_or]
  grind
theorem aOl {sq rf n cd:Int}{nm ky:List UInt8}{d:aC}{op:bG} (hz:cH d=true→eF d eR=decide (d.Kind=0)):(cH d&&(fR (eE 33) ⟨0,33,0,sq,rf,n,cd,nm,ky,d,op⟩&&(!(eE 33).seq_||inB sq 1 2000)&&(!(eE 33).ref_||inB rf 1 2000)&&hZ ⟨0,33,0,sq,rf,n,cd,nm,ky,d,op⟩))=(eY (eZ 33) ⟨0,33,0,sq,rf,n,cd,nm,ky,d,op⟩&&iB ⟨0,33,0,sq,rf,n,cd,nm,ky,d,op⟩):=by
 unfold fR eY eE eZ hZ iB
 simp only [Int.reduceEq,decide_true,decide_false,cond_true,cond_false,Bool.or_false,Bool.false_or,if_true,if_false,Bool.false_eq_true,Bool.true_or,Bool.true_and,Bool.and_true,Bool.not_true,Bool.not_false]
 grind
theorem aOm {sq rf n cd:Int}{nm ky:List UInt8}{d:aC}{op:bG} (hz:cH d=true→eF d eR=decide (d.Kind=0)):(cH d&&(fR (eE 34) ⟨0,34,0,sq,rf,n,cd,nm,ky,d,op⟩&&(!(eE 34).seq_||inB sq 1 2000)&&(!(eE 34).ref_||inB rf 1 2000)&&hZ ⟨0,34,0,sq,rf,n,cd,nm,ky,d,op⟩))=(eY (eZ 34) ⟨0,34,0,sq,rf,n,cd,nm,ky,d,op⟩&&iB ⟨0,34,0,sq,rf,n,cd,nm,ky,d,op⟩):=by
 unfold fR eY eE eZ hZ iB
 simp only [Int.reduceEq,decide_true,decide_false,cond_true,cond_false,Bool.or_false,Bool.false_or,if_true,if_false,Bool.false_eq_true,Bool.true_or,Bool.true_and,Bool.and_true,Bool.not_true,Bool.not_false]
 grind
theorem aOn {sq rf n cd:Int}{nm ky:List UInt8}{d:aC}{op:bG} (hz:cH d=true→eF d eR=decide (d.Kind=0)):qX ⟨0,35,0,sq,rf,n,cd,nm,ky,d,op⟩ 14=(eY (eZ 35) ⟨0,35,0,sq,rf,n,cd,nm,ky,d,op⟩&&fJ ⟨14,sq,nm,ky,n,d,op⟩):=by
 unfold qX
 simp only
 cases hC:fJ ⟨14,sq,nm,ky,n,d,op⟩
 ·
  simp
 ·
  unfold fJ at hC
  simp only [fG,qU,Int.reduceEq,if_true,if_false,Bool.and_eq_true,Bool.or_eq_true,Bool.not_true,Bool.not_false,Bool.true_or,Bool.false_or,true_and,decide_eq_true_eq] at hC
  unfold eY eZ
  simp only [Int.reduceEq,decide_true,decide_false,cond_true,cond_false,Bool.or_false,Bool.false_or,if_true,if_false,Bool.false_eq_true,Bool.true_or,Bool.true_and,Bool.and_true,or_false,false_or,or_true,true_or]
  grind
end Go.Proofs.YtnigjppddilpcaaGreatDoor
namespace Go.Proofs.YtnigjppddilpcaaGreatDoor
open Go Abs
set_option linter.unusedSimpArgs false
set_option linter.unusedVariables false
set_option maxRecDepth 20000
theorem pA {u:dZ}{e:bI} (h:cH e.Data=false):eY u e=false:=by unfold eY;simp [h]
noncomputable def fE (e:bI):Bool:=cH e.Data&&(if dP e.Kind=0 then fR (eE e.Kind) e&&(!(eE e.Kind).seq_||inB e.Seq 1 2000)&&(!(eE e.Kind).ref_||inB e.Ref 1 2000)&&hZ e else qX e (dP e.Kind))
noncomputable def fF (e:bI):Bool:=eY (eZ e.Kind) e&&(if dP e.Kind=0 then iB e else fJ ⟨dP e.Kind,e.Seq,e.Name,e.Key,e.N,e.Data,e.Opts⟩)
theorem aR1 {id t sq rf n cd:Int}{nm ky:List UInt8}{d:aC}{op:bG} (hz:cH d=true→eF d eR=decide (d.Kind=0)):fE ⟨id,1,t,sq,rf,n,cd,nm,ky,d,op⟩=fF ⟨id,1,t,sq,rf,n,cd,nm,ky,d,op⟩:=by
 unfold fE fF
 simp only
 rw [if_pos (show dP 1=0 from rfl),if_pos (show dP 1=0 from rfl)]
 exact aPN (sq:=sq) (rf:=rf) (n:=n) (cd:=cd) (nm:=nm) (ky:=ky) (op:=op) hz
theorem aR2 {id t sq rf n cd:Int}{nm ky:List UInt8}{d:aC}{op:bG} (hz:cH d=true→eF d eR=decide (d.Kind=0)):fE ⟨id,2,t,sq,rf,n,cd,nm,ky,d,op⟩=fF ⟨id,2,t,sq,rf,n,cd,nm,ky,d,op⟩:=by
 unfold fE fF
 simp only
 rw [if_pos (show dP 2=0 from rfl),if_pos (show dP 2=0 from rfl)]
 exact aPO (sq:=sq) (rf:=rf) (n:=n) (cd:=cd) (nm:=nm) (ky:=ky) (op:=op) hz
theorem aR3 {id t sq rf n cd:Int}{nm ky:List UInt8}{d:aC}{op:bG} (hz:cH d=true→eF d eR=decide (d.Kind=0)):fE ⟨id,3,t,sq,rf,n,cd,nm,ky,d,op⟩=fF ⟨id,3,t,sq,rf,n,cd,nm,ky,d,op⟩:=by
 unfold fE fF
 simp only
 rw [if_pos (show dP 3=0 from rfl),if_pos (show dP 3=0 from rfl)]
 exact aPP (sq:=sq) (rf:=rf) (n:=n) (cd:=cd) (nm:=nm) (ky:=ky) (op:=op) hz
theorem aR4 {id t sq rf n cd:Int}{nm ky:List UInt8}{d:aC}{op:bG} (hz:cH d=true→eF d eR=decide (d.Kind=0)):fE ⟨id,4,t,sq,rf,n,cd,nm,ky,d,op⟩=fF ⟨id,4,t,sq,rf,n,cd,nm,ky,d,op⟩:=by
 unfold fE fF
 simp only
 rw [if_pos (show dP 4=0 from rfl),if_pos (show dP 4=0 from rfl)]
 exact aPQ (sq:=sq) (rf:=rf) (n:=n) (cd:=cd) (nm:=nm) (ky:=ky) (op:=op) hz
theorem aR5 {id t sq rf n cd:Int}{nm ky:List UInt8}{d:aC}{op:bG} (hz:cH d=true→eF d eR=decide (d.Kind=0)):fE ⟨id,5,t,sq,rf,n,cd,nm,ky,d,op⟩=fF ⟨id,5,t,sq,rf,n,cd,nm,ky,d,op⟩:=by
 unfold fE fF
 simp only
 rw [if_pos (show dP 5=0 from rfl),if_pos (show dP 5=0 from rfl)]
 exact aPR (sq:=sq) (rf:=rf) (n:=n) (cd:=cd) (nm:=nm) (ky:=ky) (op:=op) hz
theorem aR6 {id t sq rf n cd:Int}{nm ky:List UInt8}{d:aC}{op:bG} (hz:cH d=true→eF d eR=decide (d.Kind=0)):fE ⟨id,6,t,sq,rf,n,cd,nm,ky,d,op⟩=fF ⟨id,6,t,sq,rf,n,cd,nm,ky,d,op⟩:=by
 unfold fE fF
 simp only
 rw [if_pos (show dP 6=0 from rfl),if_pos (show dP 6=0 from rfl)]
 exact aPS (sq:=sq) (rf:=rf) (n:=n) (cd:=cd) (nm:=nm) (ky:=ky) (op:=op) hz
theorem aR7 {id t sq rf n cd:Int}{nm ky:List UInt8}{d:aC}{op:bG} (hz:cH d=true→eF d eR=decide (d.Kind=0)):fE ⟨id,7,t,sq,rf,n,cd,nm,ky,d,op⟩=fF ⟨id,7,t,sq,rf,n,cd,nm,ky,d,op⟩:=by
 unfold fE fF
 simp only
 rw [if_neg (show ¬dP 7=0 by decide),if_neg (show ¬dP 7=0 by decide),show dP 7=1 from rfl]
 have h:=aPT (sq:=sq) (rf:=rf) (n:=n) (cd:=cd) (nm:=nm) (ky:=ky) (op:=op) hz
 cases hv:cH d
 ·
  rw [pA hv];rfl
 ·
  exact h
theorem aR8 {id t sq rf n cd:Int}{nm ky:List UInt8}{d:aC}{op:bG} (hz:cH d=true→eF d eR=decide (d.Kind=0)):fE ⟨id,8,t,sq,rf,n,cd,nm,ky,d,op⟩=fF ⟨id,8,t,sq,rf,n,cd,nm,ky,d,op⟩:=by
 unfold fE fF
 simp only
 rw [if_pos (show dP 8=0 from rfl),if_pos (show dP 8=0 from rfl)]
 exact aPU (sq:=sq) (rf:=rf) (n:=n) (cd:=cd) (nm:=nm) (ky:=ky) (op:=op) hz
theorem aR9 {id t sq rf n cd:Int}{nm ky:List UInt8}{d:aC}{op:bG} (hz:cH d=true→eF d eR=decide (d.Kind=0)):fE ⟨id,9,t,sq,rf,n,cd,nm,ky,d,op⟩=fF ⟨id,9,t,sq,rf,n,cd,nm,ky,d,op⟩:=by
 unfold fE fF
 simp only
 rw [if_pos (show dP 9=0 from rfl),if_pos (show dP 9=0 from rfl)]
 exact aPV (sq:=sq) (rf:=rf) (n:=n) (cd:=cd) (nm:=nm) (ky:=ky) (op:=op) hz
theorem aQR {id t sq rf n cd:Int}{nm ky:List UInt8}{d:aC}{op:bG} (hz:cH d=true→eF d eR=decide (d.Kind=0)):fE ⟨id,10,t,sq,rf,n,cd,nm,ky,d,op⟩=fF ⟨id,10,t,sq,rf,n,cd,nm,ky,d,op⟩:=by
 unfold fE fF
 simp only
 rw [if_pos (show dP 10=0 from rfl),if_pos (show dP 10=0 from rfl)]
 exact aNY (sq:=sq) (rf:=rf) (n:=n) (cd:=cd) (nm:=nm) (ky:=ky) (op:=op) hz
theorem aQS {id t sq rf n cd:Int}{nm ky:List UInt8}{d:aC}{op:bG} (hz:cH d=true→eF d eR=decide (d.Kind=0)):fE ⟨id,11,t,sq,rf,n,cd,nm,ky,d,op⟩=fF ⟨id,11,t,sq,rf,n,cd,nm,ky,d,op⟩:=by
 unfold fE fF
 simp only
 rw [if_pos (show dP 11=0 from rfl),if_pos (show dP 11=0 from rfl)]
 exact aNZ (sq:=sq) (rf:=rf) (n:=n) (cd:=cd) (nm:=nm) (ky:=ky) (op:=op) hz
theorem aQT {id t sq rf n cd:Int}{nm ky:List UInt8}{d:aC}{op:bG} (hz:cH d=true→eF d eR=decide (d.Kind=0)):fE ⟨id,12,t,sq,rf,n,cd,nm,ky,d,op⟩=fF ⟨id,12,t,sq,rf,n,cd,nm,ky,d,op⟩:=by
 unfold fE fF
 simp only
 rw [if_neg (show ¬dP 12=0 by decide),if_neg (show ¬dP 12=0 by decide),show dP 12=2 from rfl]
 have h:=aN0 (sq:=sq) (rf:=rf) (n:=n) (cd:=cd) (nm:=nm) (ky:=ky) (op:=op) hz
 cases hv:cH d
 ·
  rw [pA hv];rfl
 ·
  exact h
theorem aQU {id t sq rf n cd:Int}{nm ky:List UInt8}{d:aC}{op:bG} (hz:cH d=true→eF d eR=decide (d.Kind=0)):fE ⟨id,13,t,sq,rf,n,cd,nm,ky,d,op⟩=fF ⟨id,13,t,sq,rf,n,cd,nm,ky,d,op⟩:=by
 unfold fE fF
 simp only
 rw [if_pos (show dP 13=0 from rfl),if_pos (show dP 13=0 from rfl)]
 exact aN1 (sq:=sq) (rf:=rf) (n:=n) (cd:=cd) (nm:=nm) (ky:=ky) (op:=op) hz
theorem aQV {id t sq rf n cd:Int}{nm ky:List UInt8}{d:aC}{op:bG} (hz:cH d=true→eF d eR=decide (d.Kind=0)):fE ⟨id,14,t,sq,rf,n,cd,nm,ky,d,op⟩=fF ⟨id,14,t,sq,rf,n,cd,nm,ky,d,op⟩:=by
 unfold fE fF
 simp only
 rw [if_neg (show ¬dP 14=0 by decide),if_neg (show ¬dP 14=0 by decide),show dP 14=3 from rfl]
 have h:=aN2 (sq:=sq) (rf:=rf) (n:=n) (cd:=cd) (nm:=nm) (ky:=ky) (op:=op) hz
 cases hv:cH d
 ·
  rw [pA hv];rfl
 ·
  exact h
theorem aQW {id t sq rf n cd:Int}{nm ky:List UInt8}{d:aC}{op:bG} (hz:cH d=true→eF d eR=decide (d.Kind=0)):fE ⟨id,15,t,sq,rf,n,cd,nm,ky,d,op⟩=fF ⟨id,15,t,sq,rf,n,cd,nm,ky,d,op⟩:=by
 unfold fE fF
 simp only
 rw [if_pos (show dP 15=0 from rfl),if_pos (show dP 15=0 from rfl)]
 exact aN3 (sq:=sq) (rf:=rf) (n:=n) (cd:=cd) (nm:=nm) (ky:=ky) (op:=op) hz
theorem aQX {id t sq rf n cd:Int}{nm ky:List UInt8}{d:aC}{op:bG} (hz:cH d=true→eF d eR=decide (d.Kind=0)):fE ⟨id,16,t,sq,rf,n,cd,nm,ky,d,op⟩=fF ⟨id,16,t,sq,rf,n,cd,nm,ky,d,op⟩:=by
 unfold fE fF
 simp only
 rw [if_neg (show ¬dP 16=0 by decide),if_neg (show ¬dP 16=0 by decide),show dP 16=4 from rfl]
 have h:=aN4 (sq:=sq) (rf:=rf) (n:=n) (cd:=cd) (nm:=nm) (ky:=ky) (op:=op) hz
 cases hv:cH d
 ·
  rw [pA hv];rfl
 ·
  exact h
theorem aQY {id t sq rf n cd:Int}{nm ky:List UInt8}{d:aC}{op:bG} (hz:cH d=true→eF d eR=decide (d.Kind=0)):fE ⟨id,17,t,sq,rf,n,cd,nm,ky,d,op⟩=fF ⟨id,17,t,sq,rf,n,cd,nm,ky,d,op⟩:=by
 unfold fE fF
 simp only
 rw [if_pos (show dP 17=0 from rfl),if_pos (show dP 17=0 from rfl)]
 exact aN5 (sq:=sq) (rf:=rf) (n:=n) (cd:=cd) (nm:=nm) (ky:=ky) (op:=op) hz
theorem aQZ {id t sq rf n cd:Int}{nm ky:List UInt8}{d:aC}{op:bG} (hz:cH d=true→eF d eR=decide (d.Kind=0)):fE ⟨id,18,t,sq,rf,n,cd,nm,ky,d,op⟩=fF ⟨id,18,t,sq,rf,n,cd,nm,ky,d,op⟩:=by
 unfold fE fF
 simp only
 rw [if_neg (show ¬dP 18=0 by decide),if_neg (show ¬dP 18=0 by decide),show dP 18=7 from rfl]
 have h:=aN6 (sq:=sq) (rf:=rf) (n:=n) (cd:=cd) (nm:=nm) (ky:=ky) (op:=op) hz
 cases hv:cH d
 ·
  rw [pA hv];rfl
 ·
  exact h
theorem aQ0 {id t sq rf n cd:Int}{nm ky:List UInt8}{d:aC}{op:bG} (hz:cH d=true→eF d eR=decide (d.Kind=0)):fE ⟨id,19,t,sq,rf,n,cd,nm,ky,d,op⟩=fF ⟨id,19,t,sq,rf,n,cd,nm,ky,d,op⟩:=by
 unfold fE fF
 simp only
 rw [if_neg (show ¬dP 19=0 by decide),if_neg (show ¬dP 19=0 by decide),show dP 19=5 from rfl]
 have h:=aN7 (sq:=sq) (rf:=rf) (n:=n) (cd:=cd) (nm:=nm) (ky:=ky) (op:=op) hz
 cases hv:cH d
 ·
  rw [pA hv];rfl
 ·
  exact h
theorem aQ1 {id t sq rf n cd:Int}{nm ky:List UInt8}{d:aC}{op:bG} (hz:cH d=true→eF d eR=decide (d.Kind=0)):fE ⟨id,20,t,sq,rf,n,cd,nm,ky,d,op⟩=fF ⟨id,20,t,sq,rf,n,cd,nm,ky,d,op⟩:=by
 unfold fE fF
 simp only
 rw [if_pos (show dP 20=0 from rfl),if_pos (show dP 20=0 from rfl)]
 exact aN8 (sq:=sq) (rf:=rf) (n:=n) (cd:=cd) (nm:=nm) (ky:=ky) (op:=op) hz
theorem aQ2 {id t sq rf n cd:Int}{nm ky:List UInt8}{d:aC}{op:bG} (hz:cH d=true→eF d eR=decide (d.Kind=0)):fE ⟨id,21,t,sq,rf,n,cd,nm,ky,d,op⟩=fF ⟨id,21,t,sq,rf,n,cd,nm,ky,d,op⟩:=by
 unfold fE fF
 simp only
 rw [if_pos (show dP 21=0 from rfl),if_pos (show dP 21=0 from rfl)]
 exact aN9 (sq:=sq) (rf:=rf) (n:=n) (cd:=cd) (nm:=nm) (ky:=ky) (op:=op) hz
theorem aQ3 {id t sq rf n cd:Int}{nm ky:List UInt8}{d:aC}{op:bG} (hz:cH d=true→eF d eR=decide (d.Kind=0)):fE ⟨id,22,t,sq,rf,n,cd,nm,ky,d,op⟩=fF ⟨id,22,t,sq,rf,n,cd,nm,ky,d,op⟩:=by
 unfold fE fF
 simp only
 rw [if_pos (show dP 22=0 from rfl),if_pos (show dP 22=0 from rfl)]
 exact aOa (sq:=sq) (rf:=rf) (n:=n) (cd:=cd) (nm:=nm) (ky:=ky) (op:=op) hz
theorem aQ4 {id t sq rf n cd:Int}{nm ky:List UInt8}{d:aC}{op:bG} (hz:cH d=true→eF d eR=decide (d.Kind=0)):fE ⟨id,23,t,sq,rf,n,cd,nm,ky,d,op⟩=fF ⟨id,23,t,sq,rf,n,cd,nm,ky,d,op⟩:=by
 unfold fE fF
 simp only
 rw [if_neg (show ¬dP 23=0 by decide),if_neg (show ¬dP 23=0 by decide),show dP 23=6 from rfl]
 have h:=aOb (sq:=sq) (rf:=rf) (n:=n) (cd:=cd) (nm:=nm) (ky:=ky) (op:=op) hz
 cases hv:cH d
 ·
  rw [pA hv];rfl
 ·
  exact h
theorem aQ5 {id t sq rf n cd:Int}{nm ky:List UInt8}{d:aC}{op:bG} (hz:cH d=true→eF d eR=decide (d.Kind=0)):fE ⟨id,24,t,sq,rf,n,cd,nm,ky,d,op⟩=fF ⟨id,24,t,sq,rf,n,cd,nm,ky,d,op⟩:=by
 unfold fE fF
 simp only
 rw [if_pos (show dP 24=0 from rfl),if_pos (show dP 24=0 from rfl)]
 exact aOc (sq:=sq) (rf:=rf) (n:=n) (cd:=cd) (nm:=nm) (ky:=ky) (op:=op) hz
theorem aQ6 {id t sq rf n cd:Int}{nm ky:List UInt8}{d:aC}{op:bG} (hz:cH d=true→eF d eR=decide (d.Kind=0)):fE ⟨id,25,t,sq,rf,n,cd,nm,ky,d,op⟩=fF ⟨id,25,t,sq,rf,n,cd,nm,ky,d,op⟩:=by
 unfold fE fF
 simp only
 rw [if_pos (show dP 25=0 from rfl),if_pos (show dP 25=0 from rfl)]
 exact aOd (sq:=sq) (rf:=rf) (n:=n) (cd:=cd) (nm:=nm) (ky:=ky) (op:=op) hz
theorem aQ7 {id t sq rf n cd:Int}{nm ky:List UInt8}{d:aC}{op:bG} (hz:cH d=true→eF d eR=decide (d.Kind=0)):fE ⟨id,26,t,sq,rf,n,cd,nm,ky,d,op⟩=fF ⟨id,26,t,sq,rf,n,cd,nm,ky,d,op⟩:=by
 unfold fE fF
 simp only
 rw [if_pos (show dP 26=0 from rfl),if_pos (show dP 26=0 from rfl)]
 exact aOe (sq:=sq) (rf:=rf) (n:=n) (cd:=cd) (nm:=nm) (ky:=ky) (op:=op) hz
theorem aQ8 {id t sq rf n cd:Int}{nm ky:List UInt8}{d:aC}{op:bG} (hz:cH d=true→eF d eR=decide (d.Kind=0)):fE ⟨id,27,t,sq,rf,n,cd,nm,ky,d,op⟩=fF ⟨id,27,t,sq,rf,n,cd,nm,ky,d,op⟩:=by
 unfold fE fF
 simp only
 rw [if_neg (show ¬dP 27=0 by decide),if_neg (show ¬dP 27=0 by decide),show dP 27=8 from rfl]
 have h:=aOf (sq:=sq) (rf:=rf) (n:=n) (cd:=cd) (nm:=nm) (ky:=ky) (op:=op) hz
 cases hv:cH d
 ·
  rw [pA hv];rfl
 ·
  exact h
theorem aQ9 {id t sq rf n cd:Int}{nm ky:List UInt8}{d:aC}{op:bG} (hz:cH d=true→eF d eR=decide (d.Kind=0)):fE ⟨id,28,t,sq,rf,n,cd,nm,ky,d,op⟩=fF ⟨id,28,t,sq,rf,n,cd,nm,ky,d,op⟩:=by
 unfold fE fF
 simp only
 rw [if_neg (show ¬dP 28=0 by decide),if_neg (show ¬dP 28=0 by decide),show dP 28=9 from rfl]
 have h:=aOg (sq:=sq) (rf:=rf) (n:=n) (cd:=cd) (nm:=nm) (ky:=ky) (op:=op) hz
 cases hv:cH d
 ·
  rw [pA hv];rfl
 ·
  exact h
theorem aRa {id t sq rf n cd:Int}{nm ky:List UInt8}{d:aC}{op:bG} (hz:cH d=true→eF d eR=decide (d.Kind=0)):fE ⟨id,29,t,sq,rf,n,cd,nm,ky,d,op⟩=fF ⟨id,29,t,sq,rf,n,cd,nm,ky,d,op⟩:=by
 unfold fE fF
 simp only
 rw [if_neg (show ¬dP 29=0 by decide),if_neg (show ¬dP 29=0 by decide),show dP 29=10 from rfl]
 have h:=aOh (sq:=sq) (rf:=rf) (n:=n) (cd:=cd) (nm:=nm) (ky:=ky) (op:=op) hz
 cases hv:cH d
 ·
  rw [pA hv];rfl
 ·
  exact h
theorem aRb {id t sq rf n cd:Int}{nm ky:List UInt8}{d:aC}{op:bG} (hz:cH d=true→eF d eR=decide (d.Kind=0)):fE ⟨id,30,t,sq,rf,n,cd,nm,ky,d,op⟩=fF ⟨id,30,t,sq,rf,n,cd,nm,ky,d,op⟩:=by
 unfold fE fF
 simp only
 rw [if_neg (show ¬dP 30=0 by decide),if_neg (show ¬dP 30=0 by decide),show dP 30=11 from rfl]
 have h:=aOi (sq:=sq) (rf:=rf) (n:=n) (cd:=cd) (nm:=nm) (ky:=ky) (op:=op) hz
 cases hv:cH d
 ·
  rw [pA hv];rfl
 ·
  exact h
theorem aRc {id t sq rf n cd:Int}{nm ky:List UInt8}{d:aC}{op:bG} (hz:cH d=true→eF d eR=decide (d.Kind=0)):fE ⟨id,31,t,sq,rf,n,cd,nm,ky,d,op⟩=fF ⟨id,31,t,sq,rf,n,cd,nm,ky,d,op⟩:=by
 unfold fE fF
 simp only
 rw [if_neg (show ¬dP 31=0 by decide),if_neg (show ¬dP 31=0 by decide),show dP 31=12 from rfl]
 have h:=aOj (sq:=sq) (rf:=rf) (n:=n) (cd:=cd) (nm:=nm) (ky:=ky) (op:=op) hz
 cases hv:cH d
 ·
  rw [pA hv];rfl
 ·
  exact h
theorem aRd {id t sq rf n cd:Int}{nm ky:List UInt8}{d:aC}{op:bG} (hz:cH d=true→eF d eR=decide (d.Kind=0)):fE ⟨id,32,t,sq,rf,n,cd,nm,ky,d,op⟩=fF ⟨id,32,t,sq,rf,n,cd,nm,ky,d,op⟩:=by
 unfold fE fF
 simp only
 rw [if_neg (show ¬dP 32=0 by decide),if_neg (show ¬dP 32=0 by decide),show dP 32=13 from rfl]
 have h:=aOk (sq:=sq) (rf:=rf) (n:=n) (cd:=cd) (nm:=nm) (ky:=ky) (op:=op) hz
 cases hv:cH d
 ·
  rw [pA hv];rfl
 ·
  exact h
theorem aRe {id t sq rf n cd:Int}{nm ky:List UInt8}{d:aC}{op:bG} (hz:cH d=true→eF d eR=decide (d.Kind=0)):fE ⟨id,33,t,sq,rf,n,cd,nm,ky,d,op⟩=fF ⟨id,33,t,sq,rf,n,cd,nm,ky,d,op⟩:=by
 unfold fE fF
 simp only
 rw [if_pos (show dP 33=0 from rfl),if_pos (show dP 33=0 from rfl)]
 exact aOl (sq:=sq) (rf:=rf) (n:=n) (cd:=cd) (nm:=nm) (ky:=ky) (op:=op) hz
theorem aRf {id t sq rf n cd:Int}{nm ky:List UInt8}{d:aC}{op:bG} (hz:cH d=true→eF d eR=decide (d.Kind=0)):fE ⟨id,34,t,sq,rf,n,cd,nm,ky,d,op⟩=fF ⟨id,34,t,sq,rf,n,cd,nm,ky,d,op⟩:=by
 unfold fE fF
 simp only
 rw [if_pos (show dP 34=0 from rfl),if_pos (show dP 34=0 from rfl)]
 exact aOm (sq:=sq) (rf:=rf) (n:=n) (cd:=cd) (nm:=nm) (ky:=ky) (op:=op) hz
theorem aRg {id t sq rf n cd:Int}{nm ky:List UInt8}{d:aC}{op:bG} (hz:cH d=true→eF d eR=decide (d.Kind=0)):fE ⟨id,35,t,sq,rf,n,cd,nm,ky,d,op⟩=fF ⟨id,35,t,sq,rf,n,cd,nm,ky,d,op⟩:=by
 unfold fE fF
 simp only
 rw [if_neg (show ¬dP 35=0 by decide),if_neg (show ¬dP 35=0 by decide),show dP 35=14 from rfl]
 have h:=aOn (sq:=sq) (rf:=rf) (n:=n) (cd:=cd) (nm:=nm) (ky:=ky) (op:=op) hz
 cases hv:cH d
 ·
  rw [pA hv];rfl
 ·
  exact h
theorem aLU (e:bI):lS e=aFM e:=by
 have hz:=@aKO e.Data
 have e1:lS e=(inB e.Kind 1 35&&inB e.ID 0 2000&&inB e.Time 0 1099511627776&&fE e):=by unfold lS fE;simp only [Bool.and_assoc]
 have e2:aFM e=(inB e.Kind 1 35&&inB e.ID 0 2000&&inB e.Time 0 1099511627776&&fF e):=by unfold aFM fF;simp only [Bool.and_assoc]
 rw [e1,e2]
 cases hk:inB e.Kind 1 35
 ·
  simp
 have hk2:1≤e.Kind∧e.Kind≤35:=by unfold inB at hk;simpa using hk
 have h:fE e=fF e:=by
  clear e1 e2 hk
  obtain ⟨id,kind,time,sq,rf,n,cd,nm,ky,d,op⟩:=e
  simp only at *
  have h:kind=1∨kind=2∨kind=3∨kind=4∨kind=5∨kind=6∨kind=7∨kind=8∨kind=9∨kind=10∨kind=11∨kind=12∨kind=13∨kind=14∨kind=15∨kind=16∨kind=17∨kind=18∨kind=19∨kind=20∨kind=21∨kind=22∨kind=23∨kind=24∨kind=25∨kind=26∨kind=27∨kind=28∨kind=29∨kind=30∨kind=31∨kind=32∨kind=33∨kind=34∨kind=35:=by omega
  rcases h with rfl | rfl | rfl | rfl | rfl | rfl | rfl | rfl | rfl | rfl | rfl | rfl | rfl | rfl | rfl | rfl | rfl | rfl | rfl | rfl | rfl | rfl | rfl | rfl | rfl | rfl | rfl | rfl | rfl | rfl | rfl | rfl | rfl | rfl | rfl
  ·
   exact aR1 hz
  ·
   exact aR2 hz
  ·
   exact aR3 hz
  ·
   exact aR4 hz
  ·
   exact aR5 hz
  ·
   exact aR6 hz
  ·
   exact aR7 hz
  ·
   exact aR8 hz
  ·
   exact aR9 hz
  ·
   exact aQR hz
  ·
   exact aQS hz
  ·
   exact aQT hz
  ·
   exact aQU hz
  ·
   exact aQV hz
  ·
   exact aQW hz
  ·
   exact aQX hz
  ·
   exact aQY hz
  ·
   exact aQZ hz
  ·
   exact aQ0 hz
  ·
   exact aQ1 hz
  ·
   exact aQ2 hz
  ·
   exact aQ3 hz
  ·
   exact aQ4 hz
  ·
   exact aQ5 hz
  ·
   exact aQ6 hz
  ·
   exact aQ7 hz
  ·
   exact aQ8 hz
  ·
   exact aQ9 hz
  ·
   exact aRa hz
  ·
   exact aRb hz
  ·
   exact aRc hz
  ·
   exact aRd hz
  ·
   exact aRe hz
  ·
   exact aRf hz
  ·
   exact aRg hz
 rw [h]
end Go.Proofs.YtnigjppddilpcaaGreatDoor
namespace Go.Proofs.YtnigjppddilpcaaGreatDoor
open Go Abs
set_option linter.unusedSimpArgs false
set_option linter.unusedVariables false
theorem zH {e:bI} (h:lS e=true):cH e.Data=true∧kU e.Opts=true:=by
 unfold lS at h
 simp only [Bool.and_eq_true] at h
 refine ⟨h.1.2,?_⟩
 have h2:=h.2
 split at h2
 ·
  simp only [Bool.and_eq_true] at h2
  have h3:=h2.1.1.1
  unfold fR at h3
  simp only [Bool.and_eq_true] at h3
  rw [aFu h3.2]
  decide
 ·
  unfold qX at h2
  simp only [Bool.and_eq_true] at h2
  exact (aHD h2.2).2
theorem aFF {e:bI} (h:dW e):qC e=some (lS e):=by rw [aGs h,aLU]
theorem aI3:∀ (n:Nat) (v:aC),sW v≤n→5*nsz v≤PV.bulkRow (bF v):=by
 intro n
 induction n with
 | zero=>intro v h;have:=hP v;omega
 | succ n ih =>
  intro v h
  have hh:=hP v
  have key:∀ l:List aC,aDl l≤n→5*lP l≤PV.bulkRows (l.map bF):=by
   intro l
   induction l with
   | nil=>intro _;simp [lP]
   | cons x l ihl =>
    intro hl
    simp only [aDl] at hl
    have a1:=ihl (by omega)
    have a2:=ih x (by omega)
    simp only [lP,List.map_cons,PV.bulkRows];omega
  have:=key v.Items (by omega)
  rw [aKK,aFn];omega
theorem aG4 {v:aC} (hr:cH v=true) (hb:nsz v≤1000000):nsz v≤1200:=by
 obtain ⟨d1,d2⟩:=aK0 (sW v) v (Nat.le_refl _) hb
 have hw:wth v=true:=by unfold cH at hr;simp only [Bool.and_eq_true] at hr;exact hr.1
 unfold wth at hw
 rw [d1,d2] at hw
 simp only [Bool.and_eq_true,decide_eq_true_eq] at hw
 omega
theorem aE2 {r:aT}{e:bI}{rest:List UInt8} (h:At r (rY e++rest)) (he:dW e) (hr:lS e=true) (h1:e.Name.length≤4096) (h2:e.Key.length≤4096) (hn:nsz e.Data≤1200):∃ r',lC r=some (e,r')∧At r' rest:=by
 obtain ⟨p1,p2⟩:=zH hr
 obtain ⟨q1,q2,q3⟩:=aCX p1
 obtain ⟨k1,k2,k3,k4,k5,k6,k7,k8,k9,k10,k11⟩:=id he
 unfold rY nO at h
 rw [if_pos q3,if_pos p2] at h
 simp only [List.flatMap_cons,List.flatMap_nil,List.append_nil,List.append_assoc] at h
 have b:∀ {n:Int},rB n→(-9223372036854775808:Int)≤n∧n≤9223372036854775807:=fun h=>h
 obtain ⟨r1,a1,l1⟩:=sR (low:=-9223372036854775808) (high:=9223372036854775807) h k1 (b k1).1 (b k1).2
 obtain ⟨r2,a2,l2⟩:=sR (low:=-9223372036854775808) (high:=9223372036854775807) l1 k2 (b k2).1 (b k2).2
 obtain ⟨r3,a3,l3⟩:=sR (low:=-9223372036854775808) (high:=9223372036854775807) l2 k3 (b k3).1 (b k3).2
 obtain ⟨r4,a4,l4⟩:=sR (low:=-9223372036854775808) (high:=9223372036854775807) l3 k4 (b k4).1 (b k4).2
 obtain ⟨r5,a5,l5⟩:=sR (low:=-9223372036854775808) (high:=9223372036854775807) l4 k5 (b k5).1 (b k5).2
 obtain ⟨r6,a6,l6⟩:=sR (low:=-9223372036854775808) (high:=9223372036854775807) l5 k6 (b k6).1 (b k6).2
 obtain ⟨r7,a7,l7⟩:=sR (low:=-9223372036854775808) (high:=9223372036854775807) l6 k7 (b k7).1 (b k7).2
 obtain ⟨r8,a8,l8⟩:=aBd (most:=4096) l7 (by omega)
 obtain ⟨r9,a9,l9⟩:=aBd (most:=4096) l8 (by omega)
 obtain ⟨r10,a10,l10⟩:=aCV l9 k10 p1 hn
 obtain ⟨r11,a11,l11⟩:=aJb l10 k11 p2
 refine ⟨r11,?_,l11⟩
 unfold lC
 rw [a1,Option.bind_some,a2,Option.bind_some,a3,Option.bind_some,a4,Option.bind_some,a5,Option.bind_some,a6,Option.bind_some,a7,Option.bind_some,a8,Option.bind_some,a9,Option.bind_some,a10,Option.bind_some,a11,Option.bind_some]
 have hE:pP (bI.mk e.ID e.Kind e.Time e.Seq e.Ref e.N e.Code e.Name e.Key e.Data e.Opts)=some true:=by rw [← hr];exact aAD he
 rw [sQ l11]
 simp only [Option.bind_some,hE]
 simp [gd,sQ l11]
end Go.Proofs.YtnigjppddilpcaaGreatDoor

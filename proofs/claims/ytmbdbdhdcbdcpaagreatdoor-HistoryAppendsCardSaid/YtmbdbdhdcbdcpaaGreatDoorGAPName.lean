/- Names and identifiers, plainly. -/
import Derived.Test.YtmbdbdhdcbdcpaaGreatDoorGAPLoop
import Derived.Test.YtmbdbdhdcbdcpaaGreatDoorGAF1
import Derived.Test.YtmbdbdhdcbdcpaaGreatDoorGAF6
namespace Go.Proofs.YtmbdbdhdcbdcpaaGreatDoor
open Go Abs
set_option linter.unusedSimpArgs false
set_option linter.unusedVariables false
def letterC (c:UInt8):Bool:=(decide (97≤c.toNat)&&decide (c.toNat≤122))||(decide (65≤c.toNat)&&decide (c.toNat≤90))||decide (c.toNat=95)
def digitC (c:UInt8):Bool:=decide (48≤c.toNat)&&decide (c.toNat≤57)
theorem name_letter_eq (c:UInt8):name_letter (c.toNat:Int)=some (letterC c):=by
 unfold name_letter letterC
 congr 1
 rw [Bool.eq_iff_iff]
 simp only [Bool.cond_eq_ite,Bool.or_eq_true,Bool.and_eq_true,decide_eq_true_eq]
 split <;> (try split) <;> (try split) <;> simp_all <;> omega
theorem ref06letter_eq (c:UInt8):ref06xletter (c.toNat:Int)=some (letterC c||digitC c):=by
 unfold ref06xletter letterC digitC
 congr 1
 rw [Bool.eq_iff_iff]
 have e:∀ n:Nat,((n:Int)≤(c.toNat:Int)↔n≤c.toNat)∧((c.toNat:Int)≤(n:Int)↔c.toNat≤n)∧((c.toNat:Int)=(n:Int)↔c.toNat=n):=fun n=>⟨by omega,by omega,by omega⟩
 have e1:=e 97;have e2:=e 122;have e3:=e 65;have e4:=e 90;have e5:=e 95;have e6:=e 48;have e7:=e 57
 simp only [Int.cast_ofNat_Int] at e1 e2 e3 e4 e5 e6 e7
 by_cases h1:97≤c.toNat <;> by_cases h2:c.toNat≤122 <;> by_cases h3:65≤c.toNat <;> by_cases h4:c.toNat≤90 <;> by_cases h5:c.toNat=95 <;> by_cases h6:48≤c.toNat <;> by_cases h7:c.toNat≤57 <;> simp [h1,h2,h3,h4,h5,h6,h7,e1.1,e2.2.1,e3.1,e4.2.1,e5.2.2,e6.1,e7.2.1] <;> omega
def nright (s:List UInt8):Bool:=!decide (s=[])&&decide (s.length≤64)&&!digitC (s.headD 0)&&s.all fun c=>letterC c||digitC c
theorem name_Right_eq {s:List UInt8}:name_Right s=some (nright s):=by
 unfold name_Right nright
 by_cases h0:s=[]
 ·
  simp [h0]
 ·
  by_cases h1:(64:Int)<s.length
  ·
   have h2:¬s.length≤64:=by omega
   simp [h0,h1,h2]
  ·
   have h2:s.length≤64:=by omega
   simp only [h0,h1,h2,decide_false,decide_true,cond_false,Bool.not_false,Bool.true_and]
   rw [loop_all s.length (fun i=>letterC (s.getD i 0)||(decide (0<i)&&digitC (s.getD i 0))) false (fun i hi=>?_) ?_,Option.bind_some]
   ·
    have:((List.range s.length).all fun i=>letterC (s.getD i 0)||(decide (0<i)&&digitC (s.getD i 0)))=(!digitC (s.headD 0)&&s.all fun c=>letterC c||digitC c):=by
     obtain ⟨c,r,rfl⟩:∃ c r,s=c :: r:=by cases s with
      | nil=>exact absurd rfl h0
      | cons c r=>exact ⟨c,r,rfl⟩
     have hnd:letterC c=true→digitC c=false:=by
      unfold letterC digitC
      simp only [Bool.or_eq_true,Bool.and_eq_true,decide_eq_true_eq,Bool.and_eq_false_iff,decide_eq_false_iff_not]
      omega
     rw [Bool.eq_iff_iff,Bool.and_eq_true,List.all_eq_true,List.all_eq_true]
     constructor
     ·
      intro h
      have h3:=h 0 (by simp)
      simp only [List.getD_cons_zero,Nat.lt_irrefl,decide_false,Bool.false_and,Bool.or_false] at h3
      refine ⟨by simp [hnd h3],fun x hx=>?_⟩
      obtain ⟨i,hi,rfl⟩:=List.mem_iff_getElem.1 hx
      have h4:=h i (List.mem_range.2 hi)
      simp only [List.getD_eq_getElem?_getD,List.getElem?_eq_getElem hi,Option.getD_some] at h4
      revert h4
      cases letterC (c :: r)[i] <;> cases digitC (c :: r)[i] <;> simp
     ·
      rintro ⟨h3,h4⟩ i hi
      have hi:=List.mem_range.1 hi
      have h5:=h4 _ (List.getElem_mem hi)
      simp only [List.getD_eq_getElem?_getD,List.getElem?_eq_getElem hi,Option.getD_some]
      cases i with
      | zero=>revert h3 h5;simp only [List.headD_cons,List.getElem_cons_zero];cases letterC c <;> cases digitC c <;> simp
      | succ i=>simpa using h5
    rw [this]
    cases (!digitC (s.headD 0)&&s.all fun c=>letterC c||digitC c) <;> rfl
   ·
    unfold name_Right_l1
    rw [cond_d,if_neg (by omega)]
   ·
    unfold name_Right_l1
    rw [cond_d,if_pos (by omega),idx_ok hi,Option.bind_some,name_letter_eq,Option.bind_some,w64s hi (by omega)]
    simp only [List.getD_eq_getElem?_getD,List.getElem?_eq_getElem hi,Option.getD_some]
    have hz:decide ((i:Int)=0)=!decide (0<i):=by rw [Bool.eq_iff_iff];simp
    have hd:∀ c:UInt8,(cond (decide ((c.toNat:Int)<48)) true (decide ((57:Int)<(c.toNat:Int))))=!digitC c:=fun c=>by
     unfold digitC
     by_cases h1:c.toNat<48
     ·
      have:¬48≤c.toNat:=by omega
      have h2:(c.toNat:Int)<48:=by omega
      simp [h2,this]
     ·
      have:48≤c.toNat:=by omega
      have h2:¬(c.toNat:Int)<48:=by omega
      rw [Bool.eq_iff_iff]
      simp [h2,this]
      omega
    rw [hz]
    generalize s[i]=c
    have hd':=hd c
    cases hl:letterC c
    ·
     by_cases h0:0<i
     ·
      simp only [h0,decide_true,Bool.not_true,Bool.not_false,cond_true,cond_false,gd,beq_self_eq_true,Bool.and_self,Bool.true_and,if_true,Option.bind_some,Bool.false_or]
      by_cases h48:(c.toNat:Int)<48
      ·
       rw [show digitC c=false by rw [← Bool.not_eq_true',← hd'];simp [h48]]
       simp [h48]
      ·
       simp only [h48,decide_false,cond_false] at hd' ⊢
       simp only [beq_self_eq_true,if_true,Option.bind_some,hd']
       cases digitC c <;> rfl
     ·
      simp [h0,gd]
    ·
     simp [gd]
theorem ref06Right_eq {s:List UInt8}:ref06xRight s=some (nright s):=by
 unfold ref06xRight nright
 by_cases h0:s=[]
 ·
  subst h0;rfl
 ·
  have hl:0<s.length:=List.length_pos_iff.2 h0
  by_cases h1:(64:Int)<s.length
  ·
   have h2:¬s.length≤64:=by omega
   have h3:(cond (decide ((s.length:Int)<1)) true (decide ((64:Int)<(s.length:Int))))=true:=by simp [h1]
   simp [h3,gd,h2]
  ·
   have h2:s.length≤64:=by omega
   have h3:(cond (decide ((s.length:Int)<1)) true (decide ((64:Int)<(s.length:Int))))=false:=by simp [h1];omega
   obtain ⟨c,r,rfl⟩:∃ c r,s=c :: r:=by cases s with
    | nil=>exact absurd rfl h0
    | cons c r=>exact ⟨c,r,rfl⟩
   have hi0:idx (c :: r) (0:Int)=some c:=rfl
   have hdg:(cond (decide ((48:Int)≤(c.toNat:Int))) (decide ((c.toNat:Int)≤57)) false)=digitC c:=by
    unfold digitC
    by_cases h4:48≤c.toNat
    ·
     have:(48:Int)≤(c.toNat:Int):=by omega
     rw [Bool.eq_iff_iff];simp [h4,this];omega
    ·
     have:¬(48:Int)≤(c.toNat:Int):=by omega
     simp [h4,this]
   rw [h3,hi0]
   simp only [h2,List.headD_cons,decide_true,Bool.and_true,reduceCtorEq,decide_false,Bool.not_false,gd,beq_self_eq_true,if_true,Option.bind_some,cond_false,Bool.true_and]
   have key:∀ x:UInt8,((decide ((48:Int)≤(c.toNat:Int))==true)=true→x=c)→(cond (decide ((48:Int)≤(c.toNat:Int))) (decide ((x.toNat:Int)≤57)) false)=digitC c:=fun x hx=>by
    rw [← hdg]
    by_cases h4:(48:Int)≤(c.toNat:Int)
    ·
     rw [hx (by simp [h4])]
    ·
     simp [h4]
   have key2:∃ x:UInt8,(if (decide ((48:Int)≤(c.toNat:Int))==true)=true then some c else some default)=some x∧((decide ((48:Int)≤(c.toNat:Int))==true)=true→x=c):=by
    by_cases h4:(decide ((48:Int)≤(c.toNat:Int))==true)=true
    ·
     exact ⟨c,by rw [if_pos h4],fun _=>rfl⟩
    ·
     exact ⟨default,by rw [if_neg h4],fun h=>absurd h h4⟩
   obtain ⟨x,hx1,hx2⟩:=key2
   rw [hx1,Option.bind_some,key x hx2]
   cases hdc:digitC c
   ·
    simp only [cond_false,Bool.not_false,Bool.true_and]
    rw [loop_all (c :: r).length (fun i=>letterC ((c :: r).getD i default)||digitC ((c :: r).getD i default)) false (fun i hi=>?_) ?_,Option.bind_some,all_range (c :: r) fun c=>letterC c||digitC c]
    ·
     cases (c :: r).all fun c=>letterC c||digitC c <;> rfl
    ·
     unfold ref06xRight_l1
     rw [cond_d,if_neg (by omega)]
    ·
     unfold ref06xRight_l1
     rw [cond_d,if_pos (by omega),idx_ok hi,Option.bind_some,ref06letter_eq,Option.bind_some,w64s hi (by omega)]
     simp only [List.getD_eq_getElem?_getD,List.getElem?_eq_getElem hi,Option.getD_some]
     cases letterC (c :: r)[i] <;> cases digitC (c :: r)[i] <;> rfl
   ·
    rfl
end Go.Proofs.YtmbdbdhdcbdcpaaGreatDoor

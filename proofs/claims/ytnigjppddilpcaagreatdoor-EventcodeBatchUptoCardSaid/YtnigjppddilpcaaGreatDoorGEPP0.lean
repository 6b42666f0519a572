/- Plain laws: what the functions compute, with no program in sight. -/
import Derived.Test.YtnigjppddilpcaaGreatDoorPk2
import Derived.Test.YtnigjppddilpcaaGreatDoorGEF0
import Derived.Test.YtnigjppddilpcaaGreatDoorGEF1
import Derived.Test.YtnigjppddilpcaaGreatDoorGEF2
import Derived.Test.YtnigjppddilpcaaGreatDoorGEF6
import Derived.Test.YtnigjppddilpcaaGreatDoorGEF7
import Derived.Test.YtnigjppddilpcaaGreatDoorGEF8
import Derived.Test.YtnigjppddilpcaaGreatDoorGESh
namespace Go.Proofs.YtnigjppddilpcaaGreatDoor
open Go Abs
set_option linter.unusedSimpArgs false
set_option linter.unusedVariables false
theorem iW {i n:Nat} (h:i<n) (hn:n≤9223372036854775807):IntKind.i64.wrap ((i:Int)+1)=((i+1:Nat):Int):=by rw [w64 (by omega) (by omega)];omega
theorem eW {α:Type}{l:List α}{i:Nat} (h:i<l.length):hG l (i:Int)=some l[i]:=by rw [aHN,List.getElem?_eq_getElem h]
theorem iJ {τ:Type} (n:Nat) (p:Nat→Bool) (b:τ) {body:Int→Option (cI Int (Fl τ Unit))} (h:∀ i:Nat,i<n→body (i:Int)=some (if p i then .next ((i+1:Nat):Int) else .out (.done b)))
  (hout:body (n:Int)=some (.out (.go ()))):dR body (0:Int)=some (if (List.range n).all p then .go () else .done b):=by
 refine aBh (fun s=>∃ i:Nat,s=(i:Int)∧i≤n∧∀ j,j<i→p j=true) (fun s=>n - s.toNat) (fun _=>(if (List.range n).all p then Fl.go () else Fl.done b:Fl τ Unit)) ?_ _ ⟨0,rfl,by omega,by omega⟩
 rintro s ⟨i,rfl,hi,hp⟩
 by_cases hlt:i<n
 ·
  rw [h i hlt]
  by_cases hpi:p i=true
  ·
   rw [if_pos hpi]
   exact .inl ⟨_,rfl,⟨i+1,rfl,hlt,fun j hj=>by rcases Nat.lt_succ_iff_lt_or_eq.1 hj with h1 | rfl;exact hp j h1;exact hpi⟩,by simp;omega,rfl⟩
  ·
   rw [if_neg hpi,if_neg (fun ha=>hpi (List.all_eq_true.1 ha i (List.mem_range.2 hlt)))]
   exact .inr rfl
 ·
  obtain rfl:i=n:=by omega
  rw [hout,if_pos (List.all_eq_true.2 fun j hj=>hp j (List.mem_range.1 hj))]
  exact .inr rfl
theorem lA {α:Type} [Inhabited α] (l:List α) (p:α→Bool):((List.range l.length).all fun i=>p (l.getD i default))=l.all p:=by
 rw [Bool.eq_iff_iff,List.all_eq_true,List.all_eq_true]
 constructor
 ·
  intro h x hx
  obtain ⟨i,hi,rfl⟩:=List.mem_iff_getElem.1 hx
  have:=h i (List.mem_range.2 hi)
  simpa [hi] using this
 ·
  intro h i hi
  have hi:=List.mem_range.1 hi
  simpa [hi] using h _ (List.getElem_mem hi)
theorem yN {α:Type} (l:List α) (p:α→Bool) {body:Int→Option (cI Int (Fl Int Unit))} (h:∀ (i:Nat) (hi:i<l.length),body (i:Int)=some (if p l[i] then .out (.done (i:Int)) else .next ((i+1:Nat):Int)))
  (hout:body (l.length:Int)=some (.out (.go ()))):∃ x:Int,((dR body (0:Int)).bind fun r=>Fl.next r fun _=>some (-1:Int))=some x∧decide ((0:Int)≤x)=l.any p:=by
 obtain ⟨r,h1,x,h2,h3⟩:∃ r,dR body (0:Int)=some r∧∃ x:Int,(Fl.next r fun _=>some (-1:Int))=some x∧decide ((0:Int)≤x)=l.any p:=by
  refine rP (fun s=>∃ i:Nat,s=(i:Int)∧i≤l.length∧∀ j (hj:j<l.length),j<i→p l[j]=false) (fun s=>l.length - s.toNat) _ ?_ _ ⟨0,rfl,by omega,by omega⟩
  rintro s ⟨i,rfl,hi,hp⟩
  by_cases hlt:i<l.length
  ·
   rw [h i hlt]
   by_cases hpi:p l[i]=true
   ·
    rw [if_pos hpi]
    refine .inr ⟨_,rfl,i,rfl,?_⟩
    have:l.any p=true:=List.any_eq_true.2 ⟨_,List.getElem_mem hlt,hpi⟩
    rw [this];simp
   ·
    rw [if_neg hpi]
    exact .inl ⟨_,rfl,⟨i+1,rfl,hlt,fun j hj hji=>by rcases Nat.lt_succ_iff_lt_or_eq.1 hji with h1 | rfl;exact hp j hj h1;simpa using hpi⟩,by simp;omega⟩
  ·
   obtain rfl:i=l.length:=by omega
   rw [hout]
   refine .inr ⟨_,rfl,-1,rfl,?_⟩
   have:l.any p=false:=by
    rw [List.any_eq_false]
    intro x hx
    obtain ⟨j,hj,rfl⟩:=List.mem_iff_getElem.1 hx
    simp [hp j hj hj]
   rw [this];decide
 exact ⟨x,by rw [h1,Option.bind_some];exact h2,h3⟩
theorem wL {α σ:Type} (l:List α) (f:σ→α→σ) (s0:σ) {body:σ × Int→Option (cI (σ × Int) σ)} (h:∀ (s:σ) (i:Nat) (hi:i<l.length),body (s,(i:Int))=some (.next (f s l[i],((i+1:Nat):Int))))
  (hout:∀ s,body (s,(l.length:Int))=some (.out s)):dR body (s0,(0:Int))=some (l.foldl f s0):=by
 refine aBh (fun s=>∃ i:Nat,s.2=(i:Int)∧i≤l.length∧s.1=(l.take i).foldl f s0) (fun s=>l.length - s.2.toNat) (fun _=>l.foldl f s0) ?_ _ ⟨0,rfl,by omega,by simp⟩
 rintro ⟨s,i0⟩ ⟨i,hi0,hi,hs⟩
 simp only at hi0 hs
 subst hi0
 by_cases hlt:i<l.length
 ·
  refine .inl ⟨_,h s i hlt,⟨i+1,rfl,hlt,?_⟩,by simp;omega,rfl⟩
  rw [hs,List.take_succ_eq_append_getElem hlt,List.foldl_append]
  rfl
 ·
  obtain rfl:i=l.length:=by omega
  rw [hout,hs,List.take_length]
  exact .inr rfl
end Go.Proofs.YtnigjppddilpcaaGreatDoor
namespace Go.Proofs.YtnigjppddilpcaaGreatDoor
open Go Abs
set_option linter.unusedSimpArgs false
set_option linter.unusedVariables false
mutual
def sW:aC→Nat
 | ⟨_,_,_,l,_⟩=>aDl l+1
def aDl:List aC→Nat
 | []=>0
 | x :: l=>max (sW x) (aDl l)
end
theorem jB:∀ {l:List aC}{x:aC},x∈l→sW x≤aDl l
 | [],x,h=>by simp at h
 | y :: l,x,h=>by
  simp only [aDl]
  rcases List.mem_cons.1 h with rfl | h
  ·
   omega
  ·
   have:=jB h;omega
theorem hP (v:aC):sW v=aDl v.Items+1:=by cases v;simp [sW]
theorem aKl {v x:aC} (h:x∈v.Items):sW x<sW v:=by have:=jB h;have:=hP v;omega
mutual
def eF:aC→aC→Bool
 | ⟨k,i,t,l,ks⟩,w=>decide (k=w.Kind)&&decide (i=w.Int)&&decide (t=w.Text)&&decide (ks=w.Keys)&&uA l w.Items
def uA:List aC→List aC→Bool
 | [],[]=>true
 | x :: l,y :: m=>eF x y&&uA l m
 | _,_=>false
end
theorem aFV (v w:aC):eF v w=(decide (v.Kind=w.Kind)&&decide (v.Int=w.Int)&&decide (v.Text=w.Text)&&decide (v.Keys=w.Keys)&&uA v.Items w.Items):=by cases v;simp [eF]
theorem xJ:∀ (l m:List aC),uA l m=true↔l.length=m.length∧∀ i (h:i<l.length) (h2:i<m.length),eF l[i] m[i]=true
 | [],[]=>by simp [uA]
 | [],y :: m=>by simp [uA]
 | x :: l,[]=>by simp [uA]
 | x :: l,y :: m=>by
  simp only [uA,Bool.and_eq_true,xJ l m,List.length_cons,Nat.add_right_cancel_iff]
  constructor
  ·
   rintro ⟨h1,h2,h3⟩
   refine ⟨h2,fun i hi hi2=>?_⟩
   cases i with
   | zero=>exact h1
   | succ i=>exact h3 i (by omega) (by omega)
  ·
   rintro ⟨h2,h3⟩
   exact ⟨h3 0 (by omega) (by omega),h2,fun i hi hi2=>h3 (i+1) (by omega) (by omega)⟩
theorem aHn:∀ (n:Nat) (v w:aC),sW v≤n→(eF v w=true↔v=w):=by
 intro n
 induction n with
 | zero=>intro v w h;have:=hP v;omega
 | succ n ih =>
  intro v w h
  rw [aFV]
  simp only [Bool.and_eq_true,decide_eq_true_eq,xJ]
  constructor
  ·
   rintro ⟨⟨⟨⟨h1,h2⟩,h3⟩,h4⟩,h5,h6⟩
   have h7:v.Items=w.Items:=List.ext_getElem h5 fun i hi hi2=>(ih _ _ (by have:=aKl (List.getElem_mem hi:v.Items[i]∈v.Items);omega)).1 (h6 i hi hi2)
   cases v;cases w;simp_all
  ·
   rintro rfl
   exact ⟨⟨⟨⟨rfl,rfl⟩,rfl⟩,rfl⟩,rfl,fun i hi _=>(ih _ _ (by have:=aKl (List.getElem_mem hi:v.Items[i]∈v.Items);omega)).2 rfl⟩
theorem aFO {a b:List (List UInt8)} (ha:a.length≤9223372036854775807):gG a b=some (decide (a=b)):=by
 unfold gG
 rw [uO]
 by_cases h:(a.length:Int)=b.length
 ·
  rw [if_pos h,iJ a.length (fun i=>decide (a[i]?=b[i]?)) false (fun i hi=>?_) ?_,Option.bind_some]
  ·
   split
   ·
    rename_i h2
    rw [List.all_eq_true] at h2
    have:a=b:=List.ext_getElem? fun i=>by
     by_cases hi:i<a.length
     ·
      have:=h2 i (List.mem_range.2 hi);simpa using this
     ·
      rw [List.getElem?_eq_none (by omega),List.getElem?_eq_none (by omega)]
    simp [Fl.next,this]
   ·
    rename_i h2
    have:a≠b:=fun e=>h2 (by rw [List.all_eq_true];intro i _;simp [e])
    simp [Fl.next,this]
  ·
   unfold iI
   rw [cG,if_neg (by omega)]
  ·
   unfold iI
   have hb:i<b.length:=by omega
   rw [cG,if_pos (by omega),eW hi,Option.bind_some,eW hb,Option.bind_some,uO,iW hi ha,List.getElem?_eq_getElem hi,List.getElem?_eq_getElem hb]
   simp only [Option.some.injEq,decide_eq_true_eq]
   split <;> rfl
 ·
  rw [if_neg h]
  have:a≠b:=fun e=>h (by rw [e])
  simp [this]
theorem aCu {l m:List aC} (h:l.length=m.length) (p:Nat→Bool) (hp:∀ i (h1:i<l.length) (h2:i<m.length),p i=eF l[i] m[i]):(List.range l.length).all p=uA l m:=by
 rw [Bool.eq_iff_iff,List.all_eq_true,xJ]
 constructor
 ·
  exact fun hh=>⟨h,fun i h1 h2=>by rw [← hp i h1 h2];exact hh i (List.mem_range.2 h1)⟩
 ·
  exact fun hh i hi=>by have:=List.mem_range.1 hi;rw [hp i this (by omega)];exact hh.2 i this (by omega)
theorem aMy:∀ (n:Nat) (v w:aC),cL v→2*sW v≤n→qG n v w=some (eF v w):=by
 intro n
 induction n using Nat.strongRecOn with
 | _ n ih =>
  intro v w hv hn
  have hh:=hP v
  obtain ⟨m,rfl⟩:∃ m,n=m+2:=⟨n - 2,by omega⟩
  obtain ⟨k0,k1,k2,k3,k4⟩:=(dH v).1 hv
  have hE:cO (m+1) v.Items w.Items=some (uA v.Items w.Items):=by
   rw [cO,uO]
   by_cases h:(v.Items.length:Int)=w.Items.length
   ·
    rw [if_pos h,iJ v.Items.length (fun i=>eF (v.Items.getD i default) (w.Items.getD i default)) false (fun i hi=>?_) ?_,Option.bind_some,aCu (m:=w.Items) (by omega) _ (fun i h1 h2=>by simp [h1,h2])]
    ·
     cases uA v.Items w.Items <;> rfl
    ·
     unfold dD
     rw [cG,if_neg (by omega)]
    ·
     unfold dD
     have hb:i<w.Items.length:=by omega
     rw [cG,if_pos (by omega),eW hi,Option.bind_some,eW hb,Option.bind_some,ih m (by omega) _ _ (k3.2.2 _ (List.getElem_mem hi)) (by have:=jB (List.getElem_mem hi);omega),Option.bind_some,iW hi k3.1]
     simp only [List.getD_eq_getElem?_getD,List.getElem?_eq_getElem hi,List.getElem?_eq_getElem hb,Option.getD_some]
     cases eF v.Items[i] w.Items[i] <;> rfl
   ·
    rw [if_neg h]
    have:uA v.Items w.Items=false:=by rw [← Bool.not_eq_true,xJ];exact fun hh=>h (by omega)
    rw [this]
  rw [qG,aFO k4.1,hE,aFV]
  by_cases h1:v.Kind=w.Kind <;> by_cases h2:v.Int=w.Int <;> by_cases h3:v.Text=w.Text <;> by_cases h4:v.Keys=w.Keys <;> simp [h1,h2,h3,h4,gd]
theorem aBJ {v w:aC} (hv:cL v):zY v w=some (eF v w):=qY (2*sW v) fun n hn=>aMy n v w hv hn
theorem aJk:∀ (n:Nat) (v w:aC),cL v→sW v≤n→pW n v w=some (eF v w):=by
 intro n
 induction n with
 | zero=>intro v w hv hn;have:=hP v;omega
 | succ n ih =>
  intro v w hv hn
  have hh:=hP v
  obtain ⟨k0,k1,k2,k3,k4⟩:=(dH v).1 hv
  rw [pW,aFV]
  by_cases h1:v.Kind=w.Kind
  ·
   by_cases h2:v.Int=w.Int
   ·
    by_cases h3:v.Text=w.Text
    ·
     by_cases h4:(v.Items.length:Int)=w.Items.length
     ·
      by_cases h5:(v.Keys.length:Int)=w.Keys.length
      ·
       simp only [h1,h2,h3,h4,h5,decide_true,Bool.not_true,cond_false,Bool.true_and]
       rw [iJ v.Keys.length (fun i=>decide (v.Keys[i]?=w.Keys[i]?)) false (fun i hi=>?_) ?_,Option.bind_some]
       ·
        have hk:((List.range v.Keys.length).all fun i=>decide (v.Keys[i]?=w.Keys[i]?))=decide (v.Keys=w.Keys):=by
         rw [Bool.eq_iff_iff,List.all_eq_true]
         simp only [decide_eq_true_eq]
         constructor
         ·
          refine fun h6=>List.ext_getElem? fun i=>?_
          by_cases hi:i<v.Keys.length
          ·
           exact h6 i (List.mem_range.2 hi)
          ·
           rw [List.getElem?_eq_none (by omega),List.getElem?_eq_none (by omega)]
         ·
          intro e i _;rw [e]
        rw [hk]
        by_cases h6:v.Keys=w.Keys
        ·
         simp only [h6,decide_true,if_true,Fl.next,Bool.true_and]
         rw [iJ v.Items.length (fun i=>eF (v.Items.getD i default) (w.Items.getD i default)) false (fun i hi=>?_) ?_,Option.bind_some,aCu (m:=w.Items) (by omega) _ (fun i h1 h2=>by simp [h1,h2])]
         ·
          cases uA v.Items w.Items <;> rfl
         ·
          unfold uU
          rw [cG,if_neg (by omega)]
         ·
          unfold uU
          have hb:i<w.Items.length:=by omega
          rw [cG,if_pos (by omega),eW hi,Option.bind_some,eW hb,Option.bind_some,ih _ _ (k3.2.2 _ (List.getElem_mem hi)) (by have:=jB (List.getElem_mem hi);omega),Option.bind_some,iW hi k3.1]
          simp only [List.getD_eq_getElem?_getD,List.getElem?_eq_getElem hi,List.getElem?_eq_getElem hb,Option.getD_some]
          cases eF v.Items[i] w.Items[i] <;> rfl
        ·
         simp [h6,Fl.next]
       ·
        unfold uT
        rw [cG,if_neg (by omega)]
       ·
        unfold uT
        have hb:i<w.Keys.length:=by omega
        rw [cG,if_pos (by omega),eW hi,Option.bind_some,eW hb,Option.bind_some,uO,iW hi k4.1,List.getElem?_eq_getElem hi,List.getElem?_eq_getElem hb]
        simp only [Option.some.injEq,decide_eq_true_eq]
        split <;> rfl
      ·
       have:v.Keys≠w.Keys:=fun e=>h5 (by rw [e])
       simp [h5,this]
     ·
      have:uA v.Items w.Items=false:=by rw [← Bool.not_eq_true,xJ];exact fun hh=>h4 (by omega)
      simp [h4,this]
    ·
     simp [h3]
   ·
    simp [h2]
  ·
   simp [h1]
theorem aFG {v w:aC} (hv:cL v):zS v w=some (eF v w):=qY (sW v) fun n hn=>aJk n v w hv hn
mutual
def dep:aC→Int
 | ⟨_,_,_,l,_⟩=>IntKind.i64.wrap (aMQ l 0+1)
def aMQ:List aC→Int→Int
 | [],a=>a
 | x :: l,a=>aMQ l (if dep x > a then dep x else a)
end
theorem aKd (v:aC):dep v=IntKind.i64.wrap (v.Items.foldl (fun a x=>if dep x > a then dep x else a) 0+1):=by
 have key:∀ (l:List aC) (a:Int),aMQ l a=l.foldl (fun a x=>if dep x > a then dep x else a) a:=by
  intro l
  induction l with
  | nil=>intro a;simp [aMQ]
  | cons x l ih=>intro a;simp [aMQ,ih]
 cases v;simp only [dep,key]
mutual
def siz:aC→Int
 | ⟨_,_,_,l,_⟩=>aNB l 1
def aNB:List aC→Int→Int
 | [],a=>a
 | x :: l,a=>aNB l (IntKind.i64.wrap (a+siz x))
end
theorem aKD (v:aC):siz v=v.Items.foldl (fun a x=>IntKind.i64.wrap (a+siz x)) 1:=by
 have key:∀ (l:List aC) (a:Int),aNB l a=l.foldl (fun a x=>IntKind.i64.wrap (a+siz x)) a:=by
  intro l
  induction l with
  | nil=>intro a;simp [aNB]
  | cons x l ih=>intro a;simp [aNB,ih]
 cases v;simp only [siz,key]
theorem aLv:∀ (n:Nat) (v:aC),cL v→sW v≤n→nU n v=some (dep v):=by
 intro n
 induction n with
 | zero=>intro v hv hn;have:=hP v;omega
 | succ n ih =>
  intro v hv hn
  have hh:=hP v
  obtain ⟨k0,k1,k2,k3,k4⟩:=(dH v).1 hv
  have hi1:=fun (i:Nat) (hi:i<v.Items.length)=>ih _ (k3.2.2 _ (List.getElem_mem hi)) (by have:=jB (List.getElem_mem hi);omega)
  rw [nU,aKd]
  rw [wL v.Items (fun a x=>if dep x > a then dep x else a) 0 (fun s i hi=>?_) (fun s=>?_),Option.bind_some]
  ·
   unfold tX
   rw [cG,if_pos (by simp only;omega),eW hi,Option.bind_some,(hi1 i hi),Option.bind_some,iW hi k3.1]
  ·
   unfold tX
   rw [cG,if_neg (by simp only;omega)]
theorem aHU:∀ (n:Nat) (v:aC),cL v→sW v≤n→nQ n v=some (dep v):=by
 intro n
 induction n with
 | zero=>intro v hv hn;have:=hP v;omega
 | succ n ih =>
  intro v hv hn
  have hh:=hP v
  obtain ⟨k0,k1,k2,k3,k4⟩:=(dH v).1 hv
  have hi1:=fun (i:Nat) (hi:i<v.Items.length)=>ih _ (k3.2.2 _ (List.getElem_mem hi)) (by have:=jB (List.getElem_mem hi);omega)
  rw [nQ,aKd]
  rw [wL v.Items (fun a x=>if dep x > a then dep x else a) 0 (fun s i hi=>?_) (fun s=>?_),Option.bind_some]
  ·
   unfold tF
   rw [cG,if_pos (by simp only;omega),eW hi,Option.bind_some,(hi1 i hi),Option.bind_some,iW hi k3.1,cG]
   simp only
   by_cases h:s<dep v.Items[i]
   ·
    rw [if_pos h,if_pos h]
   ·
    rw [if_neg h,if_neg h]
  ·
   unfold tF
   rw [cG,if_neg (by simp only;omega)]
theorem aFT {v:aC} (hv:cL v):aA2 v=some (dep v):=qY (sW v) fun n hn=>aLv n v hv hn
theorem aJh {v:aC} (hv:cL v):aAN v=some (dep v):=qY (sW v) fun n hn=>aHU n v hv hn
theorem aMz:∀ (n:Nat) (v:aC),cL v→sW v≤n→qH n v=some (siz v):=by
 intro n
 induction n with
 | zero=>intro v hv hn;have:=hP v;omega
 | succ n ih =>
  intro v hv hn
  have hh:=hP v
  obtain ⟨k0,k1,k2,k3,k4⟩:=(dH v).1 hv
  have hi1:=fun (i:Nat) (hi:i<v.Items.length)=>ih _ (k3.2.2 _ (List.getElem_mem hi)) (by have:=jB (List.getElem_mem hi);omega)
  rw [qH,aKD]
  rw [wL v.Items (fun a x=>IntKind.i64.wrap (a+siz x)) 1 (fun s i hi=>?_) (fun s=>?_),Option.bind_some]
  ·
   unfold uY
   rw [cG,if_pos (by simp only;omega),eW hi,Option.bind_some,(hi1 i hi),Option.bind_some,iW hi k3.1]
  ·
   unfold uY
   rw [cG,if_neg (by simp only;omega)]
theorem aJm:∀ (n:Nat) (v:aC),cL v→sW v≤n→pX n v=some (siz v):=by
 intro n
 induction n with
 | zero=>intro v hv hn;have:=hP v;omega
 | succ n ih =>
  intro v hv hn
  have hh:=hP v
  obtain ⟨k0,k1,k2,k3,k4⟩:=(dH v).1 hv
  have hi1:=fun (i:Nat) (hi:i<v.Items.length)=>ih _ (k3.2.2 _ (List.getElem_mem hi)) (by have:=jB (List.getElem_mem hi);omega)
  rw [pX,aKD]
  rw [wL v.Items (fun a x=>IntKind.i64.wrap (a+siz x)) 1 (fun s i hi=>?_) (fun s=>?_),Option.bind_some]
  ·
   unfold uV
   rw [cG,if_pos (by simp only;omega),eW hi,Option.bind_some,(hi1 i hi),Option.bind_some,iW hi k3.1]
  ·
   unfold uV
   rw [cG,if_neg (by simp only;omega)]
theorem aGy {v:aC} (hv:cL v):aCj v=some (siz v):=qY (sW v) fun n hn=>aMz n v hv hn
theorem aKw {v:aC} (hv:cL v):aB4 v=some (siz v):=qY (sW v) fun n hn=>aJm n v hv hn
end Go.Proofs.YtnigjppddilpcaaGreatDoor
namespace Go.Proofs.YtnigjppddilpcaaGreatDoor
open Go Abs
set_option linter.unusedSimpArgs false
set_option linter.unusedVariables false
def iY (k:List UInt8):Bool:=decide ((4096:Int)<(k.length:Int))
mutual
def shr:aC→Bool
 | ⟨_,_,t,l,ks⟩=>!iY t&&!ks.any iY&&aO2 l
def aO2:List aC→Bool
 | []=>true
 | x :: l=>shr x&&aO2 l
end
theorem aJu:∀ l,aO2 l=l.all shr
 | []=>rfl
 | x :: l=>by simp [aO2,aJu l]
theorem aKC (v:aC):shr v=(!iY v.Text&&!v.Keys.any iY&&v.Items.all shr):=by cases v;simp [shr,aJu]
theorem sK {α:Type} (l:List α) (p:α→Bool):(!l.any p)=l.all fun x=>!p x:=by simp [List.not_any_eq_all_not]
theorem aNc {ks:List (List UInt8)} (h:ks.length≤9223372036854775807):eM ks=some (ks.any iY):=by
 unfold eM fK
 obtain ⟨x,h1,h2⟩:=yN (body:=eN ks) ks iY (fun i hi=>by
  unfold eN
  rw [cG,if_pos (by omega),eW hi,Option.bind_some,uZ,Option.bind_some,iW hi h]
  show cond (iY ks[i]) _ _=_
  cases iY ks[i] <;> rfl) (by
  unfold eN
  rw [cG,if_neg (by omega)])
 rw [h1,Option.bind_some,h2]
theorem aMi:∀ (n:Nat) (v:aC),cL v→4*sW v≤n→nW n v=some (shr v):=by
 intro n
 induction n using Nat.strongRecOn with
 | _ n ih =>
  intro v hv hn
  have hh:=hP v
  obtain ⟨m,rfl⟩:∃ m,n=m+4:=⟨n - 4,by omega⟩
  obtain ⟨k0,k1,k2,k3,k4⟩:=(dH v).1 hv
  have hC:cX (m+3) v.Items=some (v.Items.any fun x=>!shr x):=by
   rw [cX,eC]
   obtain ⟨x,h1,h2⟩:=yN (body:=dT (nI (m+1)) v.Items) v.Items (fun x=>!shr x) (fun i hi=>by
    unfold dT
    rw [cG,if_pos (by omega),eW hi,Option.bind_some,nI,ih m (by omega) _ (k3.2.2 _ (List.getElem_mem hi)) (by have:=jB (List.getElem_mem hi);omega),Option.bind_some,Option.bind_some,iW hi k3.1]
    cases shr v.Items[i] <;> rfl) (by
    unfold dT
    rw [cG,if_neg (by omega)])
   rw [h1,Option.bind_some,h2]
  rw [nW,aNc k4.1,hC,aKC]
  by_cases h:(4096:Int)<v.Text.length
  ·
   simp [h,gd,iY]
  ·
   have hA:(!v.Items.any fun x=>!shr x)=v.Items.all shr:=by rw [sK];simp
   have ht:iY v.Text=false:=by simp [iY,h]
   simp only [h,ht,decide_false,beq_self_eq_true,gd,if_true,Option.bind_some,cond_false,Bool.not_false,Bool.true_and,hA]
   cases v.Keys.any iY <;> rfl
theorem aFU {v:aC} (hv:cL v):aA4 v=some (shr v):=qY (4*sW v) fun n hn=>aMi n v hv hn
theorem aH0:∀ (n:Nat) (v:aC),cL v→sW v≤n→nR n v=some (shr v):=by
 intro n
 induction n with
 | zero=>intro v hv hn;have:=hP v;omega
 | succ n ih =>
  intro v hv hn
  have hh:=hP v
  obtain ⟨k0,k1,k2,k3,k4⟩:=(dH v).1 hv
  rw [nR,aKC,cG]
  by_cases h:(4096:Int)<v.Text.length
  ·
   rw [if_pos h];simp [iY,h]
  ·
   rw [if_neg h]
   rw [iJ v.Keys.length (fun i=>!iY (v.Keys.getD i default)) false (fun i hi=>?_) ?_,Option.bind_some,lA v.Keys fun k=>!iY k]
   ·
    rw [sK]
    have ht:iY v.Text=false:=by simp [iY,h]
    rw [ht]
    cases v.Keys.all fun x=>!iY x
    ·
     rfl
    ·
     simp only [if_true,Fl.next,Bool.not_false,Bool.true_and]
     rw [iJ v.Items.length (fun i=>shr (v.Items.getD i default)) false (fun i hi=>?_) ?_,Option.bind_some,lA v.Items shr]
     ·
      cases v.Items.all shr <;> rfl
     ·
      unfold tJ
      rw [cG,if_neg (by omega)]
     ·
      unfold tJ
      rw [cG,if_pos (by omega),eW hi,Option.bind_some,ih _ (k3.2.2 _ (List.getElem_mem hi)) (by have:=jB (List.getElem_mem hi);omega),Option.bind_some,iW hi k3.1]
      simp only [List.getD_eq_getElem?_getD,List.getElem?_eq_getElem hi,Option.getD_some]
      cases shr v.Items[i] <;> rfl
   ·
    unfold tI
    rw [cG,if_neg (by omega)]
   ·
    unfold tI
    rw [cG,if_pos (by omega),eW hi,Option.bind_some,iW hi k4.1]
    simp only [List.getD_eq_getElem?_getD,List.getElem?_eq_getElem hi,Option.getD_some]
    show cond (iY v.Keys[i]) _ _=_
    cases iY v.Keys[i] <;> rfl
theorem aJl {v:aC} (hv:cL v):aAO v=some (shr v):=qY (sW v) fun n hn=>aH0 n v hv hn
def wth (v:aC):Bool:=decide (dep v≤16)&&decide (siz v≤1000)&&shr v
theorem aEh {v:aC} (hv:cL v):tZ v=some (wth v):=by
 unfold tZ wth
 rw [aFT hv,Option.bind_some,aGy hv,aFU hv]
 by_cases h1:dep v≤16 <;> by_cases h2:siz v≤1000 <;> simp [h1,h2,gd]
theorem aH1 {v:aC} (hv:cL v):tK v=some (wth v):=by
 unfold tK wth
 rw [aJl hv,Option.bind_some,aJh hv,aKw hv]
 cases h3:shr v
 ·
  simp [gd]
 ·
  by_cases h1:dep v≤16
  ·
   simp [h1,gd]
  ·
   simp [h1,gd]
def aEc (l:List (List UInt8)):Bool:=(List.range (l.length - 1)).all fun i=>Op.bytesLess (l.getD i []) (l.getD (i+1) [])
theorem aFJ {l:List (List UInt8)}:aEc l=true↔∀ (i:Nat) (hi:i+1<l.length),Op.bytesLess (l[i]'(by omega)) l[i+1]=true:=by
 unfold aEc
 rw [List.all_eq_true]
 constructor
 ·
  intro h i hi
  have:=h i (List.mem_range.2 (by omega))
  rw [List.getD_eq_getElem?_getD,List.getD_eq_getElem?_getD,List.getElem?_eq_getElem (by omega),List.getElem?_eq_getElem hi] at this
  exact this
 ·
  intro h i hi
  have hi:=List.mem_range.1 hi
  rw [List.getD_eq_getElem?_getD,List.getD_eq_getElem?_getD,List.getElem?_eq_getElem (by omega),List.getElem?_eq_getElem (by omega)]
  exact h i (by omega)
theorem aJn {l:List (List UInt8)}{body:Int→Option (cI Int (Fl Bool Unit))} (h:∀ (i:Nat) (h1:1≤i) (hi:i<l.length),body (i:Int)=some (if Op.bytesLess (l[i - 1]'(by omega)) l[i]=true then .next ((i+1:Nat):Int) else .out (.done false)))
  (hout:∀ i:Nat,l.length≤i→body (i:Int)=some (.out (.go ()))):dR body (1:Int)=some (if aEc l=true then .go () else .done false):=by
 have key:∃ x,dR body (1:Int)=some x∧x=if aEc l=true then .go () else .done false:=by
  refine rP (fun s=>∃ i:Nat,s=(i:Int)∧1≤i∧∀ (k:Nat) (hk:k+1<l.length),k+1<i→Op.bytesLess (l[k]'(by omega)) l[k+1]=true) (fun s=>l.length - s.toNat) _ ?_ _ ⟨1,rfl,by omega,fun k hk hk2=>by omega⟩
  rintro s ⟨i,rfl,h1,hd⟩
  by_cases hlt:i<l.length
  ·
   rw [h i h1 hlt]
   by_cases hb:Op.bytesLess (l[i - 1]'(by omega)) l[i]=true
   ·
    rw [if_pos hb]
    refine .inl ⟨_,rfl,⟨i+1,rfl,by omega,fun k hk hk2=>?_⟩,by simp only [Int.toNat_natCast];omega⟩
    by_cases e:k+1=i
    ·
     subst e;exact hb
    ·
     exact hd k hk (by omega)
   ·
    rw [if_neg hb]
    refine .inr ⟨_,rfl,?_⟩
    rw [if_neg fun hr=>hb (by
     have:=aFJ.1 hr (i - 1) (by omega)
     simp only [show i - 1+1=i by omega] at this
     exact this)]
  ·
   rw [hout i (by omega)]
   refine .inr ⟨_,rfl,?_⟩
   rw [if_pos (aFJ.2 fun k hk=>hd k hk (by omega))]
 obtain ⟨x,hx,rfl⟩:=key
 exact hx
theorem aHY {l:List (List UInt8)} (h:l.length≤9223372036854775807):tH l=some (aEc l):=by
 unfold tH
 rw [aJn (l:=l) (fun i h1 hi=>?_) (fun i hi=>?_),Option.bind_some]
 ·
  cases aEc l <;> rfl
 ·
  unfold rS
  rw [cG,if_pos (by omega),w64 (by omega) (by omega),show (i:Int) - 1=((i - 1:Nat):Int) by omega,eW (by omega),Option.bind_some,eW hi,Option.bind_some,iW hi h]
  cases Op.bytesLess (l[i - 1]'(by omega)) l[i] <;> rfl
 ·
  unfold rS
  rw [cG,if_neg (by omega)]
theorem aHy {l:List (List UInt8)} (h:l.length≤9223372036854775807):oK l=some (aEc l):=by
 unfold oK
 rw [aJn (l:=l) (fun i h1 hi=>?_) (fun i hi=>?_),Option.bind_some]
 ·
  cases aEc l <;> rfl
 ·
  unfold nV
  rw [cG,if_pos (by omega),w64 (by omega) (by omega),show (i:Int) - 1=((i - 1:Nat):Int) by omega,eW (by omega),Option.bind_some,eW hi,Option.bind_some,iW hi h]
  cases Op.bytesLess (l[i - 1]'(by omega)) l[i] <;> rfl
 ·
  unfold nV
  rw [cG,if_neg (by omega)]
def zI (o:Bool) (v:aC):Bool :=
 if v.Kind=0 then decide (v.Int=0)&&decide (v.Text=[])&&decide (v.Items.length=0)&&decide (v.Keys.length=0)
 else if v.Kind=1 then (decide (v.Int=0)||decide (v.Int=1))&&decide (v.Text=[])&&decide (v.Items.length=0)&&decide (v.Keys.length=0)
 else if v.Kind=2 then decide (v.Text=[])&&decide (v.Items.length=0)&&decide (v.Keys.length=0)
 else if v.Kind=6 then o&&decide (0≤v.Int)&&decide (v.Text=[])&&decide (v.Items.length=0)&&decide (v.Keys.length=0)
 else if v.Kind=3 then decide (v.Int=0)&&decide (v.Items.length=0)&&decide (v.Keys.length=0)
 else if v.Kind=4 then decide (v.Int=0)&&decide (v.Text=[])&&decide (v.Keys.length=0)
 else if v.Kind=5 then decide (v.Int=0)&&decide (v.Text=[])&&decide (v.Keys.length=v.Items.length)&&aEc v.Keys
 else false
mutual
def wK (o:Bool):aC→Bool
 | ⟨k,i,t,l,ks⟩=>zI o ⟨k,i,t,l,ks⟩&&aMY o l
def aMY (o:Bool):List aC→Bool
 | []=>true
 | x :: l=>wK o x&&aMY o l
end
mutual
def fut:aC→Bool
 | ⟨k,_,_,l,_⟩=>decide (k=6)||aM1 l
def aM1:List aC→Bool
 | []=>false
 | x :: l=>fut x||aM1 l
end
theorem aIO (o:Bool):∀ l,aMY o l=l.all (wK o)
 | []=>by simp [aMY]
 | x :: l=>by simp [aMY,aIO o l]
theorem aIP:∀ l,aM1 l=l.any fut
 | []=>by simp [aM1]
 | x :: l=>by simp [aM1,aIP l]
theorem aBX (o:Bool) (v:aC):wK o v=(zI o v&&v.Items.all (wK o)):=by cases v;simp only [wK,aIO]
theorem aM0 (v:aC):fut v=(decide (v.Kind=6)||v.Items.any fut):=by cases v;simp only [fut,aIP]
theorem aP0 (v:aC):zI false v=(zI true v&&!decide (v.Kind=6)):=by
 unfold zI
 by_cases h0:v.Kind=0
 ·
  simp [h0]
 ·
  by_cases h1:v.Kind=1
  ·
   simp [h1]
  ·
   by_cases h2:v.Kind=2
   ·
    simp [h2]
   ·
    by_cases h6:v.Kind=6
    ·
     simp [h6]
    ·
     simp [h0,h1,h2,h6]
theorem aMX:∀ (n:Nat) (v:aC),sW v≤n→wK false v=(wK true v&&!fut v):=by
 intro n
 induction n with
 | zero=>intro v h;have:=hP v;omega
 | succ n ih =>
  intro v h
  have hall:v.Items.all (wK false)=(v.Items.all (wK true)&&!v.Items.any fut):=by
   have key:∀ l:List aC,(∀ x∈l,wK false x=(wK true x&&!fut x))→l.all (wK false)=(l.all (wK true)&&!l.any fut):=by
    intro l
    induction l with
    | nil=>intro _;rfl
    | cons x l ihl =>
     intro hx
     simp only [List.all_cons,List.any_cons]
     rw [ihl fun y hy=>hx y (by simp [hy]),hx x (by simp)]
     cases wK true x <;> cases fut x <;> cases l.all (wK true) <;> cases l.any fut <;> rfl
   exact key v.Items fun x hx=>ih x (by have:=aKl hx;omega)
  rw [aBX,aBX,aM0,aP0,hall]
  cases zI true v <;> cases decide (v.Kind=6) <;> cases v.Items.all (wK true) <;> cases v.Items.any fut <;> rfl
theorem aL0 {α:Type} (l:List α):decide ((0:Int)<(l.length:Int))=!decide (l.length=0):=by cases l <;> simp <;> omega
theorem aL1 {α:Type} (l:List α):decide ((l.length:Int)=0)=decide (l.length=0):=by rw [Bool.eq_iff_iff];simp
theorem aRj {α β:Type} (l:List α) (m:List β):decide ((l.length:Int)=m.length)=decide (l.length=m.length):=by rw [Bool.eq_iff_iff];simp;omega
theorem aKj:∀ (n:Nat) (v:aC) (o:Bool),cL v→4*sW v≤n→mN n v o=some (wK o v):=by
 intro n
 induction n using Nat.strongRecOn with
 | _ n ih =>
  intro v o hv hn
  have hh:=hP v
  obtain ⟨m,rfl⟩:∃ m,n=m+4:=⟨n - 4,by omega⟩
  obtain ⟨k0,k1,k2,k3,k4⟩:=(dH v).1 hv
  have hC:cV (m+3) v.Items o=some (v.Items.any fun x=>!wK o x):=by
   rw [cV,dY]
   obtain ⟨x,h1,h2⟩:=yN (body:=dS (lU (m+1)) v.Items o) v.Items (fun x=>!wK o x) (fun i hi=>by
    unfold dS
    rw [cG,if_pos (by omega),eW hi,Option.bind_some,lU,ih m (by omega) _ _ (k3.2.2 _ (List.getElem_mem hi)) (by have:=jB (List.getElem_mem hi);omega),Option.bind_some,Option.bind_some,iW hi k3.1]
    cases wK o v.Items[i] <;> rfl) (by
    unfold dS
    rw [cG,if_neg (by omega)])
   rw [h1,Option.bind_some,h2]
  have hA:(!v.Items.any fun x=>!wK o x)=v.Items.all (wK o):=by rw [sK];simp
  have hE:∀ b:Bool,(b=true→v.Items.length=0)→b=(b&&v.Items.all (wK o)):=fun b hb=>by
   cases b
   ·
    rfl
   ·
    have:v.Items=[]:=List.eq_nil_of_length_eq_zero (hb rfl)
    rw [this];rfl
  rw [mN,aHy k4.1,hC,aBX]
  unfold zI
  by_cases h0:v.Kind=0
  ·
   simp only [h0,Int.reduceEq,if_true,if_false,decide_true,decide_false,cond_true,cond_false,Option.bind_some,Fl.next,aL0]
   rw [← hE _ (by simp only [Bool.and_eq_true,decide_eq_true_eq];rintro ⟨⟨_,h⟩,_⟩;exact h)]
   cases decide (v.Int=0) <;> cases decide (v.Text=[]) <;> cases decide (v.Items.length=0) <;> cases decide (v.Keys.length=0) <;> rfl
  by_cases h1:v.Kind=1
  ·
   simp only [h1,Int.reduceEq,if_true,if_false,decide_true,decide_false,cond_true,cond_false,Option.bind_some,Fl.next,aL0]
   rw [← hE _ (by simp only [Bool.and_eq_true,decide_eq_true_eq];rintro ⟨⟨_,h⟩,_⟩;exact h)]
   cases decide (v.Int=0) <;> cases decide (v.Int=1) <;> cases decide (v.Text=[]) <;> cases decide (v.Items.length=0) <;> cases decide (v.Keys.length=0) <;> rfl
  by_cases h2:v.Kind=2
  ·
   simp only [h2,Int.reduceEq,if_true,if_false,decide_true,decide_false,cond_true,cond_false,Option.bind_some,Fl.next,aL0]
   rw [← hE _ (by simp only [Bool.and_eq_true,decide_eq_true_eq];rintro ⟨⟨_,h⟩,_⟩;exact h)]
   cases decide (v.Text=[]) <;> cases decide (v.Items.length=0) <;> cases decide (v.Keys.length=0) <;> rfl
  by_cases h6:v.Kind=6
  ·
   simp only [h6,Int.reduceEq,if_true,if_false,decide_true,decide_false,cond_true,cond_false,Option.bind_some,Fl.next,aL0]
   rw [← hE _ (by simp only [Bool.and_eq_true,decide_eq_true_eq];rintro ⟨⟨_,h⟩,_⟩;exact h)]
   cases o <;> cases decide (0≤v.Int) <;> cases decide (v.Text=[]) <;> cases decide (v.Items.length=0) <;> cases decide (v.Keys.length=0) <;> rfl
  by_cases h3:v.Kind=3
  ·
   simp only [h3,Int.reduceEq,if_true,if_false,decide_true,decide_false,cond_true,cond_false,Option.bind_some,Fl.next,aL0]
   rw [← hE _ (by simp only [Bool.and_eq_true,decide_eq_true_eq];rintro ⟨⟨_,h⟩,_⟩;exact h)]
   cases decide (v.Int=0) <;> cases decide (v.Items.length=0) <;> cases decide (v.Keys.length=0) <;> rfl
  by_cases h4:v.Kind=4
  ·
   simp only [h4,Int.reduceEq,if_true,if_false,decide_true,decide_false,cond_true,cond_false,aL0]
   cases decide (v.Int=0) <;> cases decide (v.Text=[]) <;> cases decide (v.Keys.length=0) <;> simp [hA,Fl.next]
  by_cases h5:v.Kind=5
  ·
   simp only [h5,Int.reduceEq,if_true,if_false,decide_true,decide_false,cond_true,cond_false,aRj]
   cases decide (v.Int=0) <;> cases decide (v.Text=[]) <;> cases decide (v.Keys.length=v.Items.length) <;> cases aEc v.Keys <;> simp [hA,Fl.next,gd]
  simp only [h0,h1,h2,h3,h4,h5,h6,if_false,decide_false,cond_false,Option.bind_some,Fl.next,Bool.false_and]
theorem aAm {v:aC}{o:Bool} (hv:cL v):wI v o=some (wK o v):=qY (4*sW v) fun n hn=>aKj n v o hv hn
theorem aMA:∀ (n:Nat) (v:aC),cL v→sW v≤n→iS n v=some (wK true v):=by
 intro n
 induction n with
 | zero=>intro v hv hn;have:=hP v;omega
 | succ n ih =>
  intro v hv hn
  have hh:=hP v
  obtain ⟨k0,k1,k2,k3,k4⟩:=(dH v).1 hv
  rw [iS,aHY k4.1,aBX]
  rw [iJ v.Items.length (fun i=>wK true (v.Items.getD i default)) false (fun i hi=>?_) ?_,Option.bind_some,lA v.Items (wK true)]
  ·
   cases v.Items.all (wK true)
   ·
    simp [Fl.next]
   ·
    simp only [if_true,Fl.next,Bool.and_true]
    unfold zI
    by_cases h0:v.Kind=0
    ·
     simp only [h0,Int.reduceEq,if_true,if_false,decide_true,decide_false,cond_true,cond_false,aL1]
     cases decide (v.Int=0) <;> cases decide (v.Text=[]) <;> cases decide (v.Items.length=0) <;> cases decide (v.Keys.length=0) <;> rfl
    by_cases h1:v.Kind=1
    ·
     simp only [h1,Int.reduceEq,if_true,if_false,decide_true,decide_false,cond_true,cond_false,aL1]
     cases decide (v.Int=0) <;> cases decide (v.Int=1) <;> cases decide (v.Text=[]) <;> cases decide (v.Items.length=0) <;> cases decide (v.Keys.length=0) <;> rfl
    by_cases h2:v.Kind=2
    ·
     simp only [h2,Int.reduceEq,if_true,if_false,decide_true,decide_false,cond_true,cond_false,aL1]
     cases decide (v.Text=[]) <;> cases decide (v.Items.length=0) <;> cases decide (v.Keys.length=0) <;> rfl
    by_cases h6:v.Kind=6
    ·
     simp only [h6,Int.reduceEq,if_true,if_false,decide_true,decide_false,cond_true,cond_false,aL1]
     cases decide (0≤v.Int) <;> cases decide (v.Text=[]) <;> cases decide (v.Items.length=0) <;> cases decide (v.Keys.length=0) <;> rfl
    by_cases h3:v.Kind=3
    ·
     simp only [h3,Int.reduceEq,if_true,if_false,decide_true,decide_false,cond_true,cond_false,aL1]
     cases decide (v.Int=0) <;> cases decide (v.Items.length=0) <;> cases decide (v.Keys.length=0) <;> rfl
    by_cases h4:v.Kind=4
    ·
     simp only [h4,Int.reduceEq,if_true,if_false,decide_true,decide_false,cond_true,cond_false,aL1]
     cases decide (v.Int=0) <;> cases decide (v.Text=[]) <;> cases decide (v.Keys.length=0) <;> rfl
    by_cases h5:v.Kind=5
    ·
     simp only [h5,Int.reduceEq,if_true,if_false,decide_true,decide_false,cond_true,cond_false,aRj]
     cases decide (v.Int=0) <;> cases decide (v.Text=[]) <;> cases decide (v.Keys.length=v.Items.length) <;> cases aEc v.Keys <;> rfl
    simp only [h0,h1,h2,h3,h4,h5,h6,if_false,decide_false,cond_false]
  ·
   unfold mU
   rw [cG,if_neg (by omega)]
  ·
   unfold mU
   rw [cG,if_pos (by omega),eW hi,Option.bind_some,ih _ (k3.2.2 _ (List.getElem_mem hi)) (by have:=jB (List.getElem_mem hi);omega),Option.bind_some,iW hi k3.1]
   simp only [List.getD_eq_getElem?_getD,List.getElem?_eq_getElem hi,Option.getD_some]
   cases wK true v.Items[i] <;> rfl
theorem yS {v:aC} (hv:cL v):qO v=some (wK true v):=qY (sW v) fun n hn=>aMA n v hv hn
theorem aNW:∀ (n:Nat) (v:aC),cL v→sW v≤n→mK n v=some (fut v):=by
 intro n
 induction n with
 | zero=>intro v hv hn;have:=hP v;omega
 | succ n ih =>
  intro v hv hn
  have hh:=hP v
  obtain ⟨k0,k1,k2,k3,k4⟩:=(dH v).1 hv
  rw [mK,aM0]
  rw [iJ v.Items.length (fun i=>!fut (v.Items.getD i default)) true (fun i hi=>?_) ?_,Option.bind_some,lA v.Items fun x=>!fut x,← sK]
  ·
   cases v.Items.any fut
   ·
    simp only [Bool.not_false,if_true,Fl.next,Bool.or_false]
   ·
    simp [Fl.next]
  ·
   unfold rR
   rw [cG,if_neg (by omega)]
  ·
   unfold rR
   rw [cG,if_pos (by omega),eW hi,Option.bind_some,ih _ (k3.2.2 _ (List.getElem_mem hi)) (by have:=jB (List.getElem_mem hi);omega),Option.bind_some,iW hi k3.1]
   simp only [List.getD_eq_getElem?_getD,List.getElem?_eq_getElem hi,Option.getD_some]
   cases fut v.Items[i] <;> rfl
theorem aHW {v:aC} (hv:cL v):zR v=some (fut v):=qY (sW v) fun n hn=>aNW n v hv hn
noncomputable def cH (v:aC):Bool:=wth v&&wK false v
theorem aA3 {v:aC} (hv:cL v):sO v=some (cH v):=by
 unfold sO cH
 rw [aEh hv,Option.bind_some,aAm hv]
 cases wth v <;> simp [gd]
theorem yD {v:aC} (hv:cL v):pV v=some (cH v):=by
 unfold pV cH
 rw [yS hv,Option.bind_some,aH1 hv,aHW hv,aMX (sW v) v (Nat.le_refl _)]
 cases wth v <;> cases wK true v <;> cases fut v <;> rfl
end Go.Proofs.YtnigjppddilpcaaGreatDoor
namespace Go.Proofs.YtnigjppddilpcaaGreatDoor
open Go Abs
set_option linter.unusedSimpArgs false
set_option linter.unusedVariables false
theorem xO {xs:List UInt8} (h:xs.length≤140737488355328):gA xs=some xs:=by
 rw [gA,mZ (by simpa using h)];simp
theorem aBa {b:List UInt8}{n:Int} (hb:b.length≤10000000000000) (h1:-9223372036854775808≤n) (h2:n≤9223372036854775807):fW b n=some (b++mR (zz n)):=by
 have hv:=xI (aD2 h1 h2)
 unfold fW
 rw [xO (by omega),Option.bind_some,sh1,aSi,aKH h1 h2]
 obtain ⟨r,hr,u,hu,hlt,he⟩:=rP (body:=uC) (fun s=>∃ u:Nat,s.2=(u:Int)∧u<18446744073709551616∧s.1++mR u=b++mR (zz n)) (fun s=>s.2.toNat)
  (fun r=>∃ u:Nat,r.2=(u:Int)∧u<128∧r.1++mR u=b++mR (zz n)) (fun s ⟨u,hu,hlt,he⟩=>by
   have hlen:s.1.length+(mR u).length=b.length+(mR (zz n)).length:=by simpa using congrArg List.length he
   unfold uC
   rw [hu,cG]
   by_cases h:u<128
   ·
    rw [if_neg (by omega)]
    exact .inr ⟨_,rfl,u,rfl,h,he⟩
   ·
    rw [if_pos (by omega),aRM,aCx (by omega),Option.bind_some,mZ (by simp;omega),Option.bind_some,sh7,aSj]
    refine .inl ⟨_,rfl,⟨u / 128,rfl,by omega,?_⟩,by simp;omega⟩
    rw [← he,aEI h,List.append_assoc,List.singleton_append]) (b,(zz n:Nat)) ⟨zz n,rfl,aD2 h1 h2,rfl⟩
 have hlen:r.1.length+(mR u).length=b.length+(mR (zz n)).length:=by simpa using congrArg List.length he
 rw [hr,Option.bind_some,hu,aDd (aLs (by omega)),Option.bind_some,mZ (by simp;omega),Option.bind_some,← aCW hlt,he]
theorem aEq {b s:List UInt8} (hb:b.length≤10000000000000) (hs:s.length≤10000000000000):iU b s=some (b++mR (zz s.length)++s):=by
 have hv:=xI (aD2 (n:=(s.length:Int)) (by omega) (by omega))
 unfold iU
 rw [aBa (by omega) (by omega) (by omega),Option.bind_some,mZ (by simp;omega),Option.bind_some]
theorem aMs {n:Int} (h1:-9223372036854775808≤n) (h2:n≤9223372036854775807):tE n=some (zz n:Int):=by
 unfold tE
 rw [cG]
 by_cases h:0≤n
 ·
  rw [if_pos h];congr 1;simp only [IntKind.wrap_u64,zz,h,if_true];omega
 ·
  rw [if_neg h];congr 1;simp only [IntKind.wrap_u64,IntKind.wrap_i64,zz,h,if_false];omega
theorem aCP {b:List UInt8}{n:Int} (hb:b.length≤10000000000000) (h1:-9223372036854775808≤n) (h2:n≤9223372036854775807):iL b n=some (b++mR (zz n)):=by
 have hv:=xI (aD2 h1 h2)
 unfold iL
 rw [mZ (by simp;omega),Option.bind_some,List.nil_append,aMs h1 h2,Option.bind_some]
 obtain ⟨r,hr,u,hu,hlt,he⟩:=rP (body:=rQ) (fun s=>∃ u:Nat,s.2=(u:Int)∧u<18446744073709551616∧s.1++mR u=b++mR (zz n)) (fun s=>s.2.toNat)
  (fun r=>∃ u:Nat,r.2=(u:Int)∧u<128∧r.1++mR u=b++mR (zz n)) (fun s ⟨u,hu,hlt,he⟩=>by
   have hlen:s.1.length+(mR u).length=b.length+(mR (zz n)).length:=by simpa using congrArg List.length he
   unfold rQ
   rw [hu,cG]
   by_cases h:u<128
   ·
    rw [if_neg (by omega)]
    exact .inr ⟨_,rfl,u,rfl,h,he⟩
   ·
    rw [if_pos (by omega)]
    have e:IntKind.u8.wrap (IntKind.u64.wrap ((u:Int).tmod 128+128))=((128+u % 128:Nat):Int):=by
     rw [IntKind.wrap_u64,IntKind.wrap_u8,Int.tmod_eq_emod_of_nonneg (by omega)];omega
    rw [e,aCx (by omega),Option.bind_some,mZ (by simp;omega),Option.bind_some]
    have e2:IntKind.u64.wrap ((u:Int).tdiv 128)=((u / 128:Nat):Int):=by rw [IntKind.wrap_u64,Int.tdiv_eq_ediv_of_nonneg (by omega)];omega
    rw [e2]
    refine .inl ⟨_,rfl,⟨u / 128,rfl,by omega,?_⟩,by simp;omega⟩
    rw [← he,aEI h,List.append_assoc,List.singleton_append]) (b,(zz n:Nat)) ⟨zz n,rfl,aD2 h1 h2,rfl⟩
 have hlen:r.1.length+(mR u).length=b.length+(mR (zz n)).length:=by simpa using congrArg List.length he
 rw [hr,Option.bind_some,hu,aDd (aLs (by omega)),Option.bind_some,mZ (by simp;omega),Option.bind_some,← aCW hlt,he]
theorem aGv {b s:List UInt8} (hb:b.length≤10000000000000) (hs:s.length≤10000000000000):iK b s=some (b++mR (zz s.length)++s):=by
 have hv:=xI (aD2 (n:=(s.length:Int)) (by omega) (by omega))
 unfold iK
 rw [aCP (by omega) (by omega) (by omega),Option.bind_some]
 rw [aBh (body:=qN s) (fun x=>∃ i:Nat,x.2=(i:Int)∧i≤s.length∧x.1=b++mR (zz s.length)++s.take i) (fun x=>s.length - x.2.toNat) (fun _=>b++mR (zz s.length)++s) ?_ (b++mR (zz s.length),0) ⟨0,rfl,by omega,by simp⟩]
 ·
  rfl
 ·
  rintro ⟨o,i0⟩ ⟨i,hi0,hi,ho⟩
  simp only at hi0 ho
  subst hi0 ho
  unfold qN
  rw [cG]
  by_cases h:i<s.length
  ·
   rw [if_pos (by omega),aHN,List.getElem?_eq_getElem h,Option.bind_some,aEU,Option.bind_some,mZ (by simp;omega),Option.bind_some]
   refine .inl ⟨_,rfl,⟨i+1,by rw [w64 (by omega) (by omega)];rfl,h,?_⟩,by simp only [w64 (show (-9223372036854775808:Int)≤(i:Int)+1 by omega) (by omega)];omega,rfl⟩
   rw [List.take_succ_eq_append_getElem h];simp
  ·
   rw [if_neg (by omega),List.take_of_length_le (by omega)]
   exact .inr rfl
end Go.Proofs.YtnigjppddilpcaaGreatDoor
namespace Go.Proofs.YtnigjppddilpcaaGreatDoor
open Go Abs
set_option linter.unusedSimpArgs false
set_option linter.unusedVariables false
def jI (n:Int):List UInt8:=mR (zz n)
def tT (s:List UInt8):List UInt8:=mR (zz s.length)++s
theorem oG {n:Int} (h:rB n):(jI n).length≤10:=xI (aD2 h.1 h.2)
theorem wC {n:Nat} (h:n≤9223372036854775807):(jI (n:Int)).length≤10:=oG ⟨by omega,by omega⟩
theorem rN {s:List UInt8} (h:s.length≤9223372036854775807):(tT s).length≤10+s.length:=by
 have:=wC h
 unfold jI at this
 simp only [tT,List.length_append];omega
theorem aCT (s:List UInt8):s.length≤(tT s).length:=by simp [tT]
theorem aB1 {b:List UInt8}{n:Int} (hb:b.length≤10000000000000) (h:rB n):fW b n=some (b++jI n):=aBa hb h.1 h.2
theorem aL9 {b s:List UInt8} (hb:b.length≤10000000000000) (hs:s.length≤10000000000000):iU b s=some (b++tT s):=by rw [aEq hb hs,tT,List.append_assoc]
theorem tA {α:Type} (B:Nat) (l:List α) (f:α→List UInt8) (b:List UInt8) (hB:(b++l.flatMap f).length≤B) {body:List UInt8 × Int→Option (cI (List UInt8 × Int) (List UInt8))}
  (h:∀ (s:List UInt8) (i:Nat) (hi:i<l.length),(s++f l[i]).length≤B→body (s,(i:Int))=some (.next (s++f l[i],((i+1:Nat):Int)))) (hout:∀ s,body (s,(l.length:Int))=some (.out s)) :
  dR body (b,(0:Int))=some (b++l.flatMap f):=by
 refine aBh (fun s=>∃ i:Nat,s.2=(i:Int)∧i≤l.length∧s.1=b++(l.take i).flatMap f) (fun s=>l.length - s.2.toNat) (fun _=>b++l.flatMap f) ?_ _ ⟨0,rfl,by omega,by simp⟩
 rintro ⟨s,i0⟩ ⟨i,hi0,hi,hs⟩
 simp only at hi0 hs
 subst hi0 hs
 by_cases hlt:i<l.length
 ·
  have e:b++(l.take i).flatMap f++f l[i]=b++(l.take (i+1)).flatMap f:=by rw [List.take_succ_eq_append_getElem hlt,List.flatMap_append];simp
  have hle:(b++(l.take i).flatMap f++f l[i]).length≤B:=by
   rw [e]
   refine Nat.le_trans ?_ hB
   conv=>rhs;rw [← List.take_append_drop (i+1) l,List.flatMap_append]
   simp only [List.length_append];omega
  refine .inl ⟨_,h _ i hlt hle,⟨i+1,rfl,hlt,e⟩,by simp;omega,rfl⟩
 ·
  obtain rfl:i=l.length:=by omega
  rw [hout,List.take_length]
  exact .inr rfl
mutual
def pL:aC→List UInt8
 | ⟨k,i,t,l,ks⟩=>jI k++(if k=1∨k=2∨k=6 then jI i else if k=3 then tT t else if k=4 then jI l.length++aJE l else if k=5 then jI l.length++aHm l ks else [])
def aJE:List aC→List UInt8
 | []=>[]
 | x :: l=>pL x++aJE l
def aHm:List aC→List (List UInt8)→List UInt8
 | x :: l,k :: ks=>tT k++pL x++aHm l ks
 | _,_=>[]
end
theorem aJF:∀ l,aJE l=l.flatMap pL
 | []=>by simp [aJE]
 | x :: l=>by simp [aJE,aJF l]
theorem aJG:∀ l ks,aHm l ks=(l.zip ks).flatMap fun p=>tT p.2++pL p.1
 | [],_=>by simp [aHm]
 | x :: l,[]=>by simp [aHm]
 | x :: l,k :: ks=>by simp [aHm,aJG l ks]
theorem aH8 (v:aC):pL v=jI v.Kind++(if v.Kind=1∨v.Kind=2∨v.Kind=6 then jI v.Int else if v.Kind=3 then tT v.Text else if v.Kind=4 then jI v.Items.length++v.Items.flatMap pL
 else if v.Kind=5 then jI v.Items.length++(v.Items.zip v.Keys).flatMap (fun p=>tT p.2++pL p.1) else []):=by cases v;simp only [pL,aJF,aJG]
mutual
def nsz:aC→Nat
 | ⟨_,_,_,l,_⟩=>lP l+1
def lP:List aC→Nat
 | []=>0
 | x :: l=>nsz x+lP l
end
theorem aFn (v:aC):nsz v=lP v.Items+1:=by cases v;simp [nsz]
theorem aLa:∀ l,l.length≤lP l
 | []=>by simp
 | x :: l=>by have:=aLa l;have:=aFn x;simp only [lP,List.length_cons];omega
theorem aE4 {o:Bool}{v:aC} (h:wK o v=true):(v.Kind≠4→v.Kind≠5→v.Items=[])∧(v.Kind=5→v.Keys.length=v.Items.length)∧∀ x∈v.Items,wK o x=true:=by
 rw [aBX,Bool.and_eq_true,List.all_eq_true] at h
 refine ⟨fun h4 h5=>?_,fun h5=>?_,h.2⟩
 ·
  have hf:=h.1
  unfold zI at hf
  by_cases h0:v.Kind=0
  ·
   simp [h0] at hf;simp [hf]
  ·
   by_cases h1:v.Kind=1
   ·
    simp [h1] at hf;simp [hf]
   ·
    by_cases h2:v.Kind=2
    ·
     simp [h2] at hf;simp [hf]
    ·
     by_cases h6:v.Kind=6
     ·
      simp [h6] at hf;simp [hf]
     ·
      by_cases h3:v.Kind=3
      ·
       simp [h3] at hf;simp [hf]
      ·
       simp [h0,h1,h2,h6,h3,h4,h5] at hf
 ·
  have hf:=h.1
  unfold zI at hf
  simp [h5] at hf
  exact hf.1.2
end Go.Proofs.YtnigjppddilpcaaGreatDoor
namespace Go.Proofs.YtnigjppddilpcaaGreatDoor
open Go Abs
set_option linter.unusedSimpArgs false
set_option linter.unusedVariables false
theorem aFL {b:List UInt8}{n:Int} (hb:b.length≤10000000000000) (h:rB n):iL b n=some (b++jI n):=aCP hb h.1 h.2
theorem aHe {b s:List UInt8} (hb:b.length≤10000000000000) (hs:s.length≤10000000000000):iK b s=some (b++tT s):=by rw [aGv hb hs,tT,List.append_assoc]
theorem aM8 (v:aC):(cond (decide (v.Kind=(1:Int))) (some (decide (v.Kind=(1:Int)))) (cond (decide (v.Kind=(2:Int))) (some (decide (v.Kind=(2:Int)))) (some (decide (v.Kind=(6:Int))))))=some (decide (v.Kind=1∨v.Kind=2∨v.Kind=6)):=by
 by_cases h1:v.Kind=1
 ·
  simp [h1]
 ·
  by_cases h2:v.Kind=2 <;> simp [h1,h2]
theorem aLZ (v:aC):(cond (decide (v.Kind=(4:Int))) (some (decide (v.Kind=(4:Int)))) (some (decide (v.Kind=(5:Int)))))=some (decide (v.Kind=4∨v.Kind=5)):=by
 by_cases h1:v.Kind=4 <;> simp [h1]
theorem aEY:∀ (n:Nat) (v:aC) (b:List UInt8),sW v≤n→cL v→wK true v=true→(b++pL v).length≤1000000000000→kY n b v=some (b++pL v)∧sA n b v=some (b++pL v):=by
 intro n
 induction n with
 | zero=>intro v b h;have:=hP v;omega
 | succ n ih =>
  intro v b h hv hf hB
  have hh:=hP v
  obtain ⟨k0,k1,k2,k3,k4⟩:=(dH v).1 hv
  obtain ⟨l1,l2,l3⟩:=aE4 hf
  rw [aH8] at hB ⊢
  rw [kY,sA,aM8,aLZ]
  simp only [List.length_append] at hB
  rw [aB1 (by omega) k0,aFL (by omega) k0]
  simp only [Option.bind_some]
  have hb0:(b++jI v.Kind).length=b.length+(jI v.Kind).length:=by simp
  by_cases h126:v.Kind=1∨v.Kind=2∨v.Kind=6
  ·
   simp only [h126,decide_true,cond_true,if_true] at hB ⊢
   rw [aB1 (by omega) k1,aFL (by omega) k1]
   simp [Fl.next]
  ·
   simp only [h126,decide_false,cond_false,if_false] at hB ⊢
   by_cases h3:v.Kind=3
   ·
    have h3t:=aCT v.Text
    simp only [h3,decide_true,cond_true,if_true] at hB hb0 ⊢
    rw [aL9 (by omega) (by omega),aHe (by omega) (by omega)]
    simp [Fl.next]
   ·
    simp only [h3,decide_false,cond_false,if_false] at hB ⊢
    by_cases h4:v.Kind=4
    ·
     have hok:rB (v.Items.length:Int):=⟨by omega,by have:=k3.1;omega⟩
     simp only [h4,true_or,decide_true,cond_true,if_true,List.length_append] at hB ⊢
     rw [aB1 (by simp only [List.length_append];omega) hok,aFL (by simp only [List.length_append];omega) hok]
     simp only [Option.bind_some,Fl.next]
     rw [tA 1000000000000 v.Items pL _ (by simp only [List.length_append];omega) (fun s i hi hs=>?_) (fun s=>?_),tA 1000000000000 v.Items pL _ (by simp only [List.length_append];omega) (fun s i hi hs=>?_) (fun s=>?_)]
     ·
      simp
     ·
      unfold qP
      rw [cG,if_pos (by simp only;omega)]
      simp only [h4,Int.reduceEq,decide_false,cond_false,Option.bind_some]
      rw [eW hi,Option.bind_some,(ih _ _ (by have:=jB (List.getElem_mem hi);omega) (k3.2.2 _ (List.getElem_mem hi)) (l3 _ (List.getElem_mem hi)) hs).2,Option.bind_some,iW hi k3.1]
     ·
      unfold qP
      rw [cG,if_neg (by simp only;omega)]
     ·
      unfold iZ
      rw [cG,if_pos (by simp only;omega),eW hi,Option.bind_some]
      simp only [h4,Int.reduceEq,decide_false,cond_false]
      rw [(ih _ _ (by have:=jB (List.getElem_mem hi);omega) (k3.2.2 _ (List.getElem_mem hi)) (l3 _ (List.getElem_mem hi)) hs).1,Option.bind_some,iW hi k3.1]
     ·
      unfold iZ
      rw [cG,if_neg (by simp only;omega)]
    ·
     by_cases h5:v.Kind=5
     ·
      have hok:rB (v.Items.length:Int):=⟨by omega,by have:=k3.1;omega⟩
      have hlen:=l2 h5
      have hz:(v.Items.zip v.Keys).length=v.Items.length:=by simp [hlen]
      simp only [h5,or_true,Int.reduceEq,decide_true,cond_true,if_true,if_false,List.length_append] at hB ⊢
      rw [aB1 (by simp only [List.length_append];omega) hok,aFL (by simp only [List.length_append];omega) hok]
      simp only [Option.bind_some,Fl.next]
      rw [tA 1000000000000 (v.Items.zip v.Keys) (fun p=>tT p.2++pL p.1) _ (by simp only [List.length_append];omega) (fun s i hi hs=>?_) (fun s=>?_),tA 1000000000000 (v.Items.zip v.Keys) (fun p=>tT p.2++pL p.1) _ (by simp only [List.length_append];omega) (fun s i hi hs=>?_) (fun s=>?_)]
      ·
       simp
      ·
       unfold qP
       rw [hz] at hi
       have hik:i<v.Keys.length:=by omega
       simp only [List.getElem_zip,List.length_append] at hs ⊢
       have:=aCT v.Keys[i]
       rw [cG,if_pos (by omega)]
       simp only [h5,decide_true,cond_true]
       rw [eW hik,Option.bind_some,aHe (by omega) (by omega),Option.bind_some,Option.bind_some,eW hi,Option.bind_some,(ih _ _ (by have:=jB (List.getElem_mem hi);omega) (k3.2.2 _ (List.getElem_mem hi)) (l3 _ (List.getElem_mem hi)) (by simp only [List.length_append];omega)).2,Option.bind_some,iW hi k3.1]
       simp
      ·
       unfold qP
       rw [cG,if_neg (by simp only;omega)]
      ·
       unfold iZ
       rw [hz] at hi
       have hik:i<v.Keys.length:=by omega
       simp only [List.getElem_zip,List.length_append] at hs ⊢
       have:=aCT v.Keys[i]
       rw [cG,if_pos (by omega),eW hi,Option.bind_some]
       simp only [h5,decide_true,cond_true]
       rw [eW hik,Option.bind_some,aL9 (by omega) (by omega),Option.bind_some,(ih _ _ (by have:=jB (List.getElem_mem hi);omega) (k3.2.2 _ (List.getElem_mem hi)) (l3 _ (List.getElem_mem hi)) (by simp only [List.length_append];omega)).1,Option.bind_some,iW hi k3.1]
       simp
      ·
       unfold iZ
       rw [cG,if_neg (by simp only;omega)]
     ·
      simp only [h4,h5,or_self,decide_false,cond_false,if_false,Option.bind_some,Fl.next]
      rw [aFi (body:=iZ (kY n) v) (s:=(b++jI v.Kind,0)) (r:=b++jI v.Kind) (by unfold iZ;rw [l1 h4 h5];rfl)]
      simp
theorem aEg {b:List UInt8}{v:aC} (hv:cL v) (hB:(b++pL v).length≤1000000000000):tY b v=some (b++if wK true v then pL v else []):=by
 unfold tY zZ
 simp only [List.length_append] at hB
 rw [xO (by omega),aAm hv]
 cases hf:wK true v
 ·
  simp
 ·
  simp only [Option.bind_some,Bool.not_true,cond_false,if_true]
  rw [qY (sW v) fun n hn=>(aEY n v b hn hv hf (by simp only [List.length_append];omega)).1,Option.bind_some]
theorem aHV {b:List UInt8}{v:aC} (hv:cL v) (hB:(b++pL v).length≤1000000000000):tG b v=some (b++if wK true v then pL v else []):=by
 unfold tG aDv
 simp only [List.length_append] at hB
 rw [mZ (by simp;omega),yS hv]
 cases hf:wK true v
 ·
  simp
 ·
  simp only [Option.bind_some,Bool.not_true,cond_false,if_true,List.nil_append]
  rw [qY (sW v) fun n hn=>(aEY n v b hn hv hf (by simp only [List.length_append];omega)).2,Option.bind_some]
end Go.Proofs.YtnigjppddilpcaaGreatDoor
namespace Go.Proofs.YtnigjppddilpcaaGreatDoor
open Go Abs
set_option linter.unusedSimpArgs false
set_option linter.unusedVariables false
def lL (c:UInt8):Bool:=(decide (97≤c.toNat)&&decide (c.toNat≤122))||(decide (65≤c.toNat)&&decide (c.toNat≤90))||decide (c.toNat=95)
def jW (c:UInt8):Bool:=decide (48≤c.toNat)&&decide (c.toNat≤57)
theorem aFl (c:UInt8):vE (c.toNat:Int)=some (lL c):=by
 unfold vE lL
 congr 1
 rw [Bool.eq_iff_iff]
 simp only [Bool.cond_eq_ite,Bool.or_eq_true,Bool.and_eq_true,decide_eq_true_eq]
 split <;> (try split) <;> (try split) <;> simp_all <;> omega
theorem aFD (c:UInt8):tN (c.toNat:Int)=some (lL c||jW c):=by
 unfold tN lL jW
 congr 1
 rw [Bool.eq_iff_iff]
 have e:∀ n:Nat,((n:Int)≤(c.toNat:Int)↔n≤c.toNat)∧((c.toNat:Int)≤(n:Int)↔c.toNat≤n)∧((c.toNat:Int)=(n:Int)↔c.toNat=n):=fun n=>⟨by omega,by omega,by omega⟩
 have e1:=e 97;have e2:=e 122;have e3:=e 65;have e4:=e 90;have e5:=e 95;have e6:=e 48;have e7:=e 57
 simp only [Int.cast_ofNat_Int] at e1 e2 e3 e4 e5 e6 e7
 by_cases h1:97≤c.toNat <;> by_cases h2:c.toNat≤122 <;> by_cases h3:65≤c.toNat <;> by_cases h4:c.toNat≤90 <;> by_cases h5:c.toNat=95 <;> by_cases h6:48≤c.toNat <;> by_cases h7:c.toNat≤57 <;> simp [h1,h2,h3,h4,h5,h6,h7,e1.1,e2.2.1,e3.1,e4.2.1,e5.2.2,e6.1,e7.2.1] <;> omega
def jJ (s:List UInt8):Bool:=!decide (s=[])&&decide (s.length≤64)&&!jW (s.headD 0)&&s.all fun c=>lL c||jW c
theorem rI {s:List UInt8}:mG s=some (jJ s):=by
 unfold mG jJ
 by_cases h0:s=[]
 ·
  simp [h0]
 ·
  by_cases h1:(64:Int)<s.length
  ·
   have h2:¬s.length≤64:=by omega
   simp [h0,h1,h2]
  ·
   have h2:s.length≤64:=by omega
   simp only [h0,h1,h2,decide_false,decide_true,cond_false,Bool.not_false,Bool.true_and]
   rw [iJ s.length (fun i=>lL (s.getD i 0)||(decide (0<i)&&jW (s.getD i 0))) false (fun i hi=>?_) ?_,Option.bind_some]
   ·
    have:((List.range s.length).all fun i=>lL (s.getD i 0)||(decide (0<i)&&jW (s.getD i 0)))=(!jW (s.headD 0)&&s.all fun c=>lL c||jW c):=by
     obtain ⟨c,r,rfl⟩:∃ c r,s=c :: r:=by cases s with
      | nil=>exact absurd rfl h0
      | cons c r=>exact ⟨c,r,rfl⟩
     have hnd:lL c=true→jW c=false:=by
      unfold lL jW
      simp only [Bool.or_eq_true,Bool.and_eq_true,decide_eq_true_eq,Bool.and_eq_false_iff,decide_eq_false_iff_not]
      omega
     rw [Bool.eq_iff_iff,Bool.and_eq_true,List.all_eq_true,List.all_eq_true]
     constructor
     ·
      intro h
      have h3:=h 0 (by simp)
      simp only [List.getD_cons_zero,Nat.lt_irrefl,decide_false,Bool.false_and,Bool.or_false] at h3
      refine ⟨by simp [hnd h3],fun x hx=>?_⟩
      obtain ⟨i,hi,rfl⟩:=List.mem_iff_getElem.1 hx
      have h4:=h i (List.mem_range.2 hi)
      simp only [List.getD_eq_getElem?_getD,List.getElem?_eq_getElem hi,Option.getD_some] at h4
      revert h4
      cases lL (c :: r)[i] <;> cases jW (c :: r)[i] <;> simp
     ·
      rintro ⟨h3,h4⟩ i hi
      have hi:=List.mem_range.1 hi
      have h5:=h4 _ (List.getElem_mem hi)
      simp only [List.getD_eq_getElem?_getD,List.getElem?_eq_getElem hi,Option.getD_some]
      cases i with
      | zero=>revert h3 h5;simp only [List.headD_cons,List.getElem_cons_zero];cases lL c <;> cases jW c <;> simp
      | succ i=>simpa using h5
    rw [this]
    cases (!jW (s.headD 0)&&s.all fun c=>lL c||jW c) <;> rfl
   ·
    unfold uR
    rw [cG,if_neg (by omega)]
   ·
    unfold uR
    rw [cG,if_pos (by omega),eW hi,Option.bind_some,aFl,Option.bind_some,iW hi (by omega)]
    simp only [List.getD_eq_getElem?_getD,List.getElem?_eq_getElem hi,Option.getD_some]
    have hz:decide ((i:Int)=0)=!decide (0<i):=by rw [Bool.eq_iff_iff];simp
    have hd:∀ c:UInt8,(cond (decide ((c.toNat:Int)<48)) true (decide ((57:Int)<(c.toNat:Int))))=!jW c:=fun c=>by
     unfold jW
     by_cases h1:c.toNat<48
     ·
      have:¬48≤c.toNat:=by omega
      have h2:(c.toNat:Int)<48:=by omega
      simp [h2,this]
     ·
      have:48≤c.toNat:=by omega
      have h2:¬(c.toNat:Int)<48:=by omega
      rw [Bool.eq_iff_iff]
      simp [h2,this]
      omega
    rw [hz]
    generalize s[i]=c
    have hd':=hd c
    cases hl:lL c
    ·
     by_cases h0:0<i
     ·
      simp only [h0,decide_true,Bool.not_true,Bool.not_false,cond_true,cond_false,gd,beq_self_eq_true,Bool.and_self,Bool.true_and,if_true,Option.bind_some,Bool.false_or]
      by_cases h48:(c.toNat:Int)<48
      ·
       rw [show jW c=false by rw [← Bool.not_eq_true',← hd'];simp [h48]]
       simp [h48]
      ·
       simp only [h48,decide_false,cond_false] at hd' ⊢
       simp only [beq_self_eq_true,if_true,Option.bind_some,hd']
       cases jW c <;> rfl
     ·
      simp [h0,gd]
    ·
     simp [gd]
theorem rM {s:List UInt8}:kV s=some (jJ s):=by
 unfold kV jJ
 by_cases h0:s=[]
 ·
  subst h0;rfl
 ·
  have hl:0<s.length:=List.length_pos_iff.2 h0
  by_cases h1:(64:Int)<s.length
  ·
   have h2:¬s.length≤64:=by omega
   have h3:(cond (decide ((s.length:Int)<1)) true (decide ((64:Int)<(s.length:Int))))=true:=by simp [h1]
   simp [h3,gd,h2]
  ·
   have h2:s.length≤64:=by omega
   have h3:(cond (decide ((s.length:Int)<1)) true (decide ((64:Int)<(s.length:Int))))=false:=by simp [h1];omega
   obtain ⟨c,r,rfl⟩:∃ c r,s=c :: r:=by cases s with
    | nil=>exact absurd rfl h0
    | cons c r=>exact ⟨c,r,rfl⟩
   have hi0:hG (c :: r) (0:Int)=some c:=rfl
   have hdg:(cond (decide ((48:Int)≤(c.toNat:Int))) (decide ((c.toNat:Int)≤57)) false)=jW c:=by
    unfold jW
    by_cases h4:48≤c.toNat
    ·
     have:(48:Int)≤(c.toNat:Int):=by omega
     rw [Bool.eq_iff_iff];simp [h4,this];omega
    ·
     have:¬(48:Int)≤(c.toNat:Int):=by omega
     simp [h4,this]
   rw [h3,hi0]
   simp only [h2,List.headD_cons,decide_true,Bool.and_true,reduceCtorEq,decide_false,Bool.not_false,gd,beq_self_eq_true,if_true,Option.bind_some,cond_false,Bool.true_and]
   have key:∀ x:UInt8,((decide ((48:Int)≤(c.toNat:Int))==true)=true→x=c)→(cond (decide ((48:Int)≤(c.toNat:Int))) (decide ((x.toNat:Int)≤57)) false)=jW c:=fun x hx=>by
    rw [← hdg]
    by_cases h4:(48:Int)≤(c.toNat:Int)
    ·
     rw [hx (by simp [h4])]
    ·
     simp [h4]
   have key2:∃ x:UInt8,(if (decide ((48:Int)≤(c.toNat:Int))==true)=true then some c else some default)=some x∧((decide ((48:Int)≤(c.toNat:Int))==true)=true→x=c):=by
    by_cases h4:(decide ((48:Int)≤(c.toNat:Int))==true)=true
    ·
     exact ⟨c,by rw [if_pos h4],fun _=>rfl⟩
    ·
     exact ⟨default,by rw [if_neg h4],fun h=>absurd h h4⟩
   obtain ⟨x,hx1,hx2⟩:=key2
   rw [hx1,Option.bind_some,key x hx2]
   cases hdc:jW c
   ·
    simp only [cond_false,Bool.not_false,Bool.true_and]
    rw [iJ (c :: r).length (fun i=>lL ((c :: r).getD i default)||jW ((c :: r).getD i default)) false (fun i hi=>?_) ?_,Option.bind_some,lA (c :: r) fun c=>lL c||jW c]
    ·
     cases (c :: r).all fun c=>lL c||jW c <;> rfl
    ·
     unfold tM
     rw [cG,if_neg (by omega)]
    ·
     unfold tM
     rw [cG,if_pos (by omega),eW hi,Option.bind_some,aFD,Option.bind_some,iW hi (by omega)]
     simp only [List.getD_eq_getElem?_getD,List.getElem?_eq_getElem hi,Option.getD_some]
     cases lL (c :: r)[i] <;> cases jW (c :: r)[i] <;> rfl
   ·
    rfl
end Go.Proofs.YtnigjppddilpcaaGreatDoor

/- Plain laws: what the functions compute, with no program in sight. -/
import Derived.Test.YtnigjppddilpcaaGreatDoorPk2
import Derived.Test.YtnigjppddilpcaaGreatDoorGEF0
import Derived.Test.YtnigjppddilpcaaGreatDoorGEF1
import Derived.Test.YtnigjppddilpcaaGreatDoorGEF2
import Derived.Test.YtnigjppddilpcaaGreatDoorGEF6
import Derived.Test.YtnigjppddilpcaaGreatDoorGEF7
import Derived.Test.YtnigjppddilpcaaGreatDoorGEF8
import Derived.Test.YtnigjppddilpcaaGreatDoorGESh
import Derived.Test.YtnigjppddilpcaaGreatDoorGEF9
import Derived.Test.YtnigjppddilpcaaGreatDoorGEF3
namespace Go.Proofs.YtnigjppddilpcaaGreatDoor
open Go Abs
set_option linter.unusedSimpArgs false
set_option linter.unusedVariables false
theorem kR {i n:Nat} (h:i<n) (hn:n≤9223372036854775807):IntKind.i64.wrap ((i:Int)+1)=((i+1:Nat):Int):=by rw [w64 (by omega) (by omega)];omega
theorem eQ {α:Type}{l:List α}{i:Nat} (h:i<l.length):jV l (i:Int)=some l[i]:=by rw [aCE,List.getElem?_eq_getElem h]
theorem jK {τ:Type} (n:Nat) (p:Nat→Bool) (b:τ) {body:Int→Option (bS Int (Fl τ Unit))} (h:∀ i:Nat,i<n→body (i:Int)=some (if p i then .next ((i+1:Nat):Int) else .out (.done b)))
  (hout:body (n:Int)=some (.out (.go ()))):dL body (0:Int)=some (if (List.range n).all p then .go () else .done b):=by
 refine aBu (fun s=>∃ i:Nat,s=(i:Int)∧i≤n∧∀ j,j<i→p j=true) (fun s=>n - s.toNat) (fun _=>(if (List.range n).all p then Fl.go () else Fl.done b:Fl τ Unit)) ?_ _ ⟨0,rfl,by omega,by omega⟩
 rintro s ⟨i,rfl,hi,hp⟩
 by_cases hlt:i<n
 ·
  rw [h i hlt]
  by_cases hpi:p i=true
  ·
   rw [if_pos hpi]
   exact .inl ⟨_,rfl,⟨i+1,rfl,hlt,fun j hj=>by rcases Nat.lt_succ_iff_lt_or_eq.1 hj with h1 | rfl;exact hp j h1;exact hpi⟩,by simp;omega,rfl⟩
  ·
   rw [if_neg hpi,if_neg (fun ha=>hpi (List.all_eq_true.1 ha i (List.mem_range.2 hlt)))]
   exact .inr rfl
 ·
  obtain rfl:i=n:=by omega
  rw [hout,if_pos (List.all_eq_true.2 fun j hj=>hp j (List.mem_range.1 hj))]
  exact .inr rfl
theorem mQ {α:Type} [Inhabited α] (l:List α) (p:α→Bool):((List.range l.length).all fun i=>p (l.getD i default))=l.all p:=by
 rw [Bool.eq_iff_iff,List.all_eq_true,List.all_eq_true]
 constructor
 ·
  intro h x hx
  obtain ⟨i,hi,rfl⟩:=List.mem_iff_getElem.1 hx
  have:=h i (List.mem_range.2 hi)
  simpa [hi] using this
 ·
  intro h i hi
  have hi:=List.mem_range.1 hi
  simpa [hi] using h _ (List.getElem_mem hi)
theorem vQ {α:Type} (l:List α) (p:α→Bool) {body:Int→Option (bS Int (Fl Int Unit))} (h:∀ (i:Nat) (hi:i<l.length),body (i:Int)=some (if p l[i] then .out (.done (i:Int)) else .next ((i+1:Nat):Int)))
  (hout:body (l.length:Int)=some (.out (.go ()))):∃ x:Int,((dL body (0:Int)).bind fun r=>Fl.next r fun _=>some (-1:Int))=some x∧decide ((0:Int)≤x)=l.any p:=by
 obtain ⟨r,h1,x,h2,h3⟩:∃ r,dL body (0:Int)=some r∧∃ x:Int,(Fl.next r fun _=>some (-1:Int))=some x∧decide ((0:Int)≤x)=l.any p:=by
  refine qK (fun s=>∃ i:Nat,s=(i:Int)∧i≤l.length∧∀ j (hj:j<l.length),j<i→p l[j]=false) (fun s=>l.length - s.toNat) _ ?_ _ ⟨0,rfl,by omega,by omega⟩
  rintro s ⟨i,rfl,hi,hp⟩
  by_cases hlt:i<l.length
  ·
   rw [h i hlt]
   by_cases hpi:p l[i]=true
   ·
    rw [if_pos hpi]
    refine .inr ⟨_,rfl,i,rfl,?_⟩
    have:l.any p=true:=List.any_eq_true.2 ⟨_,List.getElem_mem hlt,hpi⟩
    rw [this];simp
   ·
    rw [if_neg hpi]
    exact .inl ⟨_,rfl,⟨i+1,rfl,hlt,fun j hj hji=>by rcases Nat.lt_succ_iff_lt_or_eq.1 hji with h1 | rfl;exact hp j hj h1;simpa using hpi⟩,by simp;omega⟩
  ·
   obtain rfl:i=l.length:=by omega
   rw [hout]
   refine .inr ⟨_,rfl,-1,rfl,?_⟩
   have:l.any p=false:=by
    rw [List.any_eq_false]
    intro x hx
    obtain ⟨j,hj,rfl⟩:=List.mem_iff_getElem.1 hx
    simp [hp j hj hj]
   rw [this];decide
 exact ⟨x,by rw [h1,Option.bind_some];exact h2,h3⟩
theorem aBt {α σ:Type} (l:List α) (f:σ→α→σ) (s0:σ) {body:σ × Int→Option (bS (σ × Int) σ)} (h:∀ (s:σ) (i:Nat) (hi:i<l.length),body (s,(i:Int))=some (.next (f s l[i],((i+1:Nat):Int))))
  (hout:∀ s,body (s,(l.length:Int))=some (.out s)):dL body (s0,(0:Int))=some (l.foldl f s0):=by
 refine aBu (fun s=>∃ i:Nat,s.2=(i:Int)∧i≤l.length∧s.1=(l.take i).foldl f s0) (fun s=>l.length - s.2.toNat) (fun _=>l.foldl f s0) ?_ _ ⟨0,rfl,by omega,by simp⟩
 rintro ⟨s,i0⟩ ⟨i,hi0,hi,hs⟩
 simp only at hi0 hs
 subst hi0
 by_cases hlt:i<l.length
 ·
  refine .inl ⟨_,h s i hlt,⟨i+1,rfl,hlt,?_⟩,by simp;omega,rfl⟩
  rw [hs,List.take_succ_eq_append_getElem hlt,List.foldl_append]
  rfl
 ·
  obtain rfl:i=l.length:=by omega
  rw [hout,hs,List.take_length]
  exact .inr rfl
end Go.Proofs.YtnigjppddilpcaaGreatDoor
namespace Go.Proofs.YtnigjppddilpcaaGreatDoor
open Go Abs
set_option linter.unusedSimpArgs false
set_option linter.unusedVariables false
mutual
def rM:aC→Nat
 | ⟨_,_,_,l,_⟩=>aDp l+1
def aDp:List aC→Nat
 | []=>0
 | x :: l=>max (rM x) (aDp l)
end
theorem jI:∀ {l:List aC}{x:aC},x∈l→rM x≤aDp l
 | [],x,h=>by simp at h
 | y :: l,x,h=>by
  simp only [aDp]
  rcases List.mem_cons.1 h with rfl | h
  ·
   omega
  ·
   have:=jI h;omega
theorem hD (v:aC):rM v=aDp v.Items+1:=by cases v;simp [rM]
theorem aKh {v x:aC} (h:x∈v.Items):rM x<rM v:=by have:=jI h;have:=hD v;omega
mutual
def oM:aC→aC→Bool
 | ⟨k,i,t,l,ks⟩,w=>decide (k=w.Kind)&&decide (i=w.Int)&&decide (t=w.Text)&&decide (ks=w.Keys)&&sF l w.Items
def sF:List aC→List aC→Bool
 | [],[]=>true
 | x :: l,y :: m=>oM x y&&sF l m
 | _,_=>false
end
theorem aGg (v w:aC):oM v w=(decide (v.Kind=w.Kind)&&decide (v.Int=w.Int)&&decide (v.Text=w.Text)&&decide (v.Keys=w.Keys)&&sF v.Items w.Items):=by cases v;simp [oM]
theorem wX:∀ (l m:List aC),sF l m=true↔l.length=m.length∧∀ i (h:i<l.length) (h2:i<m.length),oM l[i] m[i]=true
 | [],[]=>by simp [sF]
 | [],y :: m=>by simp [sF]
 | x :: l,[]=>by simp [sF]
 | x :: l,y :: m=>by
  simp only [sF,Bool.and_eq_true,wX l m,List.length_cons,Nat.add_right_cancel_iff]
  constructor
  ·
   rintro ⟨h1,h2,h3⟩
   refine ⟨h2,fun i hi hi2=>?_⟩
   cases i with
   | zero=>exact h1
   | succ i=>exact h3 i (by omega) (by omega)
  ·
   rintro ⟨h2,h3⟩
   exact ⟨h3 0 (by omega) (by omega),h2,fun i hi hi2=>h3 (i+1) (by omega) (by omega)⟩
theorem aMx:∀ (n:Nat) (v w:aC),rM v≤n→(oM v w=true↔v=w):=by
 intro n
 induction n with
 | zero=>intro v w h;have:=hD v;omega
 | succ n ih =>
  intro v w h
  rw [aGg]
  simp only [Bool.and_eq_true,decide_eq_true_eq,wX]
  constructor
  ·
   rintro ⟨⟨⟨⟨h1,h2⟩,h3⟩,h4⟩,h5,h6⟩
   have h7:v.Items=w.Items:=List.ext_getElem h5 fun i hi hi2=>(ih _ _ (by have:=aKh (List.getElem_mem hi:v.Items[i]∈v.Items);omega)).1 (h6 i hi hi2)
   cases v;cases w;simp_all
  ·
   rintro rfl
   exact ⟨⟨⟨⟨rfl,rfl⟩,rfl⟩,rfl⟩,rfl,fun i hi _=>(ih _ _ (by have:=aKh (List.getElem_mem hi:v.Items[i]∈v.Items);omega)).2 rfl⟩
theorem aFZ {a b:List (List UInt8)} (ha:a.length≤9223372036854775807):gC a b=some (decide (a=b)):=by
 unfold gC
 rw [qJ]
 by_cases h:(a.length:Int)=b.length
 ·
  rw [if_pos h,jK a.length (fun i=>decide (a[i]?=b[i]?)) false (fun i hi=>?_) ?_,Option.bind_some]
  ·
   split
   ·
    rename_i h2
    rw [List.all_eq_true] at h2
    have:a=b:=List.ext_getElem? fun i=>by
     by_cases hi:i<a.length
     ·
      have:=h2 i (List.mem_range.2 hi);simpa using this
     ·
      rw [List.getElem?_eq_none (by omega),List.getElem?_eq_none (by omega)]
    simp [Fl.next,this]
   ·
    rename_i h2
    have:a≠b:=fun e=>h2 (by rw [List.all_eq_true];intro i _;simp [e])
    simp [Fl.next,this]
  ·
   unfold iJ
   rw [bE,if_neg (by omega)]
  ·
   unfold iJ
   have hb:i<b.length:=by omega
   rw [bE,if_pos (by omega),eQ hi,Option.bind_some,eQ hb,Option.bind_some,qJ,kR hi ha,List.getElem?_eq_getElem hi,List.getElem?_eq_getElem hb]
   simp only [Option.some.injEq,decide_eq_true_eq]
   split <;> rfl
 ·
  rw [if_neg h]
  have:a≠b:=fun e=>h (by rw [e])
  simp [this]
theorem aCs {l m:List aC} (h:l.length=m.length) (p:Nat→Bool) (hp:∀ i (h1:i<l.length) (h2:i<m.length),p i=oM l[i] m[i]):(List.range l.length).all p=sF l m:=by
 rw [Bool.eq_iff_iff,List.all_eq_true,wX]
 constructor
 ·
  exact fun hh=>⟨h,fun i h1 h2=>by rw [← hp i h1 h2];exact hh i (List.mem_range.2 h1)⟩
 ·
  exact fun hh i hi=>by have:=List.mem_range.1 hi;rw [hp i this (by omega)];exact hh.2 i this (by omega)
theorem aMH:∀ (n:Nat) (v w:aC),bR v→2*rM v≤n→pD n v w=some (oM v w):=by
 intro n
 induction n using Nat.strongRecOn with
 | _ n ih =>
  intro v w hv hn
  have hh:=hD v
  obtain ⟨m,rfl⟩:∃ m,n=m+2:=⟨n - 2,by omega⟩
  obtain ⟨k0,k1,k2,k3,k4⟩:=(eD v).1 hv
  have hE:cD (m+1) v.Items w.Items=some (sF v.Items w.Items):=by
   rw [cD,qJ]
   by_cases h:(v.Items.length:Int)=w.Items.length
   ·
    rw [if_pos h,jK v.Items.length (fun i=>oM (v.Items.getD i default) (w.Items.getD i default)) false (fun i hi=>?_) ?_,Option.bind_some,aCs (m:=w.Items) (by omega) _ (fun i h1 h2=>by simp [h1,h2])]
    ·
     cases sF v.Items w.Items <;> rfl
    ·
     unfold dE
     rw [bE,if_neg (by omega)]
    ·
     unfold dE
     have hb:i<w.Items.length:=by omega
     rw [bE,if_pos (by omega),eQ hi,Option.bind_some,eQ hb,Option.bind_some,ih m (by omega) _ _ (k3.2.2 _ (List.getElem_mem hi)) (by have:=jI (List.getElem_mem hi);omega),Option.bind_some,kR hi k3.1]
     simp only [List.getD_eq_getElem?_getD,List.getElem?_eq_getElem hi,List.getElem?_eq_getElem hb,Option.getD_some]
     cases oM v.Items[i] w.Items[i] <;> rfl
   ·
    rw [if_neg h]
    have:sF v.Items w.Items=false:=by rw [← Bool.not_eq_true,wX];exact fun hh=>h (by omega)
    rw [this]
  rw [pD,aFZ k4.1,hE,aGg]
  by_cases h1:v.Kind=w.Kind <;> by_cases h2:v.Int=w.Int <;> by_cases h3:v.Text=w.Text <;> by_cases h4:v.Keys=w.Keys <;> simp [h1,h2,h3,h4,gd]
theorem aBU {v w:aC} (hv:bR v):aAh v w=some (oM v w):=qP (2*rM v) fun n hn=>aMH n v w hv hn
theorem aJg:∀ (n:Nat) (v w:aC),bR v→rM v≤n→oW n v w=some (oM v w):=by
 intro n
 induction n with
 | zero=>intro v w hv hn;have:=hD v;omega
 | succ n ih =>
  intro v w hv hn
  have hh:=hD v
  obtain ⟨k0,k1,k2,k3,k4⟩:=(eD v).1 hv
  rw [oW,aGg]
  by_cases h1:v.Kind=w.Kind
  ·
   by_cases h2:v.Int=w.Int
   ·
    by_cases h3:v.Text=w.Text
    ·
     by_cases h4:(v.Items.length:Int)=w.Items.length
     ·
      by_cases h5:(v.Keys.length:Int)=w.Keys.length
      ·
       simp only [h1,h2,h3,h4,h5,decide_true,Bool.not_true,cond_false,Bool.true_and]
       rw [jK v.Keys.length (fun i=>decide (v.Keys[i]?=w.Keys[i]?)) false (fun i hi=>?_) ?_,Option.bind_some]
       ·
        have hk:((List.range v.Keys.length).all fun i=>decide (v.Keys[i]?=w.Keys[i]?))=decide (v.Keys=w.Keys):=by
         rw [Bool.eq_iff_iff,List.all_eq_true]
         simp only [decide_eq_true_eq]
         constructor
         ·
          refine fun h6=>List.ext_getElem? fun i=>?_
          by_cases hi:i<v.Keys.length
          ·
           exact h6 i (List.mem_range.2 hi)
          ·
           rw [List.getElem?_eq_none (by omega),List.getElem?_eq_none (by omega)]
         ·
          intro e i _;rw [e]
        rw [hk]
        by_cases h6:v.Keys=w.Keys
        ·
         simp only [h6,decide_true,if_true,Fl.next,Bool.true_and]
         rw [jK v.Items.length (fun i=>oM (v.Items.getD i default) (w.Items.getD i default)) false (fun i hi=>?_) ?_,Option.bind_some,aCs (m:=w.Items) (by omega) _ (fun i h1 h2=>by simp [h1,h2])]
         ·
          cases sF v.Items w.Items <;> rfl
         ·
          unfold tK
          rw [bE,if_neg (by omega)]
         ·
          unfold tK
          have hb:i<w.Items.length:=by omega
          rw [bE,if_pos (by omega),eQ hi,Option.bind_some,eQ hb,Option.bind_some,ih _ _ (k3.2.2 _ (List.getElem_mem hi)) (by have:=jI (List.getElem_mem hi);omega),Option.bind_some,kR hi k3.1]
          simp only [List.getD_eq_getElem?_getD,List.getElem?_eq_getElem hi,List.getElem?_eq_getElem hb,Option.getD_some]
          cases oM v.Items[i] w.Items[i] <;> rfl
        ·
         simp [h6,Fl.next]
       ·
        unfold tJ
        rw [bE,if_neg (by omega)]
       ·
        unfold tJ
        have hb:i<w.Keys.length:=by omega
        rw [bE,if_pos (by omega),eQ hi,Option.bind_some,eQ hb,Option.bind_some,qJ,kR hi k4.1,List.getElem?_eq_getElem hi,List.getElem?_eq_getElem hb]
        simp only [Option.some.injEq,decide_eq_true_eq]
        split <;> rfl
      ·
       have:v.Keys≠w.Keys:=fun e=>h5 (by rw [e])
       simp [h5,this]
     ·
      have:sF v.Items w.Items=false:=by rw [← Bool.not_eq_true,wX];exact fun hh=>h4 (by omega)
      simp [h4,this]
    ·
     simp [h3]
   ·
    simp [h2]
  ·
   simp [h1]
theorem aCg {v w:aC} (hv:bR v):zM v w=some (oM v w):=qP (rM v) fun n hn=>aJg n v w hv hn
mutual
def dep:aC→Int
 | ⟨_,_,_,l,_⟩=>IntKind.i64.wrap (aM0 l 0+1)
def aM0:List aC→Int→Int
 | [],a=>a
 | x :: l,a=>aM0 l (if dep x > a then dep x else a)
end
theorem aJ9 (v:aC):dep v=IntKind.i64.wrap (v.Items.foldl (fun a x=>if dep x > a then dep x else a) 0+1):=by
 have key:∀ (l:List aC) (a:Int),aM0 l a=l.foldl (fun a x=>if dep x > a then dep x else a) a:=by
  intro l
  induction l with
  | nil=>intro a;simp [aM0]
  | cons x l ih=>intro a;simp [aM0,ih]
 cases v;simp only [dep,key]
mutual
def siz:aC→Int
 | ⟨_,_,_,l,_⟩=>aNP l 1
def aNP:List aC→Int→Int
 | [],a=>a
 | x :: l,a=>aNP l (IntKind.i64.wrap (a+siz x))
end
theorem aKE (v:aC):siz v=v.Items.foldl (fun a x=>IntKind.i64.wrap (a+siz x)) 1:=by
 have key:∀ (l:List aC) (a:Int),aNP l a=l.foldl (fun a x=>IntKind.i64.wrap (a+siz x)) a:=by
  intro l
  induction l with
  | nil=>intro a;simp [aNP]
  | cons x l ih=>intro a;simp [aNP,ih]
 cases v;simp only [siz,key]
theorem aLs:∀ (n:Nat) (v:aC),bR v→rM v≤n→nN n v=some (dep v):=by
 intro n
 induction n with
 | zero=>intro v hv hn;have:=hD v;omega
 | succ n ih =>
  intro v hv hn
  have hh:=hD v
  obtain ⟨k0,k1,k2,k3,k4⟩:=(eD v).1 hv
  have hi1:=fun (i:Nat) (hi:i<v.Items.length)=>ih _ (k3.2.2 _ (List.getElem_mem hi)) (by have:=jI (List.getElem_mem hi);omega)
  rw [nN,aJ9]
  rw [aBt v.Items (fun a x=>if dep x > a then dep x else a) 0 (fun s i hi=>?_) (fun s=>?_),Option.bind_some]
  ·
   unfold sD
   rw [bE,if_pos (by simp only;omega),eQ hi,Option.bind_some,(hi1 i hi),Option.bind_some,kR hi k3.1]
  ·
   unfold sD
   rw [bE,if_neg (by simp only;omega)]
theorem aHR:∀ (n:Nat) (v:aC),bR v→rM v≤n→vG n v=some (dep v):=by
 intro n
 induction n with
 | zero=>intro v hv hn;have:=hD v;omega
 | succ n ih =>
  intro v hv hn
  have hh:=hD v
  obtain ⟨k0,k1,k2,k3,k4⟩:=(eD v).1 hv
  have hi1:=fun (i:Nat) (hi:i<v.Items.length)=>ih _ (k3.2.2 _ (List.getElem_mem hi)) (by have:=jI (List.getElem_mem hi);omega)
  rw [vG,aJ9]
  rw [aBt v.Items (fun a x=>if dep x > a then dep x else a) 0 (fun s i hi=>?_) (fun s=>?_),Option.bind_some]
  ·
   unfold wJ
   rw [bE,if_pos (by simp only;omega),eQ hi,Option.bind_some,(hi1 i hi),Option.bind_some,kR hi k3.1,bE]
   simp only
   by_cases h:s<dep v.Items[i]
   ·
    rw [if_pos h,if_pos h]
   ·
    rw [if_neg h,if_neg h]
  ·
   unfold wJ
   rw [bE,if_neg (by simp only;omega)]
theorem aGe {v:aC} (hv:bR v):aBd v=some (dep v):=qP (rM v) fun n hn=>aLs n v hv hn
theorem aJe {v:aC} (hv:bR v):aEe v=some (dep v):=qP (rM v) fun n hn=>aHR n v hv hn
theorem aMI:∀ (n:Nat) (v:aC),bR v→rM v≤n→pE n v=some (siz v):=by
 intro n
 induction n with
 | zero=>intro v hv hn;have:=hD v;omega
 | succ n ih =>
  intro v hv hn
  have hh:=hD v
  obtain ⟨k0,k1,k2,k3,k4⟩:=(eD v).1 hv
  have hi1:=fun (i:Nat) (hi:i<v.Items.length)=>ih _ (k3.2.2 _ (List.getElem_mem hi)) (by have:=jI (List.getElem_mem hi);omega)
  rw [pE,aKE]
  rw [aBt v.Items (fun a x=>IntKind.i64.wrap (a+siz x)) 1 (fun s i hi=>?_) (fun s=>?_),Option.bind_some]
  ·
   unfold tP
   rw [bE,if_pos (by simp only;omega),eQ hi,Option.bind_some,(hi1 i hi),Option.bind_some,kR hi k3.1]
  ·
   unfold tP
   rw [bE,if_neg (by simp only;omega)]
theorem aJi:∀ (n:Nat) (v:aC),bR v→rM v≤n→xN n v=some (siz v):=by
 intro n
 induction n with
 | zero=>intro v hv hn;have:=hD v;omega
 | succ n ih =>
  intro v hv hn
  have hh:=hD v
  obtain ⟨k0,k1,k2,k3,k4⟩:=(eD v).1 hv
  have hi1:=fun (i:Nat) (hi:i<v.Items.length)=>ih _ (k3.2.2 _ (List.getElem_mem hi)) (by have:=jI (List.getElem_mem hi);omega)
  rw [xN,aKE]
  rw [aBt v.Items (fun a x=>IntKind.i64.wrap (a+siz x)) 1 (fun s i hi=>?_) (fun s=>?_),Option.bind_some]
  ·
   unfold xY
   rw [bE,if_pos (by simp only;omega),eQ hi,Option.bind_some,(hi1 i hi),Option.bind_some,kR hi k3.1]
  ·
   unfold xY
   rw [bE,if_neg (by simp only;omega)]
theorem aGK {v:aC} (hv:bR v):aCk v=some (siz v):=qP (rM v) fun n hn=>aMI n v hv hn
theorem aKx {v:aC} (hv:bR v):aFR v=some (siz v):=qP (rM v) fun n hn=>aJi n v hv hn
end Go.Proofs.YtnigjppddilpcaaGreatDoor
namespace Go.Proofs.YtnigjppddilpcaaGreatDoor
open Go Abs
set_option linter.unusedSimpArgs false
set_option linter.unusedVariables false
def iW (k:List UInt8):Bool:=decide ((4096:Int)<(k.length:Int))
mutual
def shr:aC→Bool
 | ⟨_,_,t,l,ks⟩=>!iW t&&!ks.any iW&&aOE l
def aOE:List aC→Bool
 | []=>true
 | x :: l=>shr x&&aOE l
end
theorem aJr:∀ l,aOE l=l.all shr
 | []=>rfl
 | x :: l=>by simp [aOE,aJr l]
theorem aH0 (v:aC):shr v=(!iW v.Text&&!v.Keys.any iW&&v.Items.all shr):=by cases v;simp [shr,aJr]
theorem qX {α:Type} (l:List α) (p:α→Bool):(!l.any p)=l.all fun x=>!p x:=by simp [List.not_any_eq_all_not]
theorem aNo {ks:List (List UInt8)} (h:ks.length≤9223372036854775807):eI ks=some (ks.any iW):=by
 unfold eI fC
 obtain ⟨x,h1,h2⟩:=vQ (body:=eK ks) ks iW (fun i hi=>by
  unfold eK
  rw [bE,if_pos (by omega),eQ hi,Option.bind_some,tQ,Option.bind_some,kR hi h]
  show cond (iW ks[i]) _ _=_
  cases iW ks[i] <;> rfl) (by
  unfold eK
  rw [bE,if_neg (by omega)])
 rw [h1,Option.bind_some,h2]
theorem aMm:∀ (n:Nat) (v:aC),bR v→4*rM v≤n→nP n v=some (shr v):=by
 intro n
 induction n using Nat.strongRecOn with
 | _ n ih =>
  intro v hv hn
  have hh:=hD v
  obtain ⟨m,rfl⟩:∃ m,n=m+4:=⟨n - 4,by omega⟩
  obtain ⟨k0,k1,k2,k3,k4⟩:=(eD v).1 hv
  have hC:cU (m+3) v.Items=some (v.Items.any fun x=>!shr x):=by
   rw [cU,eB]
   obtain ⟨x,h1,h2⟩:=vQ (body:=dU (mZ (m+1)) v.Items) v.Items (fun x=>!shr x) (fun i hi=>by
    unfold dU
    rw [bE,if_pos (by omega),eQ hi,Option.bind_some,mZ,ih m (by omega) _ (k3.2.2 _ (List.getElem_mem hi)) (by have:=jI (List.getElem_mem hi);omega),Option.bind_some,Option.bind_some,kR hi k3.1]
    cases shr v.Items[i] <;> rfl) (by
    unfold dU
    rw [bE,if_neg (by omega)])
   rw [h1,Option.bind_some,h2]
  rw [nP,aNo k4.1,hC,aH0]
  by_cases h:(4096:Int)<v.Text.length
  ·
   simp [h,gd,iW]
  ·
   have hA:(!v.Items.any fun x=>!shr x)=v.Items.all shr:=by rw [qX];simp
   have ht:iW v.Text=false:=by simp [iW,h]
   simp only [h,ht,decide_false,beq_self_eq_true,gd,if_true,Option.bind_some,cond_false,Bool.not_false,Bool.true_and,hA]
   cases v.Keys.any iW <;> rfl
theorem aGf {v:aC} (hv:bR v):aBf v=some (shr v):=qP (4*rM v) fun n hn=>aMm n v hv hn
theorem aHV:∀ (n:Nat) (v:aC),bR v→rM v≤n→vI n v=some (shr v):=by
 intro n
 induction n with
 | zero=>intro v hv hn;have:=hD v;omega
 | succ n ih =>
  intro v hv hn
  have hh:=hD v
  obtain ⟨k0,k1,k2,k3,k4⟩:=(eD v).1 hv
  rw [vI,aH0,bE]
  by_cases h:(4096:Int)<v.Text.length
  ·
   rw [if_pos h];simp [iW,h]
  ·
   rw [if_neg h]
   rw [jK v.Keys.length (fun i=>!iW (v.Keys.getD i default)) false (fun i hi=>?_) ?_,Option.bind_some,mQ v.Keys fun k=>!iW k]
   ·
    rw [qX]
    have ht:iW v.Text=false:=by simp [iW,h]
    rw [ht]
    cases v.Keys.all fun x=>!iW x
    ·
     rfl
    ·
     simp only [if_true,Fl.next,Bool.not_false,Bool.true_and]
     rw [jK v.Items.length (fun i=>shr (v.Items.getD i default)) false (fun i hi=>?_) ?_,Option.bind_some,mQ v.Items shr]
     ·
      cases v.Items.all shr <;> rfl
     ·
      unfold wL
      rw [bE,if_neg (by omega)]
     ·
      unfold wL
      rw [bE,if_pos (by omega),eQ hi,Option.bind_some,ih _ (k3.2.2 _ (List.getElem_mem hi)) (by have:=jI (List.getElem_mem hi);omega),Option.bind_some,kR hi k3.1]
      simp only [List.getD_eq_getElem?_getD,List.getElem?_eq_getElem hi,Option.getD_some]
      cases shr v.Items[i] <;> rfl
   ·
    unfold wK
    rw [bE,if_neg (by omega)]
   ·
    unfold wK
    rw [bE,if_pos (by omega),eQ hi,Option.bind_some,kR hi k4.1]
    simp only [List.getD_eq_getElem?_getD,List.getElem?_eq_getElem hi,Option.getD_some]
    show cond (iW v.Keys[i]) _ _=_
    cases iW v.Keys[i] <;> rfl
theorem aJh {v:aC} (hv:bR v):aEf v=some (shr v):=qP (rM v) fun n hn=>aHV n v hv hn
def wth (v:aC):Bool:=decide (dep v≤16)&&decide (siz v≤1000)&&shr v
theorem aEE {v:aC} (hv:bR v):sE v=some (wth v):=by
 unfold sE wth
 rw [aGe hv,Option.bind_some,aGK hv,aGf hv]
 by_cases h1:dep v≤16 <;> by_cases h2:siz v≤1000 <;> simp [h1,h2,gd]
theorem aHX {v:aC} (hv:bR v):zN v=some (wth v):=by
 unfold zN wth
 rw [aJh hv,Option.bind_some,aJe hv,aKx hv]
 cases h3:shr v
 ·
  simp [gd]
 ·
  by_cases h1:dep v≤16
  ·
   simp [h1,gd]
  ·
   simp [h1,gd]
def aEA (l:List (List UInt8)):Bool:=(List.range (l.length - 1)).all fun i=>Op.bytesLess (l.getD i []) (l.getD (i+1) [])
theorem aFW {l:List (List UInt8)}:aEA l=true↔∀ (i:Nat) (hi:i+1<l.length),Op.bytesLess (l[i]'(by omega)) l[i+1]=true:=by
 unfold aEA
 rw [List.all_eq_true]
 constructor
 ·
  intro h i hi
  have:=h i (List.mem_range.2 (by omega))
  rw [List.getD_eq_getElem?_getD,List.getD_eq_getElem?_getD,List.getElem?_eq_getElem (by omega),List.getElem?_eq_getElem hi] at this
  exact this
 ·
  intro h i hi
  have hi:=List.mem_range.1 hi
  rw [List.getD_eq_getElem?_getD,List.getD_eq_getElem?_getD,List.getElem?_eq_getElem (by omega),List.getElem?_eq_getElem (by omega)]
  exact h i (by omega)
theorem aJk {l:List (List UInt8)}{body:Int→Option (bS Int (Fl Bool Unit))} (h:∀ (i:Nat) (h1:1≤i) (hi:i<l.length),body (i:Int)=some (if Op.bytesLess (l[i - 1]'(by omega)) l[i]=true then .next ((i+1:Nat):Int) else .out (.done false)))
  (hout:∀ i:Nat,l.length≤i→body (i:Int)=some (.out (.go ()))):dL body (1:Int)=some (if aEA l=true then .go () else .done false):=by
 have key:∃ x,dL body (1:Int)=some x∧x=if aEA l=true then .go () else .done false:=by
  refine qK (fun s=>∃ i:Nat,s=(i:Int)∧1≤i∧∀ (k:Nat) (hk:k+1<l.length),k+1<i→Op.bytesLess (l[k]'(by omega)) l[k+1]=true) (fun s=>l.length - s.toNat) _ ?_ _ ⟨1,rfl,by omega,fun k hk hk2=>by omega⟩
  rintro s ⟨i,rfl,h1,hd⟩
  by_cases hlt:i<l.length
  ·
   rw [h i h1 hlt]
   by_cases hb:Op.bytesLess (l[i - 1]'(by omega)) l[i]=true
   ·
    rw [if_pos hb]
    refine .inl ⟨_,rfl,⟨i+1,rfl,by omega,fun k hk hk2=>?_⟩,by simp only [Int.toNat_natCast];omega⟩
    by_cases e:k+1=i
    ·
     subst e;exact hb
    ·
     exact hd k hk (by omega)
   ·
    rw [if_neg hb]
    refine .inr ⟨_,rfl,?_⟩
    rw [if_neg fun hr=>hb (by
     have:=aFW.1 hr (i - 1) (by omega)
     simp only [show i - 1+1=i by omega] at this
     exact this)]
  ·
   rw [hout i (by omega)]
   refine .inr ⟨_,rfl,?_⟩
   rw [if_pos (aFW.2 fun k hk=>hd k hk (by omega))]
 obtain ⟨x,hx,rfl⟩:=key
 exact hx
theorem aHU {l:List (List UInt8)} (h:l.length≤9223372036854775807):zL l=some (aEA l):=by
 unfold zL
 rw [aJk (l:=l) (fun i h1 hi=>?_) (fun i hi=>?_),Option.bind_some]
 ·
  cases aEA l <;> rfl
 ·
  unfold uQ
  rw [bE,if_pos (by omega),w64 (by omega) (by omega),show (i:Int) - 1=((i - 1:Nat):Int) by omega,eQ (by omega),Option.bind_some,eQ hi,Option.bind_some,kR hi h]
  cases Op.bytesLess (l[i - 1]'(by omega)) l[i] <;> rfl
 ·
  unfold uQ
  rw [bE,if_neg (by omega)]
theorem aHA {l:List (List UInt8)} (h:l.length≤9223372036854775807):nT l=some (aEA l):=by
 unfold nT
 rw [aJk (l:=l) (fun i h1 hi=>?_) (fun i hi=>?_),Option.bind_some]
 ·
  cases aEA l <;> rfl
 ·
  unfold nO
  rw [bE,if_pos (by omega),w64 (by omega) (by omega),show (i:Int) - 1=((i - 1:Nat):Int) by omega,eQ (by omega),Option.bind_some,eQ hi,Option.bind_some,kR hi h]
  cases Op.bytesLess (l[i - 1]'(by omega)) l[i] <;> rfl
 ·
  unfold nO
  rw [bE,if_neg (by omega)]
def aAA (o:Bool) (v:aC):Bool :=
 if v.Kind=0 then decide (v.Int=0)&&decide (v.Text=[])&&decide (v.Items.length=0)&&decide (v.Keys.length=0)
 else if v.Kind=1 then (decide (v.Int=0)||decide (v.Int=1))&&decide (v.Text=[])&&decide (v.Items.length=0)&&decide (v.Keys.length=0)
 else if v.Kind=2 then decide (v.Text=[])&&decide (v.Items.length=0)&&decide (v.Keys.length=0)
 else if v.Kind=6 then o&&decide (0≤v.Int)&&decide (v.Text=[])&&decide (v.Items.length=0)&&decide (v.Keys.length=0)
 else if v.Kind=3 then decide (v.Int=0)&&decide (v.Items.length=0)&&decide (v.Keys.length=0)
 else if v.Kind=4 then decide (v.Int=0)&&decide (v.Text=[])&&decide (v.Keys.length=0)
 else if v.Kind=5 then decide (v.Int=0)&&decide (v.Text=[])&&decide (v.Keys.length=v.Items.length)&&aEA v.Keys
 else false
mutual
def xE (o:Bool):aC→Bool
 | ⟨k,i,t,l,ks⟩=>aAA o ⟨k,i,t,l,ks⟩&&aM9 o l
def aM9 (o:Bool):List aC→Bool
 | []=>true
 | x :: l=>xE o x&&aM9 o l
end
mutual
def fut:aC→Bool
 | ⟨k,_,_,l,_⟩=>decide (k=6)||aNc l
def aNc:List aC→Bool
 | []=>false
 | x :: l=>fut x||aNc l
end
theorem aIG (o:Bool):∀ l,aM9 o l=l.all (xE o)
 | []=>by simp [aM9]
 | x :: l=>by simp [aM9,aIG o l]
theorem aIH:∀ l,aNc l=l.any fut
 | []=>by simp [aNc]
 | x :: l=>by simp [aNc,aIH l]
theorem aDn (o:Bool) (v:aC):xE o v=(aAA o v&&v.Items.all (xE o)):=by cases v;simp only [xE,aIG]
theorem aNb (v:aC):fut v=(decide (v.Kind=6)||v.Items.any fut):=by cases v;simp only [fut,aIH]
theorem aPu (v:aC):aAA false v=(aAA true v&&!decide (v.Kind=6)):=by
 unfold aAA
 by_cases h0:v.Kind=0
 ·
  simp [h0]
 ·
  by_cases h1:v.Kind=1
  ·
   simp [h1]
  ·
   by_cases h2:v.Kind=2
   ·
    simp [h2]
   ·
    by_cases h6:v.Kind=6
    ·
     simp [h6]
    ·
     simp [h0,h1,h2,h6]
theorem aM8:∀ (n:Nat) (v:aC),rM v≤n→xE false v=(xE true v&&!fut v):=by
 intro n
 induction n with
 | zero=>intro v h;have:=hD v;omega
 | succ n ih =>
  intro v h
  have hall:v.Items.all (xE false)=(v.Items.all (xE true)&&!v.Items.any fut):=by
   have key:∀ l:List aC,(∀ x∈l,xE false x=(xE true x&&!fut x))→l.all (xE false)=(l.all (xE true)&&!l.any fut):=by
    intro l
    induction l with
    | nil=>intro _;rfl
    | cons x l ihl =>
     intro hx
     simp only [List.all_cons,List.any_cons]
     rw [ihl fun y hy=>hx y (by simp [hy]),hx x (by simp)]
     cases xE true x <;> cases fut x <;> cases l.all (xE true) <;> cases l.any fut <;> rfl
   exact key v.Items fun x hx=>ih x (by have:=aKh hx;omega)
  rw [aDn,aDn,aNb,aPu,hall]
  cases aAA true v <;> cases decide (v.Kind=6) <;> cases v.Items.all (xE true) <;> cases v.Items.any fut <;> rfl
theorem aL2 {α:Type} (l:List α):decide ((0:Int)<(l.length:Int))=!decide (l.length=0):=by cases l <;> simp <;> omega
theorem aL3 {α:Type} (l:List α):decide ((l.length:Int)=0)=decide (l.length=0):=by rw [Bool.eq_iff_iff];simp
theorem aQk {α β:Type} (l:List α) (m:List β):decide ((l.length:Int)=m.length)=decide (l.length=m.length):=by rw [Bool.eq_iff_iff];simp;omega
theorem aKf:∀ (n:Nat) (v:aC) (o:Bool),bR v→4*rM v≤n→mM n v o=some (xE o v):=by
 intro n
 induction n using Nat.strongRecOn with
 | _ n ih =>
  intro v o hv hn
  have hh:=hD v
  obtain ⟨m,rfl⟩:∃ m,n=m+4:=⟨n - 4,by omega⟩
  obtain ⟨k0,k1,k2,k3,k4⟩:=(eD v).1 hv
  have hC:cR (m+3) v.Items o=some (v.Items.any fun x=>!xE o x):=by
   rw [cR,dY]
   obtain ⟨x,h1,h2⟩:=vQ (body:=dR (lR (m+1)) v.Items o) v.Items (fun x=>!xE o x) (fun i hi=>by
    unfold dR
    rw [bE,if_pos (by omega),eQ hi,Option.bind_some,lR,ih m (by omega) _ _ (k3.2.2 _ (List.getElem_mem hi)) (by have:=jI (List.getElem_mem hi);omega),Option.bind_some,Option.bind_some,kR hi k3.1]
    cases xE o v.Items[i] <;> rfl) (by
    unfold dR
    rw [bE,if_neg (by omega)])
   rw [h1,Option.bind_some,h2]
  have hA:(!v.Items.any fun x=>!xE o x)=v.Items.all (xE o):=by rw [qX];simp
  have hE:∀ b:Bool,(b=true→v.Items.length=0)→b=(b&&v.Items.all (xE o)):=fun b hb=>by
   cases b
   ·
    rfl
   ·
    have:v.Items=[]:=List.eq_nil_of_length_eq_zero (hb rfl)
    rw [this];rfl
  rw [mM,aHA k4.1,hC,aDn]
  unfold aAA
  by_cases h0:v.Kind=0
  ·
   simp only [h0,Int.reduceEq,if_true,if_false,decide_true,decide_false,cond_true,cond_false,Option.bind_some,Fl.next,aL2]
   rw [← hE _ (by simp only [Bool.and_eq_true,decide_eq_true_eq];rintro ⟨⟨_,h⟩,_⟩;exact h)]
   cases decide (v.Int=0) <;> cases decide (v.Text=[]) <;> cases decide (v.Items.length=0) <;> cases decide (v.Keys.length=0) <;> rfl
  by_cases h1:v.Kind=1
  ·
   simp only [h1,Int.reduceEq,if_true,if_false,decide_true,decide_false,cond_true,cond_false,Option.bind_some,Fl.next,aL2]
   rw [← hE _ (by simp only [Bool.and_eq_true,decide_eq_true_eq];rintro ⟨⟨_,h⟩,_⟩;exact h)]
   cases decide (v.Int=0) <;> cases decide (v.Int=1) <;> cases decide (v.Text=[]) <;> cases decide (v.Items.length=0) <;> cases decide (v.Keys.length=0) <;> rfl
  by_cases h2:v.Kind=2
  ·
   simp only [h2,Int.reduceEq,if_true,if_false,decide_true,decide_false,cond_true,cond_false,Option.bind_some,Fl.next,aL2]
   rw [← hE _ (by simp only [Bool.and_eq_true,decide_eq_true_eq];rintro ⟨⟨_,h⟩,_⟩;exact h)]
   cases decide (v.Text=[]) <;> cases decide (v.Items.length=0) <;> cases decide (v.Keys.length=0) <;> rfl
  by_cases h6:v.Kind=6
  ·
   simp only [h6,Int.reduceEq,if_true,if_false,decide_true,decide_false,cond_true,cond_false,Option.bind_some,Fl.next,aL2]
   rw [← hE _ (by simp only [Bool.and_eq_true,decide_eq_true_eq];rintro ⟨⟨_,h⟩,_⟩;exact h)]
   cases o <;> cases decide (0≤v.Int) <;> cases decide (v.Text=[]) <;> cases decide (v.Items.length=0) <;> cases decide (v.Keys.length=0) <;> rfl
  by_cases h3:v.Kind=3
  ·
   simp only [h3,Int.reduceEq,if_true,if_false,decide_true,decide_false,cond_true,cond_false,Option.bind_some,Fl.next,aL2]
   rw [← hE _ (by simp only [Bool.and_eq_true,decide_eq_true_eq];rintro ⟨⟨_,h⟩,_⟩;exact h)]
   cases decide (v.Int=0) <;> cases decide (v.Items.length=0) <;> cases decide (v.Keys.length=0) <;> rfl
  by_cases h4:v.Kind=4
  ·
   simp only [h4,Int.reduceEq,if_true,if_false,decide_true,decide_false,cond_true,cond_false,aL2]
   cases decide (v.Int=0) <;> cases decide (v.Text=[]) <;> cases decide (v.Keys.length=0) <;> simp [hA,Fl.next]
  by_cases h5:v.Kind=5
  ·
   simp only [h5,Int.reduceEq,if_true,if_false,decide_true,decide_false,cond_true,cond_false,aQk]
   cases decide (v.Int=0) <;> cases decide (v.Text=[]) <;> cases decide (v.Keys.length=v.Items.length) <;> cases aEA v.Keys <;> simp [hA,Fl.next,gd]
  simp only [h0,h1,h2,h3,h4,h5,h6,if_false,decide_false,cond_false,Option.bind_some,Fl.next,Bool.false_and]
theorem aAw {v:aC}{o:Bool} (hv:bR v):vN v o=some (xE o v):=qP (4*rM v) fun n hn=>aKf n v o hv hn
theorem aMJ:∀ (n:Nat) (v:aC),bR v→rM v≤n→oH n v=some (xE true v):=by
 intro n
 induction n with
 | zero=>intro v hv hn;have:=hD v;omega
 | succ n ih =>
  intro v hv hn
  have hh:=hD v
  obtain ⟨k0,k1,k2,k3,k4⟩:=(eD v).1 hv
  rw [oH,aHU k4.1,aDn]
  rw [jK v.Items.length (fun i=>xE true (v.Items.getD i default)) false (fun i hi=>?_) ?_,Option.bind_some,mQ v.Items (xE true)]
  ·
   cases v.Items.all (xE true)
   ·
    simp [Fl.next]
   ·
    simp only [if_true,Fl.next,Bool.and_true]
    unfold aAA
    by_cases h0:v.Kind=0
    ·
     simp only [h0,Int.reduceEq,if_true,if_false,decide_true,decide_false,cond_true,cond_false,aL3]
     cases decide (v.Int=0) <;> cases decide (v.Text=[]) <;> cases decide (v.Items.length=0) <;> cases decide (v.Keys.length=0) <;> rfl
    by_cases h1:v.Kind=1
    ·
     simp only [h1,Int.reduceEq,if_true,if_false,decide_true,decide_false,cond_true,cond_false,aL3]
     cases decide (v.Int=0) <;> cases decide (v.Int=1) <;> cases decide (v.Text=[]) <;> cases decide (v.Items.length=0) <;> cases decide (v.Keys.length=0) <;> rfl
    by_cases h2:v.Kind=2
    ·
     simp only [h2,Int.reduceEq,if_true,if_false,decide_true,decide_false,cond_true,cond_false,aL3]
     cases decide (v.Text=[]) <;> cases decide (v.Items.length=0) <;> cases decide (v.Keys.length=0) <;> rfl
    by_cases h6:v.Kind=6
    ·
     simp only [h6,Int.reduceEq,if_true,if_false,decide_true,decide_false,cond_true,cond_false,aL3]
     cases decide (0≤v.Int) <;> cases decide (v.Text=[]) <;> cases decide (v.Items.length=0) <;> cases decide (v.Keys.length=0) <;> rfl
    by_cases h3:v.Kind=3
    ·
     simp only [h3,Int.reduceEq,if_true,if_false,decide_true,decide_false,cond_true,cond_false,aL3]
     cases decide (v.Int=0) <;> cases decide (v.Items.length=0) <;> cases decide (v.Keys.length=0) <;> rfl
    by_cases h4:v.Kind=4
    ·
     simp only [h4,Int.reduceEq,if_true,if_false,decide_true,decide_false,cond_true,cond_false,aL3]
     cases decide (v.Int=0) <;> cases decide (v.Text=[]) <;> cases decide (v.Keys.length=0) <;> rfl
    by_cases h5:v.Kind=5
    ·
     simp only [h5,Int.reduceEq,if_true,if_false,decide_true,decide_false,cond_true,cond_false,aQk]
     cases decide (v.Int=0) <;> cases decide (v.Text=[]) <;> cases decide (v.Keys.length=v.Items.length) <;> cases aEA v.Keys <;> rfl
    simp only [h0,h1,h2,h3,h4,h5,h6,if_false,decide_false,cond_false]
  ·
   unfold pU
   rw [bE,if_neg (by omega)]
  ·
   unfold pU
   rw [bE,if_pos (by omega),eQ hi,Option.bind_some,ih _ (k3.2.2 _ (List.getElem_mem hi)) (by have:=jI (List.getElem_mem hi);omega),Option.bind_some,kR hi k3.1]
   simp only [List.getD_eq_getElem?_getD,List.getElem?_eq_getElem hi,Option.getD_some]
   cases xE true v.Items[i] <;> rfl
theorem yN {v:aC} (hv:bR v):tA v=some (xE true v):=qP (rM v) fun n hn=>aMJ n v hv hn
theorem aN4:∀ (n:Nat) (v:aC),bR v→rM v≤n→tI n v=some (fut v):=by
 intro n
 induction n with
 | zero=>intro v hv hn;have:=hD v;omega
 | succ n ih =>
  intro v hv hn
  have hh:=hD v
  obtain ⟨k0,k1,k2,k3,k4⟩:=(eD v).1 hv
  rw [tI,aNb]
  rw [jK v.Items.length (fun i=>!fut (v.Items.getD i default)) true (fun i hi=>?_) ?_,Option.bind_some,mQ v.Items fun x=>!fut x,← qX]
  ·
   cases v.Items.any fut
   ·
    simp only [Bool.not_false,if_true,Fl.next,Bool.or_false]
   ·
    simp [Fl.next]
  ·
   unfold uP
   rw [bE,if_neg (by omega)]
  ·
   unfold uP
   rw [bE,if_pos (by omega),eQ hi,Option.bind_some,ih _ (k3.2.2 _ (List.getElem_mem hi)) (by have:=jI (List.getElem_mem hi);omega),Option.bind_some,kR hi k3.1]
   simp only [List.getD_eq_getElem?_getD,List.getElem?_eq_getElem hi,Option.getD_some]
   cases fut v.Items[i] <;> rfl
theorem aHS {v:aC} (hv:bR v):aCN v=some (fut v):=qP (rM v) fun n hn=>aN4 n v hv hn
noncomputable def nA (v:aC):Bool:=wth v&&xE false v
theorem aBe {v:aC} (hv:bR v):rC v=some (nA v):=by
 unfold rC nA
 rw [aEE hv,Option.bind_some,aAw hv]
 cases wth v <;> simp [gd]
theorem aBR {v:aC} (hv:bR v):xM v=some (nA v):=by
 unfold xM nA
 rw [yN hv,Option.bind_some,aHX hv,aHS hv,aM8 (rM v) v (Nat.le_refl _)]
 cases wth v <;> cases xE true v <;> cases fut v <;> rfl
end Go.Proofs.YtnigjppddilpcaaGreatDoor
namespace Go.Proofs.YtnigjppddilpcaaGreatDoor
open Go Abs
set_option linter.unusedSimpArgs false
set_option linter.unusedVariables false
def lL (c:UInt8):Bool:=(decide (97≤c.toNat)&&decide (c.toNat≤122))||(decide (65≤c.toNat)&&decide (c.toNat≤90))||decide (c.toNat=95)
def kF (c:UInt8):Bool:=decide (48≤c.toNat)&&decide (c.toNat≤57)
theorem aFA (c:UInt8):tY (c.toNat:Int)=some (lL c):=by
 unfold tY lL
 congr 1
 rw [Bool.eq_iff_iff]
 simp only [Bool.cond_eq_ite,Bool.or_eq_true,Bool.and_eq_true,decide_eq_true_eq]
 split <;> (try split) <;> (try split) <;> simp_all <;> omega
theorem aFS (c:UInt8):zS (c.toNat:Int)=some (lL c||kF c):=by
 unfold zS lL kF
 congr 1
 rw [Bool.eq_iff_iff]
 have e:∀ n:Nat,((n:Int)≤(c.toNat:Int)↔n≤c.toNat)∧((c.toNat:Int)≤(n:Int)↔c.toNat≤n)∧((c.toNat:Int)=(n:Int)↔c.toNat=n):=fun n=>⟨by omega,by omega,by omega⟩
 have e1:=e 97;have e2:=e 122;have e3:=e 65;have e4:=e 90;have e5:=e 95;have e6:=e 48;have e7:=e 57
 simp only [Int.cast_ofNat_Int] at e1 e2 e3 e4 e5 e6 e7
 by_cases h1:97≤c.toNat <;> by_cases h2:c.toNat≤122 <;> by_cases h3:65≤c.toNat <;> by_cases h4:c.toNat≤90 <;> by_cases h5:c.toNat=95 <;> by_cases h6:48≤c.toNat <;> by_cases h7:c.toNat≤57 <;> simp [h1,h2,h3,h4,h5,h6,h7,e1.1,e2.2.1,e3.1,e4.2.1,e5.2.2,e6.1,e7.2.1] <;> omega
def lQ (s:List UInt8):Bool:=!decide (s=[])&&decide (s.length≤64)&&!kF (s.headD 0)&&s.all fun c=>lL c||kF c
theorem tG {s:List UInt8}:oS s=some (lQ s):=by
 unfold oS lQ
 by_cases h0:s=[]
 ·
  simp [h0]
 ·
  by_cases h1:(64:Int)<s.length
  ·
   have h2:¬s.length≤64:=by omega
   simp [h0,h1,h2]
  ·
   have h2:s.length≤64:=by omega
   simp only [h0,h1,h2,decide_false,decide_true,cond_false,Bool.not_false,Bool.true_and]
   rw [jK s.length (fun i=>lL (s.getD i 0)||(decide (0<i)&&kF (s.getD i 0))) false (fun i hi=>?_) ?_,Option.bind_some]
   ·
    have:((List.range s.length).all fun i=>lL (s.getD i 0)||(decide (0<i)&&kF (s.getD i 0)))=(!kF (s.headD 0)&&s.all fun c=>lL c||kF c):=by
     obtain ⟨c,r,rfl⟩:∃ c r,s=c :: r:=by cases s with
      | nil=>exact absurd rfl h0
      | cons c r=>exact ⟨c,r,rfl⟩
     have hnd:lL c=true→kF c=false:=by
      unfold lL kF
      simp only [Bool.or_eq_true,Bool.and_eq_true,decide_eq_true_eq,Bool.and_eq_false_iff,decide_eq_false_iff_not]
      omega
     rw [Bool.eq_iff_iff,Bool.and_eq_true,List.all_eq_true,List.all_eq_true]
     constructor
     ·
      intro h
      have h3:=h 0 (by simp)
      simp only [List.getD_cons_zero,Nat.lt_irrefl,decide_false,Bool.false_and,Bool.or_false] at h3
      refine ⟨by simp [hnd h3],fun x hx=>?_⟩
      obtain ⟨i,hi,rfl⟩:=List.mem_iff_getElem.1 hx
      have h4:=h i (List.mem_range.2 hi)
      simp only [List.getD_eq_getElem?_getD,List.getElem?_eq_getElem hi,Option.getD_some] at h4
      revert h4
      cases lL (c :: r)[i] <;> cases kF (c :: r)[i] <;> simp
     ·
      rintro ⟨h3,h4⟩ i hi
      have hi:=List.mem_range.1 hi
      have h5:=h4 _ (List.getElem_mem hi)
      simp only [List.getD_eq_getElem?_getD,List.getElem?_eq_getElem hi,Option.getD_some]
      cases i with
      | zero=>revert h3 h5;simp only [List.headD_cons,List.getElem_cons_zero];cases lL c <;> cases kF c <;> simp
      | succ i=>simpa using h5
    rw [this]
    cases (!kF (s.headD 0)&&s.all fun c=>lL c||kF c) <;> rfl
   ·
    unfold tH
    rw [bE,if_neg (by omega)]
   ·
    unfold tH
    rw [bE,if_pos (by omega),eQ hi,Option.bind_some,aFA,Option.bind_some,kR hi (by omega)]
    simp only [List.getD_eq_getElem?_getD,List.getElem?_eq_getElem hi,Option.getD_some]
    have hz:decide ((i:Int)=0)=!decide (0<i):=by rw [Bool.eq_iff_iff];simp
    have hd:∀ c:UInt8,(cond (decide ((c.toNat:Int)<48)) true (decide ((57:Int)<(c.toNat:Int))))=!kF c:=fun c=>by
     unfold kF
     by_cases h1:c.toNat<48
     ·
      have:¬48≤c.toNat:=by omega
      have h2:(c.toNat:Int)<48:=by omega
      simp [h2,this]
     ·
      have:48≤c.toNat:=by omega
      have h2:¬(c.toNat:Int)<48:=by omega
      rw [Bool.eq_iff_iff]
      simp [h2,this]
      omega
    rw [hz]
    generalize s[i]=c
    have hd':=hd c
    cases hl:lL c
    ·
     by_cases h0:0<i
     ·
      simp only [h0,decide_true,Bool.not_true,Bool.not_false,cond_true,cond_false,gd,beq_self_eq_true,Bool.and_self,Bool.true_and,if_true,Option.bind_some,Bool.false_or]
      by_cases h48:(c.toNat:Int)<48
      ·
       rw [show kF c=false by rw [← Bool.not_eq_true',← hd'];simp [h48]]
       simp [h48]
      ·
       simp only [h48,decide_false,cond_false] at hd' ⊢
       simp only [beq_self_eq_true,if_true,Option.bind_some,hd']
       cases kF c <;> rfl
     ·
      simp [h0,gd]
    ·
     simp [gd]
theorem tL {s:List UInt8}:qY s=some (lQ s):=by
 unfold qY lQ
 by_cases h0:s=[]
 ·
  subst h0;rfl
 ·
  have hl:0<s.length:=List.length_pos_iff.2 h0
  by_cases h1:(64:Int)<s.length
  ·
   have h2:¬s.length≤64:=by omega
   have h3:(cond (decide ((s.length:Int)<1)) true (decide ((64:Int)<(s.length:Int))))=true:=by simp [h1]
   simp [h3,gd,h2]
  ·
   have h2:s.length≤64:=by omega
   have h3:(cond (decide ((s.length:Int)<1)) true (decide ((64:Int)<(s.length:Int))))=false:=by simp [h1];omega
   obtain ⟨c,r,rfl⟩:∃ c r,s=c :: r:=by cases s with
    | nil=>exact absurd rfl h0
    | cons c r=>exact ⟨c,r,rfl⟩
   have hi0:jV (c :: r) (0:Int)=some c:=rfl
   have hdg:(cond (decide ((48:Int)≤(c.toNat:Int))) (decide ((c.toNat:Int)≤57)) false)=kF c:=by
    unfold kF
    by_cases h4:48≤c.toNat
    ·
     have:(48:Int)≤(c.toNat:Int):=by omega
     rw [Bool.eq_iff_iff];simp [h4,this];omega
    ·
     have:¬(48:Int)≤(c.toNat:Int):=by omega
     simp [h4,this]
   rw [h3,hi0]
   simp only [h2,List.headD_cons,decide_true,Bool.and_true,reduceCtorEq,decide_false,Bool.not_false,gd,beq_self_eq_true,if_true,Option.bind_some,cond_false,Bool.true_and]
   have key:∀ x:UInt8,((decide ((48:Int)≤(c.toNat:Int))==true)=true→x=c)→(cond (decide ((48:Int)≤(c.toNat:Int))) (decide ((x.toNat:Int)≤57)) false)=kF c:=fun x hx=>by
    rw [← hdg]
    by_cases h4:(48:Int)≤(c.toNat:Int)
    ·
     rw [hx (by simp [h4])]
    ·
     simp [h4]
   have key2:∃ x:UInt8,(if (decide ((48:Int)≤(c.toNat:Int))==true)=true then some c else some default)=some x∧((decide ((48:Int)≤(c.toNat:Int))==true)=true→x=c):=by
    by_cases h4:(decide ((48:Int)≤(c.toNat:Int))==true)=true
    ·
     exact ⟨c,by rw [if_pos h4],fun _=>rfl⟩
    ·
     exact ⟨default,by rw [if_neg h4],fun h=>absurd h h4⟩
   obtain ⟨x,hx1,hx2⟩:=key2
   rw [hx1,Option.bind_some,key x hx2]
   cases hdc:kF c
   ·
    simp only [cond_false,Bool.not_false,Bool.true_and]
    rw [jK (c :: r).length (fun i=>lL ((c :: r).getD i default)||kF ((c :: r).getD i default)) false (fun i hi=>?_) ?_,Option.bind_some,mQ (c :: r) fun c=>lL c||kF c]
    ·
     cases (c :: r).all fun c=>lL c||kF c <;> rfl
    ·
     unfold wM
     rw [bE,if_neg (by omega)]
    ·
     unfold wM
     rw [bE,if_pos (by omega),eQ hi,Option.bind_some,aFS,Option.bind_some,kR hi (by omega)]
     simp only [List.getD_eq_getElem?_getD,List.getElem?_eq_getElem hi,Option.getD_some]
     cases lL (c :: r)[i] <;> cases kF (c :: r)[i] <;> rfl
   ·
    rfl
end Go.Proofs.YtnigjppddilpcaaGreatDoor
namespace Go.Proofs.YtnigjppddilpcaaGreatDoor
open Go Abs
set_option linter.unusedSimpArgs false
set_option linter.unusedVariables false
def aGr (c:UInt8):Bool:=decide (c.toNat<33)||decide (126<c.toNat)||decide (c.toNat=47)||decide (c.toNat=34)
def jH (s:List UInt8):Bool:=decide (1≤s.length)&&decide (s.length≤64)&&s.all fun c=>!aGr c
theorem aOb (c:UInt8):(cond (cond (cond (decide ((c.toNat:Int)<33)) true (decide ((126:Int)<(c.toNat:Int)))) true (decide ((c.toNat:Int)=47))) true (decide ((c.toNat:Int)=34)))=aGr c:=by
 unfold aGr
 rw [Bool.eq_iff_iff]
 by_cases h1:c.toNat<33
 ·
  have:(c.toNat:Int)<33:=by omega
  simp [h1,this]
 ·
  have e1:¬(c.toNat:Int)<33:=by omega
  by_cases h2:126<c.toNat
  ·
   have:(126:Int)<(c.toNat:Int):=by omega
   simp [h1,e1,h2,this]
  ·
   have e2:¬(126:Int)<(c.toNat:Int):=by omega
   simp [h1,e1,h2,e2]
   by_cases h3:(c.toNat:Int)=47 <;> simp [h3] <;> omega
theorem aIu {τ:Type}{s:List UInt8}{i:Nat} (hi:i<s.length) (a b:τ):(((jV s (i:Int)).bind fun (x6:UInt8)=>(gd ((decide (((x6).toNat:Int)<(33:Int)))==false) (jV s (i:Int))).bind fun (x8:UInt8)=>(gd ((cond (decide (((x6).toNat:Int)<(33:Int))) true (decide ((126:Int)<((x8).toNat:Int))))==false) (jV s (i:Int))).bind fun (x10:UInt8)=>(gd ((cond (cond (decide (((x6).toNat:Int)<(33:Int))) true (decide ((126:Int)<((x8).toNat:Int)))) true (decide (((x10).toNat:Int)=(47:Int))))==false) (jV s (i:Int))).bind fun (x12:UInt8)=>cond (cond (cond (cond (decide (((x6).toNat:Int)<(33:Int))) true (decide ((126:Int)<((x8).toNat:Int)))) true (decide (((x10).toNat:Int)=(47:Int)))) true (decide (((x12).toNat:Int)=(34:Int)))) (some a) (some b)):Option τ)=some (if !aGr s[i] then b else a):=by
 rw [eQ hi,Option.bind_some]
 generalize s[i]=c
 rw [← aOb]
 by_cases h1:(c.toNat:Int)<33
 ·
  simp [h1,gd]
 ·
  by_cases h2:(126:Int)<(c.toNat:Int)
  ·
   have h2':¬(c.toNat:Int)≤126:=by omega
   simp [h1,h2,h2',gd]
  ·
   by_cases h3:(c.toNat:Int)=47
   ·
    simp [h1,h2,h3,gd]
   ·
    simp only [h1,h2,h3,decide_false,cond_false,beq_self_eq_true,gd,if_true,Option.bind_some]
    by_cases h4:(c.toNat:Int)=34 <;> simp [h4]
theorem aII {s:List UInt8} (hs:s.length≤9223372036854775807):nV s=some (jH s):=by
 unfold nV jH
 rw [jK s.length (fun i=>!aGr (s.getD i default)) false (fun i hi=>?_) ?_,Option.bind_some,mQ s fun c=>!aGr c]
 ·
  cases s.all fun c=>!aGr c
  ·
   simp [Fl.next]
  ·
   simp only [if_true,Fl.next,iD,Option.bind_some,Bool.and_true]
   congr 1
   rw [Bool.eq_iff_iff]
   by_cases h:(1:Int)≤s.length <;> simp [h] <;> omega
 ·
  unfold pJ
  rw [bE,if_neg (by omega)]
 ·
  unfold pJ
  rw [bE,if_pos (by omega),aIu hi,kR hi hs]
  simp only [List.getD_eq_getElem?_getD,List.getElem?_eq_getElem hi,Option.getD_some]
theorem aEi {s:List UInt8}:qZ s=some (jH s):=by
 unfold qZ jH
 by_cases h0:s.length<1∨64<s.length
 ·
  have e:(cond (decide ((s.length:Int)<1)) true (decide ((64:Int)<(s.length:Int))))=true:=by simp;omega
  rw [e]
  have:(decide (1≤s.length)&&decide (s.length≤64))=false:=by simp;omega
  rw [this];rfl
 ·
  have e:(cond (decide ((s.length:Int)<1)) true (decide ((64:Int)<(s.length:Int))))=false:=by simp;omega
  have:(decide (1≤s.length)&&decide (s.length≤64))=true:=by simp;omega
  rw [e,this,cond_false]
  rw [jK s.length (fun i=>!aGr (s.getD i default)) false (fun i hi=>?_) ?_,Option.bind_some,mQ s fun c=>!aGr c]
  ·
   cases s.all fun c=>!aGr c <;> rfl
  ·
   unfold wO
   rw [bE,if_neg (by omega)]
  ·
   unfold wO
   rw [bE,if_pos (by omega),aIu hi,kR hi (by omega)]
   simp only [List.getD_eq_getElem?_getD,List.getElem?_eq_getElem hi,Option.getD_some]
end Go.Proofs.YtnigjppddilpcaaGreatDoor
namespace Go.Proofs.YtnigjppddilpcaaGreatDoor
open Go Abs
set_option linter.unusedSimpArgs false
set_option linter.unusedVariables false
def inB (n l h:Int):Bool:=decide (l≤n)&&decide (n≤h)
theorem mF {n l h:Int}:iD n l h=some (inB n l h):=by unfold iD inB;rw [Bool.cond_eq_ite];by_cases h1:l≤n <;> simp [h1]
theorem zT {n l h:Int}:nS n l h=some (inB n l h):=by unfold nS inB;rw [Bool.cond_eq_ite];by_cases h1:l≤n <;> simp [h1]
def yI (a b:bL):Bool:=decide (a.Queue=b.Queue)&&decide (a.ToStart=b.ToStart)&&decide (a.ToClose=b.ToClose)&&decide (a.Total=b.Total)&&decide (a.Beat=b.Beat)&&decide (a.First=b.First)&&decide (a.Coef=b.Coef)&&decide (a.Most=b.Most)&&decide (a.Attempts=b.Attempts)&&decide (a.Fatal=b.Fatal)
theorem aBH {a b:bL} (h:eU a):jN a b=some (yI a b):=by
 have hf:a.Fatal.length≤9223372036854775807:=h.2.2.2.2.2.2.2.2.2.1
 unfold jN yI
 rw [aFZ hf]
 simp only [kQ,Option.bind_some,qJ]
 by_cases h1:a.ToStart=b.ToStart
 ·
  by_cases h2:a.ToClose=b.ToClose
  ·
   by_cases h3:a.Total=b.Total
   ·
    by_cases h4:a.Beat=b.Beat
    ·
     by_cases h5:a.First=b.First
     ·
      by_cases h6:a.Coef=b.Coef
      ·
       by_cases h7:a.Most=b.Most
       ·
        by_cases h8:a.Attempts=b.Attempts
        ·
         by_cases h9:a.Queue=b.Queue <;> simp [h1,h2,h3,h4,h5,h6,h7,h8,h9,gd]
        ·
         simp [h1,h2,h3,h4,h5,h6,h7,h8]
       ·
        simp [h1,h2,h3,h4,h5,h6,h7]
      ·
       simp [h1,h2,h3,h4,h5,h6]
     ·
      simp [h1,h2,h3,h4,h5]
    ·
     simp [h1,h2,h3,h4]
   ·
    simp [h1,h2,h3]
  ·
   simp [h1,h2]
 ·
  simp [h1]
theorem aN6 {a b:List (List UInt8)} (hlen:a.length=b.length):((List.range a.length).all fun i=>decide (a[i]?=b[i]?))=decide (a=b):=by
 rw [Bool.eq_iff_iff,List.all_eq_true]
 simp only [decide_eq_true_eq]
 constructor
 ·
  refine fun h6=>List.ext_getElem? fun i=>?_
  by_cases hi:i<a.length
  ·
   exact h6 i (List.mem_range.2 hi)
  ·
   rw [List.getElem?_eq_none (by omega),List.getElem?_eq_none (by omega)]
 ·
  intro e i _;rw [e]
theorem tB {a b:bL} (h:eU a):lE a b=some (yI a b):=by
 have hf:a.Fatal.length≤9223372036854775807:=h.2.2.2.2.2.2.2.2.2.1
 unfold lE yI
 have hl:(a.Fatal.length:Int)=b.Fatal.length→dL (kU a b) (0:Int)=some (if decide (a.Fatal=b.Fatal) then .go () else .done false):=fun hlen=>by
  rw [jK a.Fatal.length (fun i=>decide (a.Fatal[i]?=b.Fatal[i]?)) false (fun i hi=>?_) ?_]
  ·
   rw [aN6 (by omega)]
  ·
   unfold kU
   rw [bE,if_neg (by omega)]
  ·
   unfold kU
   have hb:i<b.Fatal.length:=by omega
   rw [bE,if_pos (by omega),eQ hi,Option.bind_some,eQ hb,Option.bind_some,qJ,kR hi hf,List.getElem?_eq_getElem hi,List.getElem?_eq_getElem hb]
   simp only [Option.some.injEq,decide_eq_true_eq]
   split <;> rfl
 by_cases h0:(a.Fatal.length:Int)=b.Fatal.length
 ·
  rw [hl h0]
  by_cases h9:a.Fatal=b.Fatal
  ·
   simp only [h9,decide_true,if_true,Option.bind_some,Fl.next,Bool.not_true]
   cases decide (a.Queue=b.Queue) <;> cases decide (a.ToStart=b.ToStart) <;> cases decide (a.ToClose=b.ToClose) <;> cases decide (a.Total=b.Total) <;> cases decide (a.Beat=b.Beat) <;> first | rfl | (cases decide (a.First=b.First) <;> cases decide (a.Coef=b.Coef) <;> cases decide (a.Most=b.Most) <;> cases decide (a.Attempts=b.Attempts) <;> rfl)
  ·
   simp only [h9,h0,decide_true,decide_false,Option.bind_some,Fl.next,Bool.and_false]
   simp
 ·
  have h9:a.Fatal≠b.Fatal:=fun e=>h0 (by rw [e])
  simp [h0,h9]
theorem aL5 {ks:List (List UInt8)} (h:ks.length≤9223372036854775807):dO ks=some (ks.any iW):=by
 unfold dO eN
 obtain ⟨x,h1,h2⟩:=vQ (body:=dQ ks) ks iW (fun i hi=>by
  unfold dQ
  rw [bE,if_pos (by omega),eQ hi,Option.bind_some,lJ,Option.bind_some,kR hi h]
  show cond (iW ks[i]) _ _=_
  cases iW ks[i] <;> rfl) (by
  unfold dQ
  rw [bE,if_neg (by omega)])
 rw [h1,Option.bind_some,h2]
def six (o:bL):List Int:=[o.ToStart,o.ToClose,o.Total,o.Beat,o.First,o.Most]
def mH (o:bL):Bool:=(decide (o.Queue=[])||lQ o.Queue)&&decide (o.Fatal.length≤64)&&(six o).all (fun n=>inB n 0 1099511627776)&&inB o.Coef 0 10000&&inB o.Attempts 0 1000&&!o.Fatal.any iW
theorem vS {o:bL} (h:eU o):iC o=some (mH o):=by
 have hf:o.Fatal.length≤9223372036854775807:=h.2.2.2.2.2.2.2.2.2.1
 unfold iC mH
 rw [tG,aL5 hf]
 simp only [mF]
 rw [jK (six o).length (fun i=>inB ((six o).getD i default) 0 1099511627776) false (fun i hi=>?_) ?_,Option.bind_some,mQ (six o) fun n=>inB n 0 1099511627776]
 ·
  by_cases h0:(64:Int)<o.Fatal.length
  ·
   have h1:¬o.Fatal.length≤64:=by omega
   by_cases hq:o.Queue=[] <;> cases lQ o.Queue <;> simp [hq,h0,h1,gd]
  ·
   have h1:o.Fatal.length≤64:=by omega
   cases (six o).all fun n=>inB n 0 1099511627776
   ·
    by_cases hq:o.Queue=[] <;> cases lQ o.Queue <;> simp [hq,h0,h1,gd,Fl.next]
   ·
    by_cases hq:o.Queue=[] <;> cases lQ o.Queue <;> cases inB o.Coef 0 10000 <;> cases inB o.Attempts 0 1000 <;> simp [hq,h0,h1,gd,Fl.next]
 ·
  unfold kW
  rw [bE,if_neg (by unfold six;omega)]
 ·
  unfold kW
  have hi':i<[o.ToStart,o.ToClose,o.Total,o.Beat,o.First,o.Most].length:=hi
  rw [bE,if_pos (by omega),eQ hi',Option.bind_some,mF,Option.bind_some,kR hi (by unfold six;simp)]
  simp only [List.getD_eq_getElem?_getD,List.getElem?_eq_getElem hi,Option.getD_some]
  show cond (!inB (six o)[i] 0 1099511627776) _ _=_
  cases inB (six o)[i] 0 1099511627776 <;> rfl
theorem rW {o:bL} (h:eU o):lZ o=some (mH o):=by
 have hf:o.Fatal.length≤9223372036854775807:=h.2.2.2.2.2.2.2.2.2.1
 unfold lZ mH
 rw [tL]
 simp only [zT]
 rw [jK (six o).length (fun i=>inB ((six o).getD i default) 0 1099511627776) false (fun i hi=>?_) ?_,Option.bind_some,mQ (six o) fun n=>inB n 0 1099511627776]
 ·
  rw [jK o.Fatal.length (fun i=>!iW (o.Fatal.getD i default)) false (fun i hi=>?_) ?_,Option.bind_some,mQ o.Fatal fun n=>!iW n,← qX]
  ·
   have e:decide ((o.Fatal.length:Int)≤64)=decide (o.Fatal.length≤64):=by rw [Bool.eq_iff_iff];simp;omega
   rw [e]
   cases (six o).all fun n=>inB n 0 1099511627776
   ·
    simp [Fl.next]
   ·
    cases o.Fatal.any iW
    ·
     by_cases hq:o.Queue=[] <;> cases lQ o.Queue <;> cases inB o.Coef 0 10000 <;> cases inB o.Attempts 0 1000 <;> simp [hq,gd,Fl.next]
    ·
     simp [Fl.next]
  ·
   unfold oY
   rw [bE,if_neg (by omega)]
  ·
   unfold oY
   rw [bE,if_pos (by omega),eQ hi,Option.bind_some,kR hi hf]
   simp only [List.getD_eq_getElem?_getD,List.getElem?_eq_getElem hi,Option.getD_some]
   show cond (iW o.Fatal[i]) _ _=_
   cases iW o.Fatal[i] <;> rfl
 ·
  unfold oX
  rw [bE,if_neg (by unfold six;omega)]
 ·
  unfold oX
  have hi':i<[o.ToStart,o.ToClose,o.Total,o.Beat,o.First,o.Most].length:=hi
  rw [bE,if_pos (by omega),eQ hi',Option.bind_some,zT,Option.bind_some,kR hi (by unfold six;simp)]
  simp only [List.getD_eq_getElem?_getD,List.getElem?_eq_getElem hi,Option.getD_some]
  show cond (!inB (six o)[i] 0 1099511627776) _ _=_
  cases inB (six o)[i] 0 1099511627776 <;> rfl
def rR (x:aC):Bool:=match x.Items with
 | [a,_]=>decide (x.Kind=4)&&decide (a.Kind=3)&&lQ a.Text
 | _=>false
def aFo (v:aC):Bool:=match v.Items with
 | [_,b]=>decide (v.Kind=4)&&decide (b.Kind=4)&&b.Items.all rR
 | _=>false
theorem aOp {α:Type}{l:List α} (h:l.length=2):∃ a b,l=[a,b]:=by
 match l,h with
 | [a,b],_=>exact ⟨a,b,rfl⟩
theorem aHc {x:aC} (h:¬x.Items.length=2):rR x=false:=by
 unfold rR
 split
 ·
  rename_i hx;exact absurd (by rw [hx];rfl) h
 ·
  rfl
theorem aIK {x:aC} (h:¬x.Items.length=2):aFo x=false:=by
 unfold aFo
 split
 ·
  rename_i hx;exact absurd (by rw [hx];rfl) h
 ·
  rfl
theorem aBv {x:aC}:(cond (!decide (x.Kind=4)) true (!decide ((x.Items.length:Int)=2)))=!(decide (x.Kind=4)&&decide (x.Items.length=2)):=by
 by_cases h1:x.Kind=4
 ·
  rw [Bool.eq_iff_iff];simp [h1];omega
 ·
  simp [h1]
theorem aLW (x:aC):nR x=some (!rR x):=by
 unfold nR
 simp only [aBv,tG]
 by_cases h2:x.Items.length=2
 ·
  obtain ⟨a,b,hab⟩:=aOp h2
  unfold rR
  rw [hab]
  have h0:jV [a,b] (0:Int)=some a:=rfl
  rw [h0]
  by_cases h1:x.Kind=4 <;> by_cases h3:a.Kind=3 <;> simp [h1,h3,gd]
 ·
  have:rR x=false:=aHc h2
  simp [this,h2,gd]
theorem aNg {v:aC} (hv:bR v):pY v=some (aFo v):=by
 obtain ⟨k0,k1,k2,k3,k4⟩:=(eD v).1 hv
 unfold pY
 simp only [aBv]
 by_cases h2:v.Items.length=2
 ·
  obtain ⟨a,b,hab⟩:=aOp h2
  obtain ⟨_,_,_,hb,_⟩:=(eD b).1 (k3.2.2 b (by rw [hab];simp))
  unfold aFo
  rw [hab]
  have h0:jV [a,b] (1:Int)=some b:=rfl
  have hC:dN b.Items=some (b.Items.any fun x=>!rR x):=by
   unfold dN eM
   obtain ⟨x,h1,h2⟩:=vQ (body:=dP b.Items) b.Items (fun x=>!rR x) (fun i hi=>by
    unfold dP
    rw [bE,if_pos (by omega),eQ hi,Option.bind_some,aLW,Option.bind_some,kR hi hb.1]
    cases rR b.Items[i] <;> rfl) (by
    unfold dP
    rw [bE,if_neg (by omega)])
   rw [h1,Option.bind_some,h2]
  have hA:(!b.Items.any fun x=>!rR x)=b.Items.all rR:=by rw [qX];simp
  rw [h0]
  by_cases h1:v.Kind=4 <;> by_cases h3:b.Kind=4
  ·
   simp only [h1,h3,List.length_cons,List.length_nil,decide_true,Bool.and_self,Bool.not_true,cond_false,beq_self_eq_true,gd,if_true,Option.bind_some,hC,hA,Bool.true_and]
  ·
   simp [h1,h3,gd]
  ·
   simp [h1,h3,gd]
  ·
   simp [h1,h3,gd]
 ·
  have:aFo v=false:=aIK h2
  simp [this,h2,gd]
theorem aJf {v:aC} (hv:bR v):aA1 v=some (aFo v):=by
 obtain ⟨k0,k1,k2,k3,k4⟩:=(eD v).1 hv
 unfold aA1
 simp only [aBv]
 by_cases h2:v.Items.length=2
 ·
  obtain ⟨a,b,hab⟩:=aOp h2
  obtain ⟨_,_,_,hb,_⟩:=(eD b).1 (k3.2.2 b (by rw [hab];simp))
  have h0:jV v.Items (1:Int)=some b:=by rw [hab];rfl
  have hi2:aFo v=(decide (v.Kind=4)&&decide (b.Kind=4)&&b.Items.all rR):=by unfold aFo;rw [hab]
  have hC:dL (rV v) (0:Int)=some (if b.Items.all rR then .go () else .done false):=by
   rw [jK b.Items.length (fun i=>rR (b.Items.getD i default)) false (fun i hi=>?_) ?_,mQ b.Items rR]
   ·
    unfold rV
    rw [h0,Option.bind_some,bE,if_neg (by omega)]
   ·
    unfold rV
    rw [h0,Option.bind_some,bE,if_pos (by omega),Option.bind_some,eQ hi,Option.bind_some,kR hi hb.1]
    simp only [List.getD_eq_getElem?_getD,List.getElem?_eq_getElem hi,Option.getD_some,aBv,tL]
    generalize b.Items[i]=x
    by_cases h2:x.Items.length=2
    ·
     obtain ⟨c,d,hcd⟩:=aOp h2
     have hp:rR x=(decide (x.Kind=4)&&decide (c.Kind=3)&&lQ c.Text):=by unfold rR;rw [hcd]
     have h0:jV x.Items (0:Int)=some c:=by rw [hcd];rfl
     rw [h0,hp,h2]
     by_cases h1:x.Kind=4 <;> by_cases h3:c.Kind=3
     ·
      simp only [h1,h3,decide_true,Bool.and_self,Bool.not_true,cond_false,beq_self_eq_true,gd,if_true,Option.bind_some,Bool.true_and]
      cases lQ c.Text <;> rfl
     ·
      simp [h1,h3,gd]
     ·
      simp [h1,h3,gd]
     ·
      simp [h1,h3,gd]
    ·
     have:rR x=false:=aHc h2
     simp [this,h2,gd]
  rw [h0,h2,hC,hi2]
  by_cases h1:v.Kind=4 <;> by_cases h3:b.Kind=4
  ·
   simp only [h1,h3,decide_true,Bool.and_self,Bool.not_true,cond_false,beq_self_eq_true,gd,if_true,Option.bind_some,Bool.true_and]
   cases b.Items.all rR <;> rfl
  ·
   simp [h1,h3,gd]
  ·
   simp [h1,h3,gd]
  ·
   simp [h1,h3,gd]
 ·
  have:aFo v=false:=aIK h2
  simp [this,h2,gd]
end Go.Proofs.YtnigjppddilpcaaGreatDoor

/- Plain laws: what the functions compute, with no program in sight. -/
import Derived.Test.YtnigjppddilpcaaGreatDoorPk2
import Derived.Test.YtnigjppddilpcaaGreatDoorGEF0
import Derived.Test.YtnigjppddilpcaaGreatDoorGEF1
import Derived.Test.YtnigjppddilpcaaGreatDoorGEF2
import Derived.Test.YtnigjppddilpcaaGreatDoorGEF6
import Derived.Test.YtnigjppddilpcaaGreatDoorGEF7
import Derived.Test.YtnigjppddilpcaaGreatDoorGEF8
import Derived.Test.YtnigjppddilpcaaGreatDoorGESh
import Derived.Test.YtnigjppddilpcaaGreatDoorGEF9
import Derived.Test.YtnigjppddilpcaaGreatDoorGEF3
namespace Go.Proofs.YtnigjppddilpcaaGreatDoor
open Go Abs
set_option linter.unusedSimpArgs false
set_option linter.unusedVariables false
theorem nJ {i n:Nat} (h:i<n) (hn:n≤9223372036854775807):IntKind.i64.wrap ((i:Int)+1)=((i+1:Nat):Int):=by rw [w64 (by omega) (by omega)];omega
theorem gJ {α:Type}{l:List α}{i:Nat} (h:i<l.length):nF l (i:Int)=some l[i]:=by rw [aEd,aD h]
theorem kZ {τ:Type} (n:Nat) (p:Nat→Bool) (b:τ) {body:Int→Option (dG Int (Fl τ Unit))} (h:∀ i:Nat,i<n→body (i:Int)=some (if p i then .next ((i+1:Nat):Int) else .out (.done b)))
  (hout:body (n:Int)=some (.out (.go ()))):fX body (0:Int)=some (if (List.range n).all p then .go () else .done b):=by
 refine aC3 (fun s=>∃ i:Nat,s=(i:Int)∧i≤n∧∀ j,j<i→p j=true) (fun s=>n - s.toNat) (fun _=>(if (List.range n).all p then Fl.go () else Fl.done b:Fl τ Unit)) ?_ _ ⟨0,rfl,by omega,by omega⟩
 rintro s ⟨i,rfl,hi,hp⟩
 by_cases hlt:i<n
 ·
  rw [h i hlt]
  by_cases hpi:p i=true
  ·
   rw [aQ hpi]
   exact .inl ⟨_,rfl,⟨i+1,rfl,hlt,fun j hj=>by rcases Nat.lt_succ_iff_lt_or_eq.1 hj with h1 | rfl;exact hp j h1;exact hpi⟩,by simp;omega,rfl⟩
  ·
   rw [aN hpi,aN (fun ha=>hpi (bM.1 ha i (eF.2 hlt)))]
   exact .inr rfl
 ·
  obtain rfl:i=n:=by omega
  rw [hout,aQ (bM.2 fun j hj=>hp j (eF.1 hj))]
  exact .inr rfl
theorem qZ {α:Type} [Inhabited α] (l:List α) (p:α→Bool):((List.range l.length).all fun i=>p (l.getD i default))=l.all p:=by
 rw [dU,bM,bM]
 constructor
 ·
  intro h x hx
  obtain ⟨i,hi,rfl⟩:=oK.1 hx
  have:=h i (eF.2 hi)
  simpa [hi] using this
 ·
  intro h i hi
  have hi:=eF.1 hi
  simpa [hi] using h _ (aX hi)
theorem aAa {α:Type} (l:List α) (p:α→Bool) {body:Int→Option (dG Int (Fl Int Unit))} (h:∀ (i:Nat) (hi:i<l.length),body (i:Int)=some (if p l[i] then .out (.done (i:Int)) else .next ((i+1:Nat):Int)))
  (hout:body (l.length:Int)=some (.out (.go ()))):∃ x:Int,((fX body (0:Int)).bind fun r=>Fl.next r fun _=>some (-1:Int))=some x∧decide ((0:Int)≤x)=l.any p:=by
 obtain ⟨r,h1,x,h2,h3⟩:∃ r,fX body (0:Int)=some r∧∃ x:Int,(Fl.next r fun _=>some (-1:Int))=some x∧decide ((0:Int)≤x)=l.any p:=by
  refine vB (fun s=>∃ i:Nat,s=(i:Int)∧i≤l.length∧∀ j (hj:j<l.length),j<i→p l[j]=false) (fun s=>l.length - s.toNat) _ ?_ _ ⟨0,rfl,by omega,by omega⟩
  rintro s ⟨i,rfl,hi,hp⟩
  by_cases hlt:i<l.length
  ·
   rw [h i hlt]
   by_cases hpi:p l[i]=true
   ·
    rw [aQ hpi]
    refine .inr ⟨_,rfl,i,rfl,?_⟩
    have:l.any p=true:=List.any_eq_true.2 ⟨_,aX hlt,hpi⟩
    rw [this];simp
   ·
    rw [aN hpi]
    exact .inl ⟨_,rfl,⟨i+1,rfl,hlt,fun j hj hji=>by rcases Nat.lt_succ_iff_lt_or_eq.1 hji with h1 | rfl;exact hp j hj h1;simpa using hpi⟩,by simp;omega⟩
  ·
   obtain rfl:i=l.length:=by omega
   rw [hout]
   refine .inr ⟨_,rfl,-1,rfl,?_⟩
   have:l.any p=false:=by
    rw [List.any_eq_false]
    intro x hx
    obtain ⟨j,hj,rfl⟩:=oK.1 hx
    simp [hp j hj hj]
   rw [this];decide
 exact ⟨x,by rw [h1,aA];exact h2,h3⟩
theorem aC2 {α σ:Type} (l:List α) (f:σ→α→σ) (s0:σ) {body:σ × Int→Option (dG (σ × Int) σ)} (h:∀ (s:σ) (i:Nat) (hi:i<l.length),body (s,(i:Int))=some (.next (f s l[i],((i+1:Nat):Int))))
  (hout:∀ s,body (s,(l.length:Int))=some (.out s)):fX body (s0,(0:Int))=some (l.foldl f s0):=by
 refine aC3 (fun s=>∃ i:Nat,s.2=(i:Int)∧i≤l.length∧s.1=(l.take i).foldl f s0) (fun s=>l.length - s.2.toNat) (fun _=>l.foldl f s0) ?_ _ ⟨0,rfl,by omega,by simp⟩
 rintro ⟨s,i0⟩ ⟨i,hi0,hi,hs⟩
 simp only at hi0 hs
 subst hi0
 by_cases hlt:i<l.length
 ·
  refine .inl ⟨_,h s i hlt,⟨i+1,rfl,hlt,?_⟩,by simp;omega,rfl⟩
  rw [hs,eT hlt,List.foldl_append]
  rfl
 ·
  obtain rfl:i=l.length:=by omega
  rw [hout,hs,kK]
  exact .inr rfl
mutual
def xC:aE→Nat
 | ⟨_,_,_,l,_⟩=>aEX l+1
def aEX:List aE→Nat
 | []=>0
 | x :: l=>max (xC x) (aEX l)
end
theorem nQ:∀ {l:List aE}{x:aE},x∈l→xC x≤aEX l
 | [],x,h=>by simp at h
 | y :: l,x,h=>by
  simp only [aEX]
  rcases dY.1 h with rfl | h
  ·
   omega
  ·
   have:=nQ h;omega
theorem lD (v:aE):xC v=aEX v.Items+1:=by cases v;simp [xC]
theorem aL6 {v x:aE} (h:x∈v.Items):xC x<xC v:=by have:=nQ h;have:=lD v;omega
mutual
def qW:aE→aE→Bool
 | ⟨k,i,t,l,ks⟩,w=>decide (k=w.Kind)&&decide (i=w.Int)&&decide (t=w.Text)&&decide (ks=w.Keys)&&wZ l w.Items
def wZ:List aE→List aE→Bool
 | [],[]=>true
 | x :: l,y :: m=>qW x y&&wZ l m
 | _,_=>false
end
theorem aHD (v w:aE):qW v w=(decide (v.Kind=w.Kind)&&decide (v.Int=w.Int)&&decide (v.Text=w.Text)&&decide (v.Keys=w.Keys)&&wZ v.Items w.Items):=by cases v;simp [qW]
theorem aAC:∀ (l m:List aE),wZ l m=true↔l.length=m.length∧∀ i (h:i<l.length) (h2:i<m.length),qW l[i] m[i]=true
 | [],[]=>by simp [wZ]
 | [],y :: m=>by simp [wZ]
 | x :: l,[]=>by simp [wZ]
 | x :: l,y :: m=>by
  simp only [wZ,aM,aAC l m,eV,Nat.add_right_cancel_iff]
  constructor
  ·
   rintro ⟨h1,h2,h3⟩
   refine ⟨h2,fun i hi hi2=>?_⟩
   cases i with
   | zero=>exact h1
   | succ i=>exact h3 i (by omega) (by omega)
  ·
   rintro ⟨h2,h3⟩
   exact ⟨h3 0 (by omega) (by omega),h2,fun i hi hi2=>h3 (i+1) (by omega) (by omega)⟩
theorem aN7:∀ (n:Nat) (v w:aE),xC v≤n→(qW v w=true↔v=w):=by
 intro n
 induction n with
 | zero=>intro v w h;have:=lD v;omega
 | succ n ih =>
  intro v w h
  rw [aHD]
  simp only [aM,bG,aAC]
  constructor
  ·
   rintro ⟨⟨⟨⟨h1,h2⟩,h3⟩,h4⟩,h5,h6⟩
   have h7:v.Items=w.Items:=List.ext_getElem h5 fun i hi hi2=>(ih _ _ (by have:=aL6 (aX hi:v.Items[i]∈v.Items);omega)).1 (h6 i hi hi2)
   cases v;cases w;simp_all
  ·
   rintro rfl
   exact ⟨⟨⟨⟨rfl,rfl⟩,rfl⟩,rfl⟩,rfl,fun i hi _=>(ih _ _ (by have:=aL6 (aX hi:v.Items[i]∈v.Items);omega)).2 rfl⟩
theorem aHp {a b:List (List UInt8)} (ha:a.length≤9223372036854775807):jO a b=some (decide (a=b)):=by
 unfold jO
 rw [aBr]
 by_cases h:(a.length:Int)=b.length
 ·
  rw [aQ h,kZ a.length (fun i=>decide (a[i]?=b[i]?)) false (fun i hi=>?_) ?_,aA]
  ·
   split
   ·
    rename_i h2
    rw [bM] at h2
    have:a=b:=List.ext_getElem? fun i=>by
     by_cases hi:i<a.length
     ·
      have:=h2 i (eF.2 hi);simpa using this
     ·
      rw [jC (by omega),jC (by omega)]
    simp [Fl.next,this]
   ·
    rename_i h2
    have:a≠b:=fun e=>h2 (by rw [bM];intro i _;simp [e])
    simp [Fl.next,this]
  ·
   unfold lJ
   rw [cU,aN (by omega)]
  ·
   unfold lJ
   have hb:i<b.length:=by omega
   rw [cU,aQ (by omega),gJ hi,aA,gJ hb,aA,aBr,nJ hi ha,aD hi,aD hb]
   simp only [bY,bG]
   split <;> rfl
 ·
  rw [aN h]
  have:a≠b:=fun e=>h (by rw [e])
  simp [this]
theorem aD3 {l m:List aE} (h:l.length=m.length) (p:Nat→Bool) (hp:∀ i (h1:i<l.length) (h2:i<m.length),p i=qW l[i] m[i]):(List.range l.length).all p=wZ l m:=by
 rw [dU,bM,aAC]
 constructor
 ·
  exact fun hh=>⟨h,fun i h1 h2=>by rw [← hp i h1 h2];exact hh i (eF.2 h1)⟩
 ·
  exact fun hh i hi=>by have:=eF.1 hi;rw [hp i this (by omega)];exact hh.2 i this (by omega)
theorem aOh:∀ (n:Nat) (v w:aE),dF v→2*xC v≤n→tW n v w=some (qW v w):=by
 intro n
 induction n using Nat.strongRecOn with
 | _ n ih =>
  intro v w hv hn
  have hh:=lD v
  obtain ⟨m,rfl⟩:∃ m,n=m+2:=⟨n - 2,by omega⟩
  obtain ⟨k0,k1,k2,k3,k4⟩:=(gD v).1 hv
  have hE:dP (m+1) v.Items w.Items=some (wZ v.Items w.Items):=by
   rw [dP,aBr]
   by_cases h:(v.Items.length:Int)=w.Items.length
   ·
    rw [aQ h,kZ v.Items.length (fun i=>qW (v.Items.getD i default) (w.Items.getD i default)) false (fun i hi=>?_) ?_,aA,aD3 (m:=w.Items) (by omega) _ (fun i h1 h2=>by simp [h1,h2])]
    ·
     cases wZ v.Items w.Items <;> rfl
    ·
     unfold fB
     rw [cU,aN (by omega)]
    ·
     unfold fB
     have hb:i<w.Items.length:=by omega
     rw [cU,aQ (by omega),gJ hi,aA,gJ hb,aA,ih m (by omega) _ _ (k3.2.2 _ (aX hi)) (by have:=nQ (aX hi);omega),aA,nJ hi k3.1]
     simp only [bJ,aD hi,aD hb,eC]
     cases qW v.Items[i] w.Items[i] <;> rfl
   ·
    rw [aN h]
    have:wZ v.Items w.Items=false:=by rw [← Bool.not_eq_true,aAC];exact fun hh=>h (by omega)
    rw [this]
  rw [tW,aHp k4.1,hE,aHD]
  by_cases h1:v.Kind=w.Kind <;> by_cases h2:v.Int=w.Int <;> by_cases h3:v.Text=w.Text <;> by_cases h4:v.Keys=w.Keys <;> simp [h1,h2,h3,h4,gd]
theorem sE {v w:aE} (hv:dF v):tV v w=some (qW v w):=vI (2*xC v) fun n hn=>aOh n v w hv hn
theorem aK3:∀ (n:Nat) (v w:aE),dF v→xC v≤n→tM n v w=some (qW v w):=by
 intro n
 induction n with
 | zero=>intro v w hv hn;have:=lD v;omega
 | succ n ih =>
  intro v w hv hn
  have hh:=lD v
  obtain ⟨k0,k1,k2,k3,k4⟩:=(gD v).1 hv
  rw [tM,aHD]
  by_cases h1:v.Kind=w.Kind
  ·
   by_cases h2:v.Int=w.Int
   ·
    by_cases h3:v.Text=w.Text
    ·
     by_cases h4:(v.Items.length:Int)=w.Items.length
     ·
      by_cases h5:(v.Keys.length:Int)=w.Keys.length
      ·
       simp only [h1,h2,h3,h4,h5,bS,bW,bF,eE]
       rw [kZ v.Keys.length (fun i=>decide (v.Keys[i]?=w.Keys[i]?)) false (fun i hi=>?_) ?_,aA]
       ·
        have hk:((List.range v.Keys.length).all fun i=>decide (v.Keys[i]?=w.Keys[i]?))=decide (v.Keys=w.Keys):=by
         rw [dU,bM]
         simp only [bG]
         constructor
         ·
          refine fun h6=>List.ext_getElem? fun i=>?_
          by_cases hi:i<v.Keys.length
          ·
           exact h6 i (eF.2 hi)
          ·
           rw [jC (by omega),jC (by omega)]
         ·
          intro e i _;rw [e]
        rw [hk]
        by_cases h6:v.Keys=w.Keys
        ·
         simp only [h6,bS,bT,Fl.next,eE]
         rw [kZ v.Items.length (fun i=>qW (v.Items.getD i default) (w.Items.getD i default)) false (fun i hi=>?_) ?_,aA,aD3 (m:=w.Items) (by omega) _ (fun i h1 h2=>by simp [h1,h2])]
         ·
          cases wZ v.Items w.Items <;> rfl
         ·
          unfold xX
          rw [cU,aN (by omega)]
         ·
          unfold xX
          have hb:i<w.Items.length:=by omega
          rw [cU,aQ (by omega),gJ hi,aA,gJ hb,aA,ih _ _ (k3.2.2 _ (aX hi)) (by have:=nQ (aX hi);omega),aA,nJ hi k3.1]
          simp only [bJ,aD hi,aD hb,eC]
          cases qW v.Items[i] w.Items[i] <;> rfl
        ·
         simp [h6,Fl.next]
       ·
        unfold xW
        rw [cU,aN (by omega)]
       ·
        unfold xW
        have hb:i<w.Keys.length:=by omega
        rw [cU,aQ (by omega),gJ hi,aA,gJ hb,aA,aBr,nJ hi k4.1,aD hi,aD hb]
        simp only [bY,bG]
        split <;> rfl
      ·
       have:v.Keys≠w.Keys:=fun e=>h5 (by rw [e])
       simp [h5,this]
     ·
      have:wZ v.Items w.Items=false:=by rw [← Bool.not_eq_true,aAC];exact fun hh=>h4 (by omega)
      simp [h4,this]
    ·
     simp [h3]
   ·
    simp [h2]
  ·
   simp [h1]
theorem xO {v w:aE} (hv:dF v):xM v w=some (qW v w):=vI (xC v) fun n hn=>aK3 n v w hv hn
mutual
def dep:aE→Int
 | ⟨_,_,_,l,_⟩=>IntKind.i64.wrap (aOB l 0+1)
def aOB:List aE→Int→Int
 | [],a=>a
 | x :: l,a=>aOB l (if dep x > a then dep x else a)
end
theorem aLZ (v:aE):dep v=IntKind.i64.wrap (v.Items.foldl (fun a x=>if dep x > a then dep x else a) 0+1):=by
 have key:∀ (l:List aE) (a:Int),aOB l a=l.foldl (fun a x=>if dep x > a then dep x else a) a:=by
  intro l
  induction l with
  | nil=>intro a;simp [aOB]
  | cons x l ih=>intro a;simp [aOB,ih]
 cases v;simp only [dep,key]
mutual
def siz:aE→Int
 | ⟨_,_,_,l,_⟩=>aPt l 1
def aPt:List aE→Int→Int
 | [],a=>a
 | x :: l,a=>aPt l (IntKind.i64.wrap (a+siz x))
end
theorem aMr (v:aE):siz v=v.Items.foldl (fun a x=>IntKind.i64.wrap (a+siz x)) 1:=by
 have key:∀ (l:List aE) (a:Int),aPt l a=l.foldl (fun a x=>IntKind.i64.wrap (a+siz x)) a:=by
  intro l
  induction l with
  | nil=>intro a;simp [aPt]
  | cons x l ih=>intro a;simp [aPt,ih]
 cases v;simp only [siz,key]
theorem aNa:∀ (n:Nat) (v:aE),dF v→xC v≤n→rQ n v=some (dep v):=by
 intro n
 induction n with
 | zero=>intro v hv hn;have:=lD v;omega
 | succ n ih =>
  intro v hv hn
  have hh:=lD v
  obtain ⟨k0,k1,k2,k3,k4⟩:=(gD v).1 hv
  have hi1:=fun (i:Nat) (hi:i<v.Items.length)=>ih _ (k3.2.2 _ (aX hi)) (by have:=nQ (aX hi);omega)
  rw [rQ,aLZ]
  rw [aC2 v.Items (fun a x=>if dep x > a then dep x else a) 0 (fun s i hi=>?_) (fun s=>?_),aA]
  ·
   unfold wX
   rw [cU,aQ (by simp only;omega),gJ hi,aA,(hi1 i hi),aA,nJ hi k3.1]
  ·
   unfold wX
   rw [cU,aN (by simp only;omega)]
theorem aJc:∀ (n:Nat) (v:aE),dF v→xC v≤n→zM n v=some (dep v):=by
 intro n
 induction n with
 | zero=>intro v hv hn;have:=lD v;omega
 | succ n ih =>
  intro v hv hn
  have hh:=lD v
  obtain ⟨k0,k1,k2,k3,k4⟩:=(gD v).1 hv
  have hi1:=fun (i:Nat) (hi:i<v.Items.length)=>ih _ (k3.2.2 _ (aX hi)) (by have:=nQ (aX hi);omega)
  rw [zM,aLZ]
  rw [aC2 v.Items (fun a x=>if dep x > a then dep x else a) 0 (fun s i hi=>?_) (fun s=>?_),aA]
  ·
   unfold aAp
   rw [cU,aQ (by simp only;omega),gJ hi,aA,(hi1 i hi),aA,nJ hi k3.1,cU]
   simp only
   by_cases h:s<dep v.Items[i]
   ·
    rw [aQ h,aQ h]
   ·
    rw [aN h,aN h]
  ·
   unfold aAp
   rw [cU,aN (by simp only;omega)]
theorem aHB {v:aE} (hv:dF v):aCN v=some (dep v):=vI (xC v) fun n hn=>aNa n v hv hn
theorem aK1 {v:aE} (hv:dF v):aFC v=some (dep v):=vI (xC v) fun n hn=>aJc n v hv hn
theorem aOi:∀ (n:Nat) (v:aE),dF v→xC v≤n→tX n v=some (siz v):=by
 intro n
 induction n with
 | zero=>intro v hv hn;have:=lD v;omega
 | succ n ih =>
  intro v hv hn
  have hh:=lD v
  obtain ⟨k0,k1,k2,k3,k4⟩:=(gD v).1 hv
  have hi1:=fun (i:Nat) (hi:i<v.Items.length)=>ih _ (k3.2.2 _ (aX hi)) (by have:=nQ (aX hi);omega)
  rw [tX,aMr]
  rw [aC2 v.Items (fun a x=>IntKind.i64.wrap (a+siz x)) 1 (fun s i hi=>?_) (fun s=>?_),aA]
  ·
   unfold yA
   rw [cU,aQ (by simp only;omega),gJ hi,aA,(hi1 i hi),aA,nJ hi k3.1]
  ·
   unfold yA
   rw [cU,aN (by simp only;omega)]
theorem aK5:∀ (n:Nat) (v:aE),dF v→xC v≤n→aAP n v=some (siz v):=by
 intro n
 induction n with
 | zero=>intro v hv hn;have:=lD v;omega
 | succ n ih =>
  intro v hv hn
  have hh:=lD v
  obtain ⟨k0,k1,k2,k3,k4⟩:=(gD v).1 hv
  have hi1:=fun (i:Nat) (hi:i<v.Items.length)=>ih _ (k3.2.2 _ (aX hi)) (by have:=nQ (aX hi);omega)
  rw [aAP,aMr]
  rw [aC2 v.Items (fun a x=>IntKind.i64.wrap (a+siz x)) 1 (fun s i hi=>?_) (fun s=>?_),aA]
  ·
   unfold aA5
   rw [cU,aQ (by simp only;omega),gJ hi,aA,(hi1 i hi),aA,nJ hi k3.1]
  ·
   unfold aA5
   rw [cU,aN (by simp only;omega)]
theorem aH8 {v:aE} (hv:dF v):aDU v=some (siz v):=vI (xC v) fun n hn=>aOi n v hv hn
theorem aMi {v:aE} (hv:dF v):aHf v=some (siz v):=vI (xC v) fun n hn=>aK5 n v hv hn
def lZ (k:List UInt8):Bool:=decide ((4096:Int)<(k.length:Int))
mutual
def shr:aE→Bool
 | ⟨_,_,t,l,ks⟩=>!lZ t&&!ks.any lZ&&aQm l
def aQm:List aE→Bool
 | []=>true
 | x :: l=>shr x&&aQm l
end
theorem aLg:∀ l,aQm l=l.all shr
 | []=>rfl
 | x :: l=>by simp [aQm,aLg l]
theorem aJm (v:aE):shr v=(!lZ v.Text&&!v.Keys.any lZ&&v.Items.all shr):=by cases v;simp [shr,aLg]
theorem vV {α:Type} (l:List α) (p:α→Bool):(!l.any p)=l.all fun x=>!p x:=by simp [List.not_any_eq_all_not]
theorem aO1 {ks:List (List UInt8)} (h:ks.length≤9223372036854775807):gA ks=some (ks.any lZ):=by
 unfold gA iD
 obtain ⟨x,h1,h2⟩:=aAa (body:=gC ks) ks lZ (fun i hi=>by
  unfold gC
  rw [cU,aQ (by omega),gJ hi,aA,yB,aA,nJ hi h]
  show cond (lZ ks[i]) _ _=_
  cases lZ ks[i] <;> rfl) (by
  unfold gC
  rw [cU,aN (by omega)])
 rw [h1,aA,h2]
theorem aNW:∀ (n:Nat) (v:aE),dF v→4*xC v≤n→rS n v=some (shr v):=by
 intro n
 induction n using Nat.strongRecOn with
 | _ n ih =>
  intro v hv hn
  have hh:=lD v
  obtain ⟨m,rfl⟩:∃ m,n=m+4:=⟨n - 4,by omega⟩
  obtain ⟨k0,k1,k2,k3,k4⟩:=(gD v).1 hv
  have hC:eR (m+3) v.Items=some (v.Items.any fun x=>!shr x):=by
   rw [eR,fU]
   obtain ⟨x,h1,h2⟩:=aAa (body:=fN (rF (m+1)) v.Items) v.Items (fun x=>!shr x) (fun i hi=>by
    unfold fN
    rw [cU,aQ (by omega),gJ hi,aA,rF,ih m (by omega) _ (k3.2.2 _ (aX hi)) (by have:=nQ (aX hi);omega),aA,aA,nJ hi k3.1]
    cases shr v.Items[i] <;> rfl) (by
    unfold fN
    rw [cU,aN (by omega)])
   rw [h1,aA,h2]
  rw [rS,aO1 k4.1,hC,aJm]
  by_cases h:(4096:Int)<v.Text.length
  ·
   simp [h,gd,lZ]
  ·
   have hA:(!v.Items.any fun x=>!shr x)=v.Items.all shr:=by rw [vV];simp
   have ht:lZ v.Text=false:=by simp [lZ,h]
   simp only [h,ht,cQ,eH,gd,bT,aA,bF,iV,eE,hA]
   cases v.Keys.any lZ <;> rfl
theorem aHC {v:aE} (hv:dF v):aCP v=some (shr v):=vI (4*xC v) fun n hn=>aNW n v hv hn
theorem aJh:∀ (n:Nat) (v:aE),dF v→xC v≤n→zO n v=some (shr v):=by
 intro n
 induction n with
 | zero=>intro v hv hn;have:=lD v;omega
 | succ n ih =>
  intro v hv hn
  have hh:=lD v
  obtain ⟨k0,k1,k2,k3,k4⟩:=(gD v).1 hv
  rw [zO,aJm,cU]
  by_cases h:(4096:Int)<v.Text.length
  ·
   rw [aQ h];simp [lZ,h]
  ·
   rw [aN h]
   rw [kZ v.Keys.length (fun i=>!lZ (v.Keys.getD i default)) false (fun i hi=>?_) ?_,aA,qZ v.Keys fun k=>!lZ k]
   ·
    rw [vV]
    have ht:lZ v.Text=false:=by simp [lZ,h]
    rw [ht]
    cases v.Keys.all fun x=>!lZ x
    ·
     rfl
    ·
     simp only [bT,Fl.next,iV,eE]
     rw [kZ v.Items.length (fun i=>shr (v.Items.getD i default)) false (fun i hi=>?_) ?_,aA,qZ v.Items shr]
     ·
      cases v.Items.all shr <;> rfl
     ·
      unfold aAr
      rw [cU,aN (by omega)]
     ·
      unfold aAr
      rw [cU,aQ (by omega),gJ hi,aA,ih _ (k3.2.2 _ (aX hi)) (by have:=nQ (aX hi);omega),aA,nJ hi k3.1]
      simp only [bJ,aD hi,eC]
      cases shr v.Items[i] <;> rfl
   ·
    unfold aAq
    rw [cU,aN (by omega)]
   ·
    unfold aAq
    rw [cU,aQ (by omega),gJ hi,aA,nJ hi k4.1]
    simp only [bJ,aD hi,eC]
    show cond (lZ v.Keys[i]) _ _=_
    cases lZ v.Keys[i] <;> rfl
theorem aK4 {v:aE} (hv:dF v):aFD v=some (shr v):=vI (xC v) fun n hn=>aJh n v hv hn
def wth (v:aE):Bool:=decide (dep v≤16)&&decide (siz v≤1000)&&shr v
theorem aF4 {v:aE} (hv:dF v):wY v=some (wth v):=by
 unfold wY wth
 rw [aHB hv,aA,aH8 hv,aHC hv]
 by_cases h1:dep v≤16 <;> by_cases h2:siz v≤1000 <;> simp [h1,h2,gd]
theorem aJi {v:aE} (hv:dF v):aBD v=some (wth v):=by
 unfold aBD wth
 rw [aK4 hv,aA,aK1 hv,aMi hv]
 cases h3:shr v
 ·
  simp [gd]
 ·
  by_cases h1:dep v≤16
  ·
   simp [h1,gd]
  ·
   simp [h1,gd]
def aFY (l:List (List UInt8)):Bool:=(List.range (l.length - 1)).all fun i=>Op.bytesLess (l.getD i []) (l.getD (i+1) [])
theorem aHm {l:List (List UInt8)}:aFY l=true↔∀ (i:Nat) (hi:i+1<l.length),Op.bytesLess (l[i]'(by omega)) l[i+1]=true:=by
 unfold aFY
 rw [bM]
 constructor
 ·
  intro h i hi
  have:=h i (eF.2 (by omega))
  rw [bJ,bJ,aD (by omega),aD hi] at this
  exact this
 ·
  intro h i hi
  have hi:=eF.1 hi
  rw [bJ,bJ,aD (by omega),aD (by omega)]
  exact h i (by omega)
theorem aK7 {l:List (List UInt8)}{body:Int→Option (dG Int (Fl Bool Unit))} (h:∀ (i:Nat) (h1:1≤i) (hi:i<l.length),body (i:Int)=some (if Op.bytesLess (l[i - 1]'(by omega)) l[i]=true then .next ((i+1:Nat):Int) else .out (.done false)))
  (hout:∀ i:Nat,l.length≤i→body (i:Int)=some (.out (.go ()))):fX body (1:Int)=some (if aFY l=true then .go () else .done false):=by
 have key:∃ x,fX body (1:Int)=some x∧x=if aFY l=true then .go () else .done false:=by
  refine vB (fun s=>∃ i:Nat,s=(i:Int)∧1≤i∧∀ (k:Nat) (hk:k+1<l.length),k+1<i→Op.bytesLess (l[k]'(by omega)) l[k+1]=true) (fun s=>l.length - s.toNat) _ ?_ _ ⟨1,rfl,by omega,fun k hk hk2=>by omega⟩
  rintro s ⟨i,rfl,h1,hd⟩
  by_cases hlt:i<l.length
  ·
   rw [h i h1 hlt]
   by_cases hb:Op.bytesLess (l[i - 1]'(by omega)) l[i]=true
   ·
    rw [aQ hb]
    refine .inl ⟨_,rfl,⟨i+1,rfl,by omega,fun k hk hk2=>?_⟩,by simp only [iW];omega⟩
    by_cases e:k+1=i
    ·
     subst e;exact hb
    ·
     exact hd k hk (by omega)
   ·
    rw [aN hb]
    refine .inr ⟨_,rfl,?_⟩
    rw [aN fun hr=>hb (by
     have:=aHm.1 hr (i - 1) (by omega)
     simp only [show i - 1+1=i by omega] at this
     exact this)]
  ·
   rw [hout i (by omega)]
   refine .inr ⟨_,rfl,?_⟩
   rw [aQ (aHm.2 fun k hk=>hd k hk (by omega))]
 obtain ⟨x,hx,rfl⟩:=key
 exact hx
theorem aJf {l:List (List UInt8)} (h:l.length≤9223372036854775807):aBC l=some (aFY l):=by
 unfold aBC
 rw [aK7 (l:=l) (fun i h1 hi=>?_) (fun i hi=>?_),aA]
 ·
  cases aFY l <;> rfl
 ·
  unfold yS
  rw [cU,aQ (by omega),w64 (by omega) (by omega),show (i:Int) - 1=((i - 1:Nat):Int) by omega,gJ (by omega),aA,gJ hi,aA,nJ hi h]
  cases Op.bytesLess (l[i - 1]'(by omega)) l[i] <;> rfl
 ·
  unfold yS
  rw [cU,aN (by omega)]
theorem aIW {l:List (List UInt8)} (h:l.length≤9223372036854775807):rY l=some (aFY l):=by
 unfold rY
 rw [aK7 (l:=l) (fun i h1 hi=>?_) (fun i hi=>?_),aA]
 ·
  cases aFY l <;> rfl
 ·
  unfold rR
  rw [cU,aQ (by omega),w64 (by omega) (by omega),show (i:Int) - 1=((i - 1:Nat):Int) by omega,gJ (by omega),aA,gJ hi,aA,nJ hi h]
  cases Op.bytesLess (l[i - 1]'(by omega)) l[i] <;> rfl
 ·
  unfold rR
  rw [cU,aN (by omega)]
def aB7 (o:Bool) (v:aE):Bool :=
 if v.Kind=0 then decide (v.Int=0)&&decide (v.Text=[])&&decide (v.Items.length=0)&&decide (v.Keys.length=0)
 else if v.Kind=1 then (decide (v.Int=0)||decide (v.Int=1))&&decide (v.Text=[])&&decide (v.Items.length=0)&&decide (v.Keys.length=0)
 else if v.Kind=2 then decide (v.Text=[])&&decide (v.Items.length=0)&&decide (v.Keys.length=0)
 else if v.Kind=6 then o&&decide (0≤v.Int)&&decide (v.Text=[])&&decide (v.Items.length=0)&&decide (v.Keys.length=0)
 else if v.Kind=3 then decide (v.Int=0)&&decide (v.Items.length=0)&&decide (v.Keys.length=0)
 else if v.Kind=4 then decide (v.Int=0)&&decide (v.Text=[])&&decide (v.Keys.length=0)
 else if v.Kind=5 then decide (v.Int=0)&&decide (v.Text=[])&&decide (v.Keys.length=v.Items.length)&&aFY v.Keys
 else false
mutual
def fmd (o:Bool):aE→Bool
 | ⟨k,i,t,l,ks⟩=>aB7 o ⟨k,i,t,l,ks⟩&&aOJ o l
def aOJ (o:Bool):List aE→Bool
 | []=>true
 | x :: l=>fmd o x&&aOJ o l
end
mutual
def fut:aE→Bool
 | ⟨k,_,_,l,_⟩=>decide (k=6)||aOM l
def aOM:List aE→Bool
 | []=>false
 | x :: l=>fut x||aOM l
end
theorem aKw (o:Bool):∀ l,aOJ o l=l.all (fmd o)
 | []=>by simp [aOJ]
 | x :: l=>by simp [aOJ,aKw o l]
theorem aKx:∀ l,aOM l=l.any fut
 | []=>by simp [aOM]
 | x :: l=>by simp [aOM,aKx l]
theorem aEV (o:Bool) (v:aE):fmd o v=(aB7 o v&&v.Items.all (fmd o)):=by cases v;simp only [fmd,aKw]
theorem aOL (v:aE):fut v=(decide (v.Kind=6)||v.Items.any fut):=by cases v;simp only [fut,aKx]
theorem aRd (v:aE):aB7 false v=(aB7 true v&&!decide (v.Kind=6)):=by
 unfold aB7
 by_cases h0:v.Kind=0
 ·
  simp [h0]
 ·
  by_cases h1:v.Kind=1
  ·
   simp [h1]
  ·
   by_cases h2:v.Kind=2
   ·
    simp [h2]
   ·
    by_cases h6:v.Kind=6
    ·
     simp [h6]
    ·
     simp [h0,h1,h2,h6]
theorem aOI:∀ (n:Nat) (v:aE),xC v≤n→fmd false v=(fmd true v&&!fut v):=by
 intro n
 induction n with
 | zero=>intro v h;have:=lD v;omega
 | succ n ih =>
  intro v h
  have hall:v.Items.all (fmd false)=(v.Items.all (fmd true)&&!v.Items.any fut):=by
   have key:∀ l:List aE,(∀ x∈l,fmd false x=(fmd true x&&!fut x))→l.all (fmd false)=(l.all (fmd true)&&!l.any fut):=by
    intro l
    induction l with
    | nil=>intro _;rfl
    | cons x l ihl =>
     intro hx
     simp only [List.all_cons,List.any_cons]
     rw [ihl fun y hy=>hx y (by simp [hy]),hx x (by simp)]
     cases fmd true x <;> cases fut x <;> cases l.all (fmd true) <;> cases l.any fut <;> rfl
   exact key v.Items fun x hx=>ih x (by have:=aL6 hx;omega)
  rw [aEV,aEV,aOL,aRd,hall]
  cases aB7 true v <;> cases decide (v.Kind=6) <;> cases v.Items.all (fmd true) <;> cases v.Items.any fut <;> rfl
theorem aND {α:Type} (l:List α):decide ((0:Int)<(l.length:Int))=!decide (l.length=0):=by cases l <;> simp <;> omega
theorem aNE {α:Type} (l:List α):decide ((l.length:Int)=0)=decide (l.length=0):=by rw [dU];simp
theorem aR2 {α β:Type} (l:List α) (m:List β):decide ((l.length:Int)=m.length)=decide (l.length=m.length):=by rw [dU];simp;omega
theorem aL4:∀ (n:Nat) (v:aE) (o:Bool),dF v→4*xC v≤n→qU n v o=some (fmd o v):=by
 intro n
 induction n using Nat.strongRecOn with
 | _ n ih =>
  intro v o hv hn
  have hh:=lD v
  obtain ⟨m,rfl⟩:∃ m,n=m+4:=⟨n - 4,by omega⟩
  obtain ⟨k0,k1,k2,k3,k4⟩:=(gD v).1 hv
  have hC:eO (m+3) v.Items o=some (v.Items.any fun x=>!fmd o x):=by
   rw [eO,fR]
   obtain ⟨x,h1,h2⟩:=aAa (body:=fL (qE (m+1)) v.Items o) v.Items (fun x=>!fmd o x) (fun i hi=>by
    unfold fL
    rw [cU,aQ (by omega),gJ hi,aA,qE,ih m (by omega) _ _ (k3.2.2 _ (aX hi)) (by have:=nQ (aX hi);omega),aA,aA,nJ hi k3.1]
    cases fmd o v.Items[i] <;> rfl) (by
    unfold fL
    rw [cU,aN (by omega)])
   rw [h1,aA,h2]
  have hA:(!v.Items.any fun x=>!fmd o x)=v.Items.all (fmd o):=by rw [vV];simp
  have hE:∀ b:Bool,(b=true→v.Items.length=0)→b=(b&&v.Items.all (fmd o)):=fun b hb=>by
   cases b
   ·
    rfl
   ·
    have:v.Items=[]:=eI (hb rfl)
    rw [this];rfl
  rw [qU,aIW k4.1,hC,aEV]
  unfold aB7
  by_cases h0:v.Kind=0
  ·
   simp only [h0,Int.reduceEq,bT,dL,bS,cQ,cW,bF,aA,Fl.next,aND]
   rw [← hE _ (by simp only [aM,bG];rintro ⟨⟨_,h⟩,_⟩;exact h)]
   cases decide (v.Int=0) <;> cases decide (v.Text=[]) <;> cases decide (v.Items.length=0) <;> cases decide (v.Keys.length=0) <;> rfl
  by_cases h1:v.Kind=1
  ·
   simp only [h1,Int.reduceEq,bT,dL,bS,cQ,cW,bF,aA,Fl.next,aND]
   rw [← hE _ (by simp only [aM,bG];rintro ⟨⟨_,h⟩,_⟩;exact h)]
   cases decide (v.Int=0) <;> cases decide (v.Int=1) <;> cases decide (v.Text=[]) <;> cases decide (v.Items.length=0) <;> cases decide (v.Keys.length=0) <;> rfl
  by_cases h2:v.Kind=2
  ·
   simp only [h2,Int.reduceEq,bT,dL,bS,cQ,cW,bF,aA,Fl.next,aND]
   rw [← hE _ (by simp only [aM,bG];rintro ⟨⟨_,h⟩,_⟩;exact h)]
   cases decide (v.Text=[]) <;> cases decide (v.Items.length=0) <;> cases decide (v.Keys.length=0) <;> rfl
  by_cases h6:v.Kind=6
  ·
   simp only [h6,Int.reduceEq,bT,dL,bS,cQ,cW,bF,aA,Fl.next,aND]
   rw [← hE _ (by simp only [aM,bG];rintro ⟨⟨_,h⟩,_⟩;exact h)]
   cases o <;> cases decide (0≤v.Int) <;> cases decide (v.Text=[]) <;> cases decide (v.Items.length=0) <;> cases decide (v.Keys.length=0) <;> rfl
  by_cases h3:v.Kind=3
  ·
   simp only [h3,Int.reduceEq,bT,dL,bS,cQ,cW,bF,aA,Fl.next,aND]
   rw [← hE _ (by simp only [aM,bG];rintro ⟨⟨_,h⟩,_⟩;exact h)]
   cases decide (v.Int=0) <;> cases decide (v.Items.length=0) <;> cases decide (v.Keys.length=0) <;> rfl
  by_cases h4:v.Kind=4
  ·
   simp only [h4,Int.reduceEq,bT,dL,bS,cQ,cW,bF,aND]
   cases decide (v.Int=0) <;> cases decide (v.Text=[]) <;> cases decide (v.Keys.length=0) <;> simp [hA,Fl.next]
  by_cases h5:v.Kind=5
  ·
   simp only [h5,Int.reduceEq,bT,dL,bS,cQ,cW,bF,aR2]
   cases decide (v.Int=0) <;> cases decide (v.Text=[]) <;> cases decide (v.Keys.length=v.Items.length) <;> cases aFY v.Keys <;> simp [hA,Fl.next,gd]
  simp only [h0,h1,h2,h3,h4,h5,h6,dL,cQ,bF,aA,Fl.next,Bool.false_and]
theorem aB4 {v:aE}{o:Bool} (hv:dF v):zX v o=some (fmd o v):=vI (4*xC v) fun n hn=>aL4 n v o hv hn
theorem aOj:∀ (n:Nat) (v:aE),dF v→xC v≤n→sU n v=some (fmd true v):=by
 intro n
 induction n with
 | zero=>intro v hv hn;have:=lD v;omega
 | succ n ih =>
  intro v hv hn
  have hh:=lD v
  obtain ⟨k0,k1,k2,k3,k4⟩:=(gD v).1 hv
  rw [sU,aJf k4.1,aEV]
  rw [kZ v.Items.length (fun i=>fmd true (v.Items.getD i default)) false (fun i hi=>?_) ?_,aA,qZ v.Items (fmd true)]
  ·
   cases v.Items.all (fmd true)
   ·
    simp [Fl.next]
   ·
    simp only [bT,Fl.next,kG]
    unfold aB7
    by_cases h0:v.Kind=0
    ·
     simp only [h0,Int.reduceEq,bT,dL,bS,cQ,cW,bF,aNE]
     cases decide (v.Int=0) <;> cases decide (v.Text=[]) <;> cases decide (v.Items.length=0) <;> cases decide (v.Keys.length=0) <;> rfl
    by_cases h1:v.Kind=1
    ·
     simp only [h1,Int.reduceEq,bT,dL,bS,cQ,cW,bF,aNE]
     cases decide (v.Int=0) <;> cases decide (v.Int=1) <;> cases decide (v.Text=[]) <;> cases decide (v.Items.length=0) <;> cases decide (v.Keys.length=0) <;> rfl
    by_cases h2:v.Kind=2
    ·
     simp only [h2,Int.reduceEq,bT,dL,bS,cQ,cW,bF,aNE]
     cases decide (v.Text=[]) <;> cases decide (v.Items.length=0) <;> cases decide (v.Keys.length=0) <;> rfl
    by_cases h6:v.Kind=6
    ·
     simp only [h6,Int.reduceEq,bT,dL,bS,cQ,cW,bF,aNE]
     cases decide (0≤v.Int) <;> cases decide (v.Text=[]) <;> cases decide (v.Items.length=0) <;> cases decide (v.Keys.length=0) <;> rfl
    by_cases h3:v.Kind=3
    ·
     simp only [h3,Int.reduceEq,bT,dL,bS,cQ,cW,bF,aNE]
     cases decide (v.Int=0) <;> cases decide (v.Items.length=0) <;> cases decide (v.Keys.length=0) <;> rfl
    by_cases h4:v.Kind=4
    ·
     simp only [h4,Int.reduceEq,bT,dL,bS,cQ,cW,bF,aNE]
     cases decide (v.Int=0) <;> cases decide (v.Text=[]) <;> cases decide (v.Keys.length=0) <;> rfl
    by_cases h5:v.Kind=5
    ·
     simp only [h5,Int.reduceEq,bT,dL,bS,cQ,cW,bF,aR2]
     cases decide (v.Int=0) <;> cases decide (v.Text=[]) <;> cases decide (v.Keys.length=v.Items.length) <;> cases aFY v.Keys <;> rfl
    simp only [h0,h1,h2,h3,h4,h5,h6,dL,cQ,bF]
  ·
   unfold uP
   rw [cU,aN (by omega)]
  ·
   unfold uP
   rw [cU,aQ (by omega),gJ hi,aA,ih _ (k3.2.2 _ (aX hi)) (by have:=nQ (aX hi);omega),aA,nJ hi k3.1]
   simp only [bJ,aD hi,eC]
   cases fmd true v.Items[i] <;> rfl
theorem aBf {v:aE} (hv:dF v):xN v=some (fmd true v):=vI (xC v) fun n hn=>aOj n v hv hn
theorem aPH:∀ (n:Nat) (v:aE),dF v→xC v≤n→xV n v=some (fut v):=by
 intro n
 induction n with
 | zero=>intro v hv hn;have:=lD v;omega
 | succ n ih =>
  intro v hv hn
  have hh:=lD v
  obtain ⟨k0,k1,k2,k3,k4⟩:=(gD v).1 hv
  rw [xV,aOL]
  rw [kZ v.Items.length (fun i=>!fut (v.Items.getD i default)) true (fun i hi=>?_) ?_,aA,qZ v.Items fun x=>!fut x,← vV]
  ·
   cases v.Items.any fut
   ·
    simp only [iV,bT,Fl.next,Bool.or_false]
   ·
    simp [Fl.next]
  ·
   unfold yR
   rw [cU,aN (by omega)]
  ·
   unfold yR
   rw [cU,aQ (by omega),gJ hi,aA,ih _ (k3.2.2 _ (aX hi)) (by have:=nQ (aX hi);omega),aA,nJ hi k3.1]
   simp only [bJ,aD hi,eC]
   cases fut v.Items[i] <;> rfl
theorem aJd {v:aE} (hv:dF v):aEp v=some (fut v):=vI (xC v) fun n hn=>aPH n v hv hn
noncomputable def rG (v:aE):Bool:=wth v&&fmd false v
theorem aCO {v:aE} (hv:dF v):wA v=some (rG v):=by
 unfold wA rG
 rw [aF4 hv,aA,aB4 hv]
 cases wth v <;> simp [gd]
theorem aDr {v:aE} (hv:dF v):aAO v=some (rG v):=by
 unfold aAO rG
 rw [aBf hv,aA,aJi hv,aJd hv,aOI (xC v) v (eN _)]
 cases wth v <;> cases fmd true v <;> cases fut v <;> rfl
def pW (c:UInt8):Bool:=(decide (97≤c.toNat)&&decide (c.toNat≤122))||(decide (65≤c.toNat)&&decide (c.toNat≤90))||decide (c.toNat=95)
def oA (c:UInt8):Bool:=decide (48≤c.toNat)&&decide (c.toNat≤57)
theorem aGZ (c:UInt8):yF (c.toNat:Int)=some (pW c):=by
 unfold yF pW
 congr 1
 rw [dU]
 simp only [oY,dJ,aM,bG]
 split <;> (try split) <;> (try split) <;> simp_all <;> omega
theorem aHg (c:UInt8):aBG (c.toNat:Int)=some (pW c||oA c):=by
 unfold aBG pW oA
 congr 1
 rw [dU]
 have e:∀ n:Nat,((n:Int)≤(c.toNat:Int)↔n≤c.toNat)∧((c.toNat:Int)≤(n:Int)↔c.toNat≤n)∧((c.toNat:Int)=(n:Int)↔c.toNat=n):=fun n=>⟨by omega,by omega,by omega⟩
 have e1:=e 97;have e2:=e 122;have e3:=e 65;have e4:=e 90;have e5:=e 95;have e6:=e 48;have e7:=e 57
 simp only [Int.cast_ofNat_Int] at e1 e2 e3 e4 e5 e6 e7
 by_cases h1:97≤c.toNat <;> by_cases h2:c.toNat≤122 <;> by_cases h3:65≤c.toNat <;> by_cases h4:c.toNat≤90 <;> by_cases h5:c.toNat=95 <;> by_cases h6:48≤c.toNat <;> by_cases h7:c.toNat≤57 <;> simp [h1,h2,h3,h4,h5,h6,h7,e1.1,e2.2.1,e3.1,e4.2.1,e5.2.2,e6.1,e7.2.1] <;> omega
def pZ (s:List UInt8):Bool:=!decide (s=[])&&decide (s.length≤64)&&!oA (s.headD 0)&&s.all fun c=>pW c||oA c
theorem xT {s:List UInt8}:tJ s=some (pZ s):=by
 unfold tJ pZ
 by_cases h0:s=[]
 ·
  simp [h0]
 ·
  by_cases h1:(64:Int)<s.length
  ·
   have h2:¬s.length≤64:=by omega
   simp [h0,h1,h2]
  ·
   have h2:s.length≤64:=by omega
   simp only [h0,h1,h2,cQ,bS,bF,iV,eE]
   rw [kZ s.length (fun i=>pW (s.getD i 0)||(decide (0<i)&&oA (s.getD i 0))) false (fun i hi=>?_) ?_,aA]
   ·
    have:((List.range s.length).all fun i=>pW (s.getD i 0)||(decide (0<i)&&oA (s.getD i 0)))=(!oA (s.headD 0)&&s.all fun c=>pW c||oA c):=by
     obtain ⟨c,r,rfl⟩:∃ c r,s=c :: r:=by cases s with
      | nil=>exact absurd rfl h0
      | cons c r=>exact ⟨c,r,rfl⟩
     have hnd:pW c=true→oA c=false:=by
      unfold pW oA
      simp only [dJ,aM,bG,Bool.and_eq_false_iff,kU]
      omega
     rw [dU,aM,bM,bM]
     constructor
     ·
      intro h
      have h3:=h 0 (by simp)
      simp only [List.getD_cons_zero,Nat.lt_irrefl,cQ,Bool.false_and,Bool.or_false] at h3
      refine ⟨by simp [hnd h3],fun x hx=>?_⟩
      obtain ⟨i,hi,rfl⟩:=oK.1 hx
      have h4:=h i (eF.2 hi)
      simp only [bJ,aD hi,eC] at h4
      revert h4
      cases pW (c :: r)[i] <;> cases oA (c :: r)[i] <;> simp
     ·
      rintro ⟨h3,h4⟩ i hi
      have hi:=eF.1 hi
      have h5:=h4 _ (aX hi)
      simp only [bJ,aD hi,eC]
      cases i with
      | zero=>revert h3 h5;simp only [List.headD_cons,List.getElem_cons_zero];cases pW c <;> cases oA c <;> simp
      | succ i=>simpa using h5
    rw [this]
    cases (!oA (s.headD 0)&&s.all fun c=>pW c||oA c) <;> rfl
   ·
    unfold xU
    rw [cU,aN (by omega)]
   ·
    unfold xU
    rw [cU,aQ (by omega),gJ hi,aA,aGZ,aA,nJ hi (by omega)]
    simp only [bJ,aD hi,eC]
    have hz:decide ((i:Int)=0)=!decide (0<i):=by rw [dU];simp
    have hd:∀ c:UInt8,(cond (decide ((c.toNat:Int)<48)) true (decide ((57:Int)<(c.toNat:Int))))=!oA c:=fun c=>by
     unfold oA
     by_cases h1:c.toNat<48
     ·
      have:¬48≤c.toNat:=by omega
      have h2:(c.toNat:Int)<48:=by omega
      simp [h2,this]
     ·
      have:48≤c.toNat:=by omega
      have h2:¬(c.toNat:Int)<48:=by omega
      rw [dU]
      simp [h2,this]
      omega
    rw [hz]
    generalize s[i]=c
    have hd':=hd c
    cases hl:pW c
    ·
     by_cases h0:0<i
     ·
      simp only [h0,bS,bW,iV,cW,bF,gd,eH,pJ,eE,bT,aA,nC]
      by_cases h48:(c.toNat:Int)<48
      ·
       rw [show oA c=false by rw [← fM,← hd'];simp [h48]]
       simp [h48]
      ·
       simp only [h48,cQ,bF] at hd' ⊢
       simp only [eH,bT,aA,hd']
       cases oA c <;> rfl
     ·
      simp [h0,gd]
    ·
     simp [gd]
theorem xY {s:List UInt8}:vW s=some (pZ s):=by
 unfold vW pZ
 by_cases h0:s=[]
 ·
  subst h0;rfl
 ·
  have hl:0<s.length:=List.length_pos_iff.2 h0
  by_cases h1:(64:Int)<s.length
  ·
   have h2:¬s.length≤64:=by omega
   have h3:(cond (decide ((s.length:Int)<1)) true (decide ((64:Int)<(s.length:Int))))=true:=by simp [h1]
   simp [h3,gd,h2]
  ·
   have h2:s.length≤64:=by omega
   have h3:(cond (decide ((s.length:Int)<1)) true (decide ((64:Int)<(s.length:Int))))=false:=by simp [h1];omega
   obtain ⟨c,r,rfl⟩:∃ c r,s=c :: r:=by cases s with
    | nil=>exact absurd rfl h0
    | cons c r=>exact ⟨c,r,rfl⟩
   have hi0:nF (c :: r) (0:Int)=some c:=rfl
   have hdg:(cond (decide ((48:Int)≤(c.toNat:Int))) (decide ((c.toNat:Int)≤57)) false)=oA c:=by
    unfold oA
    by_cases h4:48≤c.toNat
    ·
     have:(48:Int)≤(c.toNat:Int):=by omega
     rw [dU];simp [h4,this];omega
    ·
     have:¬(48:Int)≤(c.toNat:Int):=by omega
     simp [h4,this]
   rw [h3,hi0]
   simp only [h2,List.headD_cons,bS,kG,reduceCtorEq,cQ,iV,gd,eH,bT,aA,bF,eE]
   have key:∀ x:UInt8,((decide ((48:Int)≤(c.toNat:Int))==true)=true→x=c)→(cond (decide ((48:Int)≤(c.toNat:Int))) (decide ((x.toNat:Int)≤57)) false)=oA c:=fun x hx=>by
    rw [← hdg]
    by_cases h4:(48:Int)≤(c.toNat:Int)
    ·
     rw [hx (by simp [h4])]
    ·
     simp [h4]
   have key2:∃ x:UInt8,(if (decide ((48:Int)≤(c.toNat:Int))==true)=true then some c else some default)=some x∧((decide ((48:Int)≤(c.toNat:Int))==true)=true→x=c):=by
    by_cases h4:(decide ((48:Int)≤(c.toNat:Int))==true)=true
    ·
     exact ⟨c,by rw [aQ h4],fun _=>rfl⟩
    ·
     exact ⟨default,by rw [aN h4],fun h=>absurd h h4⟩
   obtain ⟨x,hx1,hx2⟩:=key2
   rw [hx1,aA,key x hx2]
   cases hdc:oA c
   ·
    simp only [bF,iV,eE]
    rw [kZ (c :: r).length (fun i=>pW ((c :: r).getD i default)||oA ((c :: r).getD i default)) false (fun i hi=>?_) ?_,aA,qZ (c :: r) fun c=>pW c||oA c]
    ·
     cases (c :: r).all fun c=>pW c||oA c <;> rfl
    ·
     unfold aAs
     rw [cU,aN (by omega)]
    ·
     unfold aAs
     rw [cU,aQ (by omega),gJ hi,aA,aHg,aA,nJ hi (by omega)]
     simp only [bJ,aD hi,eC]
     cases pW (c :: r)[i] <;> cases oA (c :: r)[i] <;> rfl
   ·
    rfl
def aHP (c:UInt8):Bool:=decide (c.toNat<33)||decide (126<c.toNat)||decide (c.toNat=47)||decide (c.toNat=34)
def mW (s:List UInt8):Bool:=decide (1≤s.length)&&decide (s.length≤64)&&s.all fun c=>!aHP c
theorem aPT (c:UInt8):(cond (cond (cond (decide ((c.toNat:Int)<33)) true (decide ((126:Int)<(c.toNat:Int)))) true (decide ((c.toNat:Int)=47))) true (decide ((c.toNat:Int)=34)))=aHP c:=by
 unfold aHP
 rw [dU]
 by_cases h1:c.toNat<33
 ·
  have:(c.toNat:Int)<33:=by omega
  simp [h1,this]
 ·
  have e1:¬(c.toNat:Int)<33:=by omega
  by_cases h2:126<c.toNat
  ·
   have:(126:Int)<(c.toNat:Int):=by omega
   simp [h1,e1,h2,this]
  ·
   have e2:¬(126:Int)<(c.toNat:Int):=by omega
   simp [h1,e1,h2,e2]
   by_cases h3:(c.toNat:Int)=47 <;> simp [h3] <;> omega
theorem aJ8 {τ:Type}{s:List UInt8}{i:Nat} (hi:i<s.length) (a b:τ):(((nF s (i:Int)).bind fun (x6:UInt8)=>(gd ((decide (((x6).toNat:Int)<(33:Int)))==false) (nF s (i:Int))).bind fun (x8:UInt8)=>(gd ((cond (decide (((x6).toNat:Int)<(33:Int))) true (decide ((126:Int)<((x8).toNat:Int))))==false) (nF s (i:Int))).bind fun (x10:UInt8)=>(gd ((cond (cond (decide (((x6).toNat:Int)<(33:Int))) true (decide ((126:Int)<((x8).toNat:Int)))) true (decide (((x10).toNat:Int)=(47:Int))))==false) (nF s (i:Int))).bind fun (x12:UInt8)=>cond (cond (cond (cond (decide (((x6).toNat:Int)<(33:Int))) true (decide ((126:Int)<((x8).toNat:Int)))) true (decide (((x10).toNat:Int)=(47:Int)))) true (decide (((x12).toNat:Int)=(34:Int)))) (some a) (some b)):Option τ)=some (if !aHP s[i] then b else a):=by
 rw [gJ hi,aA]
 generalize s[i]=c
 rw [← aPT]
 by_cases h1:(c.toNat:Int)<33
 ·
  simp [h1,gd]
 ·
  by_cases h2:(126:Int)<(c.toNat:Int)
  ·
   have h2':¬(c.toNat:Int)≤126:=by omega
   simp [h1,h2,h2',gd]
  ·
   by_cases h3:(c.toNat:Int)=47
   ·
    simp [h1,h2,h3,gd]
   ·
    simp only [h1,h2,h3,cQ,bF,eH,gd,bT,aA]
    by_cases h4:(c.toNat:Int)=34 <;> simp [h4]
theorem aKy {s:List UInt8} (hs:s.length≤9223372036854775807):sA s=some (mW s):=by
 unfold sA mW
 rw [kZ s.length (fun i=>!aHP (s.getD i default)) false (fun i hi=>?_) ?_,aA,qZ s fun c=>!aHP c]
 ·
  cases s.all fun c=>!aHP c
  ·
   simp [Fl.next]
  ·
   simp only [bT,Fl.next,lC,aA,kG]
   congr 1
   rw [dU]
   by_cases h:(1:Int)≤s.length <;> simp [h] <;> omega
 ·
  unfold uA
  rw [cU,aN (by omega)]
 ·
  unfold uA
  rw [cU,aQ (by omega),aJ8 hi,nJ hi hs]
  simp only [bJ,aD hi,eC]
theorem aFG {s:List UInt8}:vX s=some (mW s):=by
 unfold vX mW
 by_cases h0:s.length<1∨64<s.length
 ·
  have e:(cond (decide ((s.length:Int)<1)) true (decide ((64:Int)<(s.length:Int))))=true:=by simp;omega
  rw [e]
  have:(decide (1≤s.length)&&decide (s.length≤64))=false:=by simp;omega
  rw [this];rfl
 ·
  have e:(cond (decide ((s.length:Int)<1)) true (decide ((64:Int)<(s.length:Int))))=false:=by simp;omega
  have:(decide (1≤s.length)&&decide (s.length≤64))=true:=by simp;omega
  rw [e,this,bF]
  rw [kZ s.length (fun i=>!aHP (s.getD i default)) false (fun i hi=>?_) ?_,aA,qZ s fun c=>!aHP c]
  ·
   cases s.all fun c=>!aHP c <;> rfl
  ·
   unfold aAu
   rw [cU,aN (by omega)]
  ·
   unfold aAu
   rw [cU,aQ (by omega),aJ8 hi,nJ hi (by omega)]
   simp only [bJ,aD hi,eC]
def inB (n l h:Int):Bool:=decide (l≤n)&&decide (n≤h)
theorem uU {n l h:Int}:lC n l h=some (inB n l h):=by unfold lC inB;rw [oY];by_cases h1:l≤n <;> simp [h1]
theorem aDN {n l h:Int}:tP n l h=some (inB n l h):=by unfold tP inB;rw [oY];by_cases h1:l≤n <;> simp [h1]
def aAo (a b:dB):Bool:=decide (a.Queue=b.Queue)&&decide (a.ToStart=b.ToStart)&&decide (a.ToClose=b.ToClose)&&decide (a.Total=b.Total)&&decide (a.Beat=b.Beat)&&decide (a.First=b.First)&&decide (a.Coef=b.Coef)&&decide (a.Most=b.Most)&&decide (a.Attempts=b.Attempts)&&decide (a.Fatal=b.Fatal)
theorem uS {a b:dB} (h:gO a):jZ a b=some (aAo a b):=by
 have hf:a.Fatal.length≤9223372036854775807:=h.2.2.2.2.2.2.2.2.2.1
 unfold jZ aAo
 rw [aHp hf]
 simp only [oR,aA,aBr]
 by_cases h1:a.ToStart=b.ToStart
 ·
  by_cases h2:a.ToClose=b.ToClose
  ·
   by_cases h3:a.Total=b.Total
   ·
    by_cases h4:a.Beat=b.Beat
    ·
     by_cases h5:a.First=b.First
     ·
      by_cases h6:a.Coef=b.Coef
      ·
       by_cases h7:a.Most=b.Most
       ·
        by_cases h8:a.Attempts=b.Attempts
        ·
         by_cases h9:a.Queue=b.Queue <;> simp [h1,h2,h3,h4,h5,h6,h7,h8,h9,gd]
        ·
         simp [h1,h2,h3,h4,h5,h6,h7,h8]
       ·
        simp [h1,h2,h3,h4,h5,h6,h7]
      ·
       simp [h1,h2,h3,h4,h5,h6]
     ·
      simp [h1,h2,h3,h4,h5]
    ·
     simp [h1,h2,h3,h4]
   ·
    simp [h1,h2,h3]
  ·
   simp [h1,h2]
 ·
  simp [h1]
theorem aPN {a b:List (List UInt8)} (hlen:a.length=b.length):((List.range a.length).all fun i=>decide (a[i]?=b[i]?))=decide (a=b):=by
 rw [dU,bM]
 simp only [bG]
 constructor
 ·
  refine fun h6=>List.ext_getElem? fun i=>?_
  by_cases hi:i<a.length
  ·
   exact h6 i (eF.2 hi)
  ·
   rw [jC (by omega),jC (by omega)]
 ·
  intro e i _;rw [e]
theorem rE {a b:dB} (h:gO a):nH a b=some (aAo a b):=by
 have hf:a.Fatal.length≤9223372036854775807:=h.2.2.2.2.2.2.2.2.2.1
 unfold nH aAo
 have hl:(a.Fatal.length:Int)=b.Fatal.length→fX (pA a b) (0:Int)=some (if decide (a.Fatal=b.Fatal) then .go () else .done false):=fun hlen=>by
  rw [kZ a.Fatal.length (fun i=>decide (a.Fatal[i]?=b.Fatal[i]?)) false (fun i hi=>?_) ?_]
  ·
   rw [aPN (by omega)]
  ·
   unfold pA
   rw [cU,aN (by omega)]
  ·
   unfold pA
   have hb:i<b.Fatal.length:=by omega
   rw [cU,aQ (by omega),gJ hi,aA,gJ hb,aA,aBr,nJ hi hf,aD hi,aD hb]
   simp only [bY,bG]
   split <;> rfl
 by_cases h0:(a.Fatal.length:Int)=b.Fatal.length
 ·
  rw [hl h0]
  by_cases h9:a.Fatal=b.Fatal
  ·
   simp only [h9,bS,bT,aA,Fl.next,bW]
   cases decide (a.Queue=b.Queue) <;> cases decide (a.ToStart=b.ToStart) <;> cases decide (a.ToClose=b.ToClose) <;> cases decide (a.Total=b.Total) <;> cases decide (a.Beat=b.Beat) <;> first | rfl | (cases decide (a.First=b.First) <;> cases decide (a.Coef=b.Coef) <;> cases decide (a.Most=b.Most) <;> cases decide (a.Attempts=b.Attempts) <;> rfl)
  ·
   simp only [h9,h0,bS,cQ,aA,Fl.next,Bool.and_false]
   simp
 ·
  have h9:a.Fatal≠b.Fatal:=fun e=>h0 (by rw [e])
  simp [h0,h9]
theorem aNF {ks:List (List UInt8)} (h:ks.length≤9223372036854775807):fI ks=some (ks.any lZ):=by
 unfold fI gM
 obtain ⟨x,h1,h2⟩:=aAa (body:=fK ks) ks lZ (fun i hi=>by
  unfold fK
  rw [cU,aQ (by omega),gJ hi,aA,pT,aA,nJ hi h]
  show cond (lZ ks[i]) _ _=_
  cases lZ ks[i] <;> rfl) (by
  unfold fK
  rw [cU,aN (by omega)])
 rw [h1,aA,h2]
def six (o:dB):List Int:=[o.ToStart,o.ToClose,o.Total,o.Beat,o.First,o.Most]
def sJ (o:dB):Bool:=(decide (o.Queue=[])||pZ o.Queue)&&decide (o.Fatal.length≤64)&&(six o).all (fun n=>inB n 0 1099511627776)&&inB o.Coef 0 10000&&inB o.Attempts 0 1000&&!o.Fatal.any lZ
theorem aCd {o:dB} (h:gO o):mN o=some (sJ o):=by
 have hf:o.Fatal.length≤9223372036854775807:=h.2.2.2.2.2.2.2.2.2.1
 unfold mN sJ
 rw [xT,aNF hf]
 simp only [uU]
 rw [kZ (six o).length (fun i=>inB ((six o).getD i default) 0 1099511627776) false (fun i hi=>?_) ?_,aA,qZ (six o) fun n=>inB n 0 1099511627776]
 ·
  by_cases h0:(64:Int)<o.Fatal.length
  ·
   have h1:¬o.Fatal.length≤64:=by omega
   by_cases hq:o.Queue=[] <;> cases pZ o.Queue <;> simp [hq,h0,h1,gd]
  ·
   have h1:o.Fatal.length≤64:=by omega
   cases (six o).all fun n=>inB n 0 1099511627776
   ·
    by_cases hq:o.Queue=[] <;> cases pZ o.Queue <;> simp [hq,h0,h1,gd,Fl.next]
   ·
    by_cases hq:o.Queue=[] <;> cases pZ o.Queue <;> cases inB o.Coef 0 10000 <;> cases inB o.Attempts 0 1000 <;> simp [hq,h0,h1,gd,Fl.next]
 ·
  unfold pB
  rw [cU,aN (by unfold six;omega)]
 ·
  unfold pB
  have hi':i<[o.ToStart,o.ToClose,o.Total,o.Beat,o.First,o.Most].length:=hi
  rw [cU,aQ (by omega),gJ hi',aA,uU,aA,nJ hi (by unfold six;simp)]
  simp only [bJ,aD hi,eC]
  show cond (!inB (six o)[i] 0 1099511627776) _ _=_
  cases inB (six o)[i] 0 1099511627776 <;> rfl
theorem aAR {o:dB} (h:gO o):sW o=some (sJ o):=by
 have hf:o.Fatal.length≤9223372036854775807:=h.2.2.2.2.2.2.2.2.2.1
 unfold sW sJ
 rw [xY]
 simp only [aDN]
 rw [kZ (six o).length (fun i=>inB ((six o).getD i default) 0 1099511627776) false (fun i hi=>?_) ?_,aA,qZ (six o) fun n=>inB n 0 1099511627776]
 ·
  rw [kZ o.Fatal.length (fun i=>!lZ (o.Fatal.getD i default)) false (fun i hi=>?_) ?_,aA,qZ o.Fatal fun n=>!lZ n,← vV]
  ·
   have e:decide ((o.Fatal.length:Int)≤64)=decide (o.Fatal.length≤64):=by rw [dU];simp;omega
   rw [e]
   cases (six o).all fun n=>inB n 0 1099511627776
   ·
    simp [Fl.next]
   ·
    cases o.Fatal.any lZ
    ·
     by_cases hq:o.Queue=[] <;> cases pZ o.Queue <;> cases inB o.Coef 0 10000 <;> cases inB o.Attempts 0 1000 <;> simp [hq,gd,Fl.next]
    ·
     simp [Fl.next]
  ·
   unfold tO
   rw [cU,aN (by omega)]
  ·
   unfold tO
   rw [cU,aQ (by omega),gJ hi,aA,nJ hi hf]
   simp only [bJ,aD hi,eC]
   show cond (lZ o.Fatal[i]) _ _=_
   cases lZ o.Fatal[i] <;> rfl
 ·
  unfold tN
  rw [cU,aN (by unfold six;omega)]
 ·
  unfold tN
  have hi':i<[o.ToStart,o.ToClose,o.Total,o.Beat,o.First,o.Most].length:=hi
  rw [cU,aQ (by omega),gJ hi',aA,aDN,aA,nJ hi (by unfold six;simp)]
  simp only [bJ,aD hi,eC]
  show cond (!inB (six o)[i] 0 1099511627776) _ _=_
  cases inB (six o)[i] 0 1099511627776 <;> rfl
def wM (x:aE):Bool:=match x.Items with
 | [a,_]=>decide (x.Kind=4)&&decide (a.Kind=3)&&pZ a.Text
 | _=>false
def aGP (v:aE):Bool:=match v.Items with
 | [_,b]=>decide (v.Kind=4)&&decide (b.Kind=4)&&b.Items.all wM
 | _=>false
theorem aP7 {α:Type}{l:List α} (h:l.length=2):∃ a b,l=[a,b]:=by
 match l,h with
 | [a,b],_=>exact ⟨a,b,rfl⟩
theorem aIy {x:aE} (h:¬x.Items.length=2):wM x=false:=by
 unfold wM
 split
 ·
  rename_i hx;exact absurd (by rw [hx];rfl) h
 ·
  rfl
theorem aKA {x:aE} (h:¬x.Items.length=2):aGP x=false:=by
 unfold aGP
 split
 ·
  rename_i hx;exact absurd (by rw [hx];rfl) h
 ·
  rfl
theorem aC4 {x:aE}:(cond (!decide (x.Kind=4)) true (!decide ((x.Items.length:Int)=2)))=!(decide (x.Kind=4)&&decide (x.Items.length=2)):=by
 by_cases h1:x.Kind=4
 ·
  rw [dU];simp [h1];omega
 ·
  simp [h1]
theorem aNA (x:aE):rV x=some (!wM x):=by
 unfold rV
 simp only [aC4,xT]
 by_cases h2:x.Items.length=2
 ·
  obtain ⟨a,b,hab⟩:=aP7 h2
  unfold wM
  rw [hab]
  have h0:nF [a,b] (0:Int)=some a:=rfl
  rw [h0]
  by_cases h1:x.Kind=4 <;> by_cases h3:a.Kind=3 <;> simp [h1,h3,gd]
 ·
  have:wM x=false:=aIy h2
  simp [this,h2,gd]
theorem aOP {v:aE} (hv:dF v):uV v=some (aGP v):=by
 obtain ⟨k0,k1,k2,k3,k4⟩:=(gD v).1 hv
 unfold uV
 simp only [aC4]
 by_cases h2:v.Items.length=2
 ·
  obtain ⟨a,b,hab⟩:=aP7 h2
  obtain ⟨_,_,_,hb,_⟩:=(gD b).1 (k3.2.2 b (by rw [hab];simp))
  unfold aGP
  rw [hab]
  have h0:nF [a,b] (1:Int)=some b:=rfl
  have hC:fH b.Items=some (b.Items.any fun x=>!wM x):=by
   unfold fH gL
   obtain ⟨x,h1,h2⟩:=aAa (body:=fJ b.Items) b.Items (fun x=>!wM x) (fun i hi=>by
    unfold fJ
    rw [cU,aQ (by omega),gJ hi,aA,aNA,aA,nJ hi hb.1]
    cases wM b.Items[i] <;> rfl) (by
    unfold fJ
    rw [cU,aN (by omega)])
   rw [h1,aA,h2]
  have hA:(!b.Items.any fun x=>!wM x)=b.Items.all wM:=by rw [vV];simp
  rw [h0]
  by_cases h1:v.Kind=4 <;> by_cases h3:b.Kind=4
  ·
   simp only [h1,h3,eV,jD,bS,pJ,bW,bF,eH,gd,bT,aA,hC,hA,eE]
  ·
   simp [h1,h3,gd]
  ·
   simp [h1,h3,gd]
  ·
   simp [h1,h3,gd]
 ·
  have:aGP v=false:=aKA h2
  simp [this,h2,gd]
theorem aK2 {v:aE} (hv:dF v):aCx v=some (aGP v):=by
 obtain ⟨k0,k1,k2,k3,k4⟩:=(gD v).1 hv
 unfold aCx
 simp only [aC4]
 by_cases h2:v.Items.length=2
 ·
  obtain ⟨a,b,hab⟩:=aP7 h2
  obtain ⟨_,_,_,hb,_⟩:=(gD b).1 (k3.2.2 b (by rw [hab];simp))
  have h0:nF v.Items (1:Int)=some b:=by rw [hab];rfl
  have hi2:aGP v=(decide (v.Kind=4)&&decide (b.Kind=4)&&b.Items.all wM):=by unfold aGP;rw [hab]
  have hC:fX (wP v) (0:Int)=some (if b.Items.all wM then .go () else .done false):=by
   rw [kZ b.Items.length (fun i=>wM (b.Items.getD i default)) false (fun i hi=>?_) ?_,qZ b.Items wM]
   ·
    unfold wP
    rw [h0,aA,cU,aN (by omega)]
   ·
    unfold wP
    rw [h0,aA,cU,aQ (by omega),aA,gJ hi,aA,nJ hi hb.1]
    simp only [bJ,aD hi,eC,aC4,xY]
    generalize b.Items[i]=x
    by_cases h2:x.Items.length=2
    ·
     obtain ⟨c,d,hcd⟩:=aP7 h2
     have hp:wM x=(decide (x.Kind=4)&&decide (c.Kind=3)&&pZ c.Text):=by unfold wM;rw [hcd]
     have h0:nF x.Items (0:Int)=some c:=by rw [hcd];rfl
     rw [h0,hp,h2]
     by_cases h1:x.Kind=4 <;> by_cases h3:c.Kind=3
     ·
      simp only [h1,h3,bS,pJ,bW,bF,eH,gd,bT,aA,eE]
      cases pZ c.Text <;> rfl
     ·
      simp [h1,h3,gd]
     ·
      simp [h1,h3,gd]
     ·
      simp [h1,h3,gd]
    ·
     have:wM x=false:=aIy h2
     simp [this,h2,gd]
  rw [h0,h2,hC,hi2]
  by_cases h1:v.Kind=4 <;> by_cases h3:b.Kind=4
  ·
   simp only [h1,h3,bS,pJ,bW,bF,eH,gd,bT,aA,eE]
   cases b.Items.all wM <;> rfl
  ·
   simp [h1,h3,gd]
  ·
   simp [h1,h3,gd]
  ·
   simp [h1,h3,gd]
 ·
  have:aGP v=false:=aKA h2
  simp [this,h2,gd]

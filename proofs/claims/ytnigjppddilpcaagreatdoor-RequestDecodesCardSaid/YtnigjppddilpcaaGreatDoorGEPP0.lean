/- Plain laws: what the functions compute, with no program in sight. -/
import Derived.Test.YtnigjppddilpcaaGreatDoorPk2
import Derived.Test.YtnigjppddilpcaaGreatDoorGEF0
import Derived.Test.YtnigjppddilpcaaGreatDoorGEF1
import Derived.Test.YtnigjppddilpcaaGreatDoorGEF2
import Derived.Test.YtnigjppddilpcaaGreatDoorGEF6
import Derived.Test.YtnigjppddilpcaaGreatDoorGEF7
import Derived.Test.YtnigjppddilpcaaGreatDoorGEF8
import Derived.Test.YtnigjppddilpcaaGreatDoorGESh
import Derived.Test.YtnigjppddilpcaaGreatDoorGEF9
import Derived.Test.YtnigjppddilpcaaGreatDoorGEF3
namespace Go.Proofs.YtnigjppddilpcaaGreatDoor
open Go Abs
set_option linter.unusedSimpArgs false
set_option linter.unusedVariables false
theorem vN {i n:Nat} (h:i<n) (hn:n≤9223372036854775807):IntKind.i64.wrap ((i:Int)+1)=((i+1:Nat):Int):=by rw [w64 (by omega) (by omega)];omega
theorem kM {α:Type}{l:List α}{i:Nat} (h:i<l.length):nG l (i:Int)=some l[i]:=by rw [aIs,aT h]
theorem oT {τ:Type} (n:Nat) (p:Nat→Bool) (b:τ) {body:Int→Option (dU Int (Fl τ Unit))} (h:∀ i:Nat,i<n→body (i:Int)=some (if p i then .next ((i+1:Nat):Int) else .out (.done b)))
  (hout:body (n:Int)=some (.out (.go ()))):fK body (0:Int)=some (if (List.range n).all p then .go () else .done b):=by
 refine aIv (fun s=>∃ i:Nat,s=(i:Int)∧i≤n∧∀ j,j<i→p j=true) (fun s=>n - s.toNat) (fun _=>(if (List.range n).all p then Fl.go () else Fl.done b:Fl τ Unit)) ?_ _ ⟨0,rfl,by omega,by omega⟩
 rintro s ⟨i,rfl,hi,hp⟩
 by_cases hlt:i<n
 ·
  rw [h i hlt]
  by_cases hpi:p i=true
  ·
   rw [bH hpi]
   exact .inl ⟨_,rfl,⟨i+1,rfl,hlt,fun j hj=>by rcases Nat.lt_succ_iff_lt_or_eq.1 hj with h1 | rfl;exact hp j h1;exact hpi⟩,by simp;omega,rfl⟩
  ·
   rw [bE hpi,bE (fun ha=>hpi (cR.1 ha i (fB.2 hlt)))]
   exact .inr rfl
 ·
  obtain rfl:i=n:=by omega
  rw [hout,bH (cR.2 fun j hj=>hp j (fB.1 hj))]
  exact .inr rfl
theorem sP {α:Type} [Inhabited α] (l:List α) (p:α→Bool):((List.range l.length).all fun i=>p (l.getD i default))=l.all p:=by
 rw [eO,cR,cR]
 constructor
 ·
  intro h x hx
  obtain ⟨i,hi,rfl⟩:=rI.1 hx
  have:=h i (fB.2 hi)
  simpa [hi] using this
 ·
  intro h i hi
  have hi:=fB.1 hi
  simpa [hi] using h _ (dB hi)
theorem aA8 {α:Type} (l:List α) (p:α→Bool) {body:Int→Option (dU Int (Fl Int Unit))} (h:∀ (i:Nat) (hi:i<l.length),body (i:Int)=some (if p l[i] then .out (.done (i:Int)) else .next ((i+1:Nat):Int)))
  (hout:body (l.length:Int)=some (.out (.go ()))):∃ x:Int,((fK body (0:Int)).bind fun r=>Fl.next r fun _=>some (-1:Int))=some x∧decide ((0:Int)≤x)=l.any p:=by
 obtain ⟨r,h1,x,h2,h3⟩:∃ r,fK body (0:Int)=some r∧∃ x:Int,(Fl.next r fun _=>some (-1:Int))=some x∧decide ((0:Int)≤x)=l.any p:=by
  refine aDL (fun s=>∃ i:Nat,s=(i:Int)∧i≤l.length∧∀ j (hj:j<l.length),j<i→p l[j]=false) (fun s=>l.length - s.toNat) _ ?_ _ ⟨0,rfl,by omega,by omega⟩
  rintro s ⟨i,rfl,hi,hp⟩
  by_cases hlt:i<l.length
  ·
   rw [h i hlt]
   by_cases hpi:p l[i]=true
   ·
    rw [bH hpi]
    refine .inr ⟨_,rfl,i,rfl,?_⟩
    have:l.any p=true:=List.any_eq_true.2 ⟨_,dB hlt,hpi⟩
    rw [this];simp
   ·
    rw [bE hpi]
    exact .inl ⟨_,rfl,⟨i+1,rfl,hlt,fun j hj hji=>by rcases Nat.lt_succ_iff_lt_or_eq.1 hji with h1 | rfl;exact hp j hj h1;simpa using hpi⟩,by simp;omega⟩
  ·
   obtain rfl:i=l.length:=by omega
   rw [hout]
   refine .inr ⟨_,rfl,-1,rfl,?_⟩
   have:l.any p=false:=by
    rw [List.any_eq_false]
    intro x hx
    obtain ⟨j,hj,rfl⟩:=rI.1 hx
    simp [hp j hj hj]
   rw [this];decide
 exact ⟨x,by rw [h1,aA];exact h2,h3⟩
theorem aFd {α σ:Type} (l:List α) (f:σ→α→σ) (s0:σ) {body:σ × Int→Option (dU (σ × Int) σ)} (h:∀ (s:σ) (i:Nat) (hi:i<l.length),body (s,(i:Int))=some (.next (f s l[i],((i+1:Nat):Int))))
  (hout:∀ s,body (s,(l.length:Int))=some (.out s)):fK body (s0,(0:Int))=some (l.foldl f s0):=by
 refine aIv (fun s=>∃ i:Nat,s.2=(i:Int)∧i≤l.length∧s.1=(l.take i).foldl f s0) (fun s=>l.length - s.2.toNat) (fun _=>l.foldl f s0) ?_ _ ⟨0,rfl,by omega,by simp⟩
 rintro ⟨s,i0⟩ ⟨i,hi0,hi,hs⟩
 simp only at hi0 hs
 subst hi0
 by_cases hlt:i<l.length
 ·
  refine .inl ⟨_,h s i hlt,⟨i+1,rfl,hlt,?_⟩,by simp;omega,rfl⟩
  rw [hs,List.take_succ_eq_append_getElem hlt,List.foldl_append]
  rfl
 ·
  obtain rfl:i=l.length:=by omega
  rw [hout,hs,List.take_length]
  exact .inr rfl
mutual
def hgt:aQ→Nat
 | ⟨_,_,_,l,_⟩=>aQM l+1
def aQM:List aQ→Nat
 | []=>0
 | x :: l=>max (hgt x) (aQM l)
end
theorem yN:∀ {l:List aQ}{x:aQ},x∈l→hgt x≤aQM l
 | [],x,h=>by simp at h
 | y :: l,x,h=>by
  simp only [aQM]
  rcases fW.1 h with rfl | h
  ·
   omega
  ·
   have:=yN h;omega
theorem tM (v:aQ):hgt v=aQM v.Items+1:=by cases v;simp [hgt]
theorem aNU {v x:aQ} (h:x∈v.Items):hgt x<hgt v:=by have:=yN h;have:=tM v;omega
mutual
def sN:aQ→aQ→Bool
 | ⟨k,i,t,l,ks⟩,w=>decide (k=w.Kind)&&decide (i=w.Int)&&decide (t=w.Text)&&decide (ks=w.Keys)&&aAX l w.Items
def aAX:List aQ→List aQ→Bool
 | [],[]=>true
 | x :: l,y :: m=>sN x y&&aAX l m
 | _,_=>false
end
theorem aJC (v w:aQ):sN v w=(decide (v.Kind=w.Kind)&&decide (v.Int=w.Int)&&decide (v.Text=w.Text)&&decide (v.Keys=w.Keys)&&aAX v.Items w.Items):=by cases v;simp [sN]
theorem aCO:∀ (l m:List aQ),aAX l m=true↔l.length=m.length∧∀ i (h:i<l.length) (h2:i<m.length),sN l[i] m[i]=true
 | [],[]=>by simp [aAX]
 | [],y :: m=>by simp [aAX]
 | x :: l,[]=>by simp [aAX]
 | x :: l,y :: m=>by
  simp only [aAX,bZ,aCO l m,fU,Nat.add_right_cancel_iff]
  constructor
  ·
   rintro ⟨h1,h2,h3⟩
   refine ⟨h2,fun i hi hi2=>?_⟩
   cases i with
   | zero=>exact h1
   | succ i=>exact h3 i (by omega) (by omega)
  ·
   rintro ⟨h2,h3⟩
   exact ⟨h3 0 (by omega) (by omega),h2,fun i hi hi2=>h3 (i+1) (by omega) (by omega)⟩
theorem aKQ:∀ (n:Nat) (v w:aQ),hgt v≤n→(sN v w=true↔v=w):=by
 intro n
 induction n with
 | zero=>intro v w h;have:=tM v;omega
 | succ n ih =>
  intro v w h
  rw [aJC]
  simp only [bZ,dT,aCO]
  constructor
  ·
   rintro ⟨⟨⟨⟨h1,h2⟩,h3⟩,h4⟩,h5,h6⟩
   have h7:v.Items=w.Items:=List.ext_getElem h5 fun i hi hi2=>(ih _ _ (by have:=aNU (dB hi:v.Items[i]∈v.Items);omega)).1 (h6 i hi hi2)
   cases v;cases w;simp_all
  ·
   rintro rfl
   exact ⟨⟨⟨⟨rfl,rfl⟩,rfl⟩,rfl⟩,rfl,fun i hi _=>(ih _ _ (by have:=aNU (dB hi:v.Items[i]∈v.Items);omega)).2 rfl⟩
theorem aJt {a b:List (List UInt8)} (ha:a.length≤9223372036854775807):lM a b=some (decide (a=b)):=by
 unfold lM
 rw [aB2]
 by_cases h:(a.length:Int)=b.length
 ·
  rw [bH h,oT a.length (fun i=>decide (a[i]?=b[i]?)) false (fun i hi=>?_) ?_,aA]
  ·
   split
   ·
    rename_i h2
    rw [cR] at h2
    have:a=b:=List.ext_getElem? fun i=>by
     by_cases hi:i<a.length
     ·
      have:=h2 i (fB.2 hi);simpa using this
     ·
      rw [lG (by omega),lG (by omega)]
    simp [Fl.next,this]
   ·
    rename_i h2
    have:a≠b:=fun e=>h2 (by rw [cR];intro i _;simp [e])
    simp [Fl.next,this]
  ·
   unfold nY
   rw [dW,bE (by omega)]
  ·
   unfold nY
   have hb:i<b.length:=by omega
   rw [dW,bH (by omega),kM hi,aA,kM hb,aA,aB2,vN hi ha,aT hi,aT hb]
   simp only [eM,dT]
   split <;> rfl
 ·
  rw [bE h]
  have:a≠b:=fun e=>h (by rw [e])
  simp [this]
theorem aGe {l m:List aQ} (h:l.length=m.length) (p:Nat→Bool) (hp:∀ i (h1:i<l.length) (h2:i<m.length),p i=sN l[i] m[i]):(List.range l.length).all p=aAX l m:=by
 rw [eO,cR,aCO]
 constructor
 ·
  exact fun hh=>⟨h,fun i h1 h2=>by rw [← hp i h1 h2];exact hh i (fB.2 h1)⟩
 ·
  exact fun hh i hi=>by have:=fB.1 hi;rw [hp i this (by omega)];exact hh.2 i this (by omega)
theorem aQd:∀ (n:Nat) (v w:aQ),eA v→2*hgt v≤n→yF n v w=some (sN v w):=by
 intro n
 induction n using Nat.strongRecOn with
 | _ n ih =>
  intro v w hv hn
  have hh:=tM v
  obtain ⟨m,rfl⟩:∃ m,n=m+2:=⟨n - 2,by omega⟩
  obtain ⟨k0,k1,k2,k3,k4⟩:=(hU v).1 hv
  have hE:eP (m+1) v.Items w.Items=some (aAX v.Items w.Items):=by
   rw [eP,aB2]
   by_cases h:(v.Items.length:Int)=w.Items.length
   ·
    rw [bH h,oT v.Items.length (fun i=>sN (v.Items.getD i default) (w.Items.getD i default)) false (fun i hi=>?_) ?_,aA,aGe (m:=w.Items) (by omega) _ (fun i h1 h2=>by simp [h1,h2])]
    ·
     cases aAX v.Items w.Items <;> rfl
    ·
     unfold gG
     rw [dW,bE (by omega)]
    ·
     unfold gG
     have hb:i<w.Items.length:=by omega
     rw [dW,bH (by omega),kM hi,aA,kM hb,aA,ih m (by omega) _ _ (k3.2.2 _ (dB hi)) (by have:=yN (dB hi);omega),aA,vN hi k3.1]
     simp only [cI,aT hi,aT hb,eT]
     cases sN v.Items[i] w.Items[i] <;> rfl
   ·
    rw [bE h]
    have:aAX v.Items w.Items=false:=by rw [← Bool.not_eq_true,aCO];exact fun hh=>h (by omega)
    rw [this]
  rw [yF,aJt k4.1,hE,aJC]
  by_cases h1:v.Kind=w.Kind <;> by_cases h2:v.Int=w.Int <;> by_cases h3:v.Text=w.Text <;> by_cases h4:v.Keys=w.Keys <;> simp [h1,h2,h3,h4,gd]
theorem aDd {v w:aQ} (hv:eA v):aCN v w=some (sN v w):=aAb (2*hgt v) fun n hn=>aQd n v w hv hn
theorem aMO:∀ (n:Nat) (v w:aQ),eA v→hgt v≤n→xR n v w=some (sN v w):=by
 intro n
 induction n with
 | zero=>intro v w hv hn;have:=tM v;omega
 | succ n ih =>
  intro v w hv hn
  have hh:=tM v
  obtain ⟨k0,k1,k2,k3,k4⟩:=(hU v).1 hv
  rw [xR,aJC]
  by_cases h1:v.Kind=w.Kind
  ·
   by_cases h2:v.Int=w.Int
   ·
    by_cases h3:v.Text=w.Text
    ·
     by_cases h4:(v.Items.length:Int)=w.Items.length
     ·
      by_cases h5:(v.Keys.length:Int)=w.Keys.length
      ·
       simp only [h1,h2,h3,h4,h5,cL,dA,cC,dZ]
       rw [oT v.Keys.length (fun i=>decide (v.Keys[i]?=w.Keys[i]?)) false (fun i hi=>?_) ?_,aA]
       ·
        have hk:((List.range v.Keys.length).all fun i=>decide (v.Keys[i]?=w.Keys[i]?))=decide (v.Keys=w.Keys):=by
         rw [eO,cR]
         simp only [dT]
         constructor
         ·
          refine fun h6=>List.ext_getElem? fun i=>?_
          by_cases hi:i<v.Keys.length
          ·
           exact h6 i (fB.2 hi)
          ·
           rw [lG (by omega),lG (by omega)]
         ·
          intro e i _;rw [e]
        rw [hk]
        by_cases h6:v.Keys=w.Keys
        ·
         simp only [h6,cL,dP,Fl.next,dZ]
         rw [oT v.Items.length (fun i=>sN (v.Items.getD i default) (w.Items.getD i default)) false (fun i hi=>?_) ?_,aA,aGe (m:=w.Items) (by omega) _ (fun i h1 h2=>by simp [h1,h2])]
         ·
          cases aAX v.Items w.Items <;> rfl
         ·
          unfold aBm
          rw [dW,bE (by omega)]
         ·
          unfold aBm
          have hb:i<w.Items.length:=by omega
          rw [dW,bH (by omega),kM hi,aA,kM hb,aA,ih _ _ (k3.2.2 _ (dB hi)) (by have:=yN (dB hi);omega),aA,vN hi k3.1]
          simp only [cI,aT hi,aT hb,eT]
          cases sN v.Items[i] w.Items[i] <;> rfl
        ·
         simp [h6,Fl.next]
       ·
        unfold aBl
        rw [dW,bE (by omega)]
       ·
        unfold aBl
        have hb:i<w.Keys.length:=by omega
        rw [dW,bH (by omega),kM hi,aA,kM hb,aA,aB2,vN hi k4.1,aT hi,aT hb]
        simp only [eM,dT]
        split <;> rfl
      ·
       have:v.Keys≠w.Keys:=fun e=>h5 (by rw [e])
       simp [h5,this]
     ·
      have:aAX v.Items w.Items=false:=by rw [← Bool.not_eq_true,aCO];exact fun hh=>h4 (by omega)
      simp [h4,this]
    ·
     simp [h3]
   ·
    simp [h2]
  ·
   simp [h1]
theorem aCD {v w:aQ} (hv:eA v):aBc v w=some (sN v w):=aAb (hgt v) fun n hn=>aMO n v w hv hn
mutual
def dep:aQ→Int
 | ⟨_,_,_,l,_⟩=>IntKind.i64.wrap (aQz l 0+1)
def aQz:List aQ→Int→Int
 | [],a=>a
 | x :: l,a=>aQz l (if dep x > a then dep x else a)
end
theorem aQy (v:aQ):dep v=IntKind.i64.wrap (v.Items.foldl (fun a x=>if dep x > a then dep x else a) 0+1):=by
 have key:∀ (l:List aQ) (a:Int),aQz l a=l.foldl (fun a x=>if dep x > a then dep x else a) a:=by
  intro l
  induction l with
  | nil=>intro a;simp [aQz]
  | cons x l ih=>intro a;simp [aQz,ih]
 cases v;simp only [dep,key]
mutual
def siz:aQ→Int
 | ⟨_,_,_,l,_⟩=>aRr l 1
def aRr:List aQ→Int→Int
 | [],a=>a
 | x :: l,a=>aRr l (IntKind.i64.wrap (a+siz x))
end
theorem aRq (v:aQ):siz v=v.Items.foldl (fun a x=>IntKind.i64.wrap (a+siz x)) 1:=by
 have key:∀ (l:List aQ) (a:Int),aRr l a=l.foldl (fun a x=>IntKind.i64.wrap (a+siz x)) a:=by
  intro l
  induction l with
  | nil=>intro a;simp [aRr]
  | cons x l ih=>intro a;simp [aRr,ih]
 cases v;simp only [siz,key]
theorem aO8:∀ (n:Nat) (v:aQ),eA v→hgt v≤n→vZ n v=some (dep v):=by
 intro n
 induction n with
 | zero=>intro v hv hn;have:=tM v;omega
 | succ n ih =>
  intro v hv hn
  have hh:=tM v
  obtain ⟨k0,k1,k2,k3,k4⟩:=(hU v).1 hv
  have hi1:=fun (i:Nat) (hi:i<v.Items.length)=>ih _ (k3.2.2 _ (dB hi)) (by have:=yN (dB hi);omega)
  rw [vZ,aQy]
  rw [aFd v.Items (fun a x=>if dep x > a then dep x else a) 0 (fun s i hi=>?_) (fun s=>?_),aA]
  ·
   unfold aAS
   rw [dW,bH (by simp only;omega),kM hi,aA,(hi1 i hi),aA,vN hi k3.1]
  ·
   unfold aAS
   rw [dW,bE (by simp only;omega)]
theorem aLn:∀ (n:Nat) (v:aQ),eA v→hgt v≤n→vT n v=some (dep v):=by
 intro n
 induction n with
 | zero=>intro v hv hn;have:=tM v;omega
 | succ n ih =>
  intro v hv hn
  have hh:=tM v
  obtain ⟨k0,k1,k2,k3,k4⟩:=(hU v).1 hv
  have hi1:=fun (i:Nat) (hi:i<v.Items.length)=>ih _ (k3.2.2 _ (dB hi)) (by have:=yN (dB hi);omega)
  rw [vT,aQy]
  rw [aFd v.Items (fun a x=>if dep x > a then dep x else a) 0 (fun s i hi=>?_) (fun s=>?_),aA]
  ·
   unfold aAy
   rw [dW,bH (by simp only;omega),kM hi,aA,(hi1 i hi),aA,vN hi k3.1,dW]
   simp only
   by_cases h:s<dep v.Items[i]
   ·
    rw [bH h,bH h]
   ·
    rw [bE h,bE h]
  ·
   unfold aAy
   rw [dW,bE (by simp only;omega)]
theorem aJz {v:aQ} (hv:eA v):aEX v=some (dep v):=aAb (hgt v) fun n hn=>aO8 n v hv hn
theorem aMM {v:aQ} (hv:eA v):aEM v=some (dep v):=aAb (hgt v) fun n hn=>aLn n v hv hn
theorem aQe:∀ (n:Nat) (v:aQ),eA v→hgt v≤n→yG n v=some (siz v):=by
 intro n
 induction n with
 | zero=>intro v hv hn;have:=tM v;omega
 | succ n ih =>
  intro v hv hn
  have hh:=tM v
  obtain ⟨k0,k1,k2,k3,k4⟩:=(hU v).1 hv
  have hi1:=fun (i:Nat) (hi:i<v.Items.length)=>ih _ (k3.2.2 _ (dB hi)) (by have:=yN (dB hi);omega)
  rw [yG,aRq]
  rw [aFd v.Items (fun a x=>IntKind.i64.wrap (a+siz x)) 1 (fun s i hi=>?_) (fun s=>?_),aA]
  ·
   unfold aBr
   rw [dW,bH (by simp only;omega),kM hi,aA,(hi1 i hi),aA,vN hi k3.1]
  ·
   unfold aBr
   rw [dW,bE (by simp only;omega)]
theorem aMQ:∀ (n:Nat) (v:aQ),eA v→hgt v≤n→xS n v=some (siz v):=by
 intro n
 induction n with
 | zero=>intro v hv hn;have:=tM v;omega
 | succ n ih =>
  intro v hv hn
  have hh:=tM v
  obtain ⟨k0,k1,k2,k3,k4⟩:=(hU v).1 hv
  have hi1:=fun (i:Nat) (hi:i<v.Items.length)=>ih _ (k3.2.2 _ (dB hi)) (by have:=yN (dB hi);omega)
  rw [xS,aRq]
  rw [aFd v.Items (fun a x=>IntKind.i64.wrap (a+siz x)) 1 (fun s i hi=>?_) (fun s=>?_),aA]
  ·
   unfold aBn
   rw [dW,bH (by simp only;omega),kM hi,aA,(hi1 i hi),aA,vN hi k3.1]
  ·
   unfold aBn
   rw [dW,bE (by simp only;omega)]
theorem aKa {v:aQ} (hv:eA v):aF2 v=some (siz v):=aAb (hgt v) fun n hn=>aQe n v hv hn
theorem aOc {v:aQ} (hv:eA v):aFQ v=some (siz v):=aAb (hgt v) fun n hn=>aMQ n v hv hn
def qM (k:List UInt8):Bool:=decide ((4096:Int)<(k.length:Int))
mutual
def shr:aQ→Bool
 | ⟨_,_,t,l,ks⟩=>!qM t&&!ks.any qM&&aSj l
def aSj:List aQ→Bool
 | []=>true
 | x :: l=>shr x&&aSj l
end
theorem aM1:∀ l,aSj l=l.all shr
 | []=>rfl
 | x :: l=>by simp [aSj,aM1 l]
theorem aRp (v:aQ):shr v=(!qM v.Text&&!v.Keys.any qM&&v.Items.all shr):=by cases v;simp [shr,aM1]
theorem aAk {α:Type} (l:List α) (p:α→Bool):(!l.any p)=l.all fun x=>!p x:=by simp [List.not_any_eq_all_not]
theorem aQ0 {ks:List (List UInt8)} (h:ks.length≤9223372036854775807):iK ks=some (ks.any qM):=by
 unfold iK kD
 obtain ⟨x,h1,h2⟩:=aA8 (body:=iM ks) ks qM (fun i hi=>by
  unfold iM
  rw [dW,bH (by omega),kM hi,aA,aBs,aA,vN hi h]
  show cond (qM ks[i]) _ _=_
  cases qM ks[i] <;> rfl) (by
  unfold iM
  rw [dW,bE (by omega)])
 rw [h1,aA,h2]
theorem aPU:∀ (n:Nat) (v:aQ),eA v→4*hgt v≤n→wB n v=some (shr v):=by
 intro n
 induction n using Nat.strongRecOn with
 | _ n ih =>
  intro v hv hn
  have hh:=tM v
  obtain ⟨m,rfl⟩:∃ m,n=m+4:=⟨n - 4,by omega⟩
  obtain ⟨k0,k1,k2,k3,k4⟩:=(hU v).1 hv
  have hC:fR (m+3) v.Items=some (v.Items.any fun x=>!shr x):=by
   rw [fR,hF]
   obtain ⟨x,h1,h2⟩:=aA8 (body:=gU (vI (m+1)) v.Items) v.Items (fun x=>!shr x) (fun i hi=>by
    unfold gU
    rw [dW,bH (by omega),kM hi,aA,vI,ih m (by omega) _ (k3.2.2 _ (dB hi)) (by have:=yN (dB hi);omega),aA,aA,vN hi k3.1]
    cases shr v.Items[i] <;> rfl) (by
    unfold gU
    rw [dW,bE (by omega)])
   rw [h1,aA,h2]
  rw [wB,aQ0 k4.1,hC,aRp]
  by_cases h:(4096:Int)<v.Text.length
  ·
   simp [h,gd,qM]
  ·
   have hA:(!v.Items.any fun x=>!shr x)=v.Items.all shr:=by rw [aAk];simp
   have ht:qM v.Text=false:=by simp [qM,h]
   simp only [h,ht,dR,eQ,gd,dP,aA,cC,fZ,dZ,hA]
   cases v.Keys.any qM <;> rfl
theorem aJA {v:aQ} (hv:eA v):aEY v=some (shr v):=aAb (4*hgt v) fun n hn=>aPU n v hv hn
theorem aLr:∀ (n:Nat) (v:aQ),eA v→hgt v≤n→vU n v=some (shr v):=by
 intro n
 induction n with
 | zero=>intro v hv hn;have:=tM v;omega
 | succ n ih =>
  intro v hv hn
  have hh:=tM v
  obtain ⟨k0,k1,k2,k3,k4⟩:=(hU v).1 hv
  rw [vU,aRp,dW]
  by_cases h:(4096:Int)<v.Text.length
  ·
   rw [bH h];simp [qM,h]
  ·
   rw [bE h]
   rw [oT v.Keys.length (fun i=>!qM (v.Keys.getD i default)) false (fun i hi=>?_) ?_,aA,sP v.Keys fun k=>!qM k]
   ·
    rw [aAk]
    have ht:qM v.Text=false:=by simp [qM,h]
    rw [ht]
    cases v.Keys.all fun x=>!qM x
    ·
     rfl
    ·
     simp only [dP,Fl.next,fZ,dZ]
     rw [oT v.Items.length (fun i=>shr (v.Items.getD i default)) false (fun i hi=>?_) ?_,aA,sP v.Items shr]
     ·
      cases v.Items.all shr <;> rfl
     ·
      unfold aAB
      rw [dW,bE (by omega)]
     ·
      unfold aAB
      rw [dW,bH (by omega),kM hi,aA,ih _ (k3.2.2 _ (dB hi)) (by have:=yN (dB hi);omega),aA,vN hi k3.1]
      simp only [cI,aT hi,eT]
      cases shr v.Items[i] <;> rfl
   ·
    unfold aAA
    rw [dW,bE (by omega)]
   ·
    unfold aAA
    rw [dW,bH (by omega),kM hi,aA,vN hi k4.1]
    simp only [cI,aT hi,eT]
    show cond (qM v.Keys[i]) _ _=_
    cases qM v.Keys[i] <;> rfl
theorem aMP {v:aQ} (hv:eA v):aEN v=some (shr v):=aAb (hgt v) fun n hn=>aLr n v hv hn
def wth (v:aQ):Bool:=decide (dep v≤16)&&decide (siz v≤1000)&&shr v
theorem aIe {v:aQ} (hv:eA v):aAV v=some (wth v):=by
 unfold aAV wth
 rw [aJz hv,aA,aKa hv,aJA hv]
 by_cases h1:dep v≤16 <;> by_cases h2:siz v≤1000 <;> simp [h1,h2,gd]
theorem aLt {v:aQ} (hv:eA v):aAC v=some (wth v):=by
 unfold aAC wth
 rw [aMP hv,aA,aMM hv,aOc hv]
 cases h3:shr v
 ·
  simp [gd]
 ·
  by_cases h1:dep v≤16
  ·
   simp [h1,gd]
  ·
   simp [h1,gd]
def aJp (l:List (List UInt8)):Bool:=(List.range (l.length - 1)).all fun i=>Op.bytesLess (l.getD i []) (l.getD (i+1) [])
theorem aMS {l:List (List UInt8)}:aJp l=true↔∀ (i:Nat) (hi:i+1<l.length),Op.bytesLess (l[i]'(by omega)) l[i+1]=true:=by
 unfold aJp
 rw [cR]
 constructor
 ·
  intro h i hi
  have:=h i (fB.2 (by omega))
  rw [cI,cI,aT (by omega),aT hi] at this
  exact this
 ·
  intro h i hi
  have hi:=fB.1 hi
  rw [cI,cI,aT (by omega),aT (by omega)]
  exact h i (by omega)
theorem aMT {l:List (List UInt8)}{body:Int→Option (dU Int (Fl Bool Unit))} (h:∀ (i:Nat) (h1:1≤i) (hi:i<l.length),body (i:Int)=some (if Op.bytesLess (l[i - 1]'(by omega)) l[i]=true then .next ((i+1:Nat):Int) else .out (.done false)))
  (hout:∀ i:Nat,l.length≤i→body (i:Int)=some (.out (.go ()))):fK body (1:Int)=some (if aJp l=true then .go () else .done false):=by
 have key:∃ x,fK body (1:Int)=some x∧x=if aJp l=true then .go () else .done false:=by
  refine aDL (fun s=>∃ i:Nat,s=(i:Int)∧1≤i∧∀ (k:Nat) (hk:k+1<l.length),k+1<i→Op.bytesLess (l[k]'(by omega)) l[k+1]=true) (fun s=>l.length - s.toNat) _ ?_ _ ⟨1,rfl,by omega,fun k hk hk2=>by omega⟩
  rintro s ⟨i,rfl,h1,hd⟩
  by_cases hlt:i<l.length
  ·
   rw [h i h1 hlt]
   by_cases hb:Op.bytesLess (l[i - 1]'(by omega)) l[i]=true
   ·
    rw [bH hb]
    refine .inl ⟨_,rfl,⟨i+1,rfl,by omega,fun k hk hk2=>?_⟩,by simp only [mZ];omega⟩
    by_cases e:k+1=i
    ·
     subst e;exact hb
    ·
     exact hd k hk (by omega)
   ·
    rw [bE hb]
    refine .inr ⟨_,rfl,?_⟩
    rw [bE fun hr=>hb (by
     have:=aMS.1 hr (i - 1) (by omega)
     simp only [show i - 1+1=i by omega] at this
     exact this)]
  ·
   rw [hout i (by omega)]
   refine .inr ⟨_,rfl,?_⟩
   rw [bH (aMS.2 fun k hk=>hd k hk (by omega))]
 obtain ⟨x,hx,rfl⟩:=key
 exact hx
theorem aLp {l:List (List UInt8)} (h:l.length≤9223372036854775807):aAz l=some (aJp l):=by
 unfold aAz
 rw [aMT (l:=l) (fun i h1 hi=>?_) (fun i hi=>?_),aA]
 ·
  cases aJp l <;> rfl
 ·
  unfold zS
  rw [dW,bH (by omega),w64 (by omega) (by omega),show (i:Int) - 1=((i - 1:Nat):Int) by omega,kM (by omega),aA,kM hi,aA,vN hi h]
  cases Op.bytesLess (l[i - 1]'(by omega)) l[i] <;> rfl
 ·
  unfold zS
  rw [dW,bE (by omega)]
theorem aK2 {l:List (List UInt8)} (h:l.length≤9223372036854775807):wP l=some (aJp l):=by
 unfold wP
 rw [aMT (l:=l) (fun i h1 hi=>?_) (fun i hi=>?_),aA]
 ·
  cases aJp l <;> rfl
 ·
  unfold wA
  rw [dW,bH (by omega),w64 (by omega) (by omega),show (i:Int) - 1=((i - 1:Nat):Int) by omega,kM (by omega),aA,kM hi,aA,vN hi h]
  cases Op.bytesLess (l[i - 1]'(by omega)) l[i] <;> rfl
 ·
  unfold wA
  rw [dW,bE (by omega)]
def aK9 (o:Bool) (v:aQ):Bool :=
 if v.Kind=0 then decide (v.Int=0)&&decide (v.Text=[])&&decide (v.Items.length=0)&&decide (v.Keys.length=0)
 else if v.Kind=1 then (decide (v.Int=0)||decide (v.Int=1))&&decide (v.Text=[])&&decide (v.Items.length=0)&&decide (v.Keys.length=0)
 else if v.Kind=2 then decide (v.Text=[])&&decide (v.Items.length=0)&&decide (v.Keys.length=0)
 else if v.Kind=6 then o&&decide (0≤v.Int)&&decide (v.Text=[])&&decide (v.Items.length=0)&&decide (v.Keys.length=0)
 else if v.Kind=3 then decide (v.Int=0)&&decide (v.Items.length=0)&&decide (v.Keys.length=0)
 else if v.Kind=4 then decide (v.Int=0)&&decide (v.Text=[])&&decide (v.Keys.length=0)
 else if v.Kind=5 then decide (v.Int=0)&&decide (v.Text=[])&&decide (v.Keys.length=v.Items.length)&&aJp v.Keys
 else false
mutual
def fmd (o:Bool):aQ→Bool
 | ⟨k,i,t,l,ks⟩=>aK9 o ⟨k,i,t,l,ks⟩&&aQG o l
def aQG (o:Bool):List aQ→Bool
 | []=>true
 | x :: l=>fmd o x&&aQG o l
end
mutual
def fut:aQ→Bool
 | ⟨k,_,_,l,_⟩=>decide (k=6)||aQJ l
def aQJ:List aQ→Bool
 | []=>false
 | x :: l=>fut x||aQJ l
end
theorem aMo (o:Bool):∀ l,aQG o l=l.all (fmd o)
 | []=>by simp [aQG]
 | x :: l=>by simp [aQG,aMo o l]
theorem aMp:∀ l,aQJ l=l.any fut
 | []=>by simp [aQJ]
 | x :: l=>by simp [aQJ,aMp l]
theorem aIU (o:Bool) (v:aQ):fmd o v=(aK9 o v&&v.Items.all (fmd o)):=by cases v;simp only [fmd,aMo]
theorem aQI (v:aQ):fut v=(decide (v.Kind=6)||v.Items.any fut):=by cases v;simp only [fut,aMp]
theorem aTh (v:aQ):aK9 false v=(aK9 true v&&!decide (v.Kind=6)):=by
 unfold aK9
 by_cases h0:v.Kind=0
 ·
  simp [h0]
 ·
  by_cases h1:v.Kind=1
  ·
   simp [h1]
  ·
   by_cases h2:v.Kind=2
   ·
    simp [h2]
   ·
    by_cases h6:v.Kind=6
    ·
     simp [h6]
    ·
     simp [h0,h1,h2,h6]
theorem aT0:∀ (n:Nat) (v:aQ),hgt v≤n→fmd false v=(fmd true v&&!fut v):=by
 intro n
 induction n with
 | zero=>intro v h;have:=tM v;omega
 | succ n ih =>
  intro v h
  have hall:v.Items.all (fmd false)=(v.Items.all (fmd true)&&!v.Items.any fut):=by
   have key:∀ l:List aQ,(∀ x∈l,fmd false x=(fmd true x&&!fut x))→l.all (fmd false)=(l.all (fmd true)&&!l.any fut):=by
    intro l
    induction l with
    | nil=>intro _;rfl
    | cons x l ihl =>
     intro hx
     simp only [List.all_cons,List.any_cons]
     rw [ihl fun y hy=>hx y (by simp [hy]),hx x (by simp)]
     cases fmd true x <;> cases fut x <;> cases l.all (fmd true) <;> cases l.any fut <;> rfl
   exact key v.Items fun x hx=>ih x (by have:=aNU hx;omega)
  rw [aIU,aIU,aQI,aTh,hall]
  cases aK9 true v <;> cases decide (v.Kind=6) <;> cases v.Items.all (fmd true) <;> cases v.Items.any fut <;> rfl
theorem aPD {α:Type} (l:List α):decide ((0:Int)<(l.length:Int))=!decide (l.length=0):=by cases l <;> simp <;> omega
theorem aPE {α:Type} (l:List α):decide ((l.length:Int)=0)=decide (l.length=0):=by rw [eO];simp
theorem aT3 {α β:Type} (l:List α) (m:List β):decide ((l.length:Int)=m.length)=decide (l.length=m.length):=by rw [eO];simp;omega
theorem aNS:∀ (n:Nat) (v:aQ) (o:Bool),eA v→4*hgt v≤n→uQ n v o=some (fmd o v):=by
 intro n
 induction n using Nat.strongRecOn with
 | _ n ih =>
  intro v o hv hn
  have hh:=tM v
  obtain ⟨m,rfl⟩:∃ m,n=m+4:=⟨n - 4,by omega⟩
  obtain ⟨k0,k1,k2,k3,k4⟩:=(hU v).1 hv
  have hC:fN (m+3) v.Items o=some (v.Items.any fun x=>!fmd o x):=by
   rw [fN,gY]
   obtain ⟨x,h1,h2⟩:=aA8 (body:=gQ (tR (m+1)) v.Items o) v.Items (fun x=>!fmd o x) (fun i hi=>by
    unfold gQ
    rw [dW,bH (by omega),kM hi,aA,tR,ih m (by omega) _ _ (k3.2.2 _ (dB hi)) (by have:=yN (dB hi);omega),aA,aA,vN hi k3.1]
    cases fmd o v.Items[i] <;> rfl) (by
    unfold gQ
    rw [dW,bE (by omega)])
   rw [h1,aA,h2]
  have hA:(!v.Items.any fun x=>!fmd o x)=v.Items.all (fmd o):=by rw [aAk];simp
  have hE:∀ b:Bool,(b=true→v.Items.length=0)→b=(b&&v.Items.all (fmd o)):=fun b hb=>by
   cases b
   ·
    rfl
   ·
    have:v.Items=[]:=eS (hb rfl)
    rw [this];rfl
  rw [uQ,aK2 k4.1,hC,aIU]
  unfold aK9
  by_cases h0:v.Kind=0
  ·
   simp only [h0,Int.reduceEq,dP,eU,cL,dR,dJ,cC,aA,Fl.next,aPD]
   rw [← hE _ (by simp only [bZ,dT];rintro ⟨⟨_,h⟩,_⟩;exact h)]
   cases decide (v.Int=0) <;> cases decide (v.Text=[]) <;> cases decide (v.Items.length=0) <;> cases decide (v.Keys.length=0) <;> rfl
  by_cases h1:v.Kind=1
  ·
   simp only [h1,Int.reduceEq,dP,eU,cL,dR,dJ,cC,aA,Fl.next,aPD]
   rw [← hE _ (by simp only [bZ,dT];rintro ⟨⟨_,h⟩,_⟩;exact h)]
   cases decide (v.Int=0) <;> cases decide (v.Int=1) <;> cases decide (v.Text=[]) <;> cases decide (v.Items.length=0) <;> cases decide (v.Keys.length=0) <;> rfl
  by_cases h2:v.Kind=2
  ·
   simp only [h2,Int.reduceEq,dP,eU,cL,dR,dJ,cC,aA,Fl.next,aPD]
   rw [← hE _ (by simp only [bZ,dT];rintro ⟨⟨_,h⟩,_⟩;exact h)]
   cases decide (v.Text=[]) <;> cases decide (v.Items.length=0) <;> cases decide (v.Keys.length=0) <;> rfl
  by_cases h6:v.Kind=6
  ·
   simp only [h6,Int.reduceEq,dP,eU,cL,dR,dJ,cC,aA,Fl.next,aPD]
   rw [← hE _ (by simp only [bZ,dT];rintro ⟨⟨_,h⟩,_⟩;exact h)]
   cases o <;> cases decide (0≤v.Int) <;> cases decide (v.Text=[]) <;> cases decide (v.Items.length=0) <;> cases decide (v.Keys.length=0) <;> rfl
  by_cases h3:v.Kind=3
  ·
   simp only [h3,Int.reduceEq,dP,eU,cL,dR,dJ,cC,aA,Fl.next,aPD]
   rw [← hE _ (by simp only [bZ,dT];rintro ⟨⟨_,h⟩,_⟩;exact h)]
   cases decide (v.Int=0) <;> cases decide (v.Items.length=0) <;> cases decide (v.Keys.length=0) <;> rfl
  by_cases h4:v.Kind=4
  ·
   simp only [h4,Int.reduceEq,dP,eU,cL,dR,dJ,cC,aPD]
   cases decide (v.Int=0) <;> cases decide (v.Text=[]) <;> cases decide (v.Keys.length=0) <;> simp [hA,Fl.next]
  by_cases h5:v.Kind=5
  ·
   simp only [h5,Int.reduceEq,dP,eU,cL,dR,dJ,cC,aT3]
   cases decide (v.Int=0) <;> cases decide (v.Text=[]) <;> cases decide (v.Keys.length=v.Items.length) <;> cases aJp v.Keys <;> simp [hA,Fl.next,gd]
  simp only [h0,h1,h2,h3,h4,h5,h6,eU,dR,cC,aA,Fl.next,Bool.false_and]
theorem aEi {v:aQ}{o:Bool} (hv:eA v):aAU v o=some (fmd o v):=aAb (4*hgt v) fun n hn=>aNS n v o hv hn
theorem aQf:∀ (n:Nat) (v:aQ),eA v→hgt v≤n→pF n v=some (fmd true v):=by
 intro n
 induction n with
 | zero=>intro v hv hn;have:=tM v;omega
 | succ n ih =>
  intro v hv hn
  have hh:=tM v
  obtain ⟨k0,k1,k2,k3,k4⟩:=(hU v).1 hv
  rw [pF,aLp k4.1,aIU]
  rw [oT v.Items.length (fun i=>fmd true (v.Items.getD i default)) false (fun i hi=>?_) ?_,aA,sP v.Items (fmd true)]
  ·
   cases v.Items.all (fmd true)
   ·
    simp [Fl.next]
   ·
    simp only [dP,Fl.next,qE]
    unfold aK9
    by_cases h0:v.Kind=0
    ·
     simp only [h0,Int.reduceEq,dP,eU,cL,dR,dJ,cC,aPE]
     cases decide (v.Int=0) <;> cases decide (v.Text=[]) <;> cases decide (v.Items.length=0) <;> cases decide (v.Keys.length=0) <;> rfl
    by_cases h1:v.Kind=1
    ·
     simp only [h1,Int.reduceEq,dP,eU,cL,dR,dJ,cC,aPE]
     cases decide (v.Int=0) <;> cases decide (v.Int=1) <;> cases decide (v.Text=[]) <;> cases decide (v.Items.length=0) <;> cases decide (v.Keys.length=0) <;> rfl
    by_cases h2:v.Kind=2
    ·
     simp only [h2,Int.reduceEq,dP,eU,cL,dR,dJ,cC,aPE]
     cases decide (v.Text=[]) <;> cases decide (v.Items.length=0) <;> cases decide (v.Keys.length=0) <;> rfl
    by_cases h6:v.Kind=6
    ·
     simp only [h6,Int.reduceEq,dP,eU,cL,dR,dJ,cC,aPE]
     cases decide (0≤v.Int) <;> cases decide (v.Text=[]) <;> cases decide (v.Items.length=0) <;> cases decide (v.Keys.length=0) <;> rfl
    by_cases h3:v.Kind=3
    ·
     simp only [h3,Int.reduceEq,dP,eU,cL,dR,dJ,cC,aPE]
     cases decide (v.Int=0) <;> cases decide (v.Items.length=0) <;> cases decide (v.Keys.length=0) <;> rfl
    by_cases h4:v.Kind=4
    ·
     simp only [h4,Int.reduceEq,dP,eU,cL,dR,dJ,cC,aPE]
     cases decide (v.Int=0) <;> cases decide (v.Text=[]) <;> cases decide (v.Keys.length=0) <;> rfl
    by_cases h5:v.Kind=5
    ·
     simp only [h5,Int.reduceEq,dP,eU,cL,dR,dJ,cC,aT3]
     cases decide (v.Int=0) <;> cases decide (v.Text=[]) <;> cases decide (v.Keys.length=v.Items.length) <;> cases aJp v.Keys <;> rfl
    simp only [h0,h1,h2,h3,h4,h5,h6,eU,dR,cC]
  ·
   unfold uY
   rw [dW,bE (by omega)]
  ·
   unfold uY
   rw [dW,bH (by omega),kM hi,aA,ih _ (k3.2.2 _ (dB hi)) (by have:=yN (dB hi);omega),aA,vN hi k3.1]
   simp only [cI,aT hi,eT]
   cases fmd true v.Items[i] <;> rfl
theorem aHp {v:aQ} (hv:eA v):aBd v=some (fmd true v):=aAb (hgt v) fun n hn=>aQf n v hv hn
theorem aRJ:∀ (n:Nat) (v:aQ),eA v→hgt v≤n→uM n v=some (fut v):=by
 intro n
 induction n with
 | zero=>intro v hv hn;have:=tM v;omega
 | succ n ih =>
  intro v hv hn
  have hh:=tM v
  obtain ⟨k0,k1,k2,k3,k4⟩:=(hU v).1 hv
  rw [uM,aQI]
  rw [oT v.Items.length (fun i=>!fut (v.Items.getD i default)) true (fun i hi=>?_) ?_,aA,sP v.Items fun x=>!fut x,← aAk]
  ·
   cases v.Items.any fut
   ·
    simp only [fZ,dP,Fl.next,sO]
   ·
    simp [Fl.next]
  ·
   unfold zR
   rw [dW,bE (by omega)]
  ·
   unfold zR
   rw [dW,bH (by omega),kM hi,aA,ih _ (k3.2.2 _ (dB hi)) (by have:=yN (dB hi);omega),aA,vN hi k3.1]
   simp only [cI,aT hi,eT]
   cases fut v.Items[i] <;> rfl
theorem aLo {v:aQ} (hv:eA v):aDQ v=some (fut v):=aAb (hgt v) fun n hn=>aRJ n v hv hn
noncomputable def nU (v:aQ):Bool:=wth v&&fmd false v
theorem aAT {v:aQ} (hv:eA v):vQ v=some (nU v):=by
 unfold vQ nU
 rw [aIe hv,aA,aEi hv]
 cases wth v <;> simp [gd]
theorem zL {v:aQ} (hv:eA v):tX v=some (nU v):=by
 unfold tX nU
 rw [aHp hv,aA,aLt hv,aLo hv,aT0 (hgt v) v (iV _)]
 cases wth v <;> cases fmd true v <;> cases fut v <;> rfl
def tH (c:UInt8):Bool:=(decide (97≤c.toNat)&&decide (c.toNat≤122))||(decide (65≤c.toNat)&&decide (c.toNat≤90))||decide (c.toNat=95)
def qU (c:UInt8):Bool:=decide (48≤c.toNat)&&decide (c.toNat≤57)
theorem aJa (c:UInt8):aBB (c.toNat:Int)=some (tH c):=by
 unfold aBB tH
 congr 1
 rw [eO]
 simp only [nP,fO,bZ,dT]
 split <;> (try split) <;> (try split) <;> simp_all <;> omega
theorem aJj (c:UInt8):aAF (c.toNat:Int)=some (tH c||qU c):=by
 unfold aAF tH qU
 congr 1
 rw [eO]
 have e:∀ n:Nat,((n:Int)≤(c.toNat:Int)↔n≤c.toNat)∧((c.toNat:Int)≤(n:Int)↔c.toNat≤n)∧((c.toNat:Int)=(n:Int)↔c.toNat=n):=fun n=>⟨by omega,by omega,by omega⟩
 have e1:=e 97;have e2:=e 122;have e3:=e 65;have e4:=e 90;have e5:=e 95;have e6:=e 48;have e7:=e 57
 simp only [Int.cast_ofNat_Int] at e1 e2 e3 e4 e5 e6 e7
 by_cases h1:97≤c.toNat <;> by_cases h2:c.toNat≤122 <;> by_cases h3:65≤c.toNat <;> by_cases h4:c.toNat≤90 <;> by_cases h5:c.toNat=95 <;> by_cases h6:48≤c.toNat <;> by_cases h7:c.toNat≤57 <;> simp [h1,h2,h3,h4,h5,h6,h7,e1.1,e2.2.1,e3.1,e4.2.1,e5.2.2,e6.1,e7.2.1] <;> omega
def oY (s:List UInt8):Bool:=!decide (s=[])&&decide (s.length≤64)&&!qU (s.headD 0)&&s.all fun c=>tH c||qU c
theorem wR {s:List UInt8}:sW s=some (oY s):=by
 unfold sW oY
 by_cases h0:s=[]
 ·
  simp [h0]
 ·
  by_cases h1:(64:Int)<s.length
  ·
   have h2:¬s.length≤64:=by omega
   simp [h0,h1,h2]
  ·
   have h2:s.length≤64:=by omega
   simp only [h0,h1,h2,dR,cL,cC,fZ,dZ]
   rw [oT s.length (fun i=>tH (s.getD i 0)||(decide (0<i)&&qU (s.getD i 0))) false (fun i hi=>?_) ?_,aA]
   ·
    have:((List.range s.length).all fun i=>tH (s.getD i 0)||(decide (0<i)&&qU (s.getD i 0)))=(!qU (s.headD 0)&&s.all fun c=>tH c||qU c):=by
     obtain ⟨c,r,rfl⟩:∃ c r,s=c :: r:=by cases s with
      | nil=>exact absurd rfl h0
      | cons c r=>exact ⟨c,r,rfl⟩
     have hnd:tH c=true→qU c=false:=by
      unfold tH qU
      simp only [fO,bZ,dT,Bool.and_eq_false_iff,decide_eq_false_iff_not]
      omega
     rw [eO,bZ,cR,cR]
     constructor
     ·
      intro h
      have h3:=h 0 (by simp)
      simp only [List.getD_cons_zero,Nat.lt_irrefl,dR,Bool.false_and,sO] at h3
      refine ⟨by simp [hnd h3],fun x hx=>?_⟩
      obtain ⟨i,hi,rfl⟩:=rI.1 hx
      have h4:=h i (fB.2 hi)
      simp only [cI,aT hi,eT] at h4
      revert h4
      cases tH (c :: r)[i] <;> cases qU (c :: r)[i] <;> simp
     ·
      rintro ⟨h3,h4⟩ i hi
      have hi:=fB.1 hi
      have h5:=h4 _ (dB hi)
      simp only [cI,aT hi,eT]
      cases i with
      | zero=>revert h3 h5;simp only [List.headD_cons,List.getElem_cons_zero];cases tH c <;> cases qU c <;> simp
      | succ i=>simpa using h5
    rw [this]
    cases (!qU (s.headD 0)&&s.all fun c=>tH c||qU c) <;> rfl
   ·
    unfold aBk
    rw [dW,bE (by omega)]
   ·
    unfold aBk
    rw [dW,bH (by omega),kM hi,aA,aJa,aA,vN hi (by omega)]
    simp only [cI,aT hi,eT]
    have hz:decide ((i:Int)=0)=!decide (0<i):=by rw [eO];simp
    have hd:∀ c:UInt8,(cond (decide ((c.toNat:Int)<48)) true (decide ((57:Int)<(c.toNat:Int))))=!qU c:=fun c=>by
     unfold qU
     by_cases h1:c.toNat<48
     ·
      have:¬48≤c.toNat:=by omega
      have h2:(c.toNat:Int)<48:=by omega
      simp [h2,this]
     ·
      have:48≤c.toNat:=by omega
      have h2:¬(c.toNat:Int)<48:=by omega
      rw [eO]
      simp [h2,this]
      omega
    rw [hz]
    generalize s[i]=c
    have hd':=hd c
    cases hl:tH c
    ·
     by_cases h0:0<i
     ·
      simp only [h0,cL,dA,fZ,dJ,cC,gd,eQ,nH,dZ,dP,aA,mK]
      by_cases h48:(c.toNat:Int)<48
      ·
       rw [show qU c=false by rw [← kK,← hd'];simp [h48]]
       simp [h48]
      ·
       simp only [h48,dR,cC] at hd' ⊢
       simp only [eQ,dP,aA,hd']
       cases qU c <;> rfl
     ·
      simp [h0,gd]
    ·
     simp [gd]
theorem wS {s:List UInt8}:qY s=some (oY s):=by
 unfold qY oY
 by_cases h0:s=[]
 ·
  subst h0;rfl
 ·
  have hl:0<s.length:=List.length_pos_iff.2 h0
  by_cases h1:(64:Int)<s.length
  ·
   have h2:¬s.length≤64:=by omega
   have h3:(cond (decide ((s.length:Int)<1)) true (decide ((64:Int)<(s.length:Int))))=true:=by simp [h1]
   simp [h3,gd,h2]
  ·
   have h2:s.length≤64:=by omega
   have h3:(cond (decide ((s.length:Int)<1)) true (decide ((64:Int)<(s.length:Int))))=false:=by simp [h1];omega
   obtain ⟨c,r,rfl⟩:∃ c r,s=c :: r:=by cases s with
    | nil=>exact absurd rfl h0
    | cons c r=>exact ⟨c,r,rfl⟩
   have hi0:nG (c :: r) (0:Int)=some c:=rfl
   have hdg:(cond (decide ((48:Int)≤(c.toNat:Int))) (decide ((c.toNat:Int)≤57)) false)=qU c:=by
    unfold qU
    by_cases h4:48≤c.toNat
    ·
     have:(48:Int)≤(c.toNat:Int):=by omega
     rw [eO];simp [h4,this];omega
    ·
     have:¬(48:Int)≤(c.toNat:Int):=by omega
     simp [h4,this]
   rw [h3,hi0]
   simp only [h2,List.headD_cons,cL,qE,reduceCtorEq,dR,fZ,gd,eQ,dP,aA,cC,dZ]
   have key:∀ x:UInt8,((decide ((48:Int)≤(c.toNat:Int))==true)=true→x=c)→(cond (decide ((48:Int)≤(c.toNat:Int))) (decide ((x.toNat:Int)≤57)) false)=qU c:=fun x hx=>by
    rw [← hdg]
    by_cases h4:(48:Int)≤(c.toNat:Int)
    ·
     rw [hx (by simp [h4])]
    ·
     simp [h4]
   have key2:∃ x:UInt8,(if (decide ((48:Int)≤(c.toNat:Int))==true)=true then some c else some default)=some x∧((decide ((48:Int)≤(c.toNat:Int))==true)=true→x=c):=by
    by_cases h4:(decide ((48:Int)≤(c.toNat:Int))==true)=true
    ·
     exact ⟨c,by rw [bH h4],fun _=>rfl⟩
    ·
     exact ⟨default,by rw [bE h4],fun h=>absurd h h4⟩
   obtain ⟨x,hx1,hx2⟩:=key2
   rw [hx1,aA,key x hx2]
   cases hdc:qU c
   ·
    simp only [cC,fZ,dZ]
    rw [oT (c :: r).length (fun i=>tH ((c :: r).getD i default)||qU ((c :: r).getD i default)) false (fun i hi=>?_) ?_,aA,sP (c :: r) fun c=>tH c||qU c]
    ·
     cases (c :: r).all fun c=>tH c||qU c <;> rfl
    ·
     unfold aAD
     rw [dW,bE (by omega)]
    ·
     unfold aAD
     rw [dW,bH (by omega),kM hi,aA,aJj,aA,vN hi (by omega)]
     simp only [cI,aT hi,eT]
     cases tH (c :: r)[i] <;> cases qU (c :: r)[i] <;> rfl
   ·
    rfl
def aJT (c:UInt8):Bool:=decide (c.toNat<33)||decide (126<c.toNat)||decide (c.toNat=47)||decide (c.toNat=34)
def nA (s:List UInt8):Bool:=decide (1≤s.length)&&decide (s.length≤64)&&s.all fun c=>!aJT c
theorem aRU (c:UInt8):(cond (cond (cond (decide ((c.toNat:Int)<33)) true (decide ((126:Int)<(c.toNat:Int)))) true (decide ((c.toNat:Int)=47))) true (decide ((c.toNat:Int)=34)))=aJT c:=by
 unfold aJT
 rw [eO]
 by_cases h1:c.toNat<33
 ·
  have:(c.toNat:Int)<33:=by omega
  simp [h1,this]
 ·
  have e1:¬(c.toNat:Int)<33:=by omega
  by_cases h2:126<c.toNat
  ·
   have:(126:Int)<(c.toNat:Int):=by omega
   simp [h1,e1,h2,this]
  ·
   have e2:¬(126:Int)<(c.toNat:Int):=by omega
   simp [h1,e1,h2,e2]
   by_cases h3:(c.toNat:Int)=47 <;> simp [h3] <;> omega
theorem aL9 {τ:Type}{s:List UInt8}{i:Nat} (hi:i<s.length) (a b:τ):(((nG s (i:Int)).bind fun (x6:UInt8)=>(gd ((decide (((x6).toNat:Int)<(33:Int)))==false) (nG s (i:Int))).bind fun (x8:UInt8)=>(gd ((cond (decide (((x6).toNat:Int)<(33:Int))) true (decide ((126:Int)<((x8).toNat:Int))))==false) (nG s (i:Int))).bind fun (x10:UInt8)=>(gd ((cond (cond (decide (((x6).toNat:Int)<(33:Int))) true (decide ((126:Int)<((x8).toNat:Int)))) true (decide (((x10).toNat:Int)=(47:Int))))==false) (nG s (i:Int))).bind fun (x12:UInt8)=>cond (cond (cond (cond (decide (((x6).toNat:Int)<(33:Int))) true (decide ((126:Int)<((x8).toNat:Int)))) true (decide (((x10).toNat:Int)=(47:Int)))) true (decide (((x12).toNat:Int)=(34:Int)))) (some a) (some b)):Option τ)=some (if !aJT s[i] then b else a):=by
 rw [kM hi,aA]
 generalize s[i]=c
 rw [← aRU]
 by_cases h1:(c.toNat:Int)<33
 ·
  simp [h1,gd]
 ·
  by_cases h2:(126:Int)<(c.toNat:Int)
  ·
   have h2':¬(c.toNat:Int)≤126:=by omega
   simp [h1,h2,h2',gd]
  ·
   by_cases h3:(c.toNat:Int)=47
   ·
    simp [h1,h2,h3,gd]
   ·
    simp only [h1,h2,h3,dR,cC,eQ,gd,dP,aA]
    by_cases h4:(c.toNat:Int)=34 <;> simp [h4]
theorem aIY {s:List UInt8} (hs:s.length≤9223372036854775807):uI s=some (nA s):=by
 unfold uI nA
 rw [oT s.length (fun i=>!aJT (s.getD i default)) false (fun i hi=>?_) ?_,aA,sP s fun c=>!aJT c]
 ·
  cases s.all fun c=>!aJT c
  ·
   simp [Fl.next]
  ·
   simp only [dP,Fl.next,nQ,aA,qE]
   congr 1
   rw [eO]
   by_cases h:(1:Int)≤s.length <;> simp [h] <;> omega
 ·
  unfold yM
  rw [dW,bE (by omega)]
 ·
  unfold yM
  rw [dW,bH (by omega),aL9 hi,vN hi hs]
  simp only [cI,aT hi,eT]
theorem aH1 {s:List UInt8}:vO s=some (nA s):=by
 unfold vO nA
 by_cases h0:s.length<1∨64<s.length
 ·
  have e:(cond (decide ((s.length:Int)<1)) true (decide ((64:Int)<(s.length:Int))))=true:=by simp;omega
  rw [e]
  have:(decide (1≤s.length)&&decide (s.length≤64))=false:=by simp;omega
  rw [this];rfl
 ·
  have e:(cond (decide ((s.length:Int)<1)) true (decide ((64:Int)<(s.length:Int))))=false:=by simp;omega
  have:(decide (1≤s.length)&&decide (s.length≤64))=true:=by simp;omega
  rw [e,this,cC]
  rw [oT s.length (fun i=>!aJT (s.getD i default)) false (fun i hi=>?_) ?_,aA,sP s fun c=>!aJT c]
  ·
   cases s.all fun c=>!aJT c <;> rfl
  ·
   unfold aAH
   rw [dW,bE (by omega)]
  ·
   unfold aAH
   rw [dW,bH (by omega),aL9 hi,vN hi (by omega)]
   simp only [cI,aT hi,eT]
def inB (n l h:Int):Bool:=decide (l≤n)&&decide (n≤h)
theorem zG {n l h:Int}:nQ n l h=some (inB n l h):=by unfold nQ inB;rw [nP];by_cases h1:l≤n <;> simp [h1]
theorem aDR {n l h:Int}:uA n l h=some (inB n l h):=by unfold uA inB;rw [nP];by_cases h1:l≤n <;> simp [h1]
def aBE (a b:dS):Bool:=decide (a.Queue=b.Queue)&&decide (a.ToStart=b.ToStart)&&decide (a.ToClose=b.ToClose)&&decide (a.Total=b.Total)&&decide (a.Beat=b.Beat)&&decide (a.First=b.First)&&decide (a.Coef=b.Coef)&&decide (a.Most=b.Most)&&decide (a.Attempts=b.Attempts)&&decide (a.Fatal=b.Fatal)
theorem aC5 {a b:dS} (h:jP a):oK a b=some (aBE a b):=by
 have hf:a.Fatal.length≤9223372036854775807:=h.2.2.2.2.2.2.2.2.2.1
 unfold oK aBE
 rw [aJt hf]
 simp only [tQ,aA,aB2]
 by_cases h1:a.ToStart=b.ToStart
 ·
  by_cases h2:a.ToClose=b.ToClose
  ·
   by_cases h3:a.Total=b.Total
   ·
    by_cases h4:a.Beat=b.Beat
    ·
     by_cases h5:a.First=b.First
     ·
      by_cases h6:a.Coef=b.Coef
      ·
       by_cases h7:a.Most=b.Most
       ·
        by_cases h8:a.Attempts=b.Attempts
        ·
         by_cases h9:a.Queue=b.Queue <;> simp [h1,h2,h3,h4,h5,h6,h7,h8,h9,gd]
        ·
         simp [h1,h2,h3,h4,h5,h6,h7,h8]
       ·
        simp [h1,h2,h3,h4,h5,h6,h7]
      ·
       simp [h1,h2,h3,h4,h5,h6]
     ·
      simp [h1,h2,h3,h4,h5]
    ·
     simp [h1,h2,h3,h4]
   ·
    simp [h1,h2,h3]
  ·
   simp [h1,h2]
 ·
  simp [h1]
theorem aRN {a b:List (List UInt8)} (hlen:a.length=b.length):((List.range a.length).all fun i=>decide (a[i]?=b[i]?))=decide (a=b):=by
 rw [eO,cR]
 simp only [dT]
 constructor
 ·
  refine fun h6=>List.ext_getElem? fun i=>?_
  by_cases hi:i<a.length
  ·
   exact h6 i (fB.2 hi)
  ·
   rw [lG (by omega),lG (by omega)]
 ·
  intro e i _;rw [e]
theorem vH {a b:dS} (h:jP a):oU a b=some (aBE a b):=by
 have hf:a.Fatal.length≤9223372036854775807:=h.2.2.2.2.2.2.2.2.2.1
 unfold oU aBE
 have hl:(a.Fatal.length:Int)=b.Fatal.length→fK (rW a b) (0:Int)=some (if decide (a.Fatal=b.Fatal) then .go () else .done false):=fun hlen=>by
  rw [oT a.Fatal.length (fun i=>decide (a.Fatal[i]?=b.Fatal[i]?)) false (fun i hi=>?_) ?_]
  ·
   rw [aRN (by omega)]
  ·
   unfold rW
   rw [dW,bE (by omega)]
  ·
   unfold rW
   have hb:i<b.Fatal.length:=by omega
   rw [dW,bH (by omega),kM hi,aA,kM hb,aA,aB2,vN hi hf,aT hi,aT hb]
   simp only [eM,dT]
   split <;> rfl
 by_cases h0:(a.Fatal.length:Int)=b.Fatal.length
 ·
  rw [hl h0]
  by_cases h9:a.Fatal=b.Fatal
  ·
   simp only [h9,cL,dP,aA,Fl.next,dA]
   cases decide (a.Queue=b.Queue) <;> cases decide (a.ToStart=b.ToStart) <;> cases decide (a.ToClose=b.ToClose) <;> cases decide (a.Total=b.Total) <;> cases decide (a.Beat=b.Beat) <;> first | rfl | (cases decide (a.First=b.First) <;> cases decide (a.Coef=b.Coef) <;> cases decide (a.Most=b.Most) <;> cases decide (a.Attempts=b.Attempts) <;> rfl)
  ·
   simp only [h9,h0,cL,dR,aA,Fl.next,Bool.and_false]
   simp
 ·
  have h9:a.Fatal≠b.Fatal:=fun e=>h0 (by rw [e])
  simp [h0,h9]
theorem aPG {ks:List (List UInt8)} (h:ks.length≤9223372036854775807):gM ks=some (ks.any qM):=by
 unfold gM jB
 obtain ⟨x,h1,h2⟩:=aA8 (body:=gO ks) ks qM (fun i hi=>by
  unfold gO
  rw [dW,bH (by omega),kM hi,aA,tG,aA,vN hi h]
  show cond (qM ks[i]) _ _=_
  cases qM ks[i] <;> rfl) (by
  unfold gO
  rw [dW,bE (by omega)])
 rw [h1,aA,h2]
def six (o:dS):List Int:=[o.ToStart,o.ToClose,o.Total,o.Beat,o.First,o.Most]
def aBS (o:dS):Bool:=(decide (o.Queue=[])||oY o.Queue)&&decide (o.Fatal.length≤64)&&(six o).all (fun n=>inB n 0 1099511627776)&&inB o.Coef 0 10000&&inB o.Attempts 0 1000&&!o.Fatal.any qM
theorem aEy {o:dS} (h:jP o):pN o=some (aBS o):=by
 have hf:o.Fatal.length≤9223372036854775807:=h.2.2.2.2.2.2.2.2.2.1
 unfold pN aBS
 rw [wR,aPG hf]
 simp only [zG]
 rw [oT (six o).length (fun i=>inB ((six o).getD i default) 0 1099511627776) false (fun i hi=>?_) ?_,aA,sP (six o) fun n=>inB n 0 1099511627776]
 ·
  by_cases h0:(64:Int)<o.Fatal.length
  ·
   have h1:¬o.Fatal.length≤64:=by omega
   by_cases hq:o.Queue=[] <;> cases oY o.Queue <;> simp [hq,h0,h1,gd]
  ·
   have h1:o.Fatal.length≤64:=by omega
   cases (six o).all fun n=>inB n 0 1099511627776
   ·
    by_cases hq:o.Queue=[] <;> cases oY o.Queue <;> simp [hq,h0,h1,gd,Fl.next]
   ·
    by_cases hq:o.Queue=[] <;> cases oY o.Queue <;> cases inB o.Coef 0 10000 <;> cases inB o.Attempts 0 1000 <;> simp [hq,h0,h1,gd,Fl.next]
 ·
  unfold sC
  rw [dW,bE (by unfold six;omega)]
 ·
  unfold sC
  have hi':i<[o.ToStart,o.ToClose,o.Total,o.Beat,o.First,o.Most].length:=hi
  rw [dW,bH (by omega),kM hi',aA,zG,aA,vN hi (by unfold six;simp)]
  simp only [cI,aT hi,eT]
  show cond (!inB (six o)[i] 0 1099511627776) _ _=_
  cases inB (six o)[i] 0 1099511627776 <;> rfl
theorem aCZ {o:dS} (h:jP o):rM o=some (aBS o):=by
 have hf:o.Fatal.length≤9223372036854775807:=h.2.2.2.2.2.2.2.2.2.1
 unfold rM aBS
 rw [wS]
 simp only [aDR]
 rw [oT (six o).length (fun i=>inB ((six o).getD i default) 0 1099511627776) false (fun i hi=>?_) ?_,aA,sP (six o) fun n=>inB n 0 1099511627776]
 ·
  rw [oT o.Fatal.length (fun i=>!qM (o.Fatal.getD i default)) false (fun i hi=>?_) ?_,aA,sP o.Fatal fun n=>!qM n,← aAk]
  ·
   have e:decide ((o.Fatal.length:Int)≤64)=decide (o.Fatal.length≤64):=by rw [eO];simp;omega
   rw [e]
   cases (six o).all fun n=>inB n 0 1099511627776
   ·
    simp [Fl.next]
   ·
    cases o.Fatal.any qM
    ·
     by_cases hq:o.Queue=[] <;> cases oY o.Queue <;> cases inB o.Coef 0 10000 <;> cases inB o.Attempts 0 1000 <;> simp [hq,gd,Fl.next]
    ·
     simp [Fl.next]
  ·
   unfold tZ
   rw [dW,bE (by omega)]
  ·
   unfold tZ
   rw [dW,bH (by omega),kM hi,aA,vN hi hf]
   simp only [cI,aT hi,eT]
   show cond (qM o.Fatal[i]) _ _=_
   cases qM o.Fatal[i] <;> rfl
 ·
  unfold tY
  rw [dW,bE (by unfold six;omega)]
 ·
  unfold tY
  have hi':i<[o.ToStart,o.ToClose,o.Total,o.Beat,o.First,o.Most].length:=hi
  rw [dW,bH (by omega),kM hi',aA,aDR,aA,vN hi (by unfold six;simp)]
  simp only [cI,aT hi,eT]
  show cond (!inB (six o)[i] 0 1099511627776) _ _=_
  cases inB (six o)[i] 0 1099511627776 <;> rfl
def pZ (x:aQ):Bool:=match x.Items with
 | [a,_]=>decide (x.Kind=4)&&decide (a.Kind=3)&&oY a.Text
 | _=>false
def aCn (v:aQ):Bool:=match v.Items with
 | [_,b]=>decide (v.Kind=4)&&decide (b.Kind=4)&&b.Items.all pZ
 | _=>false
theorem aMu {α:Type}{l:List α} (h:l.length=2):∃ a b,l=[a,b]:=by
 match l,h with
 | [a,b],_=>exact ⟨a,b,rfl⟩
theorem aFe {x:aQ} (h:¬x.Items.length=2):pZ x=false:=by
 unfold pZ
 split
 ·
  rename_i hx;exact absurd (by rw [hx];rfl) h
 ·
  rfl
theorem aGm {x:aQ} (h:¬x.Items.length=2):aCn x=false:=by
 unfold aCn
 split
 ·
  rename_i hx;exact absurd (by rw [hx];rfl) h
 ·
  rfl
theorem aBa {x:aQ}:(cond (!decide (x.Kind=4)) true (!decide ((x.Items.length:Int)=2)))=!(decide (x.Kind=4)&&decide (x.Items.length=2)):=by
 by_cases h1:x.Kind=4
 ·
  rw [eO];simp [h1];omega
 ·
  simp [h1]
theorem aPz (x:aQ):wI x=some (!pZ x):=by
 unfold wI
 simp only [aBa,wR]
 by_cases h2:x.Items.length=2
 ·
  obtain ⟨a,b,hab⟩:=aMu h2
  unfold pZ
  rw [hab]
  have h0:nG [a,b] (0:Int)=some a:=rfl
  rw [h0]
  by_cases h1:x.Kind=4 <;> by_cases h3:a.Kind=3 <;> simp [h1,h3,gd]
 ·
  have:pZ x=false:=aFe h2
  simp [this,h2,gd]
theorem aQN {v:aQ} (hv:eA v):zH v=some (aCn v):=by
 obtain ⟨k0,k1,k2,k3,k4⟩:=(hU v).1 hv
 unfold zH
 simp only [aBa]
 by_cases h2:v.Items.length=2
 ·
  obtain ⟨a,b,hab⟩:=aMu h2
  obtain ⟨_,_,_,hb,_⟩:=(hU b).1 (k3.2.2 b (by rw [hab];simp))
  unfold aCn
  rw [hab]
  have h0:nG [a,b] (1:Int)=some b:=rfl
  have hC:gL b.Items=some (b.Items.any fun x=>!pZ x):=by
   unfold gL jA
   obtain ⟨x,h1,h2⟩:=aA8 (body:=gN b.Items) b.Items (fun x=>!pZ x) (fun i hi=>by
    unfold gN
    rw [dW,bH (by omega),kM hi,aA,aPz,aA,vN hi hb.1]
    cases pZ b.Items[i] <;> rfl) (by
    unfold gN
    rw [dW,bE (by omega)])
   rw [h1,aA,h2]
  have hA:(!b.Items.any fun x=>!pZ x)=b.Items.all pZ:=by rw [aAk];simp
  rw [h0]
  by_cases h1:v.Kind=4 <;> by_cases h3:b.Kind=4
  ·
   simp only [h1,h3,fU,lH,cL,nH,dA,cC,eQ,gd,dP,aA,hC,hA,dZ]
  ·
   simp [h1,h3,gd]
  ·
   simp [h1,h3,gd]
  ·
   simp [h1,h3,gd]
 ·
  have:aCn v=false:=aGm h2
  simp [this,h2,gd]
theorem aMN {v:aQ} (hv:eA v):aBG v=some (aCn v):=by
 obtain ⟨k0,k1,k2,k3,k4⟩:=(hU v).1 hv
 unfold aBG
 simp only [aBa]
 by_cases h2:v.Items.length=2
 ·
  obtain ⟨a,b,hab⟩:=aMu h2
  obtain ⟨_,_,_,hb,_⟩:=(hU b).1 (k3.2.2 b (by rw [hab];simp))
  have h0:nG v.Items (1:Int)=some b:=by rw [hab];rfl
  have hi2:aCn v=(decide (v.Kind=4)&&decide (b.Kind=4)&&b.Items.all pZ):=by unfold aCn;rw [hab]
  have hC:fK (xT v) (0:Int)=some (if b.Items.all pZ then .go () else .done false):=by
   rw [oT b.Items.length (fun i=>pZ (b.Items.getD i default)) false (fun i hi=>?_) ?_,sP b.Items pZ]
   ·
    unfold xT
    rw [h0,aA,dW,bE (by omega)]
   ·
    unfold xT
    rw [h0,aA,dW,bH (by omega),aA,kM hi,aA,vN hi hb.1]
    simp only [cI,aT hi,eT,aBa,wS]
    generalize b.Items[i]=x
    by_cases h2:x.Items.length=2
    ·
     obtain ⟨c,d,hcd⟩:=aMu h2
     have hp:pZ x=(decide (x.Kind=4)&&decide (c.Kind=3)&&oY c.Text):=by unfold pZ;rw [hcd]
     have h0:nG x.Items (0:Int)=some c:=by rw [hcd];rfl
     rw [h0,hp,h2]
     by_cases h1:x.Kind=4 <;> by_cases h3:c.Kind=3
     ·
      simp only [h1,h3,cL,nH,dA,cC,eQ,gd,dP,aA,dZ]
      cases oY c.Text <;> rfl
     ·
      simp [h1,h3,gd]
     ·
      simp [h1,h3,gd]
     ·
      simp [h1,h3,gd]
    ·
     have:pZ x=false:=aFe h2
     simp [this,h2,gd]
  rw [h0,h2,hC,hi2]
  by_cases h1:v.Kind=4 <;> by_cases h3:b.Kind=4
  ·
   simp only [h1,h3,cL,nH,dA,cC,eQ,gd,dP,aA,dZ]
   cases b.Items.all pZ <;> rfl
  ·
   simp [h1,h3,gd]
  ·
   simp [h1,h3,gd]
  ·
   simp [h1,h3,gd]
 ·
  have:aCn v=false:=aGm h2
  simp [this,h2,gd]

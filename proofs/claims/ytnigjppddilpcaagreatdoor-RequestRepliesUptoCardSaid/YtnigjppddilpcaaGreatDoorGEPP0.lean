/- Plain laws: what the functions compute, with no program in sight. -/
import Derived.Test.YtnigjppddilpcaaGreatDoorPk2
import Derived.Test.YtnigjppddilpcaaGreatDoorGEF0
import Derived.Test.YtnigjppddilpcaaGreatDoorGEF1
import Derived.Test.YtnigjppddilpcaaGreatDoorGEF2
import Derived.Test.YtnigjppddilpcaaGreatDoorGEF6
import Derived.Test.YtnigjppddilpcaaGreatDoorGEF7
import Derived.Test.YtnigjppddilpcaaGreatDoorGEF8
import Derived.Test.YtnigjppddilpcaaGreatDoorGESh
import Derived.Test.YtnigjppddilpcaaGreatDoorGEF9
import Derived.Test.YtnigjppddilpcaaGreatDoorGEF3
namespace Go.Proofs.YtnigjppddilpcaaGreatDoor
open Go Abs
set_option linter.unusedSimpArgs false
set_option linter.unusedVariables false
theorem nV {i n:Nat} (h:i<n) (hn:n≤9223372036854775807):IntKind.i64.wrap ((i:Int)+1)=((i+1:Nat):Int):=by rw [w64 (by omega) (by omega)];omega
theorem iJ {α:Type}{l:List α}{i:Nat} (h:i<l.length):mP l (i:Int)=some l[i]:=by rw [aGB,aM h]
theorem nZ {τ:Type} (n:Nat) (p:Nat→Bool) (b:τ) {body:Int→Option (dU Int (Fl τ Unit))} (h:∀ i:Nat,i<n→body (i:Int)=some (if p i then .next ((i+1:Nat):Int) else .out (.done b)))
  (hout:body (n:Int)=some (.out (.go ()))):gL body (0:Int)=some (if (List.range n).all p then .go () else .done b):=by
 refine aFa (fun s=>∃ i:Nat,s=(i:Int)∧i≤n∧∀ j,j<i→p j=true) (fun s=>n - s.toNat) (fun _=>(if (List.range n).all p then Fl.go () else Fl.done b:Fl τ Unit)) ?_ _ ⟨0,rfl,by omega,by omega⟩
 rintro s ⟨i,rfl,hi,hp⟩
 by_cases hlt:i<n
 ·
  rw [h i hlt]
  by_cases hpi:p i=true
  ·
   rw [bB hpi]
   exact .inl ⟨_,rfl,⟨i+1,rfl,hlt,fun j hj=>by rcases Nat.lt_succ_iff_lt_or_eq.1 hj with h1 | rfl;exact hp j h1;exact hpi⟩,by simp;omega,rfl⟩
  ·
   rw [aY hpi,aY (fun ha=>hpi (cI.1 ha i (fE.2 hlt)))]
   exact .inr rfl
 ·
  obtain rfl:i=n:=by omega
  rw [hout,bB (cI.2 fun j hj=>hp j (fE.1 hj))]
  exact .inr rfl
theorem rW {α:Type} [Inhabited α] (l:List α) (p:α→Bool):((List.range l.length).all fun i=>p (l.getD i default))=l.all p:=by
 rw [eF,cI,cI]
 constructor
 ·
  intro h x hx
  obtain ⟨i,hi,rfl⟩:=qN.1 hx
  have:=h i (fE.2 hi)
  simpa [hi] using this
 ·
  intro h i hi
  have hi:=fE.1 hi
  simpa [hi] using h _ (bN hi)
theorem aAY {α:Type} (l:List α) (p:α→Bool) {body:Int→Option (dU Int (Fl Int Unit))} (h:∀ (i:Nat) (hi:i<l.length),body (i:Int)=some (if p l[i] then .out (.done (i:Int)) else .next ((i+1:Nat):Int)))
  (hout:body (l.length:Int)=some (.out (.go ()))):∃ x:Int,((gL body (0:Int)).bind fun r=>Fl.next r fun _=>some (-1:Int))=some x∧decide ((0:Int)≤x)=l.any p:=by
 obtain ⟨r,h1,x,h2,h3⟩:∃ r,gL body (0:Int)=some r∧∃ x:Int,(Fl.next r fun _=>some (-1:Int))=some x∧decide ((0:Int)≤x)=l.any p:=by
  refine yJ (fun s=>∃ i:Nat,s=(i:Int)∧i≤l.length∧∀ j (hj:j<l.length),j<i→p l[j]=false) (fun s=>l.length - s.toNat) _ ?_ _ ⟨0,rfl,by omega,by omega⟩
  rintro s ⟨i,rfl,hi,hp⟩
  by_cases hlt:i<l.length
  ·
   rw [h i hlt]
   by_cases hpi:p l[i]=true
   ·
    rw [bB hpi]
    refine .inr ⟨_,rfl,i,rfl,?_⟩
    have:l.any p=true:=List.any_eq_true.2 ⟨_,bN hlt,hpi⟩
    rw [this];simp
   ·
    rw [aY hpi]
    exact .inl ⟨_,rfl,⟨i+1,rfl,hlt,fun j hj hji=>by rcases Nat.lt_succ_iff_lt_or_eq.1 hji with h1 | rfl;exact hp j hj h1;simpa using hpi⟩,by simp;omega⟩
  ·
   obtain rfl:i=l.length:=by omega
   rw [hout]
   refine .inr ⟨_,rfl,-1,rfl,?_⟩
   have:l.any p=false:=by
    rw [List.any_eq_false]
    intro x hx
    obtain ⟨j,hj,rfl⟩:=qN.1 hx
    simp [hp j hj hj]
   rw [this];decide
 exact ⟨x,by rw [h1,aA];exact h2,h3⟩
theorem aE9 {α σ:Type} (l:List α) (f:σ→α→σ) (s0:σ) {body:σ × Int→Option (dU (σ × Int) σ)} (h:∀ (s:σ) (i:Nat) (hi:i<l.length),body (s,(i:Int))=some (.next (f s l[i],((i+1:Nat):Int))))
  (hout:∀ s,body (s,(l.length:Int))=some (.out s)):gL body (s0,(0:Int))=some (l.foldl f s0):=by
 refine aFa (fun s=>∃ i:Nat,s.2=(i:Int)∧i≤l.length∧s.1=(l.take i).foldl f s0) (fun s=>l.length - s.2.toNat) (fun _=>l.foldl f s0) ?_ _ ⟨0,rfl,by omega,by simp⟩
 rintro ⟨s,i0⟩ ⟨i,hi0,hi,hs⟩
 simp only at hi0 hs
 subst hi0
 by_cases hlt:i<l.length
 ·
  refine .inl ⟨_,h s i hlt,⟨i+1,rfl,hlt,?_⟩,by simp;omega,rfl⟩
  rw [hs,fF hlt,List.foldl_append]
  rfl
 ·
  obtain rfl:i=l.length:=by omega
  rw [hout,hs,kY]
  exact .inr rfl
mutual
def hgt:aK→Nat
 | ⟨_,_,_,l,_⟩=>aHx l+1
def aHx:List aK→Nat
 | []=>0
 | x :: l=>max (hgt x) (aHx l)
end
theorem pB:∀ {l:List aK}{x:aK},x∈l→hgt x≤aHx l
 | [],x,h=>by simp at h
 | y :: l,x,h=>by
  simp only [aHx]
  rcases eT.1 h with rfl | h
  ·
   omega
  ·
   have:=pB h;omega
theorem mK (v:aK):hgt v=aHx v.Items+1:=by cases v;simp [hgt]
theorem aOZ {v x:aK} (h:x∈v.Items):hgt x<hgt v:=by have:=pB h;have:=mK v;omega
mutual
def rT:aK→aK→Bool
 | ⟨k,i,t,l,ks⟩,w=>decide (k=w.Kind)&&decide (i=w.Int)&&decide (t=w.Text)&&decide (ks=w.Keys)&&aAO l w.Items
def aAO:List aK→List aK→Bool
 | [],[]=>true
 | x :: l,y :: m=>rT x y&&aAO l m
 | _,_=>false
end
theorem aKl (v w:aK):rT v w=(decide (v.Kind=w.Kind)&&decide (v.Int=w.Int)&&decide (v.Text=w.Text)&&decide (v.Keys=w.Keys)&&aAO v.Items w.Items):=by cases v;simp [rT]
theorem aCC:∀ (l m:List aK),aAO l m=true↔l.length=m.length∧∀ i (h:i<l.length) (h2:i<m.length),rT l[i] m[i]=true
 | [],[]=>by simp [aAO]
 | [],y :: m=>by simp [aAO]
 | x :: l,[]=>by simp [aAO]
 | x :: l,y :: m=>by
  simp only [aAO,aR,aCC l m,fB,Nat.add_right_cancel_iff]
  constructor
  ·
   rintro ⟨h1,h2,h3⟩
   refine ⟨h2,fun i hi hi2=>?_⟩
   cases i with
   | zero=>exact h1
   | succ i=>exact h3 i (by omega) (by omega)
  ·
   rintro ⟨h2,h3⟩
   exact ⟨h3 0 (by omega) (by omega),h2,fun i hi hi2=>h3 (i+1) (by omega) (by omega)⟩
theorem aLF:∀ (n:Nat) (v w:aK),hgt v≤n→(rT v w=true↔v=w):=by
 intro n
 induction n with
 | zero=>intro v w h;have:=mK v;omega
 | succ n ih =>
  intro v w h
  rw [aKl]
  simp only [aR,bU,aCC]
  constructor
  ·
   rintro ⟨⟨⟨⟨h1,h2⟩,h3⟩,h4⟩,h5,h6⟩
   have h7:v.Items=w.Items:=List.ext_getElem h5 fun i hi hi2=>(ih _ _ (by have:=aOZ (bN hi:v.Items[i]∈v.Items);omega)).1 (h6 i hi hi2)
   cases v;cases w;simp_all
  ·
   rintro rfl
   exact ⟨⟨⟨⟨rfl,rfl⟩,rfl⟩,rfl⟩,rfl,fun i hi _=>(ih _ _ (by have:=aOZ (bN hi:v.Items[i]∈v.Items);omega)).2 rfl⟩
theorem aKb {a b:List (List UInt8)} (ha:a.length≤9223372036854775807):lC a b=some (decide (a=b)):=by
 unfold lC
 rw [aBQ]
 by_cases h:(a.length:Int)=b.length
 ·
  rw [bB h,nZ a.length (fun i=>decide (a[i]?=b[i]?)) false (fun i hi=>?_) ?_,aA]
  ·
   split
   ·
    rename_i h2
    rw [cI] at h2
    have:a=b:=List.ext_getElem? fun i=>by
     by_cases hi:i<a.length
     ·
      have:=h2 i (fE.2 hi);simpa using this
     ·
      rw [kP (by omega),kP (by omega)]
    simp [Fl.next,this]
   ·
    rename_i h2
    have:a≠b:=fun e=>h2 (by rw [cI];intro i _;simp [e])
    simp [Fl.next,this]
  ·
   unfold nI
   rw [dO,aY (by omega)]
  ·
   unfold nI
   have hb:i<b.length:=by omega
   rw [dO,bB (by omega),iJ hi,aA,iJ hb,aA,aBQ,nV hi ha,aM hi,aM hb]
   simp only [dB,bU]
   split <;> rfl
 ·
  rw [aY h]
  have:a≠b:=fun e=>h (by rw [e])
  simp [this]
theorem aGp {l m:List aK} (h:l.length=m.length) (p:Nat→Bool) (hp:∀ i (h1:i<l.length) (h2:i<m.length),p i=rT l[i] m[i]):(List.range l.length).all p=aAO l m:=by
 rw [eF,cI,aCC]
 constructor
 ·
  exact fun hh=>⟨h,fun i h1 h2=>by rw [← hp i h1 h2];exact hh i (fE.2 h1)⟩
 ·
  exact fun hh i hi=>by have:=fE.1 hi;rw [hp i this (by omega)];exact hh.2 i this (by omega)
theorem aRo:∀ (n:Nat) (v w:aK),dX v→2*hgt v≤n→yC n v w=some (rT v w):=by
 intro n
 induction n using Nat.strongRecOn with
 | _ n ih =>
  intro v w hv hn
  have hh:=mK v
  obtain ⟨m,rfl⟩:∃ m,n=m+2:=⟨n - 2,by omega⟩
  obtain ⟨k0,k1,k2,k3,k4⟩:=(gF v).1 hv
  have hE:eL (m+1) v.Items w.Items=some (aAO v.Items w.Items):=by
   rw [eL,aBQ]
   by_cases h:(v.Items.length:Int)=w.Items.length
   ·
    rw [bB h,nZ v.Items.length (fun i=>rT (v.Items.getD i default) (w.Items.getD i default)) false (fun i hi=>?_) ?_,aA,aGp (m:=w.Items) (by omega) _ (fun i h1 h2=>by simp [h1,h2])]
    ·
     cases aAO v.Items w.Items <;> rfl
    ·
     unfold fX
     rw [dO,aY (by omega)]
    ·
     unfold fX
     have hb:i<w.Items.length:=by omega
     rw [dO,bB (by omega),iJ hi,aA,iJ hb,aA,ih m (by omega) _ _ (k3.2.2 _ (bN hi)) (by have:=pB (bN hi);omega),aA,nV hi k3.1]
     simp only [bZ,aM hi,aM hb,eR]
     cases rT v.Items[i] w.Items[i] <;> rfl
   ·
    rw [aY h]
    have:aAO v.Items w.Items=false:=by rw [← Bool.not_eq_true,aCC];exact fun hh=>h (by omega)
    rw [this]
  rw [yC,aKb k4.1,hE,aKl]
  by_cases h1:v.Kind=w.Kind <;> by_cases h2:v.Int=w.Int <;> by_cases h3:v.Text=w.Text <;> by_cases h4:v.Keys=w.Keys <;> simp [h1,h2,h3,h4,gd]
theorem aC7 {v w:aK} (hv:dX v):aCA v w=some (rT v w):=zY (2*hgt v) fun n hn=>aRo n v w hv hn
theorem aNK:∀ (n:Nat) (v w:aK),dX v→hgt v≤n→xO n v w=some (rT v w):=by
 intro n
 induction n with
 | zero=>intro v w hv hn;have:=mK v;omega
 | succ n ih =>
  intro v w hv hn
  have hh:=mK v
  obtain ⟨k0,k1,k2,k3,k4⟩:=(gF v).1 hv
  rw [xO,aKl]
  by_cases h1:v.Kind=w.Kind
  ·
   by_cases h2:v.Int=w.Int
   ·
    by_cases h3:v.Text=w.Text
    ·
     by_cases h4:(v.Items.length:Int)=w.Items.length
     ·
      by_cases h5:(v.Keys.length:Int)=w.Keys.length
      ·
       simp only [h1,h2,h3,h4,h5,cG,cJ,bP,dW]
       rw [nZ v.Keys.length (fun i=>decide (v.Keys[i]?=w.Keys[i]?)) false (fun i hi=>?_) ?_,aA]
       ·
        have hk:((List.range v.Keys.length).all fun i=>decide (v.Keys[i]?=w.Keys[i]?))=decide (v.Keys=w.Keys):=by
         rw [eF,cI]
         simp only [bU]
         constructor
         ·
          refine fun h6=>List.ext_getElem? fun i=>?_
          by_cases hi:i<v.Keys.length
          ·
           exact h6 i (fE.2 hi)
          ·
           rw [kP (by omega),kP (by omega)]
         ·
          intro e i _;rw [e]
        rw [hk]
        by_cases h6:v.Keys=w.Keys
        ·
         simp only [h6,cG,cL,Fl.next,dW]
         rw [nZ v.Items.length (fun i=>rT (v.Items.getD i default) (w.Items.getD i default)) false (fun i hi=>?_) ?_,aA,aGp (m:=w.Items) (by omega) _ (fun i h1 h2=>by simp [h1,h2])]
         ·
          cases aAO v.Items w.Items <;> rfl
         ·
          unfold aBa
          rw [dO,aY (by omega)]
         ·
          unfold aBa
          have hb:i<w.Items.length:=by omega
          rw [dO,bB (by omega),iJ hi,aA,iJ hb,aA,ih _ _ (k3.2.2 _ (bN hi)) (by have:=pB (bN hi);omega),aA,nV hi k3.1]
          simp only [bZ,aM hi,aM hb,eR]
          cases rT v.Items[i] w.Items[i] <;> rfl
        ·
         simp [h6,Fl.next]
       ·
        unfold aA9
        rw [dO,aY (by omega)]
       ·
        unfold aA9
        have hb:i<w.Keys.length:=by omega
        rw [dO,bB (by omega),iJ hi,aA,iJ hb,aA,aBQ,nV hi k4.1,aM hi,aM hb]
        simp only [dB,bU]
        split <;> rfl
      ·
       have:v.Keys≠w.Keys:=fun e=>h5 (by rw [e])
       simp [h5,this]
     ·
      have:aAO v.Items w.Items=false:=by rw [← Bool.not_eq_true,aCC];exact fun hh=>h4 (by omega)
      simp [h4,this]
    ·
     simp [h3]
   ·
    simp [h2]
  ·
   simp [h1]
theorem aCm {v w:aK} (hv:dX v):aA1 v w=some (rT v w):=zY (hgt v) fun n hn=>aNK n v w hv hn
mutual
def dep:aK→Int
 | ⟨_,_,_,l,_⟩=>IntKind.i64.wrap (aRK l 0+1)
def aRK:List aK→Int→Int
 | [],a=>a
 | x :: l,a=>aRK l (if dep x > a then dep x else a)
end
theorem aON (v:aK):dep v=IntKind.i64.wrap (v.Items.foldl (fun a x=>if dep x > a then dep x else a) 0+1):=by
 have key:∀ (l:List aK) (a:Int),aRK l a=l.foldl (fun a x=>if dep x > a then dep x else a) a:=by
  intro l
  induction l with
  | nil=>intro a;simp [aRK]
  | cons x l ih=>intro a;simp [aRK,ih]
 cases v;simp only [dep,key]
mutual
def siz:aK→Int
 | ⟨_,_,_,l,_⟩=>aSD l 1
def aSD:List aK→Int→Int
 | [],a=>a
 | x :: l,a=>aSD l (IntKind.i64.wrap (a+siz x))
end
theorem aPj (v:aK):siz v=v.Items.foldl (fun a x=>IntKind.i64.wrap (a+siz x)) 1:=by
 have key:∀ (l:List aK) (a:Int),aSD l a=l.foldl (fun a x=>IntKind.i64.wrap (a+siz x)) a:=by
  intro l
  induction l with
  | nil=>intro a;simp [aSD]
  | cons x l ih=>intro a;simp [aSD,ih]
 cases v;simp only [siz,key]
theorem aQg:∀ (n:Nat) (v:aK),dX v→hgt v≤n→vS n v=some (dep v):=by
 intro n
 induction n with
 | zero=>intro v hv hn;have:=mK v;omega
 | succ n ih =>
  intro v hv hn
  have hh:=mK v
  obtain ⟨k0,k1,k2,k3,k4⟩:=(gF v).1 hv
  have hi1:=fun (i:Nat) (hi:i<v.Items.length)=>ih _ (k3.2.2 _ (bN hi)) (by have:=pB (bN hi);omega)
  rw [vS,aON]
  rw [aE9 v.Items (fun a x=>if dep x > a then dep x else a) 0 (fun s i hi=>?_) (fun s=>?_),aA]
  ·
   unfold aAL
   rw [dO,bB (by simp only;omega),iJ hi,aA,(hi1 i hi),aA,nV hi k3.1]
  ·
   unfold aAL
   rw [dO,aY (by simp only;omega)]
theorem aMc:∀ (n:Nat) (v:aK),dX v→hgt v≤n→vL n v=some (dep v):=by
 intro n
 induction n with
 | zero=>intro v hv hn;have:=mK v;omega
 | succ n ih =>
  intro v hv hn
  have hh:=mK v
  obtain ⟨k0,k1,k2,k3,k4⟩:=(gF v).1 hv
  have hi1:=fun (i:Nat) (hi:i<v.Items.length)=>ih _ (k3.2.2 _ (bN hi)) (by have:=pB (bN hi);omega)
  rw [vL,aON]
  rw [aE9 v.Items (fun a x=>if dep x > a then dep x else a) 0 (fun s i hi=>?_) (fun s=>?_),aA]
  ·
   unfold aAw
   rw [dO,bB (by simp only;omega),iJ hi,aA,(hi1 i hi),aA,nV hi k3.1,dO]
   simp only
   by_cases h:s<dep v.Items[i]
   ·
    rw [bB h,bB h]
   ·
    rw [aY h,aY h]
  ·
   unfold aAw
   rw [dO,aY (by simp only;omega)]
theorem aKi {v:aK} (hv:dX v):aET v=some (dep v):=zY (hgt v) fun n hn=>aQg n v hv hn
theorem aNI {v:aK} (hv:dX v):aED v=some (dep v):=zY (hgt v) fun n hn=>aMc n v hv hn
theorem aRp:∀ (n:Nat) (v:aK),dX v→hgt v≤n→yD n v=some (siz v):=by
 intro n
 induction n with
 | zero=>intro v hv hn;have:=mK v;omega
 | succ n ih =>
  intro v hv hn
  have hh:=mK v
  obtain ⟨k0,k1,k2,k3,k4⟩:=(gF v).1 hv
  have hi1:=fun (i:Nat) (hi:i<v.Items.length)=>ih _ (k3.2.2 _ (bN hi)) (by have:=pB (bN hi);omega)
  rw [yD,aPj]
  rw [aE9 v.Items (fun a x=>IntKind.i64.wrap (a+siz x)) 1 (fun s i hi=>?_) (fun s=>?_),aA]
  ·
   unfold aBf
   rw [dO,bB (by simp only;omega),iJ hi,aA,(hi1 i hi),aA,nV hi k3.1]
  ·
   unfold aBf
   rw [dO,aY (by simp only;omega)]
theorem aNM:∀ (n:Nat) (v:aK),dX v→hgt v≤n→xP n v=some (siz v):=by
 intro n
 induction n with
 | zero=>intro v hv hn;have:=mK v;omega
 | succ n ih =>
  intro v hv hn
  have hh:=mK v
  obtain ⟨k0,k1,k2,k3,k4⟩:=(gF v).1 hv
  have hi1:=fun (i:Nat) (hi:i<v.Items.length)=>ih _ (k3.2.2 _ (bN hi)) (by have:=pB (bN hi);omega)
  rw [xP,aPj]
  rw [aE9 v.Items (fun a x=>IntKind.i64.wrap (a+siz x)) 1 (fun s i hi=>?_) (fun s=>?_),aA]
  ·
   unfold aBb
   rw [dO,bB (by simp only;omega),iJ hi,aA,(hi1 i hi),aA,nV hi k3.1]
  ·
   unfold aBb
   rw [dO,aY (by simp only;omega)]
theorem aKV {v:aK} (hv:dX v):aGb v=some (siz v):=zY (hgt v) fun n hn=>aRp n v hv hn
theorem aPc {v:aK} (hv:dX v):aFR v=some (siz v):=zY (hgt v) fun n hn=>aNM n v hv hn
def oD (k:List UInt8):Bool:=decide ((4096:Int)<(k.length:Int))
mutual
def shr:aK→Bool
 | ⟨_,_,t,l,ks⟩=>!oD t&&!ks.any oD&&aTx l
def aTx:List aK→Bool
 | []=>true
 | x :: l=>shr x&&aTx l
end
theorem aNX:∀ l,aTx l=l.all shr
 | []=>rfl
 | x :: l=>by simp [aTx,aNX l]
theorem aMn (v:aK):shr v=(!oD v.Text&&!v.Keys.any oD&&v.Items.all shr):=by cases v;simp [shr,aNX]
theorem aAi {α:Type} (l:List α) (p:α→Bool):(!l.any p)=l.all fun x=>!p x:=by simp [List.not_any_eq_all_not]
theorem aSd {ks:List (List UInt8)} (h:ks.length≤9223372036854775807):iE ks=some (ks.any oD):=by
 unfold iE jL
 obtain ⟨x,h1,h2⟩:=aAY (body:=iG ks) ks oD (fun i hi=>by
  unfold iG
  rw [dO,bB (by omega),iJ hi,aA,aBg,aA,nV hi h]
  show cond (oD ks[i]) _ _=_
  cases oD ks[i] <;> rfl) (by
  unfold iG
  rw [dO,aY (by omega)])
 rw [h1,aA,h2]
theorem aQ4:∀ (n:Nat) (v:aK),dX v→4*hgt v≤n→vU n v=some (shr v):=by
 intro n
 induction n using Nat.strongRecOn with
 | _ n ih =>
  intro v hv hn
  have hh:=mK v
  obtain ⟨m,rfl⟩:∃ m,n=m+4:=⟨n - 4,by omega⟩
  obtain ⟨k0,k1,k2,k3,k4⟩:=(gF v).1 hv
  have hC:fL (m+3) v.Items=some (v.Items.any fun x=>!shr x):=by
   rw [fL,hD]
   obtain ⟨x,h1,h2⟩:=aAY (body:=gR (uY (m+1)) v.Items) v.Items (fun x=>!shr x) (fun i hi=>by
    unfold gR
    rw [dO,bB (by omega),iJ hi,aA,uY,ih m (by omega) _ (k3.2.2 _ (bN hi)) (by have:=pB (bN hi);omega),aA,aA,nV hi k3.1]
    cases shr v.Items[i] <;> rfl) (by
    unfold gR
    rw [dO,aY (by omega)])
   rw [h1,aA,h2]
  rw [vU,aSd k4.1,hC,aMn]
  by_cases h:(4096:Int)<v.Text.length
  ·
   simp [h,gd,oD]
  ·
   have hA:(!v.Items.any fun x=>!shr x)=v.Items.all shr:=by rw [aAi];simp
   have ht:oD v.Text=false:=by simp [oD,h]
   simp only [h,ht,dK,eJ,gd,cL,aA,bP,iT,dW,hA]
   cases v.Keys.any oD <;> rfl
theorem aKj {v:aK} (hv:dX v):aEU v=some (shr v):=zY (4*hgt v) fun n hn=>aQ4 n v hv hn
theorem aMg:∀ (n:Nat) (v:aK),dX v→hgt v≤n→vM n v=some (shr v):=by
 intro n
 induction n with
 | zero=>intro v hv hn;have:=mK v;omega
 | succ n ih =>
  intro v hv hn
  have hh:=mK v
  obtain ⟨k0,k1,k2,k3,k4⟩:=(gF v).1 hv
  rw [vM,aMn,dO]
  by_cases h:(4096:Int)<v.Text.length
  ·
   rw [bB h];simp [oD,h]
  ·
   rw [aY h]
   rw [nZ v.Keys.length (fun i=>!oD (v.Keys.getD i default)) false (fun i hi=>?_) ?_,aA,rW v.Keys fun k=>!oD k]
   ·
    rw [aAi]
    have ht:oD v.Text=false:=by simp [oD,h]
    rw [ht]
    cases v.Keys.all fun x=>!oD x
    ·
     rfl
    ·
     simp only [cL,Fl.next,iT,dW]
     rw [nZ v.Items.length (fun i=>shr (v.Items.getD i default)) false (fun i hi=>?_) ?_,aA,rW v.Items shr]
     ·
      cases v.Items.all shr <;> rfl
     ·
      unfold aAz
      rw [dO,aY (by omega)]
     ·
      unfold aAz
      rw [dO,bB (by omega),iJ hi,aA,ih _ (k3.2.2 _ (bN hi)) (by have:=pB (bN hi);omega),aA,nV hi k3.1]
      simp only [bZ,aM hi,eR]
      cases shr v.Items[i] <;> rfl
   ·
    unfold aAy
    rw [dO,aY (by omega)]
   ·
    unfold aAy
    rw [dO,bB (by omega),iJ hi,aA,nV hi k4.1]
    simp only [bZ,aM hi,eR]
    show cond (oD v.Keys[i]) _ _=_
    cases oD v.Keys[i] <;> rfl
theorem aNL {v:aK} (hv:dX v):aEE v=some (shr v):=zY (hgt v) fun n hn=>aMg n v hv hn
def wth (v:aK):Bool:=decide (dep v≤16)&&decide (siz v≤1000)&&shr v
theorem aIL {v:aK} (hv:dX v):aAN v=some (wth v):=by
 unfold aAN wth
 rw [aKi hv,aA,aKV hv,aKj hv]
 by_cases h1:dep v≤16 <;> by_cases h2:siz v≤1000 <;> simp [h1,h2,gd]
theorem aMh {v:aK} (hv:dX v):aAA v=some (wth v):=by
 unfold aAA wth
 rw [aNL hv,aA,aNI hv,aPc hv]
 cases h3:shr v
 ·
  simp [gd]
 ·
  by_cases h1:dep v≤16
  ·
   simp [h1,gd]
  ·
   simp [h1,gd]
def aII (l:List (List UInt8)):Bool:=(List.range (l.length - 1)).all fun i=>Op.bytesLess (l.getD i []) (l.getD (i+1) [])
theorem aJ9 {l:List (List UInt8)}:aII l=true↔∀ (i:Nat) (hi:i+1<l.length),Op.bytesLess (l[i]'(by omega)) l[i+1]=true:=by
 unfold aII
 rw [cI]
 constructor
 ·
  intro h i hi
  have:=h i (fE.2 (by omega))
  rw [bZ,bZ,aM (by omega),aM hi] at this
  exact this
 ·
  intro h i hi
  have hi:=fE.1 hi
  rw [bZ,bZ,aM (by omega),aM (by omega)]
  exact h i (by omega)
theorem aNO {l:List (List UInt8)}{body:Int→Option (dU Int (Fl Bool Unit))} (h:∀ (i:Nat) (h1:1≤i) (hi:i<l.length),body (i:Int)=some (if Op.bytesLess (l[i - 1]'(by omega)) l[i]=true then .next ((i+1:Nat):Int) else .out (.done false)))
  (hout:∀ i:Nat,l.length≤i→body (i:Int)=some (.out (.go ()))):gL body (1:Int)=some (if aII l=true then .go () else .done false):=by
 have key:∃ x,gL body (1:Int)=some x∧x=if aII l=true then .go () else .done false:=by
  refine yJ (fun s=>∃ i:Nat,s=(i:Int)∧1≤i∧∀ (k:Nat) (hk:k+1<l.length),k+1<i→Op.bytesLess (l[k]'(by omega)) l[k+1]=true) (fun s=>l.length - s.toNat) _ ?_ _ ⟨1,rfl,by omega,fun k hk hk2=>by omega⟩
  rintro s ⟨i,rfl,h1,hd⟩
  by_cases hlt:i<l.length
  ·
   rw [h i h1 hlt]
   by_cases hb:Op.bytesLess (l[i - 1]'(by omega)) l[i]=true
   ·
    rw [bB hb]
    refine .inl ⟨_,rfl,⟨i+1,rfl,by omega,fun k hk hk2=>?_⟩,by simp only [kN];omega⟩
    by_cases e:k+1=i
    ·
     subst e;exact hb
    ·
     exact hd k hk (by omega)
   ·
    rw [aY hb]
    refine .inr ⟨_,rfl,?_⟩
    rw [aY fun hr=>hb (by
     have:=aJ9.1 hr (i - 1) (by omega)
     simp only [show i - 1+1=i by omega] at this
     exact this)]
  ·
   rw [hout i (by omega)]
   refine .inr ⟨_,rfl,?_⟩
   rw [bB (aJ9.2 fun k hk=>hd k hk (by omega))]
 obtain ⟨x,hx,rfl⟩:=key
 exact hx
theorem aMe {l:List (List UInt8)} (h:l.length≤9223372036854775807):aAx l=some (aII l):=by
 unfold aAx
 rw [aNO (l:=l) (fun i h1 hi=>?_) (fun i hi=>?_),aA]
 ·
  cases aII l <;> rfl
 ·
  unfold zM
  rw [dO,bB (by omega),w64 (by omega) (by omega),show (i:Int) - 1=((i - 1:Nat):Int) by omega,iJ (by omega),aA,iJ hi,aA,nV hi h]
  cases Op.bytesLess (l[i - 1]'(by omega)) l[i] <;> rfl
 ·
  unfold zM
  rw [dO,aY (by omega)]
theorem aLR {l:List (List UInt8)} (h:l.length≤9223372036854775807):wG l=some (aII l):=by
 unfold wG
 rw [aNO (l:=l) (fun i h1 hi=>?_) (fun i hi=>?_),aA]
 ·
  cases aII l <;> rfl
 ·
  unfold vT
  rw [dO,bB (by omega),w64 (by omega) (by omega),show (i:Int) - 1=((i - 1:Nat):Int) by omega,iJ (by omega),aA,iJ hi,aA,nV hi h]
  cases Op.bytesLess (l[i - 1]'(by omega)) l[i] <;> rfl
 ·
  unfold vT
  rw [dO,aY (by omega)]
def aDA (o:Bool) (v:aK):Bool :=
 if v.Kind=0 then decide (v.Int=0)&&decide (v.Text=[])&&decide (v.Items.length=0)&&decide (v.Keys.length=0)
 else if v.Kind=1 then (decide (v.Int=0)||decide (v.Int=1))&&decide (v.Text=[])&&decide (v.Items.length=0)&&decide (v.Keys.length=0)
 else if v.Kind=2 then decide (v.Text=[])&&decide (v.Items.length=0)&&decide (v.Keys.length=0)
 else if v.Kind=6 then o&&decide (0≤v.Int)&&decide (v.Text=[])&&decide (v.Items.length=0)&&decide (v.Keys.length=0)
 else if v.Kind=3 then decide (v.Int=0)&&decide (v.Items.length=0)&&decide (v.Keys.length=0)
 else if v.Kind=4 then decide (v.Int=0)&&decide (v.Text=[])&&decide (v.Keys.length=0)
 else if v.Kind=5 then decide (v.Int=0)&&decide (v.Text=[])&&decide (v.Keys.length=v.Items.length)&&aII v.Keys
 else false
mutual
def fmd (o:Bool):aK→Bool
 | ⟨k,i,t,l,ks⟩=>aDA o ⟨k,i,t,l,ks⟩&&aRU o l
def aRU (o:Bool):List aK→Bool
 | []=>true
 | x :: l=>fmd o x&&aRU o l
end
mutual
def fut:aK→Bool
 | ⟨k,_,_,l,_⟩=>decide (k=6)||aRX l
def aRX:List aK→Bool
 | []=>false
 | x :: l=>fut x||aRX l
end
theorem aNi (o:Bool):∀ l,aRU o l=l.all (fmd o)
 | []=>by simp [aRU]
 | x :: l=>by simp [aRU,aNi o l]
theorem aNj:∀ l,aRX l=l.any fut
 | []=>by simp [aRX]
 | x :: l=>by simp [aRX,aNj l]
theorem aFM (o:Bool) (v:aK):fmd o v=(aDA o v&&v.Items.all (fmd o)):=by cases v;simp only [fmd,aNi]
theorem aRW (v:aK):fut v=(decide (v.Kind=6)||v.Items.any fut):=by cases v;simp only [fut,aNj]
theorem aUD (v:aK):aDA false v=(aDA true v&&!decide (v.Kind=6)):=by
 unfold aDA
 by_cases h0:v.Kind=0
 ·
  simp [h0]
 ·
  by_cases h1:v.Kind=1
  ·
   simp [h1]
  ·
   by_cases h2:v.Kind=2
   ·
    simp [h2]
   ·
    by_cases h6:v.Kind=6
    ·
     simp [h6]
    ·
     simp [h0,h1,h2,h6]
theorem aRT:∀ (n:Nat) (v:aK),hgt v≤n→fmd false v=(fmd true v&&!fut v):=by
 intro n
 induction n with
 | zero=>intro v h;have:=mK v;omega
 | succ n ih =>
  intro v h
  have hall:v.Items.all (fmd false)=(v.Items.all (fmd true)&&!v.Items.any fut):=by
   have key:∀ l:List aK,(∀ x∈l,fmd false x=(fmd true x&&!fut x))→l.all (fmd false)=(l.all (fmd true)&&!l.any fut):=by
    intro l
    induction l with
    | nil=>intro _;rfl
    | cons x l ihl =>
     intro hx
     simp only [List.all_cons,List.any_cons]
     rw [ihl fun y hy=>hx y (by simp [hy]),hx x (by simp)]
     cases fmd true x <;> cases fut x <;> cases l.all (fmd true) <;> cases l.any fut <;> rfl
   exact key v.Items fun x hx=>ih x (by have:=aOZ hx;omega)
  rw [aFM,aFM,aRW,aUD,hall]
  cases aDA true v <;> cases decide (v.Kind=6) <;> cases v.Items.all (fmd true) <;> cases v.Items.any fut <;> rfl
theorem aQM {α:Type} (l:List α):decide ((0:Int)<(l.length:Int))=!decide (l.length=0):=by cases l <;> simp <;> omega
theorem aQN {α:Type} (l:List α):decide ((l.length:Int)=0)=decide (l.length=0):=by rw [eF];simp
theorem aVp {α β:Type} (l:List α) (m:List β):decide ((l.length:Int)=m.length)=decide (l.length=m.length):=by rw [eF];simp;omega
theorem aOX:∀ (n:Nat) (v:aK) (o:Bool),dX v→4*hgt v≤n→uB n v o=some (fmd o v):=by
 intro n
 induction n using Nat.strongRecOn with
 | _ n ih =>
  intro v o hv hn
  have hh:=mK v
  obtain ⟨m,rfl⟩:∃ m,n=m+4:=⟨n - 4,by omega⟩
  obtain ⟨k0,k1,k2,k3,k4⟩:=(gF v).1 hv
  have hC:fJ (m+3) v.Items o=some (v.Items.any fun x=>!fmd o x):=by
   rw [fJ,gW]
   obtain ⟨x,h1,h2⟩:=aAY (body:=gM (tC (m+1)) v.Items o) v.Items (fun x=>!fmd o x) (fun i hi=>by
    unfold gM
    rw [dO,bB (by omega),iJ hi,aA,tC,ih m (by omega) _ _ (k3.2.2 _ (bN hi)) (by have:=pB (bN hi);omega),aA,aA,nV hi k3.1]
    cases fmd o v.Items[i] <;> rfl) (by
    unfold gM
    rw [dO,aY (by omega)])
   rw [h1,aA,h2]
  have hA:(!v.Items.any fun x=>!fmd o x)=v.Items.all (fmd o):=by rw [aAi];simp
  have hE:∀ b:Bool,(b=true→v.Items.length=0)→b=(b&&v.Items.all (fmd o)):=fun b hb=>by
   cases b
   ·
    rfl
   ·
    have:v.Items=[]:=eM (hb rfl)
    rw [this];rfl
  rw [uB,aLR k4.1,hC,aFM]
  unfold aDA
  by_cases h0:v.Kind=0
  ·
   simp only [h0,Int.reduceEq,cL,dZ,cG,dK,dM,bP,aA,Fl.next,aQM]
   rw [← hE _ (by simp only [aR,bU];rintro ⟨⟨_,h⟩,_⟩;exact h)]
   cases decide (v.Int=0) <;> cases decide (v.Text=[]) <;> cases decide (v.Items.length=0) <;> cases decide (v.Keys.length=0) <;> rfl
  by_cases h1:v.Kind=1
  ·
   simp only [h1,Int.reduceEq,cL,dZ,cG,dK,dM,bP,aA,Fl.next,aQM]
   rw [← hE _ (by simp only [aR,bU];rintro ⟨⟨_,h⟩,_⟩;exact h)]
   cases decide (v.Int=0) <;> cases decide (v.Int=1) <;> cases decide (v.Text=[]) <;> cases decide (v.Items.length=0) <;> cases decide (v.Keys.length=0) <;> rfl
  by_cases h2:v.Kind=2
  ·
   simp only [h2,Int.reduceEq,cL,dZ,cG,dK,dM,bP,aA,Fl.next,aQM]
   rw [← hE _ (by simp only [aR,bU];rintro ⟨⟨_,h⟩,_⟩;exact h)]
   cases decide (v.Text=[]) <;> cases decide (v.Items.length=0) <;> cases decide (v.Keys.length=0) <;> rfl
  by_cases h6:v.Kind=6
  ·
   simp only [h6,Int.reduceEq,cL,dZ,cG,dK,dM,bP,aA,Fl.next,aQM]
   rw [← hE _ (by simp only [aR,bU];rintro ⟨⟨_,h⟩,_⟩;exact h)]
   cases o <;> cases decide (0≤v.Int) <;> cases decide (v.Text=[]) <;> cases decide (v.Items.length=0) <;> cases decide (v.Keys.length=0) <;> rfl
  by_cases h3:v.Kind=3
  ·
   simp only [h3,Int.reduceEq,cL,dZ,cG,dK,dM,bP,aA,Fl.next,aQM]
   rw [← hE _ (by simp only [aR,bU];rintro ⟨⟨_,h⟩,_⟩;exact h)]
   cases decide (v.Int=0) <;> cases decide (v.Items.length=0) <;> cases decide (v.Keys.length=0) <;> rfl
  by_cases h4:v.Kind=4
  ·
   simp only [h4,Int.reduceEq,cL,dZ,cG,dK,dM,bP,aQM]
   cases decide (v.Int=0) <;> cases decide (v.Text=[]) <;> cases decide (v.Keys.length=0) <;> simp [hA,Fl.next]
  by_cases h5:v.Kind=5
  ·
   simp only [h5,Int.reduceEq,cL,dZ,cG,dK,dM,bP,aVp]
   cases decide (v.Int=0) <;> cases decide (v.Text=[]) <;> cases decide (v.Keys.length=v.Items.length) <;> cases aII v.Keys <;> simp [hA,Fl.next,gd]
  simp only [h0,h1,h2,h3,h4,h5,h6,dZ,dK,bP,aA,Fl.next,Bool.false_and]
theorem aD3 {v:aK}{o:Bool} (hv:dX v):aBY v o=some (fmd o v):=zY (4*hgt v) fun n hn=>aOX n v o hv hn
theorem aRq:∀ (n:Nat) (v:aK),dX v→hgt v≤n→oM n v=some (fmd true v):=by
 intro n
 induction n with
 | zero=>intro v hv hn;have:=mK v;omega
 | succ n ih =>
  intro v hv hn
  have hh:=mK v
  obtain ⟨k0,k1,k2,k3,k4⟩:=(gF v).1 hv
  rw [oM,aMe k4.1,aFM]
  rw [nZ v.Items.length (fun i=>fmd true (v.Items.getD i default)) false (fun i hi=>?_) ?_,aA,rW v.Items (fmd true)]
  ·
   cases v.Items.all (fmd true)
   ·
    simp [Fl.next]
   ·
    simp only [cL,Fl.next,jK]
    unfold aDA
    by_cases h0:v.Kind=0
    ·
     simp only [h0,Int.reduceEq,cL,dZ,cG,dK,dM,bP,aQN]
     cases decide (v.Int=0) <;> cases decide (v.Text=[]) <;> cases decide (v.Items.length=0) <;> cases decide (v.Keys.length=0) <;> rfl
    by_cases h1:v.Kind=1
    ·
     simp only [h1,Int.reduceEq,cL,dZ,cG,dK,dM,bP,aQN]
     cases decide (v.Int=0) <;> cases decide (v.Int=1) <;> cases decide (v.Text=[]) <;> cases decide (v.Items.length=0) <;> cases decide (v.Keys.length=0) <;> rfl
    by_cases h2:v.Kind=2
    ·
     simp only [h2,Int.reduceEq,cL,dZ,cG,dK,dM,bP,aQN]
     cases decide (v.Text=[]) <;> cases decide (v.Items.length=0) <;> cases decide (v.Keys.length=0) <;> rfl
    by_cases h6:v.Kind=6
    ·
     simp only [h6,Int.reduceEq,cL,dZ,cG,dK,dM,bP,aQN]
     cases decide (0≤v.Int) <;> cases decide (v.Text=[]) <;> cases decide (v.Items.length=0) <;> cases decide (v.Keys.length=0) <;> rfl
    by_cases h3:v.Kind=3
    ·
     simp only [h3,Int.reduceEq,cL,dZ,cG,dK,dM,bP,aQN]
     cases decide (v.Int=0) <;> cases decide (v.Items.length=0) <;> cases decide (v.Keys.length=0) <;> rfl
    by_cases h4:v.Kind=4
    ·
     simp only [h4,Int.reduceEq,cL,dZ,cG,dK,dM,bP,aQN]
     cases decide (v.Int=0) <;> cases decide (v.Text=[]) <;> cases decide (v.Keys.length=0) <;> rfl
    by_cases h5:v.Kind=5
    ·
     simp only [h5,Int.reduceEq,cL,dZ,cG,dK,dM,bP,aVp]
     cases decide (v.Int=0) <;> cases decide (v.Text=[]) <;> cases decide (v.Keys.length=v.Items.length) <;> cases aII v.Keys <;> rfl
    simp only [h0,h1,h2,h3,h4,h5,h6,dZ,dK,bP]
  ·
   unfold uG
   rw [dO,aY (by omega)]
  ·
   unfold uG
   rw [dO,bB (by omega),iJ hi,aA,ih _ (k3.2.2 _ (bN hi)) (by have:=pB (bN hi);omega),aA,nV hi k3.1]
   simp only [bZ,aM hi,eR]
   cases fmd true v.Items[i] <;> rfl
theorem aDl {v:aK} (hv:dX v):yN v=some (fmd true v):=zY (hgt v) fun n hn=>aRq n v hv hn
theorem aSV:∀ (n:Nat) (v:aK),dX v→hgt v≤n→tW n v=some (fut v):=by
 intro n
 induction n with
 | zero=>intro v hv hn;have:=mK v;omega
 | succ n ih =>
  intro v hv hn
  have hh:=mK v
  obtain ⟨k0,k1,k2,k3,k4⟩:=(gF v).1 hv
  rw [tW,aRW]
  rw [nZ v.Items.length (fun i=>!fut (v.Items.getD i default)) true (fun i hi=>?_) ?_,aA,rW v.Items fun x=>!fut x,← aAi]
  ·
   cases v.Items.any fut
   ·
    simp only [iT,cL,Fl.next,rV]
   ·
    simp [Fl.next]
  ·
   unfold zL
   rw [dO,aY (by omega)]
  ·
   unfold zL
   rw [dO,bB (by omega),iJ hi,aA,ih _ (k3.2.2 _ (bN hi)) (by have:=pB (bN hi);omega),aA,nV hi k3.1]
   simp only [bZ,aM hi,eR]
   cases fut v.Items[i] <;> rfl
theorem aMd {v:aK} (hv:dX v):aDK v=some (fut v):=zY (hgt v) fun n hn=>aSV n v hv hn
noncomputable def kR (v:aK):Bool:=wth v&&fmd false v
theorem aAM {v:aK} (hv:dX v):vF v=some (kR v):=by
 unfold vF kR
 rw [aIL hv,aA,aD3 hv]
 cases wth v <;> simp [gd]
theorem zH {v:aK} (hv:dX v):tM v=some (kR v):=by
 unfold tM kR
 rw [aDl hv,aA,aMh hv,aMd hv,aRT (hgt v) v (eP _)]
 cases wth v <;> cases fmd true v <;> cases fut v <;> rfl
def sJ (c:UInt8):Bool:=(decide (97≤c.toNat)&&decide (c.toNat≤122))||(decide (65≤c.toNat)&&decide (c.toNat≤90))||decide (c.toNat=95)
def qE (c:UInt8):Bool:=decide (48≤c.toNat)&&decide (c.toNat≤57)
theorem aJM (c:UInt8):aBo (c.toNat:Int)=some (sJ c):=by
 unfold aBo sJ
 congr 1
 rw [eF]
 simp only [nB,eC,aR,bU]
 split <;> (try split) <;> (try split) <;> simp_all <;> omega
theorem aJZ (c:UInt8):aAC (c.toNat:Int)=some (sJ c||qE c):=by
 unfold aAC sJ qE
 congr 1
 rw [eF]
 have e:∀ n:Nat,((n:Int)≤(c.toNat:Int)↔n≤c.toNat)∧((c.toNat:Int)≤(n:Int)↔c.toNat≤n)∧((c.toNat:Int)=(n:Int)↔c.toNat=n):=fun n=>⟨by omega,by omega,by omega⟩
 have e1:=e 97;have e2:=e 122;have e3:=e 65;have e4:=e 90;have e5:=e 95;have e6:=e 48;have e7:=e 57
 simp only [Int.cast_ofNat_Int] at e1 e2 e3 e4 e5 e6 e7
 by_cases h1:97≤c.toNat <;> by_cases h2:c.toNat≤122 <;> by_cases h3:65≤c.toNat <;> by_cases h4:c.toNat≤90 <;> by_cases h5:c.toNat=95 <;> by_cases h6:48≤c.toNat <;> by_cases h7:c.toNat≤57 <;> simp [h1,h2,h3,h4,h5,h6,h7,e1.1,e2.2.1,e3.1,e4.2.1,e5.2.2,e6.1,e7.2.1] <;> omega
def nL (s:List UInt8):Bool:=!decide (s=[])&&decide (s.length≤64)&&!qE (s.headD 0)&&s.all fun c=>sJ c||qE c
theorem wJ {s:List UInt8}:rY s=some (nL s):=by
 unfold rY nL
 by_cases h0:s=[]
 ·
  simp [h0]
 ·
  by_cases h1:(64:Int)<s.length
  ·
   have h2:¬s.length≤64:=by omega
   simp [h0,h1,h2]
  ·
   have h2:s.length≤64:=by omega
   simp only [h0,h1,h2,dK,cG,bP,iT,dW]
   rw [nZ s.length (fun i=>sJ (s.getD i 0)||(decide (0<i)&&qE (s.getD i 0))) false (fun i hi=>?_) ?_,aA]
   ·
    have:((List.range s.length).all fun i=>sJ (s.getD i 0)||(decide (0<i)&&qE (s.getD i 0)))=(!qE (s.headD 0)&&s.all fun c=>sJ c||qE c):=by
     obtain ⟨c,r,rfl⟩:∃ c r,s=c :: r:=by cases s with
      | nil=>exact absurd rfl h0
      | cons c r=>exact ⟨c,r,rfl⟩
     have hnd:sJ c=true→qE c=false:=by
      unfold sJ qE
      simp only [eC,aR,bU,Bool.and_eq_false_iff,mJ]
      omega
     rw [eF,aR,cI,cI]
     constructor
     ·
      intro h
      have h3:=h 0 (by simp)
      simp only [List.getD_cons_zero,Nat.lt_irrefl,dK,Bool.false_and,rV] at h3
      refine ⟨by simp [hnd h3],fun x hx=>?_⟩
      obtain ⟨i,hi,rfl⟩:=qN.1 hx
      have h4:=h i (fE.2 hi)
      simp only [bZ,aM hi,eR] at h4
      revert h4
      cases sJ (c :: r)[i] <;> cases qE (c :: r)[i] <;> simp
     ·
      rintro ⟨h3,h4⟩ i hi
      have hi:=fE.1 hi
      have h5:=h4 _ (bN hi)
      simp only [bZ,aM hi,eR]
      cases i with
      | zero=>revert h3 h5;simp only [List.headD_cons,List.getElem_cons_zero];cases sJ c <;> cases qE c <;> simp
      | succ i=>simpa using h5
    rw [this]
    cases (!qE (s.headD 0)&&s.all fun c=>sJ c||qE c) <;> rfl
   ·
    unfold aA8
    rw [dO,aY (by omega)]
   ·
    unfold aA8
    rw [dO,bB (by omega),iJ hi,aA,aJM,aA,nV hi (by omega)]
    simp only [bZ,aM hi,eR]
    have hz:decide ((i:Int)=0)=!decide (0<i):=by rw [eF];simp
    have hd:∀ c:UInt8,(cond (decide ((c.toNat:Int)<48)) true (decide ((57:Int)<(c.toNat:Int))))=!qE c:=fun c=>by
     unfold qE
     by_cases h1:c.toNat<48
     ·
      have:¬48≤c.toNat:=by omega
      have h2:(c.toNat:Int)<48:=by omega
      simp [h2,this]
     ·
      have:48≤c.toNat:=by omega
      have h2:¬(c.toNat:Int)<48:=by omega
      rw [eF]
      simp [h2,this]
      omega
    rw [hz]
    generalize s[i]=c
    have hd':=hd c
    cases hl:sJ c
    ·
     by_cases h0:0<i
     ·
      simp only [h0,cG,cJ,iT,dM,bP,gd,eJ,mQ,dW,cL,aA,kL]
      by_cases h48:(c.toNat:Int)<48
      ·
       rw [show qE c=false by rw [← gP,← hd'];simp [h48]]
       simp [h48]
      ·
       simp only [h48,dK,bP] at hd' ⊢
       simp only [eJ,cL,aA,hd']
       cases qE c <;> rfl
     ·
      simp [h0,gd]
    ·
     simp [gd]
theorem wK {s:List UInt8}:qI s=some (nL s):=by
 unfold qI nL
 by_cases h0:s=[]
 ·
  subst h0;rfl
 ·
  have hl:0<s.length:=List.length_pos_iff.2 h0
  by_cases h1:(64:Int)<s.length
  ·
   have h2:¬s.length≤64:=by omega
   have h3:(cond (decide ((s.length:Int)<1)) true (decide ((64:Int)<(s.length:Int))))=true:=by simp [h1]
   simp [h3,gd,h2]
  ·
   have h2:s.length≤64:=by omega
   have h3:(cond (decide ((s.length:Int)<1)) true (decide ((64:Int)<(s.length:Int))))=false:=by simp [h1];omega
   obtain ⟨c,r,rfl⟩:∃ c r,s=c :: r:=by cases s with
    | nil=>exact absurd rfl h0
    | cons c r=>exact ⟨c,r,rfl⟩
   have hi0:mP (c :: r) (0:Int)=some c:=rfl
   have hdg:(cond (decide ((48:Int)≤(c.toNat:Int))) (decide ((c.toNat:Int)≤57)) false)=qE c:=by
    unfold qE
    by_cases h4:48≤c.toNat
    ·
     have:(48:Int)≤(c.toNat:Int):=by omega
     rw [eF];simp [h4,this];omega
    ·
     have:¬(48:Int)≤(c.toNat:Int):=by omega
     simp [h4,this]
   rw [h3,hi0]
   simp only [h2,List.headD_cons,cG,jK,reduceCtorEq,dK,iT,gd,eJ,cL,aA,bP,dW]
   have key:∀ x:UInt8,((decide ((48:Int)≤(c.toNat:Int))==true)=true→x=c)→(cond (decide ((48:Int)≤(c.toNat:Int))) (decide ((x.toNat:Int)≤57)) false)=qE c:=fun x hx=>by
    rw [← hdg]
    by_cases h4:(48:Int)≤(c.toNat:Int)
    ·
     rw [hx (by simp [h4])]
    ·
     simp [h4]
   have key2:∃ x:UInt8,(if (decide ((48:Int)≤(c.toNat:Int))==true)=true then some c else some default)=some x∧((decide ((48:Int)≤(c.toNat:Int))==true)=true→x=c):=by
    by_cases h4:(decide ((48:Int)≤(c.toNat:Int))==true)=true
    ·
     exact ⟨c,by rw [bB h4],fun _=>rfl⟩
    ·
     exact ⟨default,by rw [aY h4],fun h=>absurd h h4⟩
   obtain ⟨x,hx1,hx2⟩:=key2
   rw [hx1,aA,key x hx2]
   cases hdc:qE c
   ·
    simp only [bP,iT,dW]
    rw [nZ (c :: r).length (fun i=>sJ ((c :: r).getD i default)||qE ((c :: r).getD i default)) false (fun i hi=>?_) ?_,aA,rW (c :: r) fun c=>sJ c||qE c]
    ·
     cases (c :: r).all fun c=>sJ c||qE c <;> rfl
    ·
     unfold aAB
     rw [dO,aY (by omega)]
    ·
     unfold aAB
     rw [dO,bB (by omega),iJ hi,aA,aJZ,aA,nV hi (by omega)]
     simp only [bZ,aM hi,eR]
     cases sJ (c :: r)[i] <;> cases qE (c :: r)[i] <;> rfl
   ·
    rfl
def aKD (c:UInt8):Bool:=decide (c.toNat<33)||decide (126<c.toNat)||decide (c.toNat=47)||decide (c.toNat=34)
def lJ (s:List UInt8):Bool:=decide (1≤s.length)&&decide (s.length≤64)&&s.all fun c=>!aKD c
theorem aS4 (c:UInt8):(cond (cond (cond (decide ((c.toNat:Int)<33)) true (decide ((126:Int)<(c.toNat:Int)))) true (decide ((c.toNat:Int)=47))) true (decide ((c.toNat:Int)=34)))=aKD c:=by
 unfold aKD
 rw [eF]
 by_cases h1:c.toNat<33
 ·
  have:(c.toNat:Int)<33:=by omega
  simp [h1,this]
 ·
  have e1:¬(c.toNat:Int)<33:=by omega
  by_cases h2:126<c.toNat
  ·
   have:(126:Int)<(c.toNat:Int):=by omega
   simp [h1,e1,h2,this]
  ·
   have e2:¬(126:Int)<(c.toNat:Int):=by omega
   simp [h1,e1,h2,e2]
   by_cases h3:(c.toNat:Int)=47 <;> simp [h3] <;> omega
theorem aMX {τ:Type}{s:List UInt8}{i:Nat} (hi:i<s.length) (a b:τ):(((mP s (i:Int)).bind fun (x6:UInt8)=>(gd ((decide (((x6).toNat:Int)<(33:Int)))==false) (mP s (i:Int))).bind fun (x8:UInt8)=>(gd ((cond (decide (((x6).toNat:Int)<(33:Int))) true (decide ((126:Int)<((x8).toNat:Int))))==false) (mP s (i:Int))).bind fun (x10:UInt8)=>(gd ((cond (cond (decide (((x6).toNat:Int)<(33:Int))) true (decide ((126:Int)<((x8).toNat:Int)))) true (decide (((x10).toNat:Int)=(47:Int))))==false) (mP s (i:Int))).bind fun (x12:UInt8)=>cond (cond (cond (cond (decide (((x6).toNat:Int)<(33:Int))) true (decide ((126:Int)<((x8).toNat:Int)))) true (decide (((x10).toNat:Int)=(47:Int)))) true (decide (((x12).toNat:Int)=(34:Int)))) (some a) (some b)):Option τ)=some (if !aKD s[i] then b else a):=by
 rw [iJ hi,aA]
 generalize s[i]=c
 rw [← aS4]
 by_cases h1:(c.toNat:Int)<33
 ·
  simp [h1,gd]
 ·
  by_cases h2:(126:Int)<(c.toNat:Int)
  ·
   have h2':¬(c.toNat:Int)≤126:=by omega
   simp [h1,h2,h2',gd]
  ·
   by_cases h3:(c.toNat:Int)=47
   ·
    simp [h1,h2,h3,gd]
   ·
    simp only [h1,h2,h3,dK,bP,eJ,gd,cL,aA]
    by_cases h4:(c.toNat:Int)=34 <;> simp [h4]
theorem aJB {s:List UInt8} (hs:s.length≤9223372036854775807):tU s=some (lJ s):=by
 unfold tU lJ
 rw [nZ s.length (fun i=>!aKD (s.getD i default)) false (fun i hi=>?_) ?_,aA,rW s fun c=>!aKD c]
 ·
  cases s.all fun c=>!aKD c
  ·
   simp [Fl.next]
  ·
   simp only [cL,Fl.next,nE,aA,jK]
   congr 1
   rw [eF]
   by_cases h:(1:Int)≤s.length <;> simp [h] <;> omega
 ·
  unfold yH
  rw [dO,aY (by omega)]
 ·
  unfold yH
  rw [dO,bB (by omega),aMX hi,nV hi hs]
  simp only [bZ,aM hi,eR]
theorem aIn {s:List UInt8}:vD s=some (lJ s):=by
 unfold vD lJ
 by_cases h0:s.length<1∨64<s.length
 ·
  have e:(cond (decide ((s.length:Int)<1)) true (decide ((64:Int)<(s.length:Int))))=true:=by simp;omega
  rw [e]
  have:(decide (1≤s.length)&&decide (s.length≤64))=false:=by simp;omega
  rw [this];rfl
 ·
  have e:(cond (decide ((s.length:Int)<1)) true (decide ((64:Int)<(s.length:Int))))=false:=by simp;omega
  have:(decide (1≤s.length)&&decide (s.length≤64))=true:=by simp;omega
  rw [e,this,bP]
  rw [nZ s.length (fun i=>!aKD (s.getD i default)) false (fun i hi=>?_) ?_,aA,rW s fun c=>!aKD c]
  ·
   cases s.all fun c=>!aKD c <;> rfl
  ·
   unfold aAD
   rw [dO,aY (by omega)]
  ·
   unfold aAD
   rw [dO,bB (by omega),aMX hi,nV hi (by omega)]
   simp only [bZ,aM hi,eR]
def inB (n l h:Int):Bool:=decide (l≤n)&&decide (n≤h)
theorem zD {n l h:Int}:nE n l h=some (inB n l h):=by unfold nE inB;rw [nB];by_cases h1:l≤n <;> simp [h1]
theorem aFS {n l h:Int}:uR n l h=some (inB n l h):=by unfold uR inB;rw [nB];by_cases h1:l≤n <;> simp [h1]
def aBr (a b:dR):Bool:=decide (a.Queue=b.Queue)&&decide (a.ToStart=b.ToStart)&&decide (a.ToClose=b.ToClose)&&decide (a.Total=b.Total)&&decide (a.Beat=b.Beat)&&decide (a.First=b.First)&&decide (a.Coef=b.Coef)&&decide (a.Most=b.Most)&&decide (a.Attempts=b.Attempts)&&decide (a.Fatal=b.Fatal)
theorem aCX {a b:dR} (h:iL a):nS a b=some (aBr a b):=by
 have hf:a.Fatal.length≤9223372036854775807:=h.2.2.2.2.2.2.2.2.2.1
 unfold nS aBr
 rw [aKb hf]
 simp only [qY,aA,aBQ]
 by_cases h1:a.ToStart=b.ToStart
 ·
  by_cases h2:a.ToClose=b.ToClose
  ·
   by_cases h3:a.Total=b.Total
   ·
    by_cases h4:a.Beat=b.Beat
    ·
     by_cases h5:a.First=b.First
     ·
      by_cases h6:a.Coef=b.Coef
      ·
       by_cases h7:a.Most=b.Most
       ·
        by_cases h8:a.Attempts=b.Attempts
        ·
         by_cases h9:a.Queue=b.Queue <;> simp [h1,h2,h3,h4,h5,h6,h7,h8,h9,gd]
        ·
         simp [h1,h2,h3,h4,h5,h6,h7,h8]
       ·
        simp [h1,h2,h3,h4,h5,h6,h7]
      ·
       simp [h1,h2,h3,h4,h5,h6]
     ·
      simp [h1,h2,h3,h4,h5]
    ·
     simp [h1,h2,h3,h4]
   ·
    simp [h1,h2,h3]
  ·
   simp [h1,h2]
 ·
  simp [h1]
theorem aSZ {a b:List (List UInt8)} (hlen:a.length=b.length):((List.range a.length).all fun i=>decide (a[i]?=b[i]?))=decide (a=b):=by
 rw [eF,cI]
 simp only [bU]
 constructor
 ·
  refine fun h6=>List.ext_getElem? fun i=>?_
  by_cases hi:i<a.length
  ·
   exact h6 i (fE.2 hi)
  ·
   rw [kP (by omega),kP (by omega)]
 ·
  intro e i _;rw [e]
theorem uU {a b:dR} (h:iL a):oA a b=some (aBr a b):=by
 have hf:a.Fatal.length≤9223372036854775807:=h.2.2.2.2.2.2.2.2.2.1
 unfold oA aBr
 have hl:(a.Fatal.length:Int)=b.Fatal.length→gL (rJ a b) (0:Int)=some (if decide (a.Fatal=b.Fatal) then .go () else .done false):=fun hlen=>by
  rw [nZ a.Fatal.length (fun i=>decide (a.Fatal[i]?=b.Fatal[i]?)) false (fun i hi=>?_) ?_]
  ·
   rw [aSZ (by omega)]
  ·
   unfold rJ
   rw [dO,aY (by omega)]
  ·
   unfold rJ
   have hb:i<b.Fatal.length:=by omega
   rw [dO,bB (by omega),iJ hi,aA,iJ hb,aA,aBQ,nV hi hf,aM hi,aM hb]
   simp only [dB,bU]
   split <;> rfl
 by_cases h0:(a.Fatal.length:Int)=b.Fatal.length
 ·
  rw [hl h0]
  by_cases h9:a.Fatal=b.Fatal
  ·
   simp only [h9,cG,cL,aA,Fl.next,cJ]
   cases decide (a.Queue=b.Queue) <;> cases decide (a.ToStart=b.ToStart) <;> cases decide (a.ToClose=b.ToClose) <;> cases decide (a.Total=b.Total) <;> cases decide (a.Beat=b.Beat) <;> first | rfl | (cases decide (a.First=b.First) <;> cases decide (a.Coef=b.Coef) <;> cases decide (a.Most=b.Most) <;> cases decide (a.Attempts=b.Attempts) <;> rfl)
  ·
   simp only [h9,h0,cG,dK,aA,Fl.next,Bool.and_false]
   simp
 ·
  have h9:a.Fatal≠b.Fatal:=fun e=>h0 (by rw [e])
  simp [h0,h9]
theorem aQO {ks:List (List UInt8)} (h:ks.length≤9223372036854775807):gI ks=some (ks.any oD):=by
 unfold gI iQ
 obtain ⟨x,h1,h2⟩:=aAY (body:=gK ks) ks oD (fun i hi=>by
  unfold gK
  rw [dO,bB (by omega),iJ hi,aA,sH,aA,nV hi h]
  show cond (oD ks[i]) _ _=_
  cases oD ks[i] <;> rfl) (by
  unfold gK
  rw [dO,aY (by omega)])
 rw [h1,aA,h2]
def six (o:dR):List Int:=[o.ToStart,o.ToClose,o.Total,o.Beat,o.First,o.Most]
def rZ (o:dR):Bool:=(decide (o.Queue=[])||nL o.Queue)&&decide (o.Fatal.length≤64)&&(six o).all (fun n=>inB n 0 1099511627776)&&inB o.Coef 0 10000&&inB o.Attempts 0 1000&&!o.Fatal.any oD
theorem aB0 {o:dR} (h:iL o):nD o=some (rZ o):=by
 have hf:o.Fatal.length≤9223372036854775807:=h.2.2.2.2.2.2.2.2.2.1
 unfold nD rZ
 rw [wJ,aQO hf]
 simp only [zD]
 rw [nZ (six o).length (fun i=>inB ((six o).getD i default) 0 1099511627776) false (fun i hi=>?_) ?_,aA,rW (six o) fun n=>inB n 0 1099511627776]
 ·
  by_cases h0:(64:Int)<o.Fatal.length
  ·
   have h1:¬o.Fatal.length≤64:=by omega
   by_cases hq:o.Queue=[] <;> cases nL o.Queue <;> simp [hq,h0,h1,gd]
  ·
   have h1:o.Fatal.length≤64:=by omega
   cases (six o).all fun n=>inB n 0 1099511627776
   ·
    by_cases hq:o.Queue=[] <;> cases nL o.Queue <;> simp [hq,h0,h1,gd,Fl.next]
   ·
    by_cases hq:o.Queue=[] <;> cases nL o.Queue <;> cases inB o.Coef 0 10000 <;> cases inB o.Attempts 0 1000 <;> simp [hq,h0,h1,gd,Fl.next]
 ·
  unfold rL
  rw [dO,aY (by unfold six;omega)]
 ·
  unfold rL
  have hi':i<[o.ToStart,o.ToClose,o.Total,o.Beat,o.First,o.Most].length:=hi
  rw [dO,bB (by omega),iJ hi',aA,zD,aA,nV hi (by unfold six;simp)]
  simp only [bZ,aM hi,eR]
  show cond (!inB (six o)[i] 0 1099511627776) _ _=_
  cases inB (six o)[i] 0 1099511627776 <;> rfl
theorem aCQ {o:dR} (h:iL o):qT o=some (rZ o):=by
 have hf:o.Fatal.length≤9223372036854775807:=h.2.2.2.2.2.2.2.2.2.1
 unfold qT rZ
 rw [wK]
 simp only [aFS]
 rw [nZ (six o).length (fun i=>inB ((six o).getD i default) 0 1099511627776) false (fun i hi=>?_) ?_,aA,rW (six o) fun n=>inB n 0 1099511627776]
 ·
  rw [nZ o.Fatal.length (fun i=>!oD (o.Fatal.getD i default)) false (fun i hi=>?_) ?_,aA,rW o.Fatal fun n=>!oD n,← aAi]
  ·
   have e:decide ((o.Fatal.length:Int)≤64)=decide (o.Fatal.length≤64):=by rw [eF];simp;omega
   rw [e]
   cases (six o).all fun n=>inB n 0 1099511627776
   ·
    simp [Fl.next]
   ·
    cases o.Fatal.any oD
    ·
     by_cases hq:o.Queue=[] <;> cases nL o.Queue <;> cases inB o.Coef 0 10000 <;> cases inB o.Attempts 0 1000 <;> simp [hq,gd,Fl.next]
    ·
     simp [Fl.next]
  ·
   unfold tO
   rw [dO,aY (by omega)]
  ·
   unfold tO
   rw [dO,bB (by omega),iJ hi,aA,nV hi hf]
   simp only [bZ,aM hi,eR]
   show cond (oD o.Fatal[i]) _ _=_
   cases oD o.Fatal[i] <;> rfl
 ·
  unfold tN
  rw [dO,aY (by unfold six;omega)]
 ·
  unfold tN
  have hi':i<[o.ToStart,o.ToClose,o.Total,o.Beat,o.First,o.Most].length:=hi
  rw [dO,bB (by omega),iJ hi',aA,aFS,aA,nV hi (by unfold six;simp)]
  simp only [bZ,aM hi,eR]
  show cond (!inB (six o)[i] 0 1099511627776) _ _=_
  cases inB (six o)[i] 0 1099511627776 <;> rfl
def pE (x:aK):Bool:=match x.Items with
 | [a,_]=>decide (x.Kind=4)&&decide (a.Kind=3)&&nL a.Text
 | _=>false
def aB9 (v:aK):Bool:=match v.Items with
 | [_,b]=>decide (v.Kind=4)&&decide (b.Kind=4)&&b.Items.all pE
 | _=>false
theorem aNn {α:Type}{l:List α} (h:l.length=2):∃ a b,l=[a,b]:=by
 match l,h with
 | [a,b],_=>exact ⟨a,b,rfl⟩
theorem aFb {x:aK} (h:¬x.Items.length=2):pE x=false:=by
 unfold pE
 split
 ·
  rename_i hx;exact absurd (by rw [hx];rfl) h
 ·
  rfl
theorem aGC {x:aK} (h:¬x.Items.length=2):aB9 x=false:=by
 unfold aB9
 split
 ·
  rename_i hx;exact absurd (by rw [hx];rfl) h
 ·
  rfl
theorem aA0 {x:aK}:(cond (!decide (x.Kind=4)) true (!decide ((x.Items.length:Int)=2)))=!(decide (x.Kind=4)&&decide (x.Items.length=2)):=by
 by_cases h1:x.Kind=4
 ·
  rw [eF];simp [h1];omega
 ·
  simp [h1]
theorem aQJ (x:aK):wA x=some (!pE x):=by
 unfold wA
 simp only [aA0,wJ]
 by_cases h2:x.Items.length=2
 ·
  obtain ⟨a,b,hab⟩:=aNn h2
  unfold pE
  rw [hab]
  have h0:mP [a,b] (0:Int)=some a:=rfl
  rw [h0]
  by_cases h1:x.Kind=4 <;> by_cases h3:a.Kind=3 <;> simp [h1,h3,gd]
 ·
  have:pE x=false:=aFb h2
  simp [this,h2,gd]
theorem aR0 {v:aK} (hv:dX v):zE v=some (aB9 v):=by
 obtain ⟨k0,k1,k2,k3,k4⟩:=(gF v).1 hv
 unfold zE
 simp only [aA0]
 by_cases h2:v.Items.length=2
 ·
  obtain ⟨a,b,hab⟩:=aNn h2
  obtain ⟨_,_,_,hb,_⟩:=(gF b).1 (k3.2.2 b (by rw [hab];simp))
  unfold aB9
  rw [hab]
  have h0:mP [a,b] (1:Int)=some b:=rfl
  have hC:gH b.Items=some (b.Items.any fun x=>!pE x):=by
   unfold gH iP
   obtain ⟨x,h1,h2⟩:=aAY (body:=gJ b.Items) b.Items (fun x=>!pE x) (fun i hi=>by
    unfold gJ
    rw [dO,bB (by omega),iJ hi,aA,aQJ,aA,nV hi hb.1]
    cases pE b.Items[i] <;> rfl) (by
    unfold gJ
    rw [dO,aY (by omega)])
   rw [h1,aA,h2]
  have hA:(!b.Items.any fun x=>!pE x)=b.Items.all pE:=by rw [aAi];simp
  rw [h0]
  by_cases h1:v.Kind=4 <;> by_cases h3:b.Kind=4
  ·
   simp only [h1,h3,fB,jO,cG,mQ,cJ,bP,eJ,gd,cL,aA,hC,hA,dW]
  ·
   simp [h1,h3,gd]
  ·
   simp [h1,h3,gd]
  ·
   simp [h1,h3,gd]
 ·
  have:aB9 v=false:=aGC h2
  simp [this,h2,gd]
theorem aNJ {v:aK} (hv:dX v):aBs v=some (aB9 v):=by
 obtain ⟨k0,k1,k2,k3,k4⟩:=(gF v).1 hv
 unfold aBs
 simp only [aA0]
 by_cases h2:v.Items.length=2
 ·
  obtain ⟨a,b,hab⟩:=aNn h2
  obtain ⟨_,_,_,hb,_⟩:=(gF b).1 (k3.2.2 b (by rw [hab];simp))
  have h0:mP v.Items (1:Int)=some b:=by rw [hab];rfl
  have hi2:aB9 v=(decide (v.Kind=4)&&decide (b.Kind=4)&&b.Items.all pE):=by unfold aB9;rw [hab]
  have hC:gL (xQ v) (0:Int)=some (if b.Items.all pE then .go () else .done false):=by
   rw [nZ b.Items.length (fun i=>pE (b.Items.getD i default)) false (fun i hi=>?_) ?_,rW b.Items pE]
   ·
    unfold xQ
    rw [h0,aA,dO,aY (by omega)]
   ·
    unfold xQ
    rw [h0,aA,dO,bB (by omega),aA,iJ hi,aA,nV hi hb.1]
    simp only [bZ,aM hi,eR,aA0,wK]
    generalize b.Items[i]=x
    by_cases h2:x.Items.length=2
    ·
     obtain ⟨c,d,hcd⟩:=aNn h2
     have hp:pE x=(decide (x.Kind=4)&&decide (c.Kind=3)&&nL c.Text):=by unfold pE;rw [hcd]
     have h0:mP x.Items (0:Int)=some c:=by rw [hcd];rfl
     rw [h0,hp,h2]
     by_cases h1:x.Kind=4 <;> by_cases h3:c.Kind=3
     ·
      simp only [h1,h3,cG,mQ,cJ,bP,eJ,gd,cL,aA,dW]
      cases nL c.Text <;> rfl
     ·
      simp [h1,h3,gd]
     ·
      simp [h1,h3,gd]
     ·
      simp [h1,h3,gd]
    ·
     have:pE x=false:=aFb h2
     simp [this,h2,gd]
  rw [h0,h2,hC,hi2]
  by_cases h1:v.Kind=4 <;> by_cases h3:b.Kind=4
  ·
   simp only [h1,h3,cG,mQ,cJ,bP,eJ,gd,cL,aA,dW]
   cases b.Items.all pE <;> rfl
  ·
   simp [h1,h3,gd]
  ·
   simp [h1,h3,gd]
  ·
   simp [h1,h3,gd]
 ·
  have:aB9 v=false:=aGC h2
  simp [this,h2,gd]

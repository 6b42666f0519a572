/- Plain laws: what the functions compute, with no program in sight. -/
import Derived.Test.YtnigjppddilpcaaGreatDoorGEPP0
import Derived.Test.YtnigjppddilpcaaGreatDoorGEF5
import Derived.Test.YtnigjppddilpcaaGreatDoorGEF11
import Derived.Test.YtnigjppddilpcaaGreatDoorGEF0
import Derived.Test.YtnigjppddilpcaaGreatDoorGEF7
import Derived.Test.YtnigjppddilpcaaGreatDoorGEF2
import Derived.Test.YtnigjppddilpcaaGreatDoorGEF9
import Derived.Test.YtnigjppddilpcaaGreatDoorGEF3
import Derived.Test.YtnigjppddilpcaaGreatDoorGEF6
namespace Go.Proofs.YtnigjppddilpcaaGreatDoor
open Go Abs
set_option linter.unusedSimpArgs false
set_option linter.unusedVariables false
def pF (k:List UInt8):Bool:=decide ((4096:Int)<(k.length:Int))
mutual
def shr:aF→Bool
 | ⟨_,_,t,l,ks⟩=>!pF t&&!ks.any pF&&aTc l
def aTc:List aF→Bool
 | []=>true
 | x :: l=>shr x&&aTc l
end
theorem aNb:∀ l,aTc l=l.all shr
 | []=>rfl
 | x :: l=>by simp [aTc,aNb l]
theorem aOz (v:aF):shr v=(!pF v.Text&&!v.Keys.any pF&&v.Items.all shr):=by cases v;simp [shr,aNb]
theorem zM {α:Type} (l:List α) (p:α→Bool):(!l.any p)=l.all fun x=>!p x:=by simp [List.not_any_eq_all_not]
theorem aRs {ks:List (List UInt8)} (h:ks.length≤9223372036854775807):iC ks=some (ks.any pF):=by
 unfold iC jX
 obtain ⟨x,h1,h2⟩:=aCO (body:=iD ks) ks pF (fun i hi=>by
  unfold iD
  rw [dF,aT (by omega),iT hi,aA,aA6,aA,pW hi h]
  show cond (pF ks[i]) _ _=_
  cases pF ks[i] <;> rfl) (by
  unfold iD
  rw [dF,aQ (by omega)])
 rw [h1,aA,h2]
theorem aQu:∀ (n:Nat) (v:aF),dS v→4*hgt v≤n→vQ n v=some (shr v):=by
 intro n
 induction n using Nat.strongRecOn with
 | _ n ih =>
  intro v hv hn
  have hh:=nQ v
  obtain ⟨m,rfl⟩:∃ m,n=m+4:=⟨n - 4,by omega⟩
  obtain ⟨k0,k1,k2,k3,k4⟩:=(fS v).1 hv
  have hC:fK (m+3) v.Items=some (v.Items.any fun x=>!shr x):=by
   rw [fK,gS]
   obtain ⟨x,h1,h2⟩:=aCO (body:=gM (vA (m+1)) v.Items) v.Items (fun x=>!shr x) (fun i hi=>by
    unfold gM
    rw [dF,aT (by omega),iT hi,aA,vA,ih m (by omega) _ (k3.2.2 _ (bZ hi)) (by have:=qC (bZ hi);omega),aA,aA,pW hi k3.1]
    cases shr v.Items[i] <;> rfl) (by
    unfold gM
    rw [dF,aQ (by omega)])
   rw [h1,aA,h2]
  rw [vQ,aRs k4.1,hC,aOz]
  by_cases h:(4096:Int)<v.Text.length
  ·
   simp [h,gd,pF]
  ·
   have hA:(!v.Items.any fun x=>!shr x)=v.Items.all shr:=by rw [zM];simp
   have ht:pF v.Text=false:=by simp [pF,h]
   simp only [h,ht,bP,fW,gd,bQ,aA,aZ,cH,cL,hA]
   cases v.Keys.any pF <;> rfl
theorem aJp {v:aF} (hv:dS v):aEz v=some (shr v):=zF (4*hgt v) fun n hn=>aQu n v hv hn
theorem aLv:∀ (n:Nat) (v:aF),dS v→hgt v≤n→vK n v=some (shr v):=by
 intro n
 induction n with
 | zero=>intro v hv hn;have:=nQ v;omega
 | succ n ih =>
  intro v hv hn
  have hh:=nQ v
  obtain ⟨k0,k1,k2,k3,k4⟩:=(fS v).1 hv
  rw [vK,aOz,dF]
  by_cases h:(4096:Int)<v.Text.length
  ·
   rw [aT h];simp [pF,h]
  ·
   rw [aQ h]
   rw [oC v.Keys.length (fun i=>!pF (v.Keys.getD i default)) false (fun i hi=>?_) ?_,aA,sD v.Keys fun k=>!pF k]
   ·
    rw [zM]
    have ht:pF v.Text=false:=by simp [pF,h]
    rw [ht]
    cases v.Keys.all fun x=>!pF x
    ·
     rfl
    ·
     simp only [bQ,Fl.next,cH,cL]
     rw [oC v.Items.length (fun i=>shr (v.Items.getD i default)) false (fun i hi=>?_) ?_,aA,sD v.Items shr]
     ·
      cases v.Items.all shr <;> rfl
     ·
      unfold aAr
      rw [dF,aQ (by omega)]
     ·
      unfold aAr
      rw [dF,aT (by omega),iT hi,aA,ih _ (k3.2.2 _ (bZ hi)) (by have:=qC (bZ hi);omega),aA,pW hi k3.1]
      simp only [cG,aK hi,eK]
      cases shr v.Items[i] <;> rfl
   ·
    unfold aAq
    rw [dF,aQ (by omega)]
   ·
    unfold aAq
    rw [dF,aT (by omega),iT hi,aA,pW hi k4.1]
    simp only [cG,aK hi,eK]
    show cond (pF v.Keys[i]) _ _=_
    cases pF v.Keys[i] <;> rfl
theorem aM2 {v:aF} (hv:dS v):aEm v=some (shr v):=zF (hgt v) fun n hn=>aLv n v hv hn
def wth (v:aF):Bool:=decide (dep v≤16)&&decide (siz v≤1000)&&shr v
theorem aHJ {v:aF} (hv:dS v):aAF v=some (wth v):=by
 unfold aAF wth
 rw [aJo hv,aA,aJ3 hv,aJp hv]
 by_cases h1:dep v≤16 <;> by_cases h2:siz v≤1000 <;> simp [h1,h2,gd]
theorem aLx {v:aF} (hv:dS v):aAs v=some (wth v):=by
 unfold aAs wth
 rw [aM2 hv,aA,aMY hv,aOs hv]
 cases h3:shr v
 ·
  simp [gd]
 ·
  by_cases h1:dep v≤16
  ·
   simp [h1,gd]
  ·
   simp [h1,gd]
def aHH (l:List (List UInt8)):Bool:=(List.range (l.length - 1)).all fun i=>Op.bytesLess (l.getD i []) (l.getD (i+1) [])
theorem aJe {l:List (List UInt8)}:aHH l=true↔∀ (i:Nat) (hi:i+1<l.length),Op.bytesLess (l[i]'(by omega)) l[i+1]=true:=by
 unfold aHH
 rw [cI]
 constructor
 ·
  intro h i hi
  have:=h i (eT.2 (by omega))
  rw [cG,cG,aK (by omega),aK hi] at this
  exact this
 ·
  intro h i hi
  have hi:=eT.1 hi
  rw [cG,cG,aK (by omega),aK (by omega)]
  exact h i (by omega)
theorem aM4 {l:List (List UInt8)}{body:Int→Option (dN Int (Fl Bool Unit))} (h:∀ (i:Nat) (h1:1≤i) (hi:i<l.length),body (i:Int)=some (if Op.bytesLess (l[i - 1]'(by omega)) l[i]=true then .next ((i+1:Nat):Int) else .out (.done false)))
  (hout:∀ i:Nat,l.length≤i→body (i:Int)=some (.out (.go ()))):fI body (1:Int)=some (if aHH l=true then .go () else .done false):=by
 have key:∃ x,fI body (1:Int)=some x∧x=if aHH l=true then .go () else .done false:=by
  refine aAj (fun s=>∃ i:Nat,s=(i:Int)∧1≤i∧∀ (k:Nat) (hk:k+1<l.length),k+1<i→Op.bytesLess (l[k]'(by omega)) l[k+1]=true) (fun s=>l.length - s.toNat) _ ?_ _ ⟨1,rfl,by omega,fun k hk hk2=>by omega⟩
  rintro s ⟨i,rfl,h1,hd⟩
  by_cases hlt:i<l.length
  ·
   rw [h i h1 hlt]
   by_cases hb:Op.bytesLess (l[i - 1]'(by omega)) l[i]=true
   ·
    rw [aT hb]
    refine .inl ⟨_,rfl,⟨i+1,rfl,by omega,fun k hk hk2=>?_⟩,by simp only [kD];omega⟩
    by_cases e:k+1=i
    ·
     subst e;exact hb
    ·
     exact hd k hk (by omega)
   ·
    rw [aQ hb]
    refine .inr ⟨_,rfl,?_⟩
    rw [aQ fun hr=>hb (by
     have:=aJe.1 hr (i - 1) (by omega)
     simp only [show i - 1+1=i by omega] at this
     exact this)]
  ·
   rw [hout i (by omega)]
   refine .inr ⟨_,rfl,?_⟩
   rw [aT (aJe.2 fun k hk=>hd k hk (by omega))]
 obtain ⟨x,hx,rfl⟩:=key
 exact hx
theorem aLt {l:List (List UInt8)} (h:l.length≤9223372036854775807):aAp l=some (aHH l):=by
 unfold aAp
 rw [aM4 (l:=l) (fun i h1 hi=>?_) (fun i hi=>?_),aA]
 ·
  cases aHH l <;> rfl
 ·
  unfold yZ
  rw [dF,aT (by omega),w64 (by omega) (by omega),show (i:Int) - 1=((i - 1:Nat):Int) by omega,iT (by omega),aA,iT hi,aA,pW hi h]
  cases Op.bytesLess (l[i - 1]'(by omega)) l[i] <;> rfl
 ·
  unfold yZ
  rw [dF,aQ (by omega)]
theorem aK7 {l:List (List UInt8)} (h:l.length≤9223372036854775807):wD l=some (aHH l):=by
 unfold wD
 rw [aM4 (l:=l) (fun i h1 hi=>?_) (fun i hi=>?_),aA]
 ·
  cases aHH l <;> rfl
 ·
  unfold vP
  rw [dF,aT (by omega),w64 (by omega) (by omega),show (i:Int) - 1=((i - 1:Nat):Int) by omega,iT (by omega),aA,iT hi,aA,pW hi h]
  cases Op.bytesLess (l[i - 1]'(by omega)) l[i] <;> rfl
 ·
  unfold vP
  rw [dF,aQ (by omega)]
def aDe (o:Bool) (v:aF):Bool :=
 if v.Kind=0 then decide (v.Int=0)&&decide (v.Text=[])&&decide (v.Items.length=0)&&decide (v.Keys.length=0)
 else if v.Kind=1 then (decide (v.Int=0)||decide (v.Int=1))&&decide (v.Text=[])&&decide (v.Items.length=0)&&decide (v.Keys.length=0)
 else if v.Kind=2 then decide (v.Text=[])&&decide (v.Items.length=0)&&decide (v.Keys.length=0)
 else if v.Kind=6 then o&&decide (0≤v.Int)&&decide (v.Text=[])&&decide (v.Items.length=0)&&decide (v.Keys.length=0)
 else if v.Kind=3 then decide (v.Int=0)&&decide (v.Items.length=0)&&decide (v.Keys.length=0)
 else if v.Kind=4 then decide (v.Int=0)&&decide (v.Text=[])&&decide (v.Keys.length=0)
 else if v.Kind=5 then decide (v.Int=0)&&decide (v.Text=[])&&decide (v.Keys.length=v.Items.length)&&aHH v.Keys
 else false
mutual
def fmd (o:Bool):aF→Bool
 | ⟨k,i,t,l,ks⟩=>aDe o ⟨k,i,t,l,ks⟩&&aRd o l
def aRd (o:Bool):List aF→Bool
 | []=>true
 | x :: l=>fmd o x&&aRd o l
end
mutual
def fut:aF→Bool
 | ⟨k,_,_,l,_⟩=>decide (k=6)||aRg l
def aRg:List aF→Bool
 | []=>false
 | x :: l=>fut x||aRg l
end
theorem aMn (o:Bool):∀ l,aRd o l=l.all (fmd o)
 | []=>by simp [aRd]
 | x :: l=>by simp [aRd,aMn o l]
theorem aMo:∀ l,aRg l=l.any fut
 | []=>by simp [aRg]
 | x :: l=>by simp [aRg,aMo l]
theorem aFs (o:Bool) (v:aF):fmd o v=(aDe o v&&v.Items.all (fmd o)):=by cases v;simp only [fmd,aMn]
theorem aRf (v:aF):fut v=(decide (v.Kind=6)||v.Items.any fut):=by cases v;simp only [fut,aMo]
theorem aUi (v:aF):aDe false v=(aDe true v&&!decide (v.Kind=6)):=by
 unfold aDe
 by_cases h0:v.Kind=0
 ·
  simp [h0]
 ·
  by_cases h1:v.Kind=1
  ·
   simp [h1]
  ·
   by_cases h2:v.Kind=2
   ·
    simp [h2]
   ·
    by_cases h6:v.Kind=6
    ·
     simp [h6]
    ·
     simp [h0,h1,h2,h6]
theorem aRc:∀ (n:Nat) (v:aF),hgt v≤n→fmd false v=(fmd true v&&!fut v):=by
 intro n
 induction n with
 | zero=>intro v h;have:=nQ v;omega
 | succ n ih =>
  intro v h
  have hall:v.Items.all (fmd false)=(v.Items.all (fmd true)&&!v.Items.any fut):=by
   have key:∀ l:List aF,(∀ x∈l,fmd false x=(fmd true x&&!fut x))→l.all (fmd false)=(l.all (fmd true)&&!l.any fut):=by
    intro l
    induction l with
    | nil=>intro _;rfl
    | cons x l ihl =>
     intro hx
     simp only [List.all_cons,List.any_cons]
     rw [ihl fun y hy=>hx y (by simp [hy]),hx x (by simp)]
     cases fmd true x <;> cases fut x <;> cases l.all (fmd true) <;> cases l.any fut <;> rfl
   exact key v.Items fun x hx=>ih x (by have:=aOb hx;omega)
  rw [aFs,aFs,aRf,aUi,hall]
  cases aDe true v <;> cases decide (v.Kind=6) <;> cases v.Items.all (fmd true) <;> cases v.Items.any fut <;> rfl
theorem aP9 {α:Type} (l:List α):decide ((0:Int)<(l.length:Int))=!decide (l.length=0):=by cases l <;> simp <;> omega
theorem aQa {α:Type} (l:List α):decide ((l.length:Int)=0)=decide (l.length=0):=by rw [eZ];simp
theorem aVD {α β:Type} (l:List α) (m:List β):decide ((l.length:Int)=m.length)=decide (l.length=m.length):=by rw [eZ];simp;omega
theorem aN9:∀ (n:Nat) (v:aF) (o:Bool),dS v→4*hgt v≤n→uB n v o=some (fmd o v):=by
 intro n
 induction n using Nat.strongRecOn with
 | _ n ih =>
  intro v o hv hn
  have hh:=nQ v
  obtain ⟨m,rfl⟩:∃ m,n=m+4:=⟨n - 4,by omega⟩
  obtain ⟨k0,k1,k2,k3,k4⟩:=(fS v).1 hv
  have hC:fF (m+3) v.Items o=some (v.Items.any fun x=>!fmd o x):=by
   rw [fF,gO]
   obtain ⟨x,h1,h2⟩:=aCO (body:=gJ (tG (m+1)) v.Items o) v.Items (fun x=>!fmd o x) (fun i hi=>by
    unfold gJ
    rw [dF,aT (by omega),iT hi,aA,tG,ih m (by omega) _ _ (k3.2.2 _ (bZ hi)) (by have:=qC (bZ hi);omega),aA,aA,pW hi k3.1]
    cases fmd o v.Items[i] <;> rfl) (by
    unfold gJ
    rw [dF,aQ (by omega)])
   rw [h1,aA,h2]
  have hA:(!v.Items.any fun x=>!fmd o x)=v.Items.all (fmd o):=by rw [zM];simp
  have hE:∀ b:Bool,(b=true→v.Items.length=0)→b=(b&&v.Items.all (fmd o)):=fun b hb=>by
   cases b
   ·
    rfl
   ·
    have:v.Items=[]:=eY (hb rfl)
    rw [this];rfl
  rw [uB,aK7 k4.1,hC,aFs]
  unfold aDe
  by_cases h0:v.Kind=0
  ·
   simp only [h0,Int.reduceEq,bQ,cD,bC,bP,bS,aZ,aA,Fl.next,aP9]
   rw [← hE _ (by simp only [aY,cB];rintro ⟨⟨_,h⟩,_⟩;exact h)]
   cases decide (v.Int=0) <;> cases decide (v.Text=[]) <;> cases decide (v.Items.length=0) <;> cases decide (v.Keys.length=0) <;> rfl
  by_cases h1:v.Kind=1
  ·
   simp only [h1,Int.reduceEq,bQ,cD,bC,bP,bS,aZ,aA,Fl.next,aP9]
   rw [← hE _ (by simp only [aY,cB];rintro ⟨⟨_,h⟩,_⟩;exact h)]
   cases decide (v.Int=0) <;> cases decide (v.Int=1) <;> cases decide (v.Text=[]) <;> cases decide (v.Items.length=0) <;> cases decide (v.Keys.length=0) <;> rfl
  by_cases h2:v.Kind=2
  ·
   simp only [h2,Int.reduceEq,bQ,cD,bC,bP,bS,aZ,aA,Fl.next,aP9]
   rw [← hE _ (by simp only [aY,cB];rintro ⟨⟨_,h⟩,_⟩;exact h)]
   cases decide (v.Text=[]) <;> cases decide (v.Items.length=0) <;> cases decide (v.Keys.length=0) <;> rfl
  by_cases h6:v.Kind=6
  ·
   simp only [h6,Int.reduceEq,bQ,cD,bC,bP,bS,aZ,aA,Fl.next,aP9]
   rw [← hE _ (by simp only [aY,cB];rintro ⟨⟨_,h⟩,_⟩;exact h)]
   cases o <;> cases decide (0≤v.Int) <;> cases decide (v.Text=[]) <;> cases decide (v.Items.length=0) <;> cases decide (v.Keys.length=0) <;> rfl
  by_cases h3:v.Kind=3
  ·
   simp only [h3,Int.reduceEq,bQ,cD,bC,bP,bS,aZ,aA,Fl.next,aP9]
   rw [← hE _ (by simp only [aY,cB];rintro ⟨⟨_,h⟩,_⟩;exact h)]
   cases decide (v.Int=0) <;> cases decide (v.Items.length=0) <;> cases decide (v.Keys.length=0) <;> rfl
  by_cases h4:v.Kind=4
  ·
   simp only [h4,Int.reduceEq,bQ,cD,bC,bP,bS,aZ,aP9]
   cases decide (v.Int=0) <;> cases decide (v.Text=[]) <;> cases decide (v.Keys.length=0) <;> simp [hA,Fl.next]
  by_cases h5:v.Kind=5
  ·
   simp only [h5,Int.reduceEq,bQ,cD,bC,bP,bS,aZ,aVD]
   cases decide (v.Int=0) <;> cases decide (v.Text=[]) <;> cases decide (v.Keys.length=v.Items.length) <;> cases aHH v.Keys <;> simp [hA,Fl.next,gd]
  simp only [h0,h1,h2,h3,h4,h5,h6,cD,bP,aZ,aA,Fl.next,Bool.false_and]
theorem aDW {v:aF}{o:Bool} (hv:dS v):aBI v o=some (fmd o v):=zF (4*hgt v) fun n hn=>aN9 n v o hv hn
theorem aQL:∀ (n:Nat) (v:aF),dS v→hgt v≤n→oY n v=some (fmd true v):=by
 intro n
 induction n with
 | zero=>intro v hv hn;have:=nQ v;omega
 | succ n ih =>
  intro v hv hn
  have hh:=nQ v
  obtain ⟨k0,k1,k2,k3,k4⟩:=(fS v).1 hv
  rw [oY,aLt k4.1,aFs]
  rw [oC v.Items.length (fun i=>fmd true (v.Items.getD i default)) false (fun i hi=>?_) ?_,aA,sD v.Items (fmd true)]
  ·
   cases v.Items.all (fmd true)
   ·
    simp [Fl.next]
   ·
    simp only [bQ,Fl.next,dG]
    unfold aDe
    by_cases h0:v.Kind=0
    ·
     simp only [h0,Int.reduceEq,bQ,cD,bC,bP,bS,aZ,aQa]
     cases decide (v.Int=0) <;> cases decide (v.Text=[]) <;> cases decide (v.Items.length=0) <;> cases decide (v.Keys.length=0) <;> rfl
    by_cases h1:v.Kind=1
    ·
     simp only [h1,Int.reduceEq,bQ,cD,bC,bP,bS,aZ,aQa]
     cases decide (v.Int=0) <;> cases decide (v.Int=1) <;> cases decide (v.Text=[]) <;> cases decide (v.Items.length=0) <;> cases decide (v.Keys.length=0) <;> rfl
    by_cases h2:v.Kind=2
    ·
     simp only [h2,Int.reduceEq,bQ,cD,bC,bP,bS,aZ,aQa]
     cases decide (v.Text=[]) <;> cases decide (v.Items.length=0) <;> cases decide (v.Keys.length=0) <;> rfl
    by_cases h6:v.Kind=6
    ·
     simp only [h6,Int.reduceEq,bQ,cD,bC,bP,bS,aZ,aQa]
     cases decide (0≤v.Int) <;> cases decide (v.Text=[]) <;> cases decide (v.Items.length=0) <;> cases decide (v.Keys.length=0) <;> rfl
    by_cases h3:v.Kind=3
    ·
     simp only [h3,Int.reduceEq,bQ,cD,bC,bP,bS,aZ,aQa]
     cases decide (v.Int=0) <;> cases decide (v.Items.length=0) <;> cases decide (v.Keys.length=0) <;> rfl
    by_cases h4:v.Kind=4
    ·
     simp only [h4,Int.reduceEq,bQ,cD,bC,bP,bS,aZ,aQa]
     cases decide (v.Int=0) <;> cases decide (v.Text=[]) <;> cases decide (v.Keys.length=0) <;> rfl
    by_cases h5:v.Kind=5
    ·
     simp only [h5,Int.reduceEq,bQ,cD,bC,bP,bS,aZ,aVD]
     cases decide (v.Int=0) <;> cases decide (v.Text=[]) <;> cases decide (v.Keys.length=v.Items.length) <;> cases aHH v.Keys <;> rfl
    simp only [h0,h1,h2,h3,h4,h5,h6,cD,bP,aZ]
  ·
   unfold uK
   rw [dF,aQ (by omega)]
  ·
   unfold uK
   rw [dF,aT (by omega),iT hi,aA,ih _ (k3.2.2 _ (bZ hi)) (by have:=qC (bZ hi);omega),aA,pW hi k3.1]
   simp only [cG,aK hi,eK]
   cases fmd true v.Items[i] <;> rfl
theorem aCX {v:aF} (hv:dS v):xX v=some (fmd true v):=zF (hgt v) fun n hn=>aQL n v hv hn
theorem aR8:∀ (n:Nat) (v:aF),dS v→hgt v≤n→tZ n v=some (fut v):=by
 intro n
 induction n with
 | zero=>intro v hv hn;have:=nQ v;omega
 | succ n ih =>
  intro v hv hn
  have hh:=nQ v
  obtain ⟨k0,k1,k2,k3,k4⟩:=(fS v).1 hv
  rw [tZ,aRf]
  rw [oC v.Items.length (fun i=>!fut (v.Items.getD i default)) true (fun i hi=>?_) ?_,aA,sD v.Items fun x=>!fut x,← zM]
  ·
   cases v.Items.any fut
   ·
    simp only [cH,bQ,Fl.next,dW]
   ·
    simp [Fl.next]
  ·
   unfold yY
   rw [dF,aQ (by omega)]
  ·
   unfold yY
   rw [dF,aT (by omega),iT hi,aA,ih _ (k3.2.2 _ (bZ hi)) (by have:=qC (bZ hi);omega),aA,pW hi k3.1]
   simp only [cG,aK hi,eK]
   cases fut v.Items[i] <;> rfl
theorem aLr {v:aF} (hv:dS v):aDu v=some (fut v):=zF (hgt v) fun n hn=>aR8 n v hv hn
noncomputable def dX (v:aF):Bool:=wth v&&fmd false v
theorem aEy {v:aF} (hv:dS v):zS v=some (dX v):=by
 unfold zS dX
 rw [aHJ hv,aA,aDW hv]
 cases wth v <;> simp [gd]
theorem aCy {v:aF} (hv:dS v):xI v=some (dX v):=by
 unfold xI dX
 rw [aCX hv,aA,aLx hv,aLr hv,aRc (hgt v) v (fB _)]
 cases wth v <;> cases fmd true v <;> cases fut v <;> rfl
theorem aHm {e:Int}{r:aM}{w:aV} (c:Bool) (k k2:Int) (h:lT e r w):∃ r' w',jY c k r=some (decide (eIf c e=0),r')∧gL c k2 w=some w'∧lT (eIf c e) r' w':=by
 obtain ⟨h1,h2⟩:=sM h
 unfold jY gL
 rw [h1]
 by_cases hc:c=true
 ·
  have he:eIf c e=e:=by unfold eIf;by_cases h:e=0 <;> simp [h,hc]
  rw [he]
  refine ⟨r,w,?_,by simp [hc],h⟩
  simp [hc,h1]
 ·
  have hc:c=false:=by simpa using hc
  obtain ⟨r',w',h3,h4,h5⟩:=aLk 3 h
  have he:eIf c e=if e=0 then 3 else e:=by unfold eIf;simp [hc]
  rw [he]
  by_cases h0:e=0
  ·
   refine ⟨r',w',?_,by simp [hc,h4],h5⟩
   simp [hc,h0,h3,(sM h5).1]
  ·
   refine ⟨r,w',?_,by simp [hc,h4],?_⟩
   ·
    simp [hc,h0,h1]
   ·
    -- the reader that has failed stays
    obtain ⟨b,a,hb,ha,rfl,rfl⟩:=h
    rw [aHY] at h3
    simp only [h0,cD] at h3 h5 ⊢
    rw [eU h3];exact h5
theorem aCk {e:Int}{r:aM}{w:aV} (k:Int) (h:lT e r w):nD k w=some (decide (e=0)):=by
 unfold nD
 rw [(sM h).2];rfl
theorem aLl {e:Int}{r:aM}{w:aV} (k:Int) (h:lT e r w):∃ x e' r' w',eC (-9223372036854775808) 9223372036854775807 r=some (x,r')∧lW k w=some (x,w')∧lT e' r' w'∧tN x∧(e≠0→x=0∧e'=e)∧(e'=0→e=0):=by
 obtain ⟨x,e',r',w',h1,h2,h3,h4,h5,h6⟩:=aBW (-9223372036854775808) 9223372036854775807 h
 exact ⟨x,e',r',w',h1,by unfold lW;rw [h2];rfl,h3,h4,h5,h6⟩
theorem aMv {e:Int}{r:aM}{w:aV} (k:Int) (h:lT e r w):∃ x e' r' w',hG 9223372036854775807 r=some (x,r')∧lT e' r' w'∧x.length≤1000000000∧(e≠0→x=[]∧e'=e)∧(e'=0→e=0) ∧
  ∃ w'',pT k w=some (x,w'')∧gL (decide ((x.length:Int)≤4096)) k w'=some w'':=by
 obtain ⟨x,e',r',w',h1,h2,h3,h4,h5,h6⟩:=aF8 9223372036854775807 h
 obtain ⟨r2,w2,g1,g2,g3⟩:=aHm (decide ((x.length:Int)≤4096)) k k h3
 refine ⟨x,e',r',w',h1,h3,h4,h5,h6,w2,?_,g2⟩
 unfold pT
 rw [h2,aA]
 simp only
 rw [g2,aA]
theorem lT.trans_w {e:Int}{r r2:aM}{w w2:aV} (h:lT e r w) (h2:lT e r2 w2) (he:e≠0):lT e r w2:=by
 obtain ⟨b,a,hb,ha,rfl,rfl⟩:=h
 obtain ⟨b2,a2,hb2,ha2,rfl,rfl⟩:=h2
 exact ⟨b,a,hb,ha,rfl,by simp [he]⟩
theorem aPX {e:Int}{r:aM}{w w1:aV} (c1 c2:Bool) (k:Int) (h:lT e r w) (h1:gL c1 k w=some w1):gL c2 k w1=gL (c1&&c2) k w:=by
 obtain ⟨b,a,hb,ha,rfl,rfl⟩:=h
 unfold gL lR gU mO at *
 by_cases he:e=0
 ·
  cases c1 <;> cases c2 <;> simp [he] at h1 ⊢ <;> subst h1 <;> simp
 ·
  cases c1 <;> cases c2 <;> simp [he] at h1 ⊢ <;> subst h1 <;> simp [he]
def zV:aF:=⟨0,0,[],[],[]⟩
theorem aMM:dS zV:=by
 refine (fS _).2 ⟨?_,?_,?_,?_,?_⟩ <;> simp [zV,tN,okS,zU]
theorem aGb {k i:Int}{t:List UInt8} (hk:tN k) (hi:tN i) (ht:t.length≤1000000000):dS ⟨k,i,t,[],[]⟩ :=
 (fS _).2 ⟨hk,hi,by simp only [okS];omega,by simp [zU],by simp [zU]⟩
def aTY (A:Option (aF × Int × aM)) (B:Option (aF × Int × aV)) (e:Int):Prop :=
 ∃ v k v' k' e' r' w',A=some (v,k,r')∧B=some (v',k',w')∧lT e' r' w'∧dS v'∧(e'=0→v=v'∧k=k')∧(e≠0→e'=e)
theorem aOc {n:Nat}{kd d:Int} (hk:tN kd)
  (ih:∀ (k:Int) (r:aM) (w:aV),lT 0 r w→aTY (eE n (IntKind.i64.wrap (d+1)) k r) (eW n (IntKind.i64.wrap (d+1)) k w) 0)
  (k:Int) (r:aM) (w:aV) (h:lT 0 r w):aTY (gV (n+1) kd 0 [] d k r) (jO (n+1) kd 0 [] d k w) 0:=by
 rw [gV,jO]
 obtain ⟨x,e1,r1,w1,h1,h2,h3,h4,h5,h6⟩:=aLl k h
 rw [h1,h2]
 simp only [aA]
 obtain ⟨r2,w2,g1,g2,g3⟩:=aHm (cond (decide ((0:Int)≤x)) (decide (x≤(1000:Int))) false) k k h3
 rw [g1,g2]
 simp only [aA]
 generalize hE:eIf (cond (decide ((0:Int)≤x)) (decide (x≤(1000:Int))) false) e1=E at g1 g3
 have hno:∀ (e:Int) (r:aM) (w:aV) (i k:Int) (vs:List aF) (ks:List (List UInt8)),e≠0→lT e r w→fI (gC (eW n) (x,w1) kd d) (i,k,w,vs,ks)=some (k,w,vs,ks):=by
  intro e r w i k vs ks he hl
  refine xG ?_
  unfold gC
  simp only
  by_cases hi:i<x
  ·
   rw [dF,aT hi,aCk k hl];simp [he,Fl.next]
  ·
   rw [dF,aQ hi];simp [Fl.next]
 by_cases hE0:E=0
 ·
  -- the number is good
  have hx:0≤x∧x≤1000:=by
   rw [hE0] at hE
   have:=(aQ5.1 hE).2
   by_cases h0:0≤x
   ·
    simp [h0] at this;exact ⟨h0,this⟩
   ·
    simp [h0] at this
  obtain ⟨m,rfl⟩:∃ m:Nat,x=(m:Int):=⟨x.toNat,by omega⟩
  rw [hE0] at g3
  simp only [hE0,bC,bE,aZ]
  let Q:Fl (aF × Int × aM) (Int × aM × List aF × List (List UInt8))→(Int × aV × List aF × List (List UInt8))→Prop:=fun a b =>
   (∃ (k:Int) (vs:List aF) (ks:List (List UInt8)) (r:aM) (w:aV),a=.go (k,r,vs,ks)∧b=(k,w,vs,ks)∧lT 0 r w∧dS ⟨kd,0,[],vs,ks⟩) ∨
   (∃ (v:aF) (k k':Int) (vs:List aF) (ks:List (List UInt8)) (r:aM) (w:aV) (e:Int),a=.done (v,k,r)∧b=(k',w,vs,ks)∧lT e r w∧e≠0∧dS ⟨kd,0,[],vs,ks⟩)
  let R:(Int × Int × aM × List aF × List (List UInt8))→(Int × Int × aV × List aF × List (List UInt8))→Prop:=fun s t =>
   ∃ (i:Nat) (k:Int) (vs:List aF) (ks:List (List UInt8)) (r:aM) (w:aV),s=((i:Int),k,r,vs,ks)∧t=((i:Int),k,w,vs,ks)∧lT 0 r w∧i≤m∧vs.length=i∧(ks.length=if kd=5 then i else 0)∧(∀ v∈vs,dS v)∧∀ s∈ks,s.length≤1000000000
  have hok:∀ (vs:List aF) (ks:List (List UInt8)),vs.length≤1000→ks.length≤1001→(∀ v∈vs,dS v)→(∀ s∈ks,s.length≤1000000000)→dS ⟨kd,0,[],vs,ks⟩:=fun vs ks a1 a2 a3 a4 =>
   (fS _).2 ⟨hk,by simp [tN],by simp [okS],⟨by simp only;omega,by simp only;omega,a3⟩,⟨by simp only;omega,by simp only;omega,fun s hs=>by have:=a4 s hs;simp only [okS];omega⟩⟩
  obtain ⟨X,Y,l1,l2,l3⟩:=aIN (b1:=fD (eE n) ((m:Int),r1) kd d) (b2:=gC (eW n) ((m:Int),w1) kd d) R (fun s=>m - s.1.toNat) Q (by
   rintro s t ⟨i,k,vs,ks,r,w,rfl,rfl,hl,hi,hvs,hks,ov,ok⟩
   have hkl:ks.length≤1000:=by rw [hks];split <;> omega
   by_cases hlt:i<m
   ·
    by_cases h5k:kd=5
    ·
     obtain ⟨x,e3,r3,w3,a1,a2,a3,a4,a5,w4,a6,a7⟩:=aMv k hl
     have hprev:(gd ((decide (((x).length:Int)≤(4096:Int)))==true&&((decide ((i:Int)=(0:Int)))==false)) (lO ks (IntKind.wrap .i64 ((i:Int) - (1:Int)))))=some (if x.length≤4096∧i≠0 then ks.getD (i - 1) [] else []):=by
      by_cases hx:x.length≤4096
      ·
       by_cases hi0:i=0
       ·
        subst hi0;simp [gd,hx];rfl
       ·
        have e:IntKind.i64.wrap ((i:Int) - 1)=((i - 1:Nat):Int):=by rw [w64 (by omega) (by omega)];omega
        have hik:i - 1<ks.length:=by rw [hks,aT h5k];omega
        rw [e,iT hik]
        have c1:decide ((x.length:Int)≤4096)=true:=by simp;omega
        have c2:decide ((i:Int)=0)=false:=by simp;omega
        rw [c1,c2]
        simp [gd,hx,hi0,hik]
      ·
       have c1:decide ((x.length:Int)≤4096)=false:=by simp;omega
       rw [c1];simp [gd,hx];rfl
     have hp2:∀ l:List (List UInt8),l=ks++[x]→(gd ((decide ((i:Int)=(0:Int)))==false) (lO l (IntKind.wrap .i64 ((i:Int) - (1:Int)))))=some (if i≠0 then ks.getD (i - 1) [] else [])∧(gd ((decide ((i:Int)=(0:Int)))==false) (lO l (i:Int)))=some (if i≠0 then x else []):=by
      rintro l rfl
      by_cases hi0:i=0
      ·
       subst hi0;constructor <;> (simp [gd];rfl)
      ·
       have e:IntKind.i64.wrap ((i:Int) - 1)=((i - 1:Nat):Int):=by rw [w64 (by omega) (by omega)];omega
       have hkl2:ks.length=i:=by rw [hks,aT h5k]
       have hik:i - 1<ks.length:=by omega
       have c2:decide ((i:Int)=0)=false:=by simp;omega
       rw [e,iT (l:=ks++[x]) (by simp;omega),iT (l:=ks++[x]) (i:=i) (by simp;omega),c2]
       constructor
       ·
        simp [gd,hi0,List.getElem_append_left hik]
        rw [aK hik];rfl
       ·
        simp [gd,hi0,hkl2]
     obtain ⟨p1,p2⟩:=hp2 _ rfl
     generalize hprevv:(if x.length≤4096∧i≠0 then ks.getD (i - 1) [] else [])=pv at hprev
     generalize hC:(cond (decide (((x).length:Int)≤(4096:Int))) (cond (decide ((i:Int)=(0:Int))) true (!(Op.bytesLess x pv||decide (x=pv)))) false)=C
     have hC2:(decide ((x.length:Int)≤4096)&&cond (decide ((i:Int)=0)) true (Op.bytesLess (if i≠0 then ks.getD (i - 1) [] else []) (if i≠0 then x else [])))=C:=by
      rw [← hC,← hprevv,aIo]
      by_cases hx:x.length≤4096
      ·
       have c1:decide ((x.length:Int)≤4096)=true:=by simp;omega
       rw [c1]
       by_cases hi0:i=0
       ·
        subst hi0;simp
       ·
        have c2:decide ((i:Int)=0)=false:=by simp;omega
        rw [c2];simp [hx,hi0]
      ·
       have c1:decide ((x.length:Int)≤4096)=false:=by simp;omega
       rw [c1];rfl
     obtain ⟨r5,w5,s1,s2,s3⟩:=aHm C k k a2
     have s4:gL (cond (decide ((i:Int)=0)) true (Op.bytesLess (if i≠0 then ks.getD (i - 1) [] else []) (if i≠0 then x else []))) k w4=some w5:=by rw [aPX _ _ k a2 a7,hC2,s2]
     have hkl5:(ks++[x]).length=i+1:=by rw [aW,hks,aT h5k];rfl
     have okks:∀ s∈ks++[x],s.length≤1000000000:=by
      intro s hs
      rcases fA.1 hs with hs | hs
      ·
       exact ok s hs
      ·
       rw [jZ.1 hs];exact a3
     have hL:fD (eE n) ((m:Int),r1) kd d ((i:Int),k,r,vs,ks)=cond (!decide (eIf C e3=0)) (some (dN.out (Fl.done (zV,k,r5)))) (((eE n) (IntKind.i64.wrap (d+1)) k r5).bind fun x30=>(gP x30.2.2).bind fun x32=>cond (!decide (x32=(0:Int))) (some (dN.out (Fl.done (zV,x30.2.1,x30.2.2)))) ((app 80 vs [x30.1]).bind fun x38=>some (dN.next ((IntKind.i64.wrap ((i:Int)+1)),x30.2.1,x30.2.2,x38,ks++[x])))):=by
      unfold fD
      simp only
      rw [dF,aT (by omega)]
      simp only [h5k,bC,bS]
      rw [a1]
      simp only [aA]
      rw [hprev]
      simp only [aA]
      rw [hC,s1,oQ (by simp;omega)]
      by_cases hz:eIf C e3=0
      ·
       simp [hz,Fl.next,zV]
      ·
       simp [hz,Fl.next,zV]
     have hR:gC (eW n) ((m:Int),w1) kd d ((i:Int),k,w,vs,ks)=cond (decide (eIf C e3=0)) (((eW n) (IntKind.i64.wrap (d+1)) k w5).bind fun x39=>(app 80 vs [x39.1]).bind fun x41=>some (dN.next ((IntKind.i64.wrap ((i:Int)+1)),x39.2.1,x39.2.2,x41,ks++[x]))) (some (dN.next ((IntKind.i64.wrap ((i:Int)+1)),k,w5,vs,ks++[x]))):=by
      unfold gC
      simp only
      rw [dF,aT (by omega),aCk k hl]
      simp only [bC,aA,bS,Fl.next,h5k]
      rw [a6]
      simp only [aA]
      rw [oQ (by simp;omega)]
      simp only [aA]
      rw [p1,p2]
      simp only [aA]
      rw [s4]
      simp only [aA]
      rw [aCk k s3]
      rfl
     rw [hL]
     by_cases hz:eIf C e3=0
     ·
      rw [hz] at s3
      obtain ⟨v,k1,v',k1',e',r',w',b1,b2,b3,b4,b5,b6⟩:=ih k r5 w5 s3
      have hi1:IntKind.i64.wrap ((i:Int)+1)=((i+1:Nat):Int):=by rw [w64 (by omega) (by omega)];omega
      have hR2:gC (eW n) ((m:Int),w1) kd d ((i:Int),k,w,vs,ks)=some (dN.next (((i+1:Nat):Int),k1',w',vs++[v'],ks++[x])):=by
       rw [hR,hz]
       simp only [bC,bS]
       rw [b2,aA,oQ (by simp;omega),aA,hi1]
      rw [hz,b1]
      simp only [bC,bE,aZ,aA]
      rw [(sM b3).1,oQ (by simp;omega),hi1]
      simp only [aA]
      have okvs:∀ y∈vs++[v'],dS y:=by
       intro y hy
       rcases fA.1 hy with hy | hy
       ·
        exact ov y hy
       ·
        rw [jZ.1 hy];exact b4
      by_cases he:e'=0
      ·
       obtain ⟨rfl,rfl⟩:=b5 he
       subst he
       exact .inl ⟨_,_,rfl,hR2,⟨i+1,k1,vs++[v],ks++[x],r',w',rfl,rfl,b3,by omega,by simp [hvs],by rw [aT h5k];exact hkl5,okvs,okks⟩,by simp;omega⟩
      ·
       refine .inr ⟨.done (zV,k1,r'),(k1',w',vs++[v'],ks++[x]),by simp [he],?_,.inr ⟨zV,k1,k1',vs++[v'],ks++[x],r',w',e',rfl,rfl,b3,he,hok _ _ (by simp;omega) (by omega) okvs okks⟩⟩
       rw [jU hR2,hno e' r' w' _ _ _ _ he b3]
     ·
      refine .inr ⟨.done (zV,k,r5),(k,w5,vs,ks++[x]),by simp [hz],?_,.inr ⟨zV,k,k,vs,ks++[x],r5,w5,_,rfl,rfl,s3,hz,hok _ _ (by omega) (by omega) ov okks⟩⟩
      have hR3:gC (eW n) ((m:Int),w1) kd d ((i:Int),k,w,vs,ks)=some (dN.next ((IntKind.i64.wrap ((i:Int)+1)),k,w5,vs,ks++[x])):=by rw [hR];simp [hz]
      rw [jU hR3,hno _ r5 w5 _ _ _ _ hz s3]
    ·
     obtain ⟨v,k1,v',k1',e',r',w',b1,b2,b3,b4,b5,b6⟩:=ih k r w hl
     have hi1:IntKind.i64.wrap ((i:Int)+1)=((i+1:Nat):Int):=by rw [w64 (by omega) (by omega)];omega
     have hR2:gC (eW n) ((m:Int),w1) kd d ((i:Int),k,w,vs,ks)=some (dN.next (((i+1:Nat):Int),k1',w',vs++[v'],ks)):=by
      unfold gC
      simp only
      rw [dF,aT (by omega),aCk k hl]
      simp only [bC,aA,bS,Fl.next,h5k,bP,aZ]
      rw [aCk k hl]
      simp only [bC,aA,bS]
      rw [b2,aA,oQ (by simp;omega),aA,hi1]
     unfold fD
     simp only
     rw [dF,aT (by omega)]
     simp only [h5k,bP,aZ,aA,Fl.next]
     rw [b1]
     simp only [aA]
     rw [(sM b3).1,oQ (by simp;omega),hi1]
     simp only [aA]
     have okvs:∀ y∈vs++[v'],dS y:=by
      intro y hy
      rcases fA.1 hy with hy | hy
      ·
       exact ov y hy
      ·
       rw [jZ.1 hy];exact b4
     by_cases he:e'=0
     ·
      obtain ⟨rfl,rfl⟩:=b5 he
      subst he
      exact .inl ⟨_,_,rfl,hR2,⟨i+1,k1,vs++[v],ks,r',w',rfl,rfl,b3,by omega,by simp [hvs],by rw [aQ h5k] at hks ⊢;exact hks,okvs,ok⟩,by simp;omega⟩
     ·
      refine .inr ⟨.done (zV,k1,r'),(k1',w',vs++[v'],ks),by simp [he,zV],?_,.inr ⟨zV,k1,k1',vs++[v'],ks,r',w',e',rfl,rfl,b3,he,hok _ _ (by simp;omega) (by omega) okvs ok⟩⟩
      rw [jU hR2,hno e' r' w' _ _ _ _ he b3]
   ·
    refine .inr ⟨.go (k,r,vs,ks),(k,w,vs,ks),?_,?_,.inl ⟨k,vs,ks,r,w,rfl,rfl,hl,hok vs ks (by omega) (by omega) ov ok⟩⟩
    ·
     unfold fD
     rw [dF,aQ (by simp only;omega)]
    ·
     refine xG ?_
     unfold gC
     rw [dF,aQ (by simp only;omega)];rfl) (0,k,r2,[],[]) (0,k,w2,[],[]) ⟨0,k,[],[],r2,w2,rfl,rfl,g3,by omega,rfl,by simp,by simp,by simp⟩
  rw [l1,l2]
  rcases l3 with ⟨k,vs,ks,r,w,rfl,rfl,q1,q2⟩ | ⟨v,k,k',vs,ks,r,w,e,rfl,rfl,q1,q2,q3⟩
  ·
   exact ⟨_,_,_,_,0,_,_,rfl,rfl,q1,q2,fun _=>⟨rfl,rfl⟩,fun h=>absurd rfl h⟩
  ·
   exact ⟨_,_,_,_,e,_,_,rfl,rfl,q1,q3,fun h=>absurd h q2,fun h=>absurd rfl h⟩
 ·
  have hd:decide (E=0)=false:=by simp [hE0]
  simp only [hd,cH,bS]
  rw [hno E r2 w2 0 k [] [] hE0 g3]
  exact ⟨_,_,_,_,E,_,_,rfl,rfl,g3,aGb hk (by simp [tN]) (by simp),fun h=>absurd h hE0,fun h=>absurd rfl h⟩
theorem aOK:∀ (n:Nat) (d k:Int) (r:aM) (w:aV) (e:Int),lT e r w→-1000000≤d→d≤1000000→2*(17 - d).toNat+1≤n→aTY (eE n d k r) (eW n d k w) e:=by
 intro n
 induction n using Nat.strongRecOn with
 | _ n ih =>
  intro d k r w e h hd1 hd2 hn
  obtain ⟨m,rfl⟩:∃ m,n=m+1:=⟨n - 1,by omega⟩
  rw [eE,eW]
  generalize hk1:IntKind.i64.wrap (k+1)=k1
  obtain ⟨r1,w1,a1,a2,a3⟩:=aHm (cond (decide (k<(1000:Int))) (decide (d≤(16:Int))) false) k k h
  rw [a1,a2]
  simp only [aA]
  generalize hE:eIf (cond (decide (k<(1000:Int))) (decide (d≤(16:Int))) false) e=E at a1 a3
  obtain ⟨x,e2,r2,w2,b1,b2,b3,b4,b5,b6⟩:=aLl k1 a3
  rw [b1,b2]
  by_cases hE0:E=0
  ·
   subst hE0
   obtain ⟨he0,hc⟩:=aQ5.1 hE
   have hd:d≤16:=by
    by_cases hk:k<1000
    ·
     simpa [hk] using hc
    ·
     simp [hk] at hc
   simp only [bC,bE,aZ,aA]
   obtain ⟨r3,w3,c1,c2,c3⟩:=aHm (cond (decide ((0:Int)≤x)) (decide (x≤(5:Int))) false) k1 k1 b3
   rw [c1,c2]
   simp only [aA]
   rw [aCk k1 c3]
   simp only [aA]
   generalize hE3:eIf (cond (decide ((0:Int)≤x)) (decide (x≤(5:Int))) false) e2=E3 at c1 c3
   by_cases hE30:E3=0
   ·
    subst hE30
    simp only [bC,bE,aZ]
    by_cases h1:x=1
    ·
     simp only [h1,bC,bS]
     obtain ⟨x4,e4,r4,w4,d1,d2,d3,d4,d5,d6⟩:=aLl k1 c3
     obtain ⟨r5,w5,f1,f2,f3⟩:=aHm (cond (decide (x4=(0:Int))) true (decide (x4=(1:Int)))) k1 k1 d3
     rw [d1,d2]
     simp only [aA]
     rw [f1,f2]
     exact ⟨_,_,_,_,_,_,_,rfl,rfl,f3,aGb (by simp [tN]) d4 (by simp),fun _=>⟨rfl,rfl⟩,fun h=>absurd he0 h⟩
    ·
     simp only [h1,bP,aZ]
     by_cases h2:x=2
     ·
      simp only [h2,bC,bS]
      obtain ⟨x4,e4,r4,w4,d1,d2,d3,d4,d5,d6⟩:=aLl k1 c3
      rw [d1,d2]
      exact ⟨_,_,_,_,_,_,_,rfl,rfl,d3,aGb (by simp [tN]) d4 (by simp),fun _=>⟨rfl,rfl⟩,fun h=>absurd he0 h⟩
     ·
      simp only [h2,bP,aZ]
      by_cases h3:x=3
      ·
       simp only [h3,bC,bS]
       obtain ⟨x4,e4,r4,w4,d1,d2,d3,d4,d5,w6,d6,d7⟩:=aMv k1 c3
       obtain ⟨r5,w5,f1,f2,f3⟩:=aHm (decide ((x4.length:Int)≤4096)) k1 k1 d2
       have:w6=w5:=by rw [d7] at f2;exact eU f2
       subst this
       rw [d1,d6]
       simp only [aA]
       rw [f1]
       exact ⟨_,_,_,_,_,_,_,rfl,rfl,f3,aGb (by simp [tN]) (by simp [tN]) d3,fun _=>⟨rfl,rfl⟩,fun h=>absurd he0 h⟩
      ·
       simp only [h3,bP,aZ]
       by_cases h45:x=4∨x=5
       ·
        have e45:(cond (decide (x=(4:Int))) (some (decide (x=(4:Int)))) (some (decide (x=(5:Int)))))=some true:=by rcases h45 with h | h <;> simp [h]
        rw [e45]
        simp only [aA,bS]
        obtain ⟨m2,rfl⟩:∃ m2,m=m2+1:=⟨m - 1,by omega⟩
        have hdw:IntKind.i64.wrap (d+1)=d+1:=w64 (by omega) (by omega)
        obtain ⟨v,kk,v',kk',e',r',w',g1,g2,g3,g4,g5,g6⟩:=aOc (n:=m2) (kd:=x) (d:=d) b4 (fun k r w hl=>ih m2 (by omega) _ k r w 0 hl (by rw [hdw];omega) (by rw [hdw];omega) (by rw [hdw];omega)) k1 r3 w3 c3
        rw [g1,g2]
        exact ⟨v,kk,v',kk',e',r',w',rfl,rfl,g3,g4,g5,fun h=>absurd he0 h⟩
       ·
        have h4:x≠4:=fun h=>h45 (.inl h)
        have h5:x≠5:=fun h=>h45 (.inr h)
        simp only [h4,h5,bP,aZ,aA]
        exact ⟨_,_,_,_,_,_,_,rfl,rfl,c3,aGb b4 (by simp [tN]) (by simp),fun _=>⟨rfl,rfl⟩,fun h=>absurd he0 h⟩
   ·
    have hd:decide (E3=0)=false:=by simp [hE30]
    simp only [hd,cH,bS]
    exact ⟨_,_,_,_,E3,_,_,rfl,rfl,c3,aMM,fun h=>absurd h hE30,fun h=>absurd he0 h⟩
  ·
   have hd:decide (E=0)=false:=by simp [hE0]
   obtain ⟨rfl,rfl⟩:=b5 hE0
   simp only [hd,cH,bS,aA]
   obtain ⟨r3,w3,c1,c2,c3⟩:=aHm (cond (decide ((0:Int)≤0)) (decide ((0:Int)≤(5:Int))) false) k1 k1 b3
   rw [c2]
   simp only [aA]
   rw [aCk k1 c3]
   have hz:eIf (cond (decide ((0:Int)≤0)) (decide ((0:Int)≤(5:Int))) false) e2=e2:=by unfold eIf;rw [aQ hE0]
   rw [hz] at c3 ⊢
   have hw:w3=w2:=by simp [gL] at c2;exact c2.symm
   subst hw
   simp only [hE0,bP,cH,bS,aA]
   exact ⟨_,_,_,_,e2,_,_,rfl,rfl,a3.trans_w b3 hE0,aMM,fun h=>absurd h hE0,fun h=>by unfold eIf at hE;rw [aQ h] at hE;exact hE.symm⟩
def sY (c:UInt8):Bool:=(decide (97≤c.toNat)&&decide (c.toNat≤122))||(decide (65≤c.toNat)&&decide (c.toNat≤90))||decide (c.toNat=95)
def qM (c:UInt8):Bool:=decide (48≤c.toNat)&&decide (c.toNat≤57)
theorem aIQ (c:UInt8):aBf (c.toNat:Int)=some (sY c):=by
 unfold aBf sY
 congr 1
 rw [eZ]
 simp only [nN,dJ,aY,cB]
 split <;> (try split) <;> (try split) <;> simp_all <;> omega
theorem aI9 (c:UInt8):aAw (c.toNat:Int)=some (sY c||qM c):=by
 unfold aAw sY qM
 congr 1
 rw [eZ]
 have e:∀ n:Nat,((n:Int)≤(c.toNat:Int)↔n≤c.toNat)∧((c.toNat:Int)≤(n:Int)↔c.toNat≤n)∧((c.toNat:Int)=(n:Int)↔c.toNat=n):=fun n=>⟨by omega,by omega,by omega⟩
 have e1:=e 97;have e2:=e 122;have e3:=e 65;have e4:=e 90;have e5:=e 95;have e6:=e 48;have e7:=e 57
 simp only [Int.cast_ofNat_Int] at e1 e2 e3 e4 e5 e6 e7
 by_cases h1:97≤c.toNat <;> by_cases h2:c.toNat≤122 <;> by_cases h3:65≤c.toNat <;> by_cases h4:c.toNat≤90 <;> by_cases h5:c.toNat=95 <;> by_cases h6:48≤c.toNat <;> by_cases h7:c.toNat≤57 <;> simp [h1,h2,h3,h4,h5,h6,h7,e1.1,e2.2.1,e3.1,e4.2.1,e5.2.2,e6.1,e7.2.1] <;> omega
def pR (s:List UInt8):Bool:=!decide (s=[])&&decide (s.length≤64)&&!qM (s.headD 0)&&s.all fun c=>sY c||qM c
theorem yO {s:List UInt8}:tX s=some (pR s):=by
 unfold tX pR
 by_cases h0:s=[]
 ·
  simp [h0]
 ·
  by_cases h1:(64:Int)<s.length
  ·
   have h2:¬s.length≤64:=by omega
   simp [h0,h1,h2]
  ·
   have h2:s.length≤64:=by omega
   simp only [h0,h1,h2,bP,bC,aZ,cH,cL]
   rw [oC s.length (fun i=>sY (s.getD i 0)||(decide (0<i)&&qM (s.getD i 0))) false (fun i hi=>?_) ?_,aA]
   ·
    have:((List.range s.length).all fun i=>sY (s.getD i 0)||(decide (0<i)&&qM (s.getD i 0)))=(!qM (s.headD 0)&&s.all fun c=>sY c||qM c):=by
     obtain ⟨c,r,rfl⟩:∃ c r,s=c :: r:=by cases s with
      | nil=>exact absurd rfl h0
      | cons c r=>exact ⟨c,r,rfl⟩
     have hnd:sY c=true→qM c=false:=by
      unfold sY qM
      simp only [dJ,aY,cB,Bool.and_eq_false_iff,decide_eq_false_iff_not]
      omega
     rw [eZ,aY,cI,cI]
     constructor
     ·
      intro h
      have h3:=h 0 (by simp)
      simp only [List.getD_cons_zero,Nat.lt_irrefl,bP,Bool.false_and,dW] at h3
      refine ⟨by simp [hnd h3],fun x hx=>?_⟩
      obtain ⟨i,hi,rfl⟩:=qV.1 hx
      have h4:=h i (eT.2 hi)
      simp only [cG,aK hi,eK] at h4
      revert h4
      cases sY (c :: r)[i] <;> cases qM (c :: r)[i] <;> simp
     ·
      rintro ⟨h3,h4⟩ i hi
      have hi:=eT.1 hi
      have h5:=h4 _ (bZ hi)
      simp only [cG,aK hi,eK]
      cases i with
      | zero=>revert h3 h5;simp only [List.headD_cons,List.getElem_cons_zero];cases sY c <;> cases qM c <;> simp
      | succ i=>simpa using h5
    rw [this]
    cases (!qM (s.headD 0)&&s.all fun c=>sY c||qM c) <;> rfl
   ·
    unfold aAX
    rw [dF,aQ (by omega)]
   ·
    unfold aAX
    rw [dF,aT (by omega),iT hi,aA,aIQ,aA,pW hi (by omega)]
    simp only [cG,aK hi,eK]
    have hz:decide ((i:Int)=0)=!decide (0<i):=by rw [eZ];simp
    have hd:∀ c:UInt8,(cond (decide ((c.toNat:Int)<48)) true (decide ((57:Int)<(c.toNat:Int))))=!qM c:=fun c=>by
     unfold qM
     by_cases h1:c.toNat<48
     ·
      have:¬48≤c.toNat:=by omega
      have h2:(c.toNat:Int)<48:=by omega
      simp [h2,this]
     ·
      have:48≤c.toNat:=by omega
      have h2:¬(c.toNat:Int)<48:=by omega
      rw [eZ]
      simp [h2,this]
      omega
    rw [hz]
    generalize s[i]=c
    have hd':=hd c
    cases hl:sY c
    ·
     by_cases h0:0<i
     ·
      simp only [h0,bC,bE,cH,bS,aZ,gd,fW,oJ,cL,bQ,aA,cV]
      by_cases h48:(c.toNat:Int)<48
      ·
       rw [show qM c=false by rw [← iJ,← hd'];simp [h48]]
       simp [h48]
      ·
       simp only [h48,bP,aZ] at hd' ⊢
       simp only [fW,bQ,aA,hd']
       cases qM c <;> rfl
     ·
      simp [h0,gd]
    ·
     simp [gd]
theorem yS {s:List UInt8}:rV s=some (pR s):=by
 unfold rV pR
 by_cases h0:s=[]
 ·
  subst h0;rfl
 ·
  have hl:0<s.length:=List.length_pos_iff.2 h0
  by_cases h1:(64:Int)<s.length
  ·
   have h2:¬s.length≤64:=by omega
   have h3:(cond (decide ((s.length:Int)<1)) true (decide ((64:Int)<(s.length:Int))))=true:=by simp [h1]
   simp [h3,gd,h2]
  ·
   have h2:s.length≤64:=by omega
   have h3:(cond (decide ((s.length:Int)<1)) true (decide ((64:Int)<(s.length:Int))))=false:=by simp [h1];omega
   obtain ⟨c,r,rfl⟩:∃ c r,s=c :: r:=by cases s with
    | nil=>exact absurd rfl h0
    | cons c r=>exact ⟨c,r,rfl⟩
   have hi0:lO (c :: r) (0:Int)=some c:=rfl
   have hdg:(cond (decide ((48:Int)≤(c.toNat:Int))) (decide ((c.toNat:Int)≤57)) false)=qM c:=by
    unfold qM
    by_cases h4:48≤c.toNat
    ·
     have:(48:Int)≤(c.toNat:Int):=by omega
     rw [eZ];simp [h4,this];omega
    ·
     have:¬(48:Int)≤(c.toNat:Int):=by omega
     simp [h4,this]
   rw [h3,hi0]
   simp only [h2,List.headD_cons,bC,dG,reduceCtorEq,bP,cH,gd,fW,bQ,aA,aZ,cL]
   have key:∀ x:UInt8,((decide ((48:Int)≤(c.toNat:Int))==true)=true→x=c)→(cond (decide ((48:Int)≤(c.toNat:Int))) (decide ((x.toNat:Int)≤57)) false)=qM c:=fun x hx=>by
    rw [← hdg]
    by_cases h4:(48:Int)≤(c.toNat:Int)
    ·
     rw [hx (by simp [h4])]
    ·
     simp [h4]
   have key2:∃ x:UInt8,(if (decide ((48:Int)≤(c.toNat:Int))==true)=true then some c else some default)=some x∧((decide ((48:Int)≤(c.toNat:Int))==true)=true→x=c):=by
    by_cases h4:(decide ((48:Int)≤(c.toNat:Int))==true)=true
    ·
     exact ⟨c,by rw [aT h4],fun _=>rfl⟩
    ·
     exact ⟨default,by rw [aQ h4],fun h=>absurd h h4⟩
   obtain ⟨x,hx1,hx2⟩:=key2
   rw [hx1,aA,key x hx2]
   cases hdc:qM c
   ·
    simp only [aZ,cH,cL]
    rw [oC (c :: r).length (fun i=>sY ((c :: r).getD i default)||qM ((c :: r).getD i default)) false (fun i hi=>?_) ?_,aA,sD (c :: r) fun c=>sY c||qM c]
    ·
     cases (c :: r).all fun c=>sY c||qM c <;> rfl
    ·
     unfold aAv
     rw [dF,aQ (by omega)]
    ·
     unfold aAv
     rw [dF,aT (by omega),iT hi,aA,aI9,aA,pW hi (by omega)]
     simp only [cG,aK hi,eK]
     cases sY (c :: r)[i] <;> cases qM (c :: r)[i] <;> rfl
   ·
    rfl
def aJL (c:UInt8):Bool:=decide (c.toNat<33)||decide (126<c.toNat)||decide (c.toNat=47)||decide (c.toNat=34)
def wJ (s:List UInt8):Bool:=decide (1≤s.length)&&decide (s.length≤64)&&s.all fun c=>!aJL c
theorem aSI (c:UInt8):(cond (cond (cond (decide ((c.toNat:Int)<33)) true (decide ((126:Int)<(c.toNat:Int)))) true (decide ((c.toNat:Int)=47))) true (decide ((c.toNat:Int)=34)))=aJL c:=by
 unfold aJL
 rw [eZ]
 by_cases h1:c.toNat<33
 ·
  have:(c.toNat:Int)<33:=by omega
  simp [h1,this]
 ·
  have e1:¬(c.toNat:Int)<33:=by omega
  by_cases h2:126<c.toNat
  ·
   have:(126:Int)<(c.toNat:Int):=by omega
   simp [h1,e1,h2,this]
  ·
   have e2:¬(126:Int)<(c.toNat:Int):=by omega
   simp [h1,e1,h2,e2]
   by_cases h3:(c.toNat:Int)=47 <;> simp [h3] <;> omega
theorem aL6 {τ:Type}{s:List UInt8}{i:Nat} (hi:i<s.length) (a b:τ):(((lO s (i:Int)).bind fun (x6:UInt8)=>(gd ((decide (((x6).toNat:Int)<(33:Int)))==false) (lO s (i:Int))).bind fun (x8:UInt8)=>(gd ((cond (decide (((x6).toNat:Int)<(33:Int))) true (decide ((126:Int)<((x8).toNat:Int))))==false) (lO s (i:Int))).bind fun (x10:UInt8)=>(gd ((cond (cond (decide (((x6).toNat:Int)<(33:Int))) true (decide ((126:Int)<((x8).toNat:Int)))) true (decide (((x10).toNat:Int)=(47:Int))))==false) (lO s (i:Int))).bind fun (x12:UInt8)=>cond (cond (cond (cond (decide (((x6).toNat:Int)<(33:Int))) true (decide ((126:Int)<((x8).toNat:Int)))) true (decide (((x10).toNat:Int)=(47:Int)))) true (decide (((x12).toNat:Int)=(34:Int)))) (some a) (some b)):Option τ)=some (if !aJL s[i] then b else a):=by
 rw [iT hi,aA]
 generalize s[i]=c
 rw [← aSI]
 by_cases h1:(c.toNat:Int)<33
 ·
  simp [h1,gd]
 ·
  by_cases h2:(126:Int)<(c.toNat:Int)
  ·
   have h2':¬(c.toNat:Int)≤126:=by omega
   simp [h1,h2,h2',gd]
  ·
   by_cases h3:(c.toNat:Int)=47
   ·
    simp [h1,h2,h3,gd]
   ·
    simp only [h1,h2,h3,bP,aZ,fW,gd,bQ,aA]
    by_cases h4:(c.toNat:Int)=34 <;> simp [h4]
theorem aMr {s:List UInt8} (hs:s.length≤9223372036854775807):wG s=some (wJ s):=by
 unfold wG wJ
 rw [oC s.length (fun i=>!aJL (s.getD i default)) false (fun i hi=>?_) ?_,aA,sD s fun c=>!aJL c]
 ·
  cases s.all fun c=>!aJL c
  ·
   simp [Fl.next]
  ·
   simp only [bQ,Fl.next,nP,aA,dG]
   congr 1
   rw [eZ]
   by_cases h:(1:Int)≤s.length <;> simp [h] <;> omega
 ·
  unfold xU
  rw [dF,aQ (by omega)]
 ·
  unfold xU
  rw [dF,aT (by omega),aL6 hi,pW hi hs]
  simp only [cG,aK hi,eK]
theorem aMZ {s:List UInt8}:aBi s=some (wJ s):=by
 unfold aBi wJ
 by_cases h0:s.length<1∨64<s.length
 ·
  have e:(cond (decide ((s.length:Int)<1)) true (decide ((64:Int)<(s.length:Int))))=true:=by simp;omega
  rw [e]
  have:(decide (1≤s.length)&&decide (s.length≤64))=false:=by simp;omega
  rw [this];rfl
 ·
  have e:(cond (decide ((s.length:Int)<1)) true (decide ((64:Int)<(s.length:Int))))=false:=by simp;omega
  have:(decide (1≤s.length)&&decide (s.length≤64))=true:=by simp;omega
  rw [e,this,aZ]
  rw [oC s.length (fun i=>!aJL (s.getD i default)) false (fun i hi=>?_) ?_,aA,sD s fun c=>!aJL c]
  ·
   cases s.all fun c=>!aJL c <;> rfl
  ·
   unfold aAx
   rw [dF,aQ (by omega)]
  ·
   unfold aAx
   rw [dF,aT (by omega),aL6 hi,pW hi (by omega)]
   simp only [cG,aK hi,eK]
def inB (n l h:Int):Bool:=decide (l≤n)&&decide (n≤h)
theorem tW {n l h:Int}:nP n l h=some (inB n l h):=by unfold nP inB;rw [nN];by_cases h1:l≤n <;> simp [h1]
theorem aDx {n l h:Int}:tS n l h=some (inB n l h):=by unfold tS inB;rw [nN];by_cases h1:l≤n <;> simp [h1]
def aCr (a b:bV):Bool:=decide (a.Queue=b.Queue)&&decide (a.ToStart=b.ToStart)&&decide (a.ToClose=b.ToClose)&&decide (a.Total=b.Total)&&decide (a.Beat=b.Beat)&&decide (a.First=b.First)&&decide (a.Coef=b.Coef)&&decide (a.Most=b.Most)&&decide (a.Attempts=b.Attempts)&&decide (a.Fatal=b.Fatal)
theorem aE0 {a b:bV} (h:iR a):pP a b=some (aCr a b):=by
 have hf:a.Fatal.length≤9223372036854775807:=h.2.2.2.2.2.2.2.2.2.1
 unfold pP aCr
 rw [aJh hf]
 simp only [rB,aA,uI]
 by_cases h1:a.ToStart=b.ToStart
 ·
  by_cases h2:a.ToClose=b.ToClose
  ·
   by_cases h3:a.Total=b.Total
   ·
    by_cases h4:a.Beat=b.Beat
    ·
     by_cases h5:a.First=b.First
     ·
      by_cases h6:a.Coef=b.Coef
      ·
       by_cases h7:a.Most=b.Most
       ·
        by_cases h8:a.Attempts=b.Attempts
        ·
         by_cases h9:a.Queue=b.Queue <;> simp [h1,h2,h3,h4,h5,h6,h7,h8,h9,gd]
        ·
         simp [h1,h2,h3,h4,h5,h6,h7,h8]
       ·
        simp [h1,h2,h3,h4,h5,h6,h7]
      ·
       simp [h1,h2,h3,h4,h5,h6]
     ·
      simp [h1,h2,h3,h4,h5]
    ·
     simp [h1,h2,h3,h4]
   ·
    simp [h1,h2,h3]
  ·
   simp [h1,h2]
 ·
  simp [h1]
theorem aSC {a b:List (List UInt8)} (hlen:a.length=b.length):((List.range a.length).all fun i=>decide (a[i]?=b[i]?))=decide (a=b):=by
 rw [eZ,cI]
 simp only [cB]
 constructor
 ·
  refine fun h6=>List.ext_getElem? fun i=>?_
  by_cases hi:i<a.length
  ·
   exact h6 i (eT.2 hi)
  ·
   rw [mM (by omega),mM (by omega)]
 ·
  intro e i _;rw [e]
theorem aAT {a b:bV} (h:iR a):pU a b=some (aCr a b):=by
 have hf:a.Fatal.length≤9223372036854775807:=h.2.2.2.2.2.2.2.2.2.1
 unfold pU aCr
 have hl:(a.Fatal.length:Int)=b.Fatal.length→fI (rJ a b) (0:Int)=some (if decide (a.Fatal=b.Fatal) then .go () else .done false):=fun hlen=>by
  rw [oC a.Fatal.length (fun i=>decide (a.Fatal[i]?=b.Fatal[i]?)) false (fun i hi=>?_) ?_]
  ·
   rw [aSC (by omega)]
  ·
   unfold rJ
   rw [dF,aQ (by omega)]
  ·
   unfold rJ
   have hb:i<b.Fatal.length:=by omega
   rw [dF,aT (by omega),iT hi,aA,iT hb,aA,uI,pW hi hf,aK hi,aK hb]
   simp only [bH,cB]
   split <;> rfl
 by_cases h0:(a.Fatal.length:Int)=b.Fatal.length
 ·
  rw [hl h0]
  by_cases h9:a.Fatal=b.Fatal
  ·
   simp only [h9,bC,bQ,aA,Fl.next,bE]
   cases decide (a.Queue=b.Queue) <;> cases decide (a.ToStart=b.ToStart) <;> cases decide (a.ToClose=b.ToClose) <;> cases decide (a.Total=b.Total) <;> cases decide (a.Beat=b.Beat) <;> first | rfl | (cases decide (a.First=b.First) <;> cases decide (a.Coef=b.Coef) <;> cases decide (a.Most=b.Most) <;> cases decide (a.Attempts=b.Attempts) <;> rfl)
  ·
   simp only [h9,h0,bC,bP,aA,Fl.next,Bool.and_false]
   simp
 ·
  have h9:a.Fatal≠b.Fatal:=fun e=>h0 (by rw [e])
  simp [h0,h9]
theorem aQd {ks:List (List UInt8)} (h:ks.length≤9223372036854775807):gE ks=some (ks.any pF):=by
 unfold gE iN
 obtain ⟨x,h1,h2⟩:=aCO (body:=gG ks) ks pF (fun i hi=>by
  unfold gG
  rw [dF,aT (by omega),iT hi,aA,sW,aA,pW hi h]
  show cond (pF ks[i]) _ _=_
  cases pF ks[i] <;> rfl) (by
  unfold gG
  rw [dF,aQ (by omega)])
 rw [h1,aA,h2]
def six (o:bV):List Int:=[o.ToStart,o.ToClose,o.Total,o.Beat,o.First,o.Most]
def pS (o:bV):Bool:=(decide (o.Queue=[])||pR o.Queue)&&decide (o.Fatal.length≤64)&&(six o).all (fun n=>inB n 0 1099511627776)&&inB o.Coef 0 10000&&inB o.Attempts 0 1000&&!o.Fatal.any pF
theorem aAa {o:bV} (h:iR o):mQ o=some (pS o):=by
 have hf:o.Fatal.length≤9223372036854775807:=h.2.2.2.2.2.2.2.2.2.1
 unfold mQ pS
 rw [yO,aQd hf]
 simp only [tW]
 rw [oC (six o).length (fun i=>inB ((six o).getD i default) 0 1099511627776) false (fun i hi=>?_) ?_,aA,sD (six o) fun n=>inB n 0 1099511627776]
 ·
  by_cases h0:(64:Int)<o.Fatal.length
  ·
   have h1:¬o.Fatal.length≤64:=by omega
   by_cases hq:o.Queue=[] <;> cases pR o.Queue <;> simp [hq,h0,h1,gd]
  ·
   have h1:o.Fatal.length≤64:=by omega
   cases (six o).all fun n=>inB n 0 1099511627776
   ·
    by_cases hq:o.Queue=[] <;> cases pR o.Queue <;> simp [hq,h0,h1,gd,Fl.next]
   ·
    by_cases hq:o.Queue=[] <;> cases pR o.Queue <;> cases inB o.Coef 0 10000 <;> cases inB o.Attempts 0 1000 <;> simp [hq,h0,h1,gd,Fl.next]
 ·
  unfold rL
  rw [dF,aQ (by unfold six;omega)]
 ·
  unfold rL
  have hi':i<[o.ToStart,o.ToClose,o.Total,o.Beat,o.First,o.Most].length:=hi
  rw [dF,aT (by omega),iT hi',aA,tW,aA,pW hi (by unfold six;simp)]
  simp only [cG,aK hi,eK]
  show cond (!inB (six o)[i] 0 1099511627776) _ _=_
  cases inB (six o)[i] 0 1099511627776 <;> rfl
theorem aAz {o:bV} (h:iR o):oZ o=some (pS o):=by
 have hf:o.Fatal.length≤9223372036854775807:=h.2.2.2.2.2.2.2.2.2.1
 unfold oZ pS
 rw [yS]
 simp only [aDx]
 rw [oC (six o).length (fun i=>inB ((six o).getD i default) 0 1099511627776) false (fun i hi=>?_) ?_,aA,sD (six o) fun n=>inB n 0 1099511627776]
 ·
  rw [oC o.Fatal.length (fun i=>!pF (o.Fatal.getD i default)) false (fun i hi=>?_) ?_,aA,sD o.Fatal fun n=>!pF n,← zM]
  ·
   have e:decide ((o.Fatal.length:Int)≤64)=decide (o.Fatal.length≤64):=by rw [eZ];simp;omega
   rw [e]
   cases (six o).all fun n=>inB n 0 1099511627776
   ·
    simp [Fl.next]
   ·
    cases o.Fatal.any pF
    ·
     by_cases hq:o.Queue=[] <;> cases pR o.Queue <;> cases inB o.Coef 0 10000 <;> cases inB o.Attempts 0 1000 <;> simp [hq,gd,Fl.next]
    ·
     simp [Fl.next]
  ·
   unfold tR
   rw [dF,aQ (by omega)]
  ·
   unfold tR
   rw [dF,aT (by omega),iT hi,aA,pW hi hf]
   simp only [cG,aK hi,eK]
   show cond (pF o.Fatal[i]) _ _=_
   cases pF o.Fatal[i] <;> rfl
 ·
  unfold tQ
  rw [dF,aQ (by unfold six;omega)]
 ·
  unfold tQ
  have hi':i<[o.ToStart,o.ToClose,o.Total,o.Beat,o.First,o.Most].length:=hi
  rw [dF,aT (by omega),iT hi',aA,aDx,aA,pW hi (by unfold six;simp)]
  simp only [cG,aK hi,eK]
  show cond (!inB (six o)[i] 0 1099511627776) _ _=_
  cases inB (six o)[i] 0 1099511627776 <;> rfl
def pM (x:aF):Bool:=match x.Items with
 | [a,_]=>decide (x.Kind=4)&&decide (a.Kind=3)&&pR a.Text
 | _=>false
def aBU (v:aF):Bool:=match v.Items with
 | [_,b]=>decide (v.Kind=4)&&decide (b.Kind=4)&&b.Items.all pM
 | _=>false
theorem aMx {α:Type}{l:List α} (h:l.length=2):∃ a b,l=[a,b]:=by
 match l,h with
 | [a,b],_=>exact ⟨a,b,rfl⟩
theorem aEO {x:aF} (h:¬x.Items.length=2):pM x=false:=by
 unfold pM
 split
 ·
  rename_i hx;exact absurd (by rw [hx];rfl) h
 ·
  rfl
theorem aF7 {x:aF} (h:¬x.Items.length=2):aBU x=false:=by
 unfold aBU
 split
 ·
  rename_i hx;exact absurd (by rw [hx];rfl) h
 ·
  rfl
theorem aAQ {x:aF}:(cond (!decide (x.Kind=4)) true (!decide ((x.Items.length:Int)=2)))=!(decide (x.Kind=4)&&decide (x.Items.length=2)):=by
 by_cases h1:x.Kind=4
 ·
  rw [eZ];simp [h1];omega
 ·
  simp [h1]
theorem aP4 (x:aF):vW x=some (!pM x):=by
 unfold vW
 simp only [aAQ,yO]
 by_cases h2:x.Items.length=2
 ·
  obtain ⟨a,b,hab⟩:=aMx h2
  unfold pM
  rw [hab]
  have h0:lO [a,b] (0:Int)=some a:=rfl
  rw [h0]
  by_cases h1:x.Kind=4 <;> by_cases h3:a.Kind=3 <;> simp [h1,h3,gd]
 ·
  have:pM x=false:=aEO h2
  simp [this,h2,gd]
theorem aRi {v:aF} (hv:dS v):yN v=some (aBU v):=by
 obtain ⟨k0,k1,k2,k3,k4⟩:=(fS v).1 hv
 unfold yN
 simp only [aAQ]
 by_cases h2:v.Items.length=2
 ·
  obtain ⟨a,b,hab⟩:=aMx h2
  obtain ⟨_,_,_,hb,_⟩:=(fS b).1 (k3.2.2 b (by rw [hab];simp))
  unfold aBU
  rw [hab]
  have h0:lO [a,b] (1:Int)=some b:=rfl
  have hC:gD b.Items=some (b.Items.any fun x=>!pM x):=by
   unfold gD iM
   obtain ⟨x,h1,h2⟩:=aCO (body:=gF b.Items) b.Items (fun x=>!pM x) (fun i hi=>by
    unfold gF
    rw [dF,aT (by omega),iT hi,aA,aP4,aA,pW hi hb.1]
    cases pM b.Items[i] <;> rfl) (by
    unfold gF
    rw [dF,aQ (by omega)])
   rw [h1,aA,h2]
  have hA:(!b.Items.any fun x=>!pM x)=b.Items.all pM:=by rw [zM];simp
  rw [h0]
  by_cases h1:v.Kind=4 <;> by_cases h3:b.Kind=4
  ·
   simp only [h1,h3,dY,gB,bC,oJ,bE,aZ,fW,gd,bQ,aA,hC,hA,cL]
  ·
   simp [h1,h3,gd]
  ·
   simp [h1,h3,gd]
  ·
   simp [h1,h3,gd]
 ·
  have:aBU v=false:=aF7 h2
  simp [this,h2,gd]
theorem aM0 {v:aF} (hv:dS v):aBj v=some (aBU v):=by
 obtain ⟨k0,k1,k2,k3,k4⟩:=(fS v).1 hv
 unfold aBj
 simp only [aAQ]
 by_cases h2:v.Items.length=2
 ·
  obtain ⟨a,b,hab⟩:=aMx h2
  obtain ⟨_,_,_,hb,_⟩:=(fS b).1 (k3.2.2 b (by rw [hab];simp))
  have h0:lO v.Items (1:Int)=some b:=by rw [hab];rfl
  have hi2:aBU v=(decide (v.Kind=4)&&decide (b.Kind=4)&&b.Items.all pM):=by unfold aBU;rw [hab]
  have hC:fI (xL v) (0:Int)=some (if b.Items.all pM then .go () else .done false):=by
   rw [oC b.Items.length (fun i=>pM (b.Items.getD i default)) false (fun i hi=>?_) ?_,sD b.Items pM]
   ·
    unfold xL
    rw [h0,aA,dF,aQ (by omega)]
   ·
    unfold xL
    rw [h0,aA,dF,aT (by omega),aA,iT hi,aA,pW hi hb.1]
    simp only [cG,aK hi,eK,aAQ,yS]
    generalize b.Items[i]=x
    by_cases h2:x.Items.length=2
    ·
     obtain ⟨c,d,hcd⟩:=aMx h2
     have hp:pM x=(decide (x.Kind=4)&&decide (c.Kind=3)&&pR c.Text):=by unfold pM;rw [hcd]
     have h0:lO x.Items (0:Int)=some c:=by rw [hcd];rfl
     rw [h0,hp,h2]
     by_cases h1:x.Kind=4 <;> by_cases h3:c.Kind=3
     ·
      simp only [h1,h3,bC,oJ,bE,aZ,fW,gd,bQ,aA,cL]
      cases pR c.Text <;> rfl
     ·
      simp [h1,h3,gd]
     ·
      simp [h1,h3,gd]
     ·
      simp [h1,h3,gd]
    ·
     have:pM x=false:=aEO h2
     simp [this,h2,gd]
  rw [h0,h2,hC,hi2]
  by_cases h1:v.Kind=4 <;> by_cases h3:b.Kind=4
  ·
   simp only [h1,h3,bC,oJ,bE,aZ,fW,gd,bQ,aA,cL]
   cases b.Items.all pM <;> rfl
  ·
   simp [h1,h3,gd]
  ·
   simp [h1,h3,gd]
  ·
   simp [h1,h3,gd]
 ·
  have:aBU v=false:=aF7 h2
  simp [this,h2,gd]

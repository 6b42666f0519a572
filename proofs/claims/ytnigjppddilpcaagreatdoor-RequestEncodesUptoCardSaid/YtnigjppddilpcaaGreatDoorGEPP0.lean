/- Plain laws: what the functions compute, with no program in sight. -/
import Derived.Test.YtnigjppddilpcaaGreatDoorPk2
import Derived.Test.YtnigjppddilpcaaGreatDoorGEF0
import Derived.Test.YtnigjppddilpcaaGreatDoorGEF1
import Derived.Test.YtnigjppddilpcaaGreatDoorGEF2
import Derived.Test.YtnigjppddilpcaaGreatDoorGEF6
import Derived.Test.YtnigjppddilpcaaGreatDoorGEF7
import Derived.Test.YtnigjppddilpcaaGreatDoorGEF8
import Derived.Test.YtnigjppddilpcaaGreatDoorGESh
import Derived.Test.YtnigjppddilpcaaGreatDoorGEF9
import Derived.Test.YtnigjppddilpcaaGreatDoorGEF3
namespace Go.Proofs.YtnigjppddilpcaaGreatDoor
open Go Abs
set_option linter.unusedSimpArgs false
set_option linter.unusedVariables false
theorem kM {i n:Nat} (h:i<n) (hn:n≤9223372036854775807):IntKind.i64.wrap ((i:Int)+1)=((i+1:Nat):Int):=by rw [w64 (by omega) (by omega)];omega
theorem fH {α:Type}{l:List α}{i:Nat} (h:i<l.length):jT l (i:Int)=some l[i]:=by rw [aCy,List.getElem?_eq_getElem h]
theorem jB {τ:Type} (n:Nat) (p:Nat→Bool) (b:τ) {body:Int→Option (cM Int (Fl τ Unit))} (h:∀ i:Nat,i<n→body (i:Int)=some (if p i then .next ((i+1:Nat):Int) else .out (.done b)))
  (hout:body (n:Int)=some (.out (.go ()))):eQ body (0:Int)=some (if (List.range n).all p then .go () else .done b):=by
 refine aBf (fun s=>∃ i:Nat,s=(i:Int)∧i≤n∧∀ j,j<i→p j=true) (fun s=>n - s.toNat) (fun _=>(if (List.range n).all p then Fl.go () else Fl.done b:Fl τ Unit)) ?_ _ ⟨0,rfl,by omega,by omega⟩
 rintro s ⟨i,rfl,hi,hp⟩
 by_cases hlt:i<n
 ·
  rw [h i hlt]
  by_cases hpi:p i=true
  ·
   rw [if_pos hpi]
   exact .inl ⟨_,rfl,⟨i+1,rfl,hlt,fun j hj=>by rcases Nat.lt_succ_iff_lt_or_eq.1 hj with h1 | rfl;exact hp j h1;exact hpi⟩,by simp;omega,rfl⟩
  ·
   rw [if_neg hpi,if_neg (fun ha=>hpi (List.all_eq_true.1 ha i (List.mem_range.2 hlt)))]
   exact .inr rfl
 ·
  obtain rfl:i=n:=by omega
  rw [hout,if_pos (List.all_eq_true.2 fun j hj=>hp j (List.mem_range.1 hj))]
  exact .inr rfl
theorem nF {α:Type} [Inhabited α] (l:List α) (p:α→Bool):((List.range l.length).all fun i=>p (l.getD i default))=l.all p:=by
 rw [Bool.eq_iff_iff,List.all_eq_true,List.all_eq_true]
 constructor
 ·
  intro h x hx
  obtain ⟨i,hi,rfl⟩:=List.mem_iff_getElem.1 hx
  have:=h i (List.mem_range.2 hi)
  simpa [hi] using this
 ·
  intro h i hi
  have hi:=List.mem_range.1 hi
  simpa [hi] using h _ (List.getElem_mem hi)
theorem wF {α:Type} (l:List α) (p:α→Bool) {body:Int→Option (cM Int (Fl Int Unit))} (h:∀ (i:Nat) (hi:i<l.length),body (i:Int)=some (if p l[i] then .out (.done (i:Int)) else .next ((i+1:Nat):Int)))
  (hout:body (l.length:Int)=some (.out (.go ()))):∃ x:Int,((eQ body (0:Int)).bind fun r=>Fl.next r fun _=>some (-1:Int))=some x∧decide ((0:Int)≤x)=l.any p:=by
 obtain ⟨r,h1,x,h2,h3⟩:∃ r,eQ body (0:Int)=some r∧∃ x:Int,(Fl.next r fun _=>some (-1:Int))=some x∧decide ((0:Int)≤x)=l.any p:=by
  refine rE (fun s=>∃ i:Nat,s=(i:Int)∧i≤l.length∧∀ j (hj:j<l.length),j<i→p l[j]=false) (fun s=>l.length - s.toNat) _ ?_ _ ⟨0,rfl,by omega,by omega⟩
  rintro s ⟨i,rfl,hi,hp⟩
  by_cases hlt:i<l.length
  ·
   rw [h i hlt]
   by_cases hpi:p l[i]=true
   ·
    rw [if_pos hpi]
    refine .inr ⟨_,rfl,i,rfl,?_⟩
    have:l.any p=true:=List.any_eq_true.2 ⟨_,List.getElem_mem hlt,hpi⟩
    rw [this];simp
   ·
    rw [if_neg hpi]
    exact .inl ⟨_,rfl,⟨i+1,rfl,hlt,fun j hj hji=>by rcases Nat.lt_succ_iff_lt_or_eq.1 hji with h1 | rfl;exact hp j hj h1;simpa using hpi⟩,by simp;omega⟩
  ·
   obtain rfl:i=l.length:=by omega
   rw [hout]
   refine .inr ⟨_,rfl,-1,rfl,?_⟩
   have:l.any p=false:=by
    rw [List.any_eq_false]
    intro x hx
    obtain ⟨j,hj,rfl⟩:=List.mem_iff_getElem.1 hx
    simp [hp j hj hj]
   rw [this];decide
 exact ⟨x,by rw [h1,Option.bind_some];exact h2,h3⟩
theorem aBe {α σ:Type} (l:List α) (f:σ→α→σ) (s0:σ) {body:σ × Int→Option (cM (σ × Int) σ)} (h:∀ (s:σ) (i:Nat) (hi:i<l.length),body (s,(i:Int))=some (.next (f s l[i],((i+1:Nat):Int))))
  (hout:∀ s,body (s,(l.length:Int))=some (.out s)):eQ body (s0,(0:Int))=some (l.foldl f s0):=by
 refine aBf (fun s=>∃ i:Nat,s.2=(i:Int)∧i≤l.length∧s.1=(l.take i).foldl f s0) (fun s=>l.length - s.2.toNat) (fun _=>l.foldl f s0) ?_ _ ⟨0,rfl,by omega,by simp⟩
 rintro ⟨s,i0⟩ ⟨i,hi0,hi,hs⟩
 simp only at hi0 hs
 subst hi0
 by_cases hlt:i<l.length
 ·
  refine .inl ⟨_,h s i hlt,⟨i+1,rfl,hlt,?_⟩,by simp;omega,rfl⟩
  rw [hs,List.take_succ_eq_append_getElem hlt,List.foldl_append]
  rfl
 ·
  obtain rfl:i=l.length:=by omega
  rw [hout,hs,List.take_length]
  exact .inr rfl
end Go.Proofs.YtnigjppddilpcaaGreatDoor
namespace Go.Proofs.YtnigjppddilpcaaGreatDoor
open Go Abs
set_option linter.unusedSimpArgs false
set_option linter.unusedVariables false
mutual
def tN:aG→Nat
 | ⟨_,_,_,l,_⟩=>aDk l+1
def aDk:List aG→Nat
 | []=>0
 | x :: l=>max (tN x) (aDk l)
end
theorem jK:∀ {l:List aG}{x:aG},x∈l→tN x≤aDk l
 | [],x,h=>by simp at h
 | y :: l,x,h=>by
  simp only [aDk]
  rcases List.mem_cons.1 h with rfl | h
  ·
   omega
  ·
   have:=jK h;omega
theorem hZ (v:aG):tN v=aDk v.Items+1:=by cases v;simp [tN]
theorem aJ2 {v x:aG} (h:x∈v.Items):tN x<tN v:=by have:=jK h;have:=hZ v;omega
mutual
def pB:aG→aG→Bool
 | ⟨k,i,t,l,ks⟩,w=>decide (k=w.Kind)&&decide (i=w.Int)&&decide (t=w.Text)&&decide (ks=w.Keys)&&tK l w.Items
def tK:List aG→List aG→Bool
 | [],[]=>true
 | x :: l,y :: m=>pB x y&&tK l m
 | _,_=>false
end
theorem aFP (v w:aG):pB v w=(decide (v.Kind=w.Kind)&&decide (v.Int=w.Int)&&decide (v.Text=w.Text)&&decide (v.Keys=w.Keys)&&tK v.Items w.Items):=by cases v;simp [pB]
theorem xF:∀ (l m:List aG),tK l m=true↔l.length=m.length∧∀ i (h:i<l.length) (h2:i<m.length),pB l[i] m[i]=true
 | [],[]=>by simp [tK]
 | [],y :: m=>by simp [tK]
 | x :: l,[]=>by simp [tK]
 | x :: l,y :: m=>by
  simp only [tK,Bool.and_eq_true,xF l m,List.length_cons,Nat.add_right_cancel_iff]
  constructor
  ·
   rintro ⟨h1,h2,h3⟩
   refine ⟨h2,fun i hi hi2=>?_⟩
   cases i with
   | zero=>exact h1
   | succ i=>exact h3 i (by omega) (by omega)
  ·
   rintro ⟨h2,h3⟩
   exact ⟨h3 0 (by omega) (by omega),h2,fun i hi hi2=>h3 (i+1) (by omega) (by omega)⟩
theorem aL6:∀ (n:Nat) (v w:aG),tN v≤n→(pB v w=true↔v=w):=by
 intro n
 induction n with
 | zero=>intro v w h;have:=hZ v;omega
 | succ n ih =>
  intro v w h
  rw [aFP]
  simp only [Bool.and_eq_true,decide_eq_true_eq,xF]
  constructor
  ·
   rintro ⟨⟨⟨⟨h1,h2⟩,h3⟩,h4⟩,h5,h6⟩
   have h7:v.Items=w.Items:=List.ext_getElem h5 fun i hi hi2=>(ih _ _ (by have:=aJ2 (List.getElem_mem hi:v.Items[i]∈v.Items);omega)).1 (h6 i hi hi2)
   cases v;cases w;simp_all
  ·
   rintro rfl
   exact ⟨⟨⟨⟨rfl,rfl⟩,rfl⟩,rfl⟩,rfl,fun i hi _=>(ih _ _ (by have:=aJ2 (List.getElem_mem hi:v.Items[i]∈v.Items);omega)).2 rfl⟩
theorem aFK {a b:List (List UInt8)} (ha:a.length≤9223372036854775807):gG a b=some (decide (a=b)):=by
 unfold gG
 rw [yV]
 by_cases h:(a.length:Int)=b.length
 ·
  rw [if_pos h,jB a.length (fun i=>decide (a[i]?=b[i]?)) false (fun i hi=>?_) ?_,Option.bind_some]
  ·
   split
   ·
    rename_i h2
    rw [List.all_eq_true] at h2
    have:a=b:=List.ext_getElem? fun i=>by
     by_cases hi:i<a.length
     ·
      have:=h2 i (List.mem_range.2 hi);simpa using this
     ·
      rw [List.getElem?_eq_none (by omega),List.getElem?_eq_none (by omega)]
    simp [Fl.next,this]
   ·
    rename_i h2
    have:a≠b:=fun e=>h2 (by rw [List.all_eq_true];intro i _;simp [e])
    simp [Fl.next,this]
  ·
   unfold iB
   rw [cC,if_neg (by omega)]
  ·
   unfold iB
   have hb:i<b.length:=by omega
   rw [cC,if_pos (by omega),fH hi,Option.bind_some,fH hb,Option.bind_some,yV,kM hi ha,List.getElem?_eq_getElem hi,List.getElem?_eq_getElem hb]
   simp only [Option.some.injEq,decide_eq_true_eq]
   split <;> rfl
 ·
  rw [if_neg h]
  have:a≠b:=fun e=>h (by rw [e])
  simp [this]
theorem aCn {l m:List aG} (h:l.length=m.length) (p:Nat→Bool) (hp:∀ i (h1:i<l.length) (h2:i<m.length),p i=pB l[i] m[i]):(List.range l.length).all p=tK l m:=by
 rw [Bool.eq_iff_iff,List.all_eq_true,xF]
 constructor
 ·
  exact fun hh=>⟨h,fun i h1 h2=>by rw [← hp i h1 h2];exact hh i (List.mem_range.2 h1)⟩
 ·
  exact fun hh i hi=>by have:=List.mem_range.1 hi;rw [hp i this (by omega)];exact hh.2 i this (by omega)
theorem aMe:∀ (n:Nat) (v w:aG),cP v→2*tN v≤n→pV n v w=some (pB v w):=by
 intro n
 induction n using Nat.strongRecOn with
 | _ n ih =>
  intro v w hv hn
  have hh:=hZ v
  obtain ⟨m,rfl⟩:∃ m,n=m+2:=⟨n - 2,by omega⟩
  obtain ⟨k0,k1,k2,k3,k4⟩:=(eM v).1 hv
  have hE:cL (m+1) v.Items w.Items=some (tK v.Items w.Items):=by
   rw [cL,yV]
   by_cases h:(v.Items.length:Int)=w.Items.length
   ·
    rw [if_pos h,jB v.Items.length (fun i=>pB (v.Items.getD i default) (w.Items.getD i default)) false (fun i hi=>?_) ?_,Option.bind_some,aCn (m:=w.Items) (by omega) _ (fun i h1 h2=>by simp [h1,h2])]
    ·
     cases tK v.Items w.Items <;> rfl
    ·
     unfold dG
     rw [cC,if_neg (by omega)]
    ·
     unfold dG
     have hb:i<w.Items.length:=by omega
     rw [cC,if_pos (by omega),fH hi,Option.bind_some,fH hb,Option.bind_some,ih m (by omega) _ _ (k3.2.2 _ (List.getElem_mem hi)) (by have:=jK (List.getElem_mem hi);omega),Option.bind_some,kM hi k3.1]
     simp only [List.getD_eq_getElem?_getD,List.getElem?_eq_getElem hi,List.getElem?_eq_getElem hb,Option.getD_some]
     cases pB v.Items[i] w.Items[i] <;> rfl
   ·
    rw [if_neg h]
    have:tK v.Items w.Items=false:=by rw [← Bool.not_eq_true,xF];exact fun hh=>h (by omega)
    rw [this]
  rw [pV,aFK k4.1,hE,aFP]
  by_cases h1:v.Kind=w.Kind <;> by_cases h2:v.Int=w.Int <;> by_cases h3:v.Text=w.Text <;> by_cases h4:v.Keys=w.Keys <;> simp [h1,h2,h3,h4,gd]
theorem aBG {v w:aG} (hv:cP v):zS v w=some (pB v w):=rQ (2*tN v) fun n hn=>aMe n v w hv hn
theorem aI1:∀ (n:Nat) (v w:aG),cP v→tN v≤n→pL n v w=some (pB v w):=by
 intro n
 induction n with
 | zero=>intro v w hv hn;have:=hZ v;omega
 | succ n ih =>
  intro v w hv hn
  have hh:=hZ v
  obtain ⟨k0,k1,k2,k3,k4⟩:=(eM v).1 hv
  rw [pL,aFP]
  by_cases h1:v.Kind=w.Kind
  ·
   by_cases h2:v.Int=w.Int
   ·
    by_cases h3:v.Text=w.Text
    ·
     by_cases h4:(v.Items.length:Int)=w.Items.length
     ·
      by_cases h5:(v.Keys.length:Int)=w.Keys.length
      ·
       simp only [h1,h2,h3,h4,h5,decide_true,Bool.not_true,cond_false,Bool.true_and]
       rw [jB v.Keys.length (fun i=>decide (v.Keys[i]?=w.Keys[i]?)) false (fun i hi=>?_) ?_,Option.bind_some]
       ·
        have hk:((List.range v.Keys.length).all fun i=>decide (v.Keys[i]?=w.Keys[i]?))=decide (v.Keys=w.Keys):=by
         rw [Bool.eq_iff_iff,List.all_eq_true]
         simp only [decide_eq_true_eq]
         constructor
         ·
          refine fun h6=>List.ext_getElem? fun i=>?_
          by_cases hi:i<v.Keys.length
          ·
           exact h6 i (List.mem_range.2 hi)
          ·
           rw [List.getElem?_eq_none (by omega),List.getElem?_eq_none (by omega)]
         ·
          intro e i _;rw [e]
        rw [hk]
        by_cases h6:v.Keys=w.Keys
        ·
         simp only [h6,decide_true,if_true,Fl.next,Bool.true_and]
         rw [jB v.Items.length (fun i=>pB (v.Items.getD i default) (w.Items.getD i default)) false (fun i hi=>?_) ?_,Option.bind_some,aCn (m:=w.Items) (by omega) _ (fun i h1 h2=>by simp [h1,h2])]
         ·
          cases tK v.Items w.Items <;> rfl
         ·
          unfold uG
          rw [cC,if_neg (by omega)]
         ·
          unfold uG
          have hb:i<w.Items.length:=by omega
          rw [cC,if_pos (by omega),fH hi,Option.bind_some,fH hb,Option.bind_some,ih _ _ (k3.2.2 _ (List.getElem_mem hi)) (by have:=jK (List.getElem_mem hi);omega),Option.bind_some,kM hi k3.1]
          simp only [List.getD_eq_getElem?_getD,List.getElem?_eq_getElem hi,List.getElem?_eq_getElem hb,Option.getD_some]
          cases pB v.Items[i] w.Items[i] <;> rfl
        ·
         simp [h6,Fl.next]
       ·
        unfold uF
        rw [cC,if_neg (by omega)]
       ·
        unfold uF
        have hb:i<w.Keys.length:=by omega
        rw [cC,if_pos (by omega),fH hi,Option.bind_some,fH hb,Option.bind_some,yV,kM hi k4.1,List.getElem?_eq_getElem hi,List.getElem?_eq_getElem hb]
        simp only [Option.some.injEq,decide_eq_true_eq]
        split <;> rfl
      ·
       have:v.Keys≠w.Keys:=fun e=>h5 (by rw [e])
       simp [h5,this]
     ·
      have:tK v.Items w.Items=false:=by rw [← Bool.not_eq_true,xF];exact fun hh=>h4 (by omega)
      simp [h4,this]
    ·
     simp [h3]
   ·
    simp [h2]
  ·
   simp [h1]
theorem aB0 {v w:aG} (hv:cP v):zH v w=some (pB v w):=rQ (tN v) fun n hn=>aI1 n v w hv hn
mutual
def dep:aG→Int
 | ⟨_,_,_,l,_⟩=>IntKind.i64.wrap (aMw l 0+1)
def aMw:List aG→Int→Int
 | [],a=>a
 | x :: l,a=>aMw l (if dep x > a then dep x else a)
end
theorem aJV (v:aG):dep v=IntKind.i64.wrap (v.Items.foldl (fun a x=>if dep x > a then dep x else a) 0+1):=by
 have key:∀ (l:List aG) (a:Int),aMw l a=l.foldl (fun a x=>if dep x > a then dep x else a) a:=by
  intro l
  induction l with
  | nil=>intro a;simp [aMw]
  | cons x l ih=>intro a;simp [aMw,ih]
 cases v;simp only [dep,key]
mutual
def siz:aG→Int
 | ⟨_,_,_,l,_⟩=>aNh l 1
def aNh:List aG→Int→Int
 | [],a=>a
 | x :: l,a=>aNh l (IntKind.i64.wrap (a+siz x))
end
theorem aKm (v:aG):siz v=v.Items.foldl (fun a x=>IntKind.i64.wrap (a+siz x)) 1:=by
 have key:∀ (l:List aG) (a:Int),aNh l a=l.foldl (fun a x=>IntKind.i64.wrap (a+siz x)) a:=by
  intro l
  induction l with
  | nil=>intro a;simp [aNh]
  | cons x l ih=>intro a;simp [aNh,ih]
 cases v;simp only [siz,key]
theorem aK8:∀ (n:Nat) (v:aG),cP v→tN v≤n→oD n v=some (dep v):=by
 intro n
 induction n with
 | zero=>intro v hv hn;have:=hZ v;omega
 | succ n ih =>
  intro v hv hn
  have hh:=hZ v
  obtain ⟨k0,k1,k2,k3,k4⟩:=(eM v).1 hv
  have hi1:=fun (i:Nat) (hi:i<v.Items.length)=>ih _ (k3.2.2 _ (List.getElem_mem hi)) (by have:=jK (List.getElem_mem hi);omega)
  rw [oD,aJV]
  rw [aBe v.Items (fun a x=>if dep x > a then dep x else a) 0 (fun s i hi=>?_) (fun s=>?_),Option.bind_some]
  ·
   unfold tI
   rw [cC,if_pos (by simp only;omega),fH hi,Option.bind_some,(hi1 i hi),Option.bind_some,kM hi k3.1]
  ·
   unfold tI
   rw [cC,if_neg (by simp only;omega)]
theorem aHC:∀ (n:Nat) (v:aG),cP v→tN v≤n→nV n v=some (dep v):=by
 intro n
 induction n with
 | zero=>intro v hv hn;have:=hZ v;omega
 | succ n ih =>
  intro v hv hn
  have hh:=hZ v
  obtain ⟨k0,k1,k2,k3,k4⟩:=(eM v).1 hv
  have hi1:=fun (i:Nat) (hi:i<v.Items.length)=>ih _ (k3.2.2 _ (List.getElem_mem hi)) (by have:=jK (List.getElem_mem hi);omega)
  rw [nV,aJV]
  rw [aBe v.Items (fun a x=>if dep x > a then dep x else a) 0 (fun s i hi=>?_) (fun s=>?_),Option.bind_some]
  ·
   unfold sQ
   rw [cC,if_pos (by simp only;omega),fH hi,Option.bind_some,(hi1 i hi),Option.bind_some,kM hi k3.1,cC]
   simp only
   by_cases h:s<dep v.Items[i]
   ·
    rw [if_pos h,if_pos h]
   ·
    rw [if_neg h,if_neg h]
  ·
   unfold sQ
   rw [cC,if_neg (by simp only;omega)]
theorem aFN {v:aG} (hv:cP v):aAV v=some (dep v):=rQ (tN v) fun n hn=>aK8 n v hv hn
theorem aIZ {v:aG} (hv:cP v):aAI v=some (dep v):=rQ (tN v) fun n hn=>aHC n v hv hn
theorem aMf:∀ (n:Nat) (v:aG),cP v→tN v≤n→pW n v=some (siz v):=by
 intro n
 induction n with
 | zero=>intro v hv hn;have:=hZ v;omega
 | succ n ih =>
  intro v hv hn
  have hh:=hZ v
  obtain ⟨k0,k1,k2,k3,k4⟩:=(eM v).1 hv
  have hi1:=fun (i:Nat) (hi:i<v.Items.length)=>ih _ (k3.2.2 _ (List.getElem_mem hi)) (by have:=jK (List.getElem_mem hi);omega)
  rw [pW,aKm]
  rw [aBe v.Items (fun a x=>IntKind.i64.wrap (a+siz x)) 1 (fun s i hi=>?_) (fun s=>?_),Option.bind_some]
  ·
   unfold uN
   rw [cC,if_pos (by simp only;omega),fH hi,Option.bind_some,(hi1 i hi),Option.bind_some,kM hi k3.1]
  ·
   unfold uN
   rw [cC,if_neg (by simp only;omega)]
theorem aI3:∀ (n:Nat) (v:aG),cP v→tN v≤n→pM n v=some (siz v):=by
 intro n
 induction n with
 | zero=>intro v hv hn;have:=hZ v;omega
 | succ n ih =>
  intro v hv hn
  have hh:=hZ v
  obtain ⟨k0,k1,k2,k3,k4⟩:=(eM v).1 hv
  have hi1:=fun (i:Nat) (hi:i<v.Items.length)=>ih _ (k3.2.2 _ (List.getElem_mem hi)) (by have:=jK (List.getElem_mem hi);omega)
  rw [pM,aKm]
  rw [aBe v.Items (fun a x=>IntKind.i64.wrap (a+siz x)) 1 (fun s i hi=>?_) (fun s=>?_),Option.bind_some]
  ·
   unfold uH
   rw [cC,if_pos (by simp only;omega),fH hi,Option.bind_some,(hi1 i hi),Option.bind_some,kM hi k3.1]
  ·
   unfold uH
   rw [cC,if_neg (by simp only;omega)]
theorem aGu {v:aG} (hv:cP v):aCd v=some (siz v):=rQ (tN v) fun n hn=>aMf n v hv hn
theorem aKg {v:aG} (hv:cP v):aBX v=some (siz v):=rQ (tN v) fun n hn=>aI3 n v hv hn
end Go.Proofs.YtnigjppddilpcaaGreatDoor
namespace Go.Proofs.YtnigjppddilpcaaGreatDoor
open Go Abs
set_option linter.unusedSimpArgs false
set_option linter.unusedVariables false
def iM (k:List UInt8):Bool:=decide ((4096:Int)<(k.length:Int))
mutual
def shr:aG→Bool
 | ⟨_,_,t,l,ks⟩=>!iM t&&!ks.any iM&&aN8 l
def aN8:List aG→Bool
 | []=>true
 | x :: l=>shr x&&aN8 l
end
theorem aJc:∀ l,aN8 l=l.all shr
 | []=>rfl
 | x :: l=>by simp [aN8,aJc l]
theorem aHL (v:aG):shr v=(!iM v.Text&&!v.Keys.any iM&&v.Items.all shr):=by cases v;simp [shr,aJc]
theorem rY {α:Type} (l:List α) (p:α→Bool):(!l.any p)=l.all fun x=>!p x:=by simp [List.not_any_eq_all_not]
theorem aMS {ks:List (List UInt8)} (h:ks.length≤9223372036854775807):eE ks=some (ks.any iM):=by
 unfold eE fN
 obtain ⟨x,h1,h2⟩:=wF (body:=eG ks) ks iM (fun i hi=>by
  unfold eG
  rw [cC,if_pos (by omega),fH hi,Option.bind_some,uO,Option.bind_some,kM hi h]
  show cond (iM ks[i]) _ _=_
  cases iM ks[i] <;> rfl) (by
  unfold eG
  rw [cC,if_neg (by omega)])
 rw [h1,Option.bind_some,h2]
theorem aLW:∀ (n:Nat) (v:aG),cP v→4*tN v≤n→oF n v=some (shr v):=by
 intro n
 induction n using Nat.strongRecOn with
 | _ n ih =>
  intro v hv hn
  have hh:=hZ v
  obtain ⟨m,rfl⟩:∃ m,n=m+4:=⟨n - 4,by omega⟩
  obtain ⟨k0,k1,k2,k3,k4⟩:=(eM v).1 hv
  have hC:dA (m+3) v.Items=some (v.Items.any fun x=>!shr x):=by
   rw [dA,dY]
   obtain ⟨x,h1,h2⟩:=wF (body:=dR (nK (m+1)) v.Items) v.Items (fun x=>!shr x) (fun i hi=>by
    unfold dR
    rw [cC,if_pos (by omega),fH hi,Option.bind_some,nK,ih m (by omega) _ (k3.2.2 _ (List.getElem_mem hi)) (by have:=jK (List.getElem_mem hi);omega),Option.bind_some,Option.bind_some,kM hi k3.1]
    cases shr v.Items[i] <;> rfl) (by
    unfold dR
    rw [cC,if_neg (by omega)])
   rw [h1,Option.bind_some,h2]
  rw [oF,aMS k4.1,hC,aHL]
  by_cases h:(4096:Int)<v.Text.length
  ·
   simp [h,gd,iM]
  ·
   have hA:(!v.Items.any fun x=>!shr x)=v.Items.all shr:=by rw [rY];simp
   have ht:iM v.Text=false:=by simp [iM,h]
   simp only [h,ht,decide_false,beq_self_eq_true,gd,if_true,Option.bind_some,cond_false,Bool.not_false,Bool.true_and,hA]
   cases v.Keys.any iM <;> rfl
theorem aFO {v:aG} (hv:cP v):aAX v=some (shr v):=rQ (4*tN v) fun n hn=>aLW n v hv hn
theorem aHG:∀ (n:Nat) (v:aG),cP v→tN v≤n→nW n v=some (shr v):=by
 intro n
 induction n with
 | zero=>intro v hv hn;have:=hZ v;omega
 | succ n ih =>
  intro v hv hn
  have hh:=hZ v
  obtain ⟨k0,k1,k2,k3,k4⟩:=(eM v).1 hv
  rw [nW,aHL,cC]
  by_cases h:(4096:Int)<v.Text.length
  ·
   rw [if_pos h];simp [iM,h]
  ·
   rw [if_neg h]
   rw [jB v.Keys.length (fun i=>!iM (v.Keys.getD i default)) false (fun i hi=>?_) ?_,Option.bind_some,nF v.Keys fun k=>!iM k]
   ·
    rw [rY]
    have ht:iM v.Text=false:=by simp [iM,h]
    rw [ht]
    cases v.Keys.all fun x=>!iM x
    ·
     rfl
    ·
     simp only [if_true,Fl.next,Bool.not_false,Bool.true_and]
     rw [jB v.Items.length (fun i=>shr (v.Items.getD i default)) false (fun i hi=>?_) ?_,Option.bind_some,nF v.Items shr]
     ·
      cases v.Items.all shr <;> rfl
     ·
      unfold sU
      rw [cC,if_neg (by omega)]
     ·
      unfold sU
      rw [cC,if_pos (by omega),fH hi,Option.bind_some,ih _ (k3.2.2 _ (List.getElem_mem hi)) (by have:=jK (List.getElem_mem hi);omega),Option.bind_some,kM hi k3.1]
      simp only [List.getD_eq_getElem?_getD,List.getElem?_eq_getElem hi,Option.getD_some]
      cases shr v.Items[i] <;> rfl
   ·
    unfold sT
    rw [cC,if_neg (by omega)]
   ·
    unfold sT
    rw [cC,if_pos (by omega),fH hi,Option.bind_some,kM hi k4.1]
    simp only [List.getD_eq_getElem?_getD,List.getElem?_eq_getElem hi,Option.getD_some]
    show cond (iM v.Keys[i]) _ _=_
    cases iM v.Keys[i] <;> rfl
theorem aI2 {v:aG} (hv:cP v):aAJ v=some (shr v):=rQ (tN v) fun n hn=>aHG n v hv hn
def wth (v:aG):Bool:=decide (dep v≤16)&&decide (siz v≤1000)&&shr v
theorem aEm {v:aG} (hv:cP v):tJ v=some (wth v):=by
 unfold tJ wth
 rw [aFN hv,Option.bind_some,aGu hv,aFO hv]
 by_cases h1:dep v≤16 <;> by_cases h2:siz v≤1000 <;> simp [h1,h2,gd]
theorem aHH {v:aG} (hv:cP v):sW v=some (wth v):=by
 unfold sW wth
 rw [aI2 hv,Option.bind_some,aIZ hv,aKg hv]
 cases h3:shr v
 ·
  simp [gd]
 ·
  by_cases h1:dep v≤16
  ·
   simp [h1,gd]
  ·
   simp [h1,gd]
def aEi (l:List (List UInt8)):Bool:=(List.range (l.length - 1)).all fun i=>Op.bytesLess (l.getD i []) (l.getD (i+1) [])
theorem aFH {l:List (List UInt8)}:aEi l=true↔∀ (i:Nat) (hi:i+1<l.length),Op.bytesLess (l[i]'(by omega)) l[i+1]=true:=by
 unfold aEi
 rw [List.all_eq_true]
 constructor
 ·
  intro h i hi
  have:=h i (List.mem_range.2 (by omega))
  rw [List.getD_eq_getElem?_getD,List.getD_eq_getElem?_getD,List.getElem?_eq_getElem (by omega),List.getElem?_eq_getElem hi] at this
  exact this
 ·
  intro h i hi
  have hi:=List.mem_range.1 hi
  rw [List.getD_eq_getElem?_getD,List.getD_eq_getElem?_getD,List.getElem?_eq_getElem (by omega),List.getElem?_eq_getElem (by omega)]
  exact h i (by omega)
theorem aI5 {l:List (List UInt8)}{body:Int→Option (cM Int (Fl Bool Unit))} (h:∀ (i:Nat) (h1:1≤i) (hi:i<l.length),body (i:Int)=some (if Op.bytesLess (l[i - 1]'(by omega)) l[i]=true then .next ((i+1:Nat):Int) else .out (.done false)))
  (hout:∀ i:Nat,l.length≤i→body (i:Int)=some (.out (.go ()))):eQ body (1:Int)=some (if aEi l=true then .go () else .done false):=by
 have key:∃ x,eQ body (1:Int)=some x∧x=if aEi l=true then .go () else .done false:=by
  refine rE (fun s=>∃ i:Nat,s=(i:Int)∧1≤i∧∀ (k:Nat) (hk:k+1<l.length),k+1<i→Op.bytesLess (l[k]'(by omega)) l[k+1]=true) (fun s=>l.length - s.toNat) _ ?_ _ ⟨1,rfl,by omega,fun k hk hk2=>by omega⟩
  rintro s ⟨i,rfl,h1,hd⟩
  by_cases hlt:i<l.length
  ·
   rw [h i h1 hlt]
   by_cases hb:Op.bytesLess (l[i - 1]'(by omega)) l[i]=true
   ·
    rw [if_pos hb]
    refine .inl ⟨_,rfl,⟨i+1,rfl,by omega,fun k hk hk2=>?_⟩,by simp only [Int.toNat_natCast];omega⟩
    by_cases e:k+1=i
    ·
     subst e;exact hb
    ·
     exact hd k hk (by omega)
   ·
    rw [if_neg hb]
    refine .inr ⟨_,rfl,?_⟩
    rw [if_neg fun hr=>hb (by
     have:=aFH.1 hr (i - 1) (by omega)
     simp only [show i - 1+1=i by omega] at this
     exact this)]
  ·
   rw [hout i (by omega)]
   refine .inr ⟨_,rfl,?_⟩
   rw [if_pos (aFH.2 fun k hk=>hd k hk (by omega))]
 obtain ⟨x,hx,rfl⟩:=key
 exact hx
theorem aHF {l:List (List UInt8)} (h:l.length≤9223372036854775807):sR l=some (aEi l):=by
 unfold sR
 rw [aI5 (l:=l) (fun i h1 hi=>?_) (fun i hi=>?_),Option.bind_some]
 ·
  cases aEi l <;> rfl
 ·
  unfold rI
  rw [cC,if_pos (by omega),w64 (by omega) (by omega),show (i:Int) - 1=((i - 1:Nat):Int) by omega,fH (by omega),Option.bind_some,fH hi,Option.bind_some,kM hi h]
  cases Op.bytesLess (l[i - 1]'(by omega)) l[i] <;> rfl
 ·
  unfold rI
  rw [cC,if_neg (by omega)]
theorem aHn {l:List (List UInt8)} (h:l.length≤9223372036854775807):oK l=some (aEi l):=by
 unfold oK
 rw [aI5 (l:=l) (fun i h1 hi=>?_) (fun i hi=>?_),Option.bind_some]
 ·
  cases aEi l <;> rfl
 ·
  unfold oE
  rw [cC,if_pos (by omega),w64 (by omega) (by omega),show (i:Int) - 1=((i - 1:Nat):Int) by omega,fH (by omega),Option.bind_some,fH hi,Option.bind_some,kM hi h]
  cases Op.bytesLess (l[i - 1]'(by omega)) l[i] <;> rfl
 ·
  unfold oE
  rw [cC,if_neg (by omega)]
def aAi (o:Bool) (v:aG):Bool :=
 if v.Kind=0 then decide (v.Int=0)&&decide (v.Text=[])&&decide (v.Items.length=0)&&decide (v.Keys.length=0)
 else if v.Kind=1 then (decide (v.Int=0)||decide (v.Int=1))&&decide (v.Text=[])&&decide (v.Items.length=0)&&decide (v.Keys.length=0)
 else if v.Kind=2 then decide (v.Text=[])&&decide (v.Items.length=0)&&decide (v.Keys.length=0)
 else if v.Kind=6 then o&&decide (0≤v.Int)&&decide (v.Text=[])&&decide (v.Items.length=0)&&decide (v.Keys.length=0)
 else if v.Kind=3 then decide (v.Int=0)&&decide (v.Items.length=0)&&decide (v.Keys.length=0)
 else if v.Kind=4 then decide (v.Int=0)&&decide (v.Text=[])&&decide (v.Keys.length=0)
 else if v.Kind=5 then decide (v.Int=0)&&decide (v.Text=[])&&decide (v.Keys.length=v.Items.length)&&aEi v.Keys
 else false
mutual
def xW (o:Bool):aG→Bool
 | ⟨k,i,t,l,ks⟩=>aAi o ⟨k,i,t,l,ks⟩&&aMD o l
def aMD (o:Bool):List aG→Bool
 | []=>true
 | x :: l=>xW o x&&aMD o l
end
mutual
def fut:aG→Bool
 | ⟨k,_,_,l,_⟩=>decide (k=6)||aMG l
def aMG:List aG→Bool
 | []=>false
 | x :: l=>fut x||aMG l
end
theorem aIv (o:Bool):∀ l,aMD o l=l.all (xW o)
 | []=>by simp [aMD]
 | x :: l=>by simp [aMD,aIv o l]
theorem aIw:∀ l,aMG l=l.any fut
 | []=>by simp [aMG]
 | x :: l=>by simp [aMG,aIw l]
theorem aDi (o:Bool) (v:aG):xW o v=(aAi o v&&v.Items.all (xW o)):=by cases v;simp only [xW,aIv]
theorem aMF (v:aG):fut v=(decide (v.Kind=6)||v.Items.any fut):=by cases v;simp only [fut,aIw]
theorem aOW (v:aG):aAi false v=(aAi true v&&!decide (v.Kind=6)):=by
 unfold aAi
 by_cases h0:v.Kind=0
 ·
  simp [h0]
 ·
  by_cases h1:v.Kind=1
  ·
   simp [h1]
  ·
   by_cases h2:v.Kind=2
   ·
    simp [h2]
   ·
    by_cases h6:v.Kind=6
    ·
     simp [h6]
    ·
     simp [h0,h1,h2,h6]
theorem aMC:∀ (n:Nat) (v:aG),tN v≤n→xW false v=(xW true v&&!fut v):=by
 intro n
 induction n with
 | zero=>intro v h;have:=hZ v;omega
 | succ n ih =>
  intro v h
  have hall:v.Items.all (xW false)=(v.Items.all (xW true)&&!v.Items.any fut):=by
   have key:∀ l:List aG,(∀ x∈l,xW false x=(xW true x&&!fut x))→l.all (xW false)=(l.all (xW true)&&!l.any fut):=by
    intro l
    induction l with
    | nil=>intro _;rfl
    | cons x l ihl =>
     intro hx
     simp only [List.all_cons,List.any_cons]
     rw [ihl fun y hy=>hx y (by simp [hy]),hx x (by simp)]
     cases xW true x <;> cases fut x <;> cases l.all (xW true) <;> cases l.any fut <;> rfl
   exact key v.Items fun x hx=>ih x (by have:=aJ2 hx;omega)
  rw [aDi,aDi,aMF,aOW,hall]
  cases aAi true v <;> cases decide (v.Kind=6) <;> cases v.Items.all (xW true) <;> cases v.Items.any fut <;> rfl
theorem aLD {α:Type} (l:List α):decide ((0:Int)<(l.length:Int))=!decide (l.length=0):=by cases l <;> simp <;> omega
theorem aLE {α:Type} (l:List α):decide ((l.length:Int)=0)=decide (l.length=0):=by rw [Bool.eq_iff_iff];simp
theorem aPI {α β:Type} (l:List α) (m:List β):decide ((l.length:Int)=m.length)=decide (l.length=m.length):=by rw [Bool.eq_iff_iff];simp;omega
theorem aJ0:∀ (n:Nat) (v:aG) (o:Bool),cP v→4*tN v≤n→nA n v o=some (xW o v):=by
 intro n
 induction n using Nat.strongRecOn with
 | _ n ih =>
  intro v o hv hn
  have hh:=hZ v
  obtain ⟨m,rfl⟩:∃ m,n=m+4:=⟨n - 4,by omega⟩
  obtain ⟨k0,k1,k2,k3,k4⟩:=(eM v).1 hv
  have hC:cZ (m+3) v.Items o=some (v.Items.any fun x=>!xW o x):=by
   rw [cZ,dU]
   obtain ⟨x,h1,h2⟩:=wF (body:=dP (lY (m+1)) v.Items o) v.Items (fun x=>!xW o x) (fun i hi=>by
    unfold dP
    rw [cC,if_pos (by omega),fH hi,Option.bind_some,lY,ih m (by omega) _ _ (k3.2.2 _ (List.getElem_mem hi)) (by have:=jK (List.getElem_mem hi);omega),Option.bind_some,Option.bind_some,kM hi k3.1]
    cases xW o v.Items[i] <;> rfl) (by
    unfold dP
    rw [cC,if_neg (by omega)])
   rw [h1,Option.bind_some,h2]
  have hA:(!v.Items.any fun x=>!xW o x)=v.Items.all (xW o):=by rw [rY];simp
  have hE:∀ b:Bool,(b=true→v.Items.length=0)→b=(b&&v.Items.all (xW o)):=fun b hb=>by
   cases b
   ·
    rfl
   ·
    have:v.Items=[]:=List.eq_nil_of_length_eq_zero (hb rfl)
    rw [this];rfl
  rw [nA,aHn k4.1,hC,aDi]
  unfold aAi
  by_cases h0:v.Kind=0
  ·
   simp only [h0,Int.reduceEq,if_true,if_false,decide_true,decide_false,cond_true,cond_false,Option.bind_some,Fl.next,aLD]
   rw [← hE _ (by simp only [Bool.and_eq_true,decide_eq_true_eq];rintro ⟨⟨_,h⟩,_⟩;exact h)]
   cases decide (v.Int=0) <;> cases decide (v.Text=[]) <;> cases decide (v.Items.length=0) <;> cases decide (v.Keys.length=0) <;> rfl
  by_cases h1:v.Kind=1
  ·
   simp only [h1,Int.reduceEq,if_true,if_false,decide_true,decide_false,cond_true,cond_false,Option.bind_some,Fl.next,aLD]
   rw [← hE _ (by simp only [Bool.and_eq_true,decide_eq_true_eq];rintro ⟨⟨_,h⟩,_⟩;exact h)]
   cases decide (v.Int=0) <;> cases decide (v.Int=1) <;> cases decide (v.Text=[]) <;> cases decide (v.Items.length=0) <;> cases decide (v.Keys.length=0) <;> rfl
  by_cases h2:v.Kind=2
  ·
   simp only [h2,Int.reduceEq,if_true,if_false,decide_true,decide_false,cond_true,cond_false,Option.bind_some,Fl.next,aLD]
   rw [← hE _ (by simp only [Bool.and_eq_true,decide_eq_true_eq];rintro ⟨⟨_,h⟩,_⟩;exact h)]
   cases decide (v.Text=[]) <;> cases decide (v.Items.length=0) <;> cases decide (v.Keys.length=0) <;> rfl
  by_cases h6:v.Kind=6
  ·
   simp only [h6,Int.reduceEq,if_true,if_false,decide_true,decide_false,cond_true,cond_false,Option.bind_some,Fl.next,aLD]
   rw [← hE _ (by simp only [Bool.and_eq_true,decide_eq_true_eq];rintro ⟨⟨_,h⟩,_⟩;exact h)]
   cases o <;> cases decide (0≤v.Int) <;> cases decide (v.Text=[]) <;> cases decide (v.Items.length=0) <;> cases decide (v.Keys.length=0) <;> rfl
  by_cases h3:v.Kind=3
  ·
   simp only [h3,Int.reduceEq,if_true,if_false,decide_true,decide_false,cond_true,cond_false,Option.bind_some,Fl.next,aLD]
   rw [← hE _ (by simp only [Bool.and_eq_true,decide_eq_true_eq];rintro ⟨⟨_,h⟩,_⟩;exact h)]
   cases decide (v.Int=0) <;> cases decide (v.Items.length=0) <;> cases decide (v.Keys.length=0) <;> rfl
  by_cases h4:v.Kind=4
  ·
   simp only [h4,Int.reduceEq,if_true,if_false,decide_true,decide_false,cond_true,cond_false,aLD]
   cases decide (v.Int=0) <;> cases decide (v.Text=[]) <;> cases decide (v.Keys.length=0) <;> simp [hA,Fl.next]
  by_cases h5:v.Kind=5
  ·
   simp only [h5,Int.reduceEq,if_true,if_false,decide_true,decide_false,cond_true,cond_false,aPI]
   cases decide (v.Int=0) <;> cases decide (v.Text=[]) <;> cases decide (v.Keys.length=v.Items.length) <;> cases aEi v.Keys <;> simp [hA,Fl.next,gd]
  simp only [h0,h1,h2,h3,h4,h5,h6,if_false,decide_false,cond_false,Option.bind_some,Fl.next,Bool.false_and]
theorem aAg {v:aG}{o:Bool} (hv:cP v):wB v o=some (xW o v):=rQ (4*tN v) fun n hn=>aJ0 n v o hv hn
theorem aMg:∀ (n:Nat) (v:aG),cP v→tN v≤n→iP n v=some (xW true v):=by
 intro n
 induction n with
 | zero=>intro v hv hn;have:=hZ v;omega
 | succ n ih =>
  intro v hv hn
  have hh:=hZ v
  obtain ⟨k0,k1,k2,k3,k4⟩:=(eM v).1 hv
  rw [iP,aHF k4.1,aDi]
  rw [jB v.Items.length (fun i=>xW true (v.Items.getD i default)) false (fun i hi=>?_) ?_,Option.bind_some,nF v.Items (xW true)]
  ·
   cases v.Items.all (xW true)
   ·
    simp [Fl.next]
   ·
    simp only [if_true,Fl.next,Bool.and_true]
    unfold aAi
    by_cases h0:v.Kind=0
    ·
     simp only [h0,Int.reduceEq,if_true,if_false,decide_true,decide_false,cond_true,cond_false,aLE]
     cases decide (v.Int=0) <;> cases decide (v.Text=[]) <;> cases decide (v.Items.length=0) <;> cases decide (v.Keys.length=0) <;> rfl
    by_cases h1:v.Kind=1
    ·
     simp only [h1,Int.reduceEq,if_true,if_false,decide_true,decide_false,cond_true,cond_false,aLE]
     cases decide (v.Int=0) <;> cases decide (v.Int=1) <;> cases decide (v.Text=[]) <;> cases decide (v.Items.length=0) <;> cases decide (v.Keys.length=0) <;> rfl
    by_cases h2:v.Kind=2
    ·
     simp only [h2,Int.reduceEq,if_true,if_false,decide_true,decide_false,cond_true,cond_false,aLE]
     cases decide (v.Text=[]) <;> cases decide (v.Items.length=0) <;> cases decide (v.Keys.length=0) <;> rfl
    by_cases h6:v.Kind=6
    ·
     simp only [h6,Int.reduceEq,if_true,if_false,decide_true,decide_false,cond_true,cond_false,aLE]
     cases decide (0≤v.Int) <;> cases decide (v.Text=[]) <;> cases decide (v.Items.length=0) <;> cases decide (v.Keys.length=0) <;> rfl
    by_cases h3:v.Kind=3
    ·
     simp only [h3,Int.reduceEq,if_true,if_false,decide_true,decide_false,cond_true,cond_false,aLE]
     cases decide (v.Int=0) <;> cases decide (v.Items.length=0) <;> cases decide (v.Keys.length=0) <;> rfl
    by_cases h4:v.Kind=4
    ·
     simp only [h4,Int.reduceEq,if_true,if_false,decide_true,decide_false,cond_true,cond_false,aLE]
     cases decide (v.Int=0) <;> cases decide (v.Text=[]) <;> cases decide (v.Keys.length=0) <;> rfl
    by_cases h5:v.Kind=5
    ·
     simp only [h5,Int.reduceEq,if_true,if_false,decide_true,decide_false,cond_true,cond_false,aPI]
     cases decide (v.Int=0) <;> cases decide (v.Text=[]) <;> cases decide (v.Keys.length=v.Items.length) <;> cases aEi v.Keys <;> rfl
    simp only [h0,h1,h2,h3,h4,h5,h6,if_false,decide_false,cond_false]
  ·
   unfold nD
   rw [cC,if_neg (by omega)]
  ·
   unfold nD
   rw [cC,if_pos (by omega),fH hi,Option.bind_some,ih _ (k3.2.2 _ (List.getElem_mem hi)) (by have:=jK (List.getElem_mem hi);omega),Option.bind_some,kM hi k3.1]
   simp only [List.getD_eq_getElem?_getD,List.getElem?_eq_getElem hi,Option.getD_some]
   cases xW true v.Items[i] <;> rfl
theorem yI {v:aG} (hv:cP v):qF v=some (xW true v):=rQ (tN v) fun n hn=>aMg n v hv hn
theorem aNy:∀ (n:Nat) (v:aG),cP v→tN v≤n→mU n v=some (fut v):=by
 intro n
 induction n with
 | zero=>intro v hv hn;have:=hZ v;omega
 | succ n ih =>
  intro v hv hn
  have hh:=hZ v
  obtain ⟨k0,k1,k2,k3,k4⟩:=(eM v).1 hv
  rw [mU,aMF]
  rw [jB v.Items.length (fun i=>!fut (v.Items.getD i default)) true (fun i hi=>?_) ?_,Option.bind_some,nF v.Items fun x=>!fut x,← rY]
  ·
   cases v.Items.any fut
   ·
    simp only [Bool.not_false,if_true,Fl.next,Bool.or_false]
   ·
    simp [Fl.next]
  ·
   unfold rH
   rw [cC,if_neg (by omega)]
  ·
   unfold rH
   rw [cC,if_pos (by omega),fH hi,Option.bind_some,ih _ (k3.2.2 _ (List.getElem_mem hi)) (by have:=jK (List.getElem_mem hi);omega),Option.bind_some,kM hi k3.1]
   simp only [List.getD_eq_getElem?_getD,List.getElem?_eq_getElem hi,Option.getD_some]
   cases fut v.Items[i] <;> rfl
theorem aHD {v:aG} (hv:cP v):zG v=some (fut v):=rQ (tN v) fun n hn=>aNy n v hv hn
noncomputable def nL (v:aG):Bool:=wth v&&xW false v
theorem aAW {v:aG} (hv:cP v):sG v=some (nL v):=by
 unfold sG nL
 rw [aEm hv,Option.bind_some,aAg hv]
 cases wth v <;> simp [gd]
theorem aBC {v:aG} (hv:cP v):sA v=some (nL v):=by
 unfold sA nL
 rw [yI hv,Option.bind_some,aHH hv,aHD hv,aMC (tN v) v (Nat.le_refl _)]
 cases wth v <;> cases xW true v <;> cases fut v <;> rfl
end Go.Proofs.YtnigjppddilpcaaGreatDoor
namespace Go.Proofs.YtnigjppddilpcaaGreatDoor
open Go Abs
set_option linter.unusedSimpArgs false
set_option linter.unusedVariables false
def lR (c:UInt8):Bool:=(decide (97≤c.toNat)&&decide (c.toNat≤122))||(decide (65≤c.toNat)&&decide (c.toNat≤90))||decide (c.toNat=95)
def jS (c:UInt8):Bool:=decide (48≤c.toNat)&&decide (c.toNat≤57)
theorem aFo (c:UInt8):uV (c.toNat:Int)=some (lR c):=by
 unfold uV lR
 congr 1
 rw [Bool.eq_iff_iff]
 simp only [Bool.cond_eq_ite,Bool.or_eq_true,Bool.and_eq_true,decide_eq_true_eq]
 split <;> (try split) <;> (try split) <;> simp_all <;> omega
theorem aFB (c:UInt8):tA (c.toNat:Int)=some (lR c||jS c):=by
 unfold tA lR jS
 congr 1
 rw [Bool.eq_iff_iff]
 have e:∀ n:Nat,((n:Int)≤(c.toNat:Int)↔n≤c.toNat)∧((c.toNat:Int)≤(n:Int)↔c.toNat≤n)∧((c.toNat:Int)=(n:Int)↔c.toNat=n):=fun n=>⟨by omega,by omega,by omega⟩
 have e1:=e 97;have e2:=e 122;have e3:=e 65;have e4:=e 90;have e5:=e 95;have e6:=e 48;have e7:=e 57
 simp only [Int.cast_ofNat_Int] at e1 e2 e3 e4 e5 e6 e7
 by_cases h1:97≤c.toNat <;> by_cases h2:c.toNat≤122 <;> by_cases h3:65≤c.toNat <;> by_cases h4:c.toNat≤90 <;> by_cases h5:c.toNat=95 <;> by_cases h6:48≤c.toNat <;> by_cases h7:c.toNat≤57 <;> simp [h1,h2,h3,h4,h5,h6,h7,e1.1,e2.2.1,e3.1,e4.2.1,e5.2.2,e6.1,e7.2.1] <;> omega
def lW (s:List UInt8):Bool:=!decide (s=[])&&decide (s.length≤64)&&!jS (s.headD 0)&&s.all fun c=>lR c||jS c
theorem uD {s:List UInt8}:pK s=some (lW s):=by
 unfold pK lW
 by_cases h0:s=[]
 ·
  simp [h0]
 ·
  by_cases h1:(64:Int)<s.length
  ·
   have h2:¬s.length≤64:=by omega
   simp [h0,h1,h2]
  ·
   have h2:s.length≤64:=by omega
   simp only [h0,h1,h2,decide_false,decide_true,cond_false,Bool.not_false,Bool.true_and]
   rw [jB s.length (fun i=>lR (s.getD i 0)||(decide (0<i)&&jS (s.getD i 0))) false (fun i hi=>?_) ?_,Option.bind_some]
   ·
    have:((List.range s.length).all fun i=>lR (s.getD i 0)||(decide (0<i)&&jS (s.getD i 0)))=(!jS (s.headD 0)&&s.all fun c=>lR c||jS c):=by
     obtain ⟨c,r,rfl⟩:∃ c r,s=c :: r:=by cases s with
      | nil=>exact absurd rfl h0
      | cons c r=>exact ⟨c,r,rfl⟩
     have hnd:lR c=true→jS c=false:=by
      unfold lR jS
      simp only [Bool.or_eq_true,Bool.and_eq_true,decide_eq_true_eq,Bool.and_eq_false_iff,decide_eq_false_iff_not]
      omega
     rw [Bool.eq_iff_iff,Bool.and_eq_true,List.all_eq_true,List.all_eq_true]
     constructor
     ·
      intro h
      have h3:=h 0 (by simp)
      simp only [List.getD_cons_zero,Nat.lt_irrefl,decide_false,Bool.false_and,Bool.or_false] at h3
      refine ⟨by simp [hnd h3],fun x hx=>?_⟩
      obtain ⟨i,hi,rfl⟩:=List.mem_iff_getElem.1 hx
      have h4:=h i (List.mem_range.2 hi)
      simp only [List.getD_eq_getElem?_getD,List.getElem?_eq_getElem hi,Option.getD_some] at h4
      revert h4
      cases lR (c :: r)[i] <;> cases jS (c :: r)[i] <;> simp
     ·
      rintro ⟨h3,h4⟩ i hi
      have hi:=List.mem_range.1 hi
      have h5:=h4 _ (List.getElem_mem hi)
      simp only [List.getD_eq_getElem?_getD,List.getElem?_eq_getElem hi,Option.getD_some]
      cases i with
      | zero=>revert h3 h5;simp only [List.headD_cons,List.getElem_cons_zero];cases lR c <;> cases jS c <;> simp
      | succ i=>simpa using h5
    rw [this]
    cases (!jS (s.headD 0)&&s.all fun c=>lR c||jS c) <;> rfl
   ·
    unfold uE
    rw [cC,if_neg (by omega)]
   ·
    unfold uE
    rw [cC,if_pos (by omega),fH hi,Option.bind_some,aFo,Option.bind_some,kM hi (by omega)]
    simp only [List.getD_eq_getElem?_getD,List.getElem?_eq_getElem hi,Option.getD_some]
    have hz:decide ((i:Int)=0)=!decide (0<i):=by rw [Bool.eq_iff_iff];simp
    have hd:∀ c:UInt8,(cond (decide ((c.toNat:Int)<48)) true (decide ((57:Int)<(c.toNat:Int))))=!jS c:=fun c=>by
     unfold jS
     by_cases h1:c.toNat<48
     ·
      have:¬48≤c.toNat:=by omega
      have h2:(c.toNat:Int)<48:=by omega
      simp [h2,this]
     ·
      have:48≤c.toNat:=by omega
      have h2:¬(c.toNat:Int)<48:=by omega
      rw [Bool.eq_iff_iff]
      simp [h2,this]
      omega
    rw [hz]
    generalize s[i]=c
    have hd':=hd c
    cases hl:lR c
    ·
     by_cases h0:0<i
     ·
      simp only [h0,decide_true,Bool.not_true,Bool.not_false,cond_true,cond_false,gd,beq_self_eq_true,Bool.and_self,Bool.true_and,if_true,Option.bind_some,Bool.false_or]
      by_cases h48:(c.toNat:Int)<48
      ·
       rw [show jS c=false by rw [← Bool.not_eq_true',← hd'];simp [h48]]
       simp [h48]
      ·
       simp only [h48,decide_false,cond_false] at hd' ⊢
       simp only [beq_self_eq_true,if_true,Option.bind_some,hd']
       cases jS c <;> rfl
     ·
      simp [h0,gd]
    ·
     simp [gd]
theorem uJ {s:List UInt8}:nP s=some (lW s):=by
 unfold nP lW
 by_cases h0:s=[]
 ·
  subst h0;rfl
 ·
  have hl:0<s.length:=List.length_pos_iff.2 h0
  by_cases h1:(64:Int)<s.length
  ·
   have h2:¬s.length≤64:=by omega
   have h3:(cond (decide ((s.length:Int)<1)) true (decide ((64:Int)<(s.length:Int))))=true:=by simp [h1]
   simp [h3,gd,h2]
  ·
   have h2:s.length≤64:=by omega
   have h3:(cond (decide ((s.length:Int)<1)) true (decide ((64:Int)<(s.length:Int))))=false:=by simp [h1];omega
   obtain ⟨c,r,rfl⟩:∃ c r,s=c :: r:=by cases s with
    | nil=>exact absurd rfl h0
    | cons c r=>exact ⟨c,r,rfl⟩
   have hi0:jT (c :: r) (0:Int)=some c:=rfl
   have hdg:(cond (decide ((48:Int)≤(c.toNat:Int))) (decide ((c.toNat:Int)≤57)) false)=jS c:=by
    unfold jS
    by_cases h4:48≤c.toNat
    ·
     have:(48:Int)≤(c.toNat:Int):=by omega
     rw [Bool.eq_iff_iff];simp [h4,this];omega
    ·
     have:¬(48:Int)≤(c.toNat:Int):=by omega
     simp [h4,this]
   rw [h3,hi0]
   simp only [h2,List.headD_cons,decide_true,Bool.and_true,reduceCtorEq,decide_false,Bool.not_false,gd,beq_self_eq_true,if_true,Option.bind_some,cond_false,Bool.true_and]
   have key:∀ x:UInt8,((decide ((48:Int)≤(c.toNat:Int))==true)=true→x=c)→(cond (decide ((48:Int)≤(c.toNat:Int))) (decide ((x.toNat:Int)≤57)) false)=jS c:=fun x hx=>by
    rw [← hdg]
    by_cases h4:(48:Int)≤(c.toNat:Int)
    ·
     rw [hx (by simp [h4])]
    ·
     simp [h4]
   have key2:∃ x:UInt8,(if (decide ((48:Int)≤(c.toNat:Int))==true)=true then some c else some default)=some x∧((decide ((48:Int)≤(c.toNat:Int))==true)=true→x=c):=by
    by_cases h4:(decide ((48:Int)≤(c.toNat:Int))==true)=true
    ·
     exact ⟨c,by rw [if_pos h4],fun _=>rfl⟩
    ·
     exact ⟨default,by rw [if_neg h4],fun h=>absurd h h4⟩
   obtain ⟨x,hx1,hx2⟩:=key2
   rw [hx1,Option.bind_some,key x hx2]
   cases hdc:jS c
   ·
    simp only [cond_false,Bool.not_false,Bool.true_and]
    rw [jB (c :: r).length (fun i=>lR ((c :: r).getD i default)||jS ((c :: r).getD i default)) false (fun i hi=>?_) ?_,Option.bind_some,nF (c :: r) fun c=>lR c||jS c]
    ·
     cases (c :: r).all fun c=>lR c||jS c <;> rfl
    ·
     unfold sY
     rw [cC,if_neg (by omega)]
    ·
     unfold sY
     rw [cC,if_pos (by omega),fH hi,Option.bind_some,aFB,Option.bind_some,kM hi (by omega)]
     simp only [List.getD_eq_getElem?_getD,List.getElem?_eq_getElem hi,Option.getD_some]
     cases lR (c :: r)[i] <;> cases jS (c :: r)[i] <;> rfl
   ·
    rfl
end Go.Proofs.YtnigjppddilpcaaGreatDoor
namespace Go.Proofs.YtnigjppddilpcaaGreatDoor
open Go Abs
set_option linter.unusedSimpArgs false
set_option linter.unusedVariables false
def aGc (c:UInt8):Bool:=decide (c.toNat<33)||decide (126<c.toNat)||decide (c.toNat=47)||decide (c.toNat=34)
def iZ (s:List UInt8):Bool:=decide (1≤s.length)&&decide (s.length≤64)&&s.all fun c=>!aGc c
theorem aNI (c:UInt8):(cond (cond (cond (decide ((c.toNat:Int)<33)) true (decide ((126:Int)<(c.toNat:Int)))) true (decide ((c.toNat:Int)=47))) true (decide ((c.toNat:Int)=34)))=aGc c:=by
 unfold aGc
 rw [Bool.eq_iff_iff]
 by_cases h1:c.toNat<33
 ·
  have:(c.toNat:Int)<33:=by omega
  simp [h1,this]
 ·
  have e1:¬(c.toNat:Int)<33:=by omega
  by_cases h2:126<c.toNat
  ·
   have:(126:Int)<(c.toNat:Int):=by omega
   simp [h1,e1,h2,this]
  ·
   have e2:¬(126:Int)<(c.toNat:Int):=by omega
   simp [h1,e1,h2,e2]
   by_cases h3:(c.toNat:Int)=47 <;> simp [h3] <;> omega
theorem aIk {τ:Type}{s:List UInt8}{i:Nat} (hi:i<s.length) (a b:τ):(((jT s (i:Int)).bind fun (x6:UInt8)=>(gd ((decide (((x6).toNat:Int)<(33:Int)))==false) (jT s (i:Int))).bind fun (x8:UInt8)=>(gd ((cond (decide (((x6).toNat:Int)<(33:Int))) true (decide ((126:Int)<((x8).toNat:Int))))==false) (jT s (i:Int))).bind fun (x10:UInt8)=>(gd ((cond (cond (decide (((x6).toNat:Int)<(33:Int))) true (decide ((126:Int)<((x8).toNat:Int)))) true (decide (((x10).toNat:Int)=(47:Int))))==false) (jT s (i:Int))).bind fun (x12:UInt8)=>cond (cond (cond (cond (decide (((x6).toNat:Int)<(33:Int))) true (decide ((126:Int)<((x8).toNat:Int)))) true (decide (((x10).toNat:Int)=(47:Int)))) true (decide (((x12).toNat:Int)=(34:Int)))) (some a) (some b)):Option τ)=some (if !aGc s[i] then b else a):=by
 rw [fH hi,Option.bind_some]
 generalize s[i]=c
 rw [← aNI]
 by_cases h1:(c.toNat:Int)<33
 ·
  simp [h1,gd]
 ·
  by_cases h2:(126:Int)<(c.toNat:Int)
  ·
   have h2':¬(c.toNat:Int)≤126:=by omega
   simp [h1,h2,h2',gd]
  ·
   by_cases h3:(c.toNat:Int)=47
   ·
    simp [h1,h2,h3,gd]
   ·
    simp only [h1,h2,h3,decide_false,cond_false,beq_self_eq_true,gd,if_true,Option.bind_some]
    by_cases h4:(c.toNat:Int)=34 <;> simp [h4]
theorem aIy {s:List UInt8} (hs:s.length≤9223372036854775807):oN s=some (iZ s):=by
 unfold oN iZ
 rw [jB s.length (fun i=>!aGc (s.getD i default)) false (fun i hi=>?_) ?_,Option.bind_some,nF s fun c=>!aGc c]
 ·
  cases s.all fun c=>!aGc c
  ·
   simp [Fl.next]
  ·
   simp only [if_true,Fl.next,hY,Option.bind_some,Bool.and_true]
   congr 1
   rw [Bool.eq_iff_iff]
   by_cases h:(1:Int)≤s.length <;> simp [h] <;> omega
 ·
  unfold pY
  rw [cC,if_neg (by omega)]
 ·
  unfold pY
  rw [cC,if_pos (by omega),aIk hi,kM hi hs]
  simp only [List.getD_eq_getElem?_getD,List.getElem?_eq_getElem hi,Option.getD_some]
theorem aD3 {s:List UInt8}:nQ s=some (iZ s):=by
 unfold nQ iZ
 by_cases h0:s.length<1∨64<s.length
 ·
  have e:(cond (decide ((s.length:Int)<1)) true (decide ((64:Int)<(s.length:Int))))=true:=by simp;omega
  rw [e]
  have:(decide (1≤s.length)&&decide (s.length≤64))=false:=by simp;omega
  rw [this];rfl
 ·
  have e:(cond (decide ((s.length:Int)<1)) true (decide ((64:Int)<(s.length:Int))))=false:=by simp;omega
  have:(decide (1≤s.length)&&decide (s.length≤64))=true:=by simp;omega
  rw [e,this,cond_false]
  rw [jB s.length (fun i=>!aGc (s.getD i default)) false (fun i hi=>?_) ?_,Option.bind_some,nF s fun c=>!aGc c]
  ·
   cases s.all fun c=>!aGc c <;> rfl
  ·
   unfold tC
   rw [cC,if_neg (by omega)]
  ·
   unfold tC
   rw [cC,if_pos (by omega),aIk hi,kM hi (by omega)]
   simp only [List.getD_eq_getElem?_getD,List.getElem?_eq_getElem hi,Option.getD_some]
end Go.Proofs.YtnigjppddilpcaaGreatDoor
namespace Go.Proofs.YtnigjppddilpcaaGreatDoor
open Go Abs
set_option linter.unusedSimpArgs false
set_option linter.unusedVariables false
def inB (n l h:Int):Bool:=decide (l≤n)&&decide (n≤h)
theorem qX {n l h:Int}:hY n l h=some (inB n l h):=by unfold hY inB;rw [Bool.cond_eq_ite];by_cases h1:l≤n <;> simp [h1]
theorem aBY {n l h:Int}:nI n l h=some (inB n l h):=by unfold nI inB;rw [Bool.cond_eq_ite];by_cases h1:l≤n <;> simp [h1]
def yE (a b:cE):Bool:=decide (a.Queue=b.Queue)&&decide (a.ToStart=b.ToStart)&&decide (a.ToClose=b.ToClose)&&decide (a.Total=b.Total)&&decide (a.Beat=b.Beat)&&decide (a.First=b.First)&&decide (a.Coef=b.Coef)&&decide (a.Most=b.Most)&&decide (a.Attempts=b.Attempts)&&decide (a.Fatal=b.Fatal)
theorem aBr {a b:cE} (h:fR a):jD a b=some (yE a b):=by
 have hf:a.Fatal.length≤9223372036854775807:=h.2.2.2.2.2.2.2.2.2.1
 unfold jD yE
 rw [aFK hf]
 simp only [kK,Option.bind_some,yV]
 by_cases h1:a.ToStart=b.ToStart
 ·
  by_cases h2:a.ToClose=b.ToClose
  ·
   by_cases h3:a.Total=b.Total
   ·
    by_cases h4:a.Beat=b.Beat
    ·
     by_cases h5:a.First=b.First
     ·
      by_cases h6:a.Coef=b.Coef
      ·
       by_cases h7:a.Most=b.Most
       ·
        by_cases h8:a.Attempts=b.Attempts
        ·
         by_cases h9:a.Queue=b.Queue <;> simp [h1,h2,h3,h4,h5,h6,h7,h8,h9,gd]
        ·
         simp [h1,h2,h3,h4,h5,h6,h7,h8]
       ·
        simp [h1,h2,h3,h4,h5,h6,h7]
      ·
       simp [h1,h2,h3,h4,h5,h6]
     ·
      simp [h1,h2,h3,h4,h5]
    ·
     simp [h1,h2,h3,h4]
   ·
    simp [h1,h2,h3]
  ·
   simp [h1,h2]
 ·
  simp [h1]
theorem aNC {a b:List (List UInt8)} (hlen:a.length=b.length):((List.range a.length).all fun i=>decide (a[i]?=b[i]?))=decide (a=b):=by
 rw [Bool.eq_iff_iff,List.all_eq_true]
 simp only [decide_eq_true_eq]
 constructor
 ·
  refine fun h6=>List.ext_getElem? fun i=>?_
  by_cases hi:i<a.length
  ·
   exact h6 i (List.mem_range.2 hi)
  ·
   rw [List.getElem?_eq_none (by omega),List.getElem?_eq_none (by omega)]
 ·
  intro e i _;rw [e]
theorem uA {a b:cE} (h:fR a):lG a b=some (yE a b):=by
 have hf:a.Fatal.length≤9223372036854775807:=h.2.2.2.2.2.2.2.2.2.1
 unfold lG yE
 have hl:(a.Fatal.length:Int)=b.Fatal.length→eQ (kS a b) (0:Int)=some (if decide (a.Fatal=b.Fatal) then .go () else .done false):=fun hlen=>by
  rw [jB a.Fatal.length (fun i=>decide (a.Fatal[i]?=b.Fatal[i]?)) false (fun i hi=>?_) ?_]
  ·
   rw [aNC (by omega)]
  ·
   unfold kS
   rw [cC,if_neg (by omega)]
  ·
   unfold kS
   have hb:i<b.Fatal.length:=by omega
   rw [cC,if_pos (by omega),fH hi,Option.bind_some,fH hb,Option.bind_some,yV,kM hi hf,List.getElem?_eq_getElem hi,List.getElem?_eq_getElem hb]
   simp only [Option.some.injEq,decide_eq_true_eq]
   split <;> rfl
 by_cases h0:(a.Fatal.length:Int)=b.Fatal.length
 ·
  rw [hl h0]
  by_cases h9:a.Fatal=b.Fatal
  ·
   simp only [h9,decide_true,if_true,Option.bind_some,Fl.next,Bool.not_true]
   cases decide (a.Queue=b.Queue) <;> cases decide (a.ToStart=b.ToStart) <;> cases decide (a.ToClose=b.ToClose) <;> cases decide (a.Total=b.Total) <;> cases decide (a.Beat=b.Beat) <;> first | rfl | (cases decide (a.First=b.First) <;> cases decide (a.Coef=b.Coef) <;> cases decide (a.Most=b.Most) <;> cases decide (a.Attempts=b.Attempts) <;> rfl)
  ·
   simp only [h9,h0,decide_true,decide_false,Option.bind_some,Fl.next,Bool.and_false]
   simp
 ·
  have h9:a.Fatal≠b.Fatal:=fun e=>h0 (by rw [e])
  simp [h0,h9]
theorem aLF {ks:List (List UInt8)} (h:ks.length≤9223372036854775807):dM ks=some (ks.any iM):=by
 unfold dM eT
 obtain ⟨x,h1,h2⟩:=wF (body:=dO ks) ks iM (fun i hi=>by
  unfold dO
  rw [cC,if_pos (by omega),fH hi,Option.bind_some,lQ,Option.bind_some,kM hi h]
  show cond (iM ks[i]) _ _=_
  cases iM ks[i] <;> rfl) (by
  unfold dO
  rw [cC,if_neg (by omega)])
 rw [h1,Option.bind_some,h2]
def six (o:cE):List Int:=[o.ToStart,o.ToClose,o.Total,o.Beat,o.First,o.Most]
def oR (o:cE):Bool:=(decide (o.Queue=[])||lW o.Queue)&&decide (o.Fatal.length≤64)&&(six o).all (fun n=>inB n 0 1099511627776)&&inB o.Coef 0 10000&&inB o.Attempts 0 1000&&!o.Fatal.any iM
theorem aAo {o:cE} (h:fR o):iV o=some (oR o):=by
 have hf:o.Fatal.length≤9223372036854775807:=h.2.2.2.2.2.2.2.2.2.1
 unfold iV oR
 rw [uD,aLF hf]
 simp only [qX]
 rw [jB (six o).length (fun i=>inB ((six o).getD i default) 0 1099511627776) false (fun i hi=>?_) ?_,Option.bind_some,nF (six o) fun n=>inB n 0 1099511627776]
 ·
  by_cases h0:(64:Int)<o.Fatal.length
  ·
   have h1:¬o.Fatal.length≤64:=by omega
   by_cases hq:o.Queue=[] <;> cases lW o.Queue <;> simp [hq,h0,h1,gd]
  ·
   have h1:o.Fatal.length≤64:=by omega
   cases (six o).all fun n=>inB n 0 1099511627776
   ·
    by_cases hq:o.Queue=[] <;> cases lW o.Queue <;> simp [hq,h0,h1,gd,Fl.next]
   ·
    by_cases hq:o.Queue=[] <;> cases lW o.Queue <;> cases inB o.Coef 0 10000 <;> cases inB o.Attempts 0 1000 <;> simp [hq,h0,h1,gd,Fl.next]
 ·
  unfold kV
  rw [cC,if_neg (by unfold six;omega)]
 ·
  unfold kV
  have hi':i<[o.ToStart,o.ToClose,o.Total,o.Beat,o.First,o.Most].length:=hi
  rw [cC,if_pos (by omega),fH hi',Option.bind_some,qX,Option.bind_some,kM hi (by unfold six;simp)]
  simp only [List.getD_eq_getElem?_getD,List.getElem?_eq_getElem hi,Option.getD_some]
  show cond (!inB (six o)[i] 0 1099511627776) _ _=_
  cases inB (six o)[i] 0 1099511627776 <;> rfl
theorem xQ {o:cE} (h:fR o):kH o=some (oR o):=by
 have hf:o.Fatal.length≤9223372036854775807:=h.2.2.2.2.2.2.2.2.2.1
 unfold kH oR
 rw [uJ]
 simp only [aBY]
 rw [jB (six o).length (fun i=>inB ((six o).getD i default) 0 1099511627776) false (fun i hi=>?_) ?_,Option.bind_some,nF (six o) fun n=>inB n 0 1099511627776]
 ·
  rw [jB o.Fatal.length (fun i=>!iM (o.Fatal.getD i default)) false (fun i hi=>?_) ?_,Option.bind_some,nF o.Fatal fun n=>!iM n,← rY]
  ·
   have e:decide ((o.Fatal.length:Int)≤64)=decide (o.Fatal.length≤64):=by rw [Bool.eq_iff_iff];simp;omega
   rw [e]
   cases (six o).all fun n=>inB n 0 1099511627776
   ·
    simp [Fl.next]
   ·
    cases o.Fatal.any iM
    ·
     by_cases hq:o.Queue=[] <;> cases lW o.Queue <;> cases inB o.Coef 0 10000 <;> cases inB o.Attempts 0 1000 <;> simp [hq,gd,Fl.next]
    ·
     simp [Fl.next]
  ·
   unfold mN
   rw [cC,if_neg (by omega)]
  ·
   unfold mN
   rw [cC,if_pos (by omega),fH hi,Option.bind_some,kM hi hf]
   simp only [List.getD_eq_getElem?_getD,List.getElem?_eq_getElem hi,Option.getD_some]
   show cond (iM o.Fatal[i]) _ _=_
   cases iM o.Fatal[i] <;> rfl
 ·
  unfold mM
  rw [cC,if_neg (by unfold six;omega)]
 ·
  unfold mM
  have hi':i<[o.ToStart,o.ToClose,o.Total,o.Beat,o.First,o.Most].length:=hi
  rw [cC,if_pos (by omega),fH hi',Option.bind_some,aBY,Option.bind_some,kM hi (by unfold six;simp)]
  simp only [List.getD_eq_getElem?_getD,List.getElem?_eq_getElem hi,Option.getD_some]
  show cond (!inB (six o)[i] 0 1099511627776) _ _=_
  cases inB (six o)[i] 0 1099511627776 <;> rfl
def sO (x:aG):Bool:=match x.Items with
 | [a,_]=>decide (x.Kind=4)&&decide (a.Kind=3)&&lW a.Text
 | _=>false
def aFd (v:aG):Bool:=match v.Items with
 | [_,b]=>decide (v.Kind=4)&&decide (b.Kind=4)&&b.Items.all sO
 | _=>false
theorem aNV {α:Type}{l:List α} (h:l.length=2):∃ a b,l=[a,b]:=by
 match l,h with
 | [a,b],_=>exact ⟨a,b,rfl⟩
theorem aG1 {x:aG} (h:¬x.Items.length=2):sO x=false:=by
 unfold sO
 split
 ·
  rename_i hx;exact absurd (by rw [hx];rfl) h
 ·
  rfl
theorem aIA {x:aG} (h:¬x.Items.length=2):aFd x=false:=by
 unfold aFd
 split
 ·
  rename_i hx;exact absurd (by rw [hx];rfl) h
 ·
  rfl
theorem aBg {x:aG}:(cond (!decide (x.Kind=4)) true (!decide ((x.Items.length:Int)=2)))=!(decide (x.Kind=4)&&decide (x.Items.length=2)):=by
 by_cases h1:x.Kind=4
 ·
  rw [Bool.eq_iff_iff];simp [h1];omega
 ·
  simp [h1]
theorem aLB (x:aG):oJ x=some (!sO x):=by
 unfold oJ
 simp only [aBg,uD]
 by_cases h2:x.Items.length=2
 ·
  obtain ⟨a,b,hab⟩:=aNV h2
  unfold sO
  rw [hab]
  have h0:jT [a,b] (0:Int)=some a:=rfl
  rw [h0]
  by_cases h1:x.Kind=4 <;> by_cases h3:a.Kind=3 <;> simp [h1,h3,gd]
 ·
  have:sO x=false:=aG1 h2
  simp [this,h2,gd]
theorem aMI {v:aG} (hv:cP v):qY v=some (aFd v):=by
 obtain ⟨k0,k1,k2,k3,k4⟩:=(eM v).1 hv
 unfold qY
 simp only [aBg]
 by_cases h2:v.Items.length=2
 ·
  obtain ⟨a,b,hab⟩:=aNV h2
  obtain ⟨_,_,_,hb,_⟩:=(eM b).1 (k3.2.2 b (by rw [hab];simp))
  unfold aFd
  rw [hab]
  have h0:jT [a,b] (1:Int)=some b:=rfl
  have hC:dL b.Items=some (b.Items.any fun x=>!sO x):=by
   unfold dL eS
   obtain ⟨x,h1,h2⟩:=wF (body:=dN b.Items) b.Items (fun x=>!sO x) (fun i hi=>by
    unfold dN
    rw [cC,if_pos (by omega),fH hi,Option.bind_some,aLB,Option.bind_some,kM hi hb.1]
    cases sO b.Items[i] <;> rfl) (by
    unfold dN
    rw [cC,if_neg (by omega)])
   rw [h1,Option.bind_some,h2]
  have hA:(!b.Items.any fun x=>!sO x)=b.Items.all sO:=by rw [rY];simp
  rw [h0]
  by_cases h1:v.Kind=4 <;> by_cases h3:b.Kind=4
  ·
   simp only [h1,h3,List.length_cons,List.length_nil,decide_true,Bool.and_self,Bool.not_true,cond_false,beq_self_eq_true,gd,if_true,Option.bind_some,hC,hA,Bool.true_and]
  ·
   simp [h1,h3,gd]
  ·
   simp [h1,h3,gd]
  ·
   simp [h1,h3,gd]
 ·
  have:aFd v=false:=aIA h2
  simp [this,h2,gd]
theorem aI0 {v:aG} (hv:cP v):vA v=some (aFd v):=by
 obtain ⟨k0,k1,k2,k3,k4⟩:=(eM v).1 hv
 unfold vA
 simp only [aBg]
 by_cases h2:v.Items.length=2
 ·
  obtain ⟨a,b,hab⟩:=aNV h2
  obtain ⟨_,_,_,hb,_⟩:=(eM b).1 (k3.2.2 b (by rw [hab];simp))
  have h0:jT v.Items (1:Int)=some b:=by rw [hab];rfl
  have hi2:aFd v=(decide (v.Kind=4)&&decide (b.Kind=4)&&b.Items.all sO):=by unfold aFd;rw [hab]
  have hC:eQ (pN v) (0:Int)=some (if b.Items.all sO then .go () else .done false):=by
   rw [jB b.Items.length (fun i=>sO (b.Items.getD i default)) false (fun i hi=>?_) ?_,nF b.Items sO]
   ·
    unfold pN
    rw [h0,Option.bind_some,cC,if_neg (by omega)]
   ·
    unfold pN
    rw [h0,Option.bind_some,cC,if_pos (by omega),Option.bind_some,fH hi,Option.bind_some,kM hi hb.1]
    simp only [List.getD_eq_getElem?_getD,List.getElem?_eq_getElem hi,Option.getD_some,aBg,uJ]
    generalize b.Items[i]=x
    by_cases h2:x.Items.length=2
    ·
     obtain ⟨c,d,hcd⟩:=aNV h2
     have hp:sO x=(decide (x.Kind=4)&&decide (c.Kind=3)&&lW c.Text):=by unfold sO;rw [hcd]
     have h0:jT x.Items (0:Int)=some c:=by rw [hcd];rfl
     rw [h0,hp,h2]
     by_cases h1:x.Kind=4 <;> by_cases h3:c.Kind=3
     ·
      simp only [h1,h3,decide_true,Bool.and_self,Bool.not_true,cond_false,beq_self_eq_true,gd,if_true,Option.bind_some,Bool.true_and]
      cases lW c.Text <;> rfl
     ·
      simp [h1,h3,gd]
     ·
      simp [h1,h3,gd]
     ·
      simp [h1,h3,gd]
    ·
     have:sO x=false:=aG1 h2
     simp [this,h2,gd]
  rw [h0,h2,hC,hi2]
  by_cases h1:v.Kind=4 <;> by_cases h3:b.Kind=4
  ·
   simp only [h1,h3,decide_true,Bool.and_self,Bool.not_true,cond_false,beq_self_eq_true,gd,if_true,Option.bind_some,Bool.true_and]
   cases b.Items.all sO <;> rfl
  ·
   simp [h1,h3,gd]
  ·
   simp [h1,h3,gd]
  ·
   simp [h1,h3,gd]
 ·
  have:aFd v=false:=aIA h2
  simp [this,h2,gd]
end Go.Proofs.YtnigjppddilpcaaGreatDoor

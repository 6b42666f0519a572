/- Plain laws: what the functions compute, with no program in sight. -/
import Derived.Test.YtnigjppddilpcaaGreatDoorGEPP1
import Derived.Test.YtnigjppddilpcaaGreatDoorGEF4
import Derived.Test.YtnigjppddilpcaaGreatDoorGEF10
import Derived.Test.YtnigjppddilpcaaGreatDoorGEF11
import Derived.Test.YtnigjppddilpcaaGreatDoorGEF12
import Derived.Test.YtnigjppddilpcaaGreatDoorGEPP0
import Derived.Test.YtnigjppddilpcaaGreatDoorGEF5
import Derived.Test.YtnigjppddilpcaaGreatDoorGEF7
import Derived.Test.YtnigjppddilpcaaGreatDoorGEF0
import Derived.Test.YtnigjppddilpcaaGreatDoorGEF1
import Derived.Test.YtnigjppddilpcaaGreatDoorGEF14
import Derived.Test.YtnigjppddilpcaaGreatDoorGEF16
namespace Go.Proofs.YtnigjppddilpcaaGreatDoor
open Go Abs
set_option linter.unusedSimpArgs false
set_option linter.unusedVariables false
theorem aJQ {b:List UInt8} (h:b.length≤140737488355328):aAb b=some ⟨b,0,0,true⟩:=by
 unfold aAb
 rw [aAG h];rfl
theorem aD7 {b:List UInt8}{a e:Int}{m:Bool}:nN ⟨b,a,e,m⟩=some (cond (!m) true (!decide (e=0))):=by
 unfold nN;rfl
def aA9 (b:List UInt8) (at_:Nat) (low high:Int):aP:=⟨b,(at_+(pC (b.drop at_) low high).2.1:Nat),(pC (b.drop at_) low high).2.2,true⟩
theorem aGQ {b:List UInt8}{at_:Nat}{low high:Int} (h1:at_≤b.length) (hb:b.length≤1000000000) :
  gH low high ⟨b,at_,0,true⟩=some ((pC (b.drop at_) low high).1,aA9 b at_ low high):=by
 unfold gH
 rw [aD7]
 simp only [bW,bF,bS,aA]
 rw [aGt (by simp;omega),aA]
 unfold aA9
 generalize hrest:b.drop at_=rest
 have hrl:rest.length=b.length - at_:=by rw [← hrest];simp
 have hdrop:List.drop (Int.toNat (at_:Int)) b=rest:=by rw [iW];exact hrest
 obtain ⟨r,hr,hq⟩:∃ r,fX (rU ⟨b,at_,0,true⟩ low high) ((0:Int),(0:Int))=some r∧Fl.next r (fun _=>some ((0:Int),aP.mk b at_ 3 true))=some ((pC rest low high).1,⟨b,(at_+(pC rest low high).2.1:Nat),(pC rest low high).2.2,true⟩):=by
  refine vB (fun (s:Int × Int)=>∃ k:Nat,s.2=(k:Int)∧((k≤9∧k≤rest.length∧∃ u:Nat,s.1=(u:Int)∧u<128 ^ k∧tC 0 0 rest=tC k u (rest.drop k))∨(k=10∧tC 0 0 rest=.inl 3)))
   (fun s=>10 - s.2.toNat) _ ?_ ((0:Int),(0:Int)) ⟨0,rfl,.inl ⟨by simp,by simp,0,rfl,by simp,by simp⟩⟩
  rintro ⟨u0,k0⟩ ⟨k,hk0,hI⟩
  simp only at hk0 hI
  subst hk0
  unfold rU
  simp only [hdrop]
  rw [cU]
  obtain ⟨hk,hkl,u,rfl,hu,hs⟩ | ⟨rfl,hs⟩:=hI
  ·
   rw [aQ (by omega),cU]
   by_cases h3:(rest.length:Int)≤k
   ·
    rw [aQ h3]
    refine .inr ⟨_,rfl,?_⟩
    have hd:rest.drop k=[]:=mY (by omega)
    have hr:pC rest low high=(0,0,4):=by simp only [pC,hs,hd,tC];rw [aN (by omega)]
    rw [hr];rfl
   ·
    rw [aN h3]
    have hlt:k<rest.length:=by omega
    rw [aEd,aD hlt,aA]
    generalize hc:rest[k]=c
    have hd:rest.drop k=c :: rest.drop (k+1):=by rw [← hc];exact lR hlt
    have hcl:=c.toNat_lt
    rw [hd] at hs
    simp only [tC] at hs
    rw [aN (by omega)] at hs
    rw [aR3 (by rw [show IntKind.i64.wrap (7*(k:Int))=7*(k:Int) by rw [IntKind.wrap_i64];omega];omega),aA,aQ6]
    generalize hv:kE .or .u64 (u:Int) _=v
    have hv':k≤8∨c.toNat≤1→v=((u+c.toNat % 128*128 ^ k:Nat):Int):=fun hx=>hv ▸ aQb c hk hu hx
    clear hv
    rw [cU]
    by_cases h4:(128:Int)≤(c.toNat:Int)
    ·
     rw [aQ h4]
     rw [aQ (by omega)] at hs
     refine .inl ⟨_,rfl,⟨k+1,by rw [w64 (by omega) (by omega)];rfl,?_⟩,by simp only [w64 (show (-9223372036854775808:Int)≤(k:Int)+1 by omega) (by omega)];omega⟩
     by_cases hk9:k=9
     ·
      refine .inr ⟨by omega,?_⟩
      rw [hs,hk9]
      cases rest.drop (9+1) <;> simp [tC]
     ·
      have hve:=hv' (.inl (by omega))
      refine .inl ⟨by omega,by omega,_,hve,?_,hs⟩
      rw [mR]
      have h3:c.toNat % 128*128 ^ k≤127*128 ^ k:=fS _ (by omega)
      omega
    ·
     rw [aN h4]
     rw [aN (by omega)] at hs
     by_cases hX:(0<k∧c.toNat=0)∨(k=9∧1<c.toNat)
     ·
      rw [aQ hX] at hs
      have hr:pC rest low high=(0,0,3):=by simp only [pC,hs]
      rw [hr]
      have e:(cond (cond (decide ((0:Int)<(k:Int))) (decide ((c.toNat:Int)=0)) false) true (cond (decide ((k:Int)=9)) (decide ((1:Int)<(c.toNat:Int))) false))=true:=by
       rcases hX with ⟨h5,h6⟩ | ⟨h5,h6⟩
       ·
        simp [h6];omega
       ·
        simp [h5];omega
      rw [e,cW]
      exact .inr ⟨_,rfl,rfl⟩
     ·
      rw [aN hX] at hs
      have e:(cond (cond (decide ((0:Int)<(k:Int))) (decide ((c.toNat:Int)=0)) false) true (cond (decide ((k:Int)=9)) (decide ((1:Int)<(c.toNat:Int))) false))=false:=by
       simp only [oY]
       by_cases h5:0<k <;> by_cases h6:c.toNat=0 <;> by_cases h7:k=9 <;> by_cases h8:1<c.toNat <;> simp <;> omega
      rw [e,bF]
      have hve:=hv' (by omega)
      have hmod:c.toNat % 128=c.toNat:=by omega
      rw [hmod] at hve
      clear hv'
      subst hve
      have hw:(u+c.toNat*128 ^ k)<18446744073709551616:=by
       have:k=0∨k=1∨k=2∨k=3∨k=4∨k=5∨k=6∨k=7∨k=8∨k=9:=by omega
       rcases this with rfl | rfl | rfl | rfl | rfl | rfl | rfl | rfl | rfl | rfl <;> omega
      generalize u+c.toNat*128 ^ k=w at hs hw
      have hr:pC rest low high=if zW w<low∨high<zW w then (0,k+1,14) else (zW w,k+1,0):=by simp only [pC,hs]
      rw [hr,show (2:Int) ^ min (Int.toNat 1) IntKind.u64.bits=2 from sh1,aN6 hw,aPS (by omega) hk]
      refine .inr ?_
      by_cases hlow:zW w<low
      ·
       rw [aQ (.inl hlow)]
       simp only [hlow,bS,cW]
       exact ⟨_,rfl,rfl⟩
      ·
       by_cases hhigh:high<zW w
       ·
        rw [aQ (.inr hhigh)]
        simp only [hlow,hhigh,bS,cQ,cW,bF]
        exact ⟨_,rfl,rfl⟩
       ·
        rw [aN (by omega)]
        simp only [hlow,hhigh,bS,cQ,cW,bF]
        exact ⟨_,rfl,rfl⟩
  ·
   rw [aN (by omega)]
   refine .inr ⟨_,rfl,?_⟩
   have hr:pC rest low high=(0,0,3):=by simp only [pC,hs]
   rw [hr];rfl
 rw [hr,aA]
 exact hq
theorem aKV {k u:Nat} (h:u*128 ^ k<18446744073709551616) (hu:0<u):k≤9:=by
 refine oP fun hk=>?_
 have h1:128 ^ 10≤128 ^ k:=Nat.pow_le_pow_right (by omega) (by omega)
 have h2:1*128 ^ k≤u*128 ^ k:=fS _ hu
 have h3:(128:Nat) ^ 10=1180591620717411303424:=by decide
 omega
theorem aNU (rest:List UInt8):∀ (u k acc:Nat),(k=0∨0<u)→u*128 ^ k<18446744073709551616→tC k acc (qX u++rest)=.inr (acc+u*128 ^ k,k+(qX u).length):=by
 intro u
 induction u using Nat.strongRecOn with
 | _ u ih =>
  intro k acc h0 hlt
  have hk:k≤9:=by
   rcases h0 with h | h
   ·
    omega
   ·
    exact aKV hlt h
  by_cases h:u<128
  ·
   rw [aEC h]
   have e:(UInt8.ofNat u).toNat=u:=by simp;omega
   simp only [List.cons_append,hH,tC,e]
   rw [aN (by omega),aN (by omega),aN]
   ·
    rfl
   ·
    rintro (⟨h1,h2⟩ | ⟨h1,h2⟩)
    ·
     omega
    ·
     subst h1
     have:(128:Nat) ^ 9=9223372036854775808:=by decide
     rw [this] at hlt
     omega
  ·
   rw [aGv h]
   have e:(UInt8.ofNat (128+u % 128)).toNat=128+u % 128:=by simp;omega
   simp only [List.cons_append,tC,e]
   rw [aN (by omega),aQ (by omega)]
   have hs:128 ^ (k+1)=128 ^ k*128:=mR ..
   have hm:u / 128*128 ^ (k+1)+u % 128*128 ^ k=u*128 ^ k:=by
    rw [hs,mQ (128 ^ k) 128,← Nat.mul_assoc,← eM,mQ (u / 128) 128,Nat.div_add_mod]
   rw [ih (u / 128) (by omega) (k+1) _ (.inr (by omega)) (by omega),show (128+u % 128) % 128=u % 128 by omega]
   simp only [eV,Sum.inr.injEq,kW]
   exact ⟨by omega,by omega⟩
theorem aIE {n low high:Int} (rest:List UInt8) (h1:-9223372036854775808≤n) (h2:n≤9223372036854775807) :
  pC (qX (zz n)++rest) low high=if n<low∨high<n then (0,(qX (zz n)).length,14) else (n,(qX (zz n)).length,0):=by
 have h:=aFM h1 h2
 unfold pC
 rw [aNU rest (zz n) 0 0 (.inl rfl) (by simpa using h)]
 simp only [gU,Nat.pow_zero,Nat.mul_one,aQD]
theorem aII:∀ (l:List UInt8) (k u w n:Nat),tC k u l=.inr (w,n)→n≤k+l.length
 | [],k,u,w,n,h=>by simp only [tC] at h;split at h <;> cases h
 | c :: r,k,u,w,n,h=>by
  simp only [tC] at h
  split at h
  ·
   cases h
  ·
   split at h
   ·
    have:=aII r _ _ _ _ h
    simp only [eV]
    omega
   ·
    split at h
    ·
     cases h
    ·
     cases h
     simp only [eV]
     omega
theorem aID (l:List UInt8) (low high:Int):(pC l low high).2.1≤l.length:=by
 unfold pC
 split
 ·
  simp
 ·
  rename_i u k h
  have:=aII l 0 0 u k h
  split <;> simp <;> omega
theorem aQd {l:List UInt8}{low high:Int} (h:(pC l low high).2.2=0):low≤(pC l low high).1∧(pC l low high).1≤high:=by
 unfold pC at h ⊢
 split
 ·
  rename_i e hs
  rw [hs] at h
  simp only at h
  exfalso
  have key:∀ (l:List UInt8) (k u e:Nat),tC k u l=.inl e→e=3∨e=4:=by
   intro l
   induction l with
   | nil=>intro k u e h;simp only [tC] at h;split at h <;> cases h <;> simp
   | cons c r ih =>
    intro k u e h
    simp only [tC] at h
    split at h
    ·
     cases h;simp
    ·
     split at h
     ·
      exact ih _ _ _ h
     ·
      split at h <;> cases h
      simp
  rcases key _ _ _ _ hs with h2 | h2 <;> omega
 ·
  rename_i u k hs
  rw [hs] at h
  simp only at h
  by_cases hc:zW u<low∨high<zW u
  ·
   rw [aQ hc] at h;simp at h
  ·
   rw [aN hc];simp only;omega
def aPk (b:List UInt8) (at_:Nat) (most:Int):List UInt8 × aP :=
 if (pC (b.drop at_) 0 most).2.2≠0 then ([],aA9 b at_ 0 most)
 else if (b.length:Int) - (at_+(pC (b.drop at_) 0 most).2.1:Nat)<(pC (b.drop at_) 0 most).1 then ([],⟨b,(at_+(pC (b.drop at_) 0 most).2.1:Nat),4,true⟩)
 else ((b.drop (at_+(pC (b.drop at_) 0 most).2.1)).take (pC (b.drop at_) 0 most).1.toNat,⟨b,(at_+(pC (b.drop at_) 0 most).2.1+(pC (b.drop at_) 0 most).1.toNat:Nat),0,true⟩)
theorem aQq {b:List UInt8}{at_:Nat}{most:Int} (h1:at_≤b.length) (hb:b.length≤1000000000):iU most ⟨b,at_,0,true⟩=some (aPk b at_ most):=by
 have hu:=aID (b.drop at_) 0 most
 rw [kJ] at hu
 unfold iU aPk
 rw [aGQ h1 hb,aA]
 unfold aA9
 rw [aD7,aA]
 by_cases he:(pC (b.drop at_) 0 most).2.2=0
 ·
  have hin:=aQd he
  generalize hr:pC (b.drop at_) 0 most=r at *
  obtain ⟨v,k,e⟩:=r
  simp only at he hin hu
  subst he
  simp only [bW,bF,Int.natCast_zero,bS,cU,ne_eq,not_true_eq_false,dL]
  rw [w64 (by omega) (by omega)]
  by_cases h3:(b.length:Int) - (at_+k:Nat)<v
  ·
   rw [aQ h3,aQ h3]
  ·
   rw [aN h3,aN h3,w64 (by omega) (by omega),aQo (by omega),aA]
   have e1:(((at_+k:Nat):Int)+v).toNat=at_+k+v.toNat:=by omega
   rw [e1,iW,mA,show at_+k+v.toNat - (at_+k)=v.toNat by omega]
   congr 3
   omega
 ·
  rw [aQ he]
  have:decide (((pC (b.drop at_) 0 most).2.2:Int)=0)=false:=by simp;omega
  simp only [this,bW,iV,bF,cW]
def oU:List UInt8→Nat
 | []=>0
 | c :: r=>c.toNat % 128+128*oU r
theorem aLd:∀ (l:List UInt8) (k u w n:Nat),tC k u l=.inr (w,n)→k<n∧n≤k+l.length∧w=u+128 ^ k*oU (l.take (n - k))
 | [],k,u,w,n,h=>by simp only [tC] at h;split at h <;> cases h
 | c :: r,k,u,w,n,h=>by
  simp only [tC] at h
  split at h
  ·
   cases h
  ·
   split at h
   ·
    obtain ⟨h1,h2,h3⟩:=aLd r _ _ _ _ h
    refine ⟨by omega,by simp only [eV];omega,?_⟩
    rw [show n - k=(n - (k+1))+1 by omega,kV,oU,h3,mR,Nat.mul_add,Nat.mul_assoc,iL,mQ (c.toNat % 128)]
   ·
    rename_i h3
    split at h
    ·
     cases h
    ·
     cases h
     refine ⟨by omega,by simp,?_⟩
     rw [show k+1 - k=0+1 by omega,kV,oU,List.take_zero,oU,show c.toNat % 128=c.toNat by omega,Nat.mul_zero,mP,mQ]
theorem aJl:∀ (l:List UInt8) (k u w n:Nat),tC k u l=.inr (w,n)→k≤9→u<128 ^ k→w<18446744073709551616
 | [],k,u,w,n,h,_,_=>by simp only [tC] at h;split at h <;> cases h
 | c :: r,k,u,w,n,h,hk,hu=>by
  have hc:=c.toNat_lt
  simp only [tC] at h
  split at h
  ·
   cases h
  ·
   split at h
   ·
    have hlt:u+c.toNat % 128*128 ^ k<128 ^ (k+1):=by
     rw [mR]
     have:c.toNat % 128*128 ^ k≤127*128 ^ k:=fS _ (by omega)
     omega
    by_cases hk9:k=9
    ·
     exfalso
     subst hk9
     cases r with
     | nil=>simp [tC] at h
     | cons d r=>simp [tC] at h
    ·
     exact aJl r _ _ _ _ h (by omega) hlt
   ·
    split at h
    ·
     cases h
    ·
     rename_i h3 h4
     cases h
     have:k=0∨k=1∨k=2∨k=3∨k=4∨k=5∨k=6∨k=7∨k=8∨k=9:=by omega
     rcases this with rfl | rfl | rfl | rfl | rfl | rfl | rfl | rfl | rfl | rfl <;> omega
theorem aLc:∀ (l:List UInt8) (k u e:Nat),tC k u l=.inl e→e=3∨e=4
 | [],k,u,e,h=>by simp only [tC] at h;split at h <;> cases h <;> simp
 | c :: r,k,u,e,h=>by
  simp only [tC] at h
  split at h
  ·
   cases h;simp
  ·
   split at h
   ·
    exact aLc r _ _ _ h
   ·
    split at h <;> cases h
    simp
def aBK (rest:List UInt8):Int × Int:=match tC 0 0 rest with
 | .inl e=>(0,(e:Int))
 | .inr (_,n)=>((n:Int),0)
theorem aOA {m:Bool}{rest:List UInt8}{x:Int} (hr:rest.length≤1000000000):vL ⟨m,rest,x⟩=some (aBK rest):=by
 unfold vL
 obtain ⟨r,h1,h2⟩:∃ r,fX (sM ⟨m,rest,x⟩) (1:Int)=some r∧Fl.next r (fun _=>some ((0:Int),(3:Int)))=some (aBK rest):=by
  refine vB (fun (s:Int)=>∃ k:Nat,s=(k:Int)+1∧((k≤9∧k≤rest.length∧∃ u:Nat,tC 0 0 rest=tC k u (rest.drop k))∨(k=10∧tC 0 0 rest=.inl 3))) (fun s=>12 - s.toNat) _ ?_ 1 ⟨0,rfl,.inl ⟨by omega,by omega,0,by simp⟩⟩
  rintro s ⟨k,rfl,hI⟩
  unfold sM
  rw [cU]
  obtain ⟨hk,hkl,u,hs⟩ | ⟨rfl,hs⟩:=hI
  ·
   rw [aQ (by omega),cU]
   by_cases h3:(rest.length:Int)<(k:Int)+1
   ·
    rw [aQ h3]
    refine .inr ⟨_,rfl,?_⟩
    have hd:rest.drop k=[]:=mY (by omega)
    rw [hd] at hs
    simp only [tC] at hs
    rw [aN (by omega)] at hs
    simp only [aBK,hs];rfl
   ·
    rw [aN h3]
    have hlt:k<rest.length:=by omega
    rw [w64 (by omega) (by omega),show (k:Int)+1 - 1=(k:Int) by omega,aEd,aD hlt,aA]
    generalize hc:rest[k]=c
    have hd:rest.drop k=c :: rest.drop (k+1):=by rw [← hc];exact lR hlt
    rw [hd] at hs
    simp only [tC] at hs
    rw [aN (by omega)] at hs
    rw [cU]
    by_cases h4:(c.toNat:Int)<128
    ·
     rw [aQ h4]
     rw [aN (by omega)] at hs
     by_cases hX:(0<k∧c.toNat=0)∨(k=9∧1<c.toNat)
     ·
      rw [aQ hX] at hs
      have e:(cond (cond (decide ((1:Int)<(k:Int)+1)) (decide ((c.toNat:Int)=0)) false) true (cond (decide ((k:Int)+1=10)) (decide ((1:Int)<(c.toNat:Int))) false))=true:=by
       rcases hX with ⟨h5,h6⟩ | ⟨h5,h6⟩
       ·
        have:(1:Int)<(k:Int)+1:=by omega
        simp [h6,this]
       ·
        simp [h5];omega
      rw [e,cW]
      refine .inr ⟨_,rfl,?_⟩
      simp only [aBK,hs];rfl
     ·
      rw [aN hX] at hs
      have e:(cond (cond (decide ((1:Int)<(k:Int)+1)) (decide ((c.toNat:Int)=0)) false) true (cond (decide ((k:Int)+1=10)) (decide ((1:Int)<(c.toNat:Int))) false))=false:=by
       simp only [oY]
       by_cases h5:0<k <;> by_cases h6:c.toNat=0 <;> by_cases h7:k=9 <;> by_cases h8:1<c.toNat <;> simp <;> omega
      rw [e,bF]
      refine .inr ⟨_,rfl,?_⟩
      simp only [aBK,hs];rfl
    ·
     rw [aN h4]
     rw [aQ (by omega)] at hs
     refine .inl ⟨_,rfl,⟨k+1,by rw [w64 (by omega) (by omega)];omega,?_⟩,by rw [w64 (by omega) (by omega)];omega⟩
     by_cases hk9:k=9
     ·
      refine .inr ⟨by omega,?_⟩
      rw [hs,hk9]
      cases rest.drop (9+1) <;> simp [tC]
     ·
      exact .inl ⟨by omega,by omega,_,hs⟩
  ·
   rw [aN (by omega)]
   refine .inr ⟨_,rfl,?_⟩
   simp only [aBK,hs];rfl
 rw [h1,aA]
 exact h2
theorem aRO (c:UInt8) (r:List UInt8):oU r≤oU (c :: r):=by simp only [oU];omega
theorem aLq:∀ (l:List UInt8) (j:Nat),oU (l.drop j)≤oU l
 | [],j=>by simp
 | c :: r,0=>by simp
 | c :: r,j+1=>gF (aLq r j) (aRO c r)
theorem aMh {m:Bool}{rest:List UInt8}{x:Int}{k:Nat} (hk:k≤rest.length) (hw:oU (rest.take k)<18446744073709551616) (hr:rest.length≤1000000000):fX (uO ⟨m,rest,x⟩) ((0:Int),(k:Int) - 1)=some (oU (rest.take k):Int):=by
 refine aC3 (fun (s:Int × Int)=>∃ j:Nat,s.2=(j:Int) - 1∧j≤k∧s.1=(oU ((rest.take k).drop j):Int)) (fun s=>(s.2+1).toNat) (fun _=>(oU (rest.take k):Int)) ?_ _ ⟨k,rfl,eN _,by simp [oU]⟩
 rintro ⟨u,i⟩ ⟨j,hi,hj,hu⟩
 simp only at hi hu
 subst hi hu
 unfold uO
 simp only [cU]
 cases j with
 | zero =>
  rw [aN (by omega),mC]
  exact .inr rfl
 | succ j =>
  rw [aQ (by omega),show ((j+1:Nat):Int) - 1=(j:Int) by omega,aEd,aD (by omega),aA]
  have hlt:j<(rest.take k).length:=by simp;omega
  have hd:(rest.take k).drop j=rest[j] :: (rest.take k).drop (j+1):=by rw [lR hlt];congr 1;simp
  have hv:oU ((rest.take k).drop j)=rest[j].toNat % 128+128*oU ((rest.take k).drop (j+1)):=by rw [hd,oU]
  have hb:=Nat.lt_of_le_of_lt (aLq (rest.take k) j) hw
  have e:IntKind.u64.wrap (IntKind.u64.wrap ((oU ((rest.take k).drop (j+1)):Int)*128)+IntKind.u64.wrap ((rest[j].toNat:Int).tmod 128))=(oU ((rest.take k).drop j):Int):=by
   rw [jV (by omega)]
   simp only [IntKind.wrap_u64]
   omega
  rw [e,w64 (by omega) (by omega)]
  refine .inl ⟨((oU ((rest.take k).drop j):Int),(j:Int) - 1),rfl,⟨j,rfl,by omega,rfl⟩,?_,trivial⟩
  simp only
  omega
def aHj (rest:List UInt8) (low high:Int):iF:=⟨true,if (pC rest low high).2.2=0 then rest.drop (pC rest low high).2.1 else [],(pC rest low high).2.2⟩
theorem aNO {rest:List UInt8}{low high:Int} (hr:rest.length≤1000000000):nG low high ⟨true,rest,0⟩=some ((pC rest low high).1,aHj rest low high):=by
 unfold nG qM
 rw [aOA hr]
 simp only [aA,bW,bF,bS,aBr]
 unfold aBK aHj
 cases hs:tC 0 0 rest with
 | inl e =>
  have he:=aLc rest 0 0 e hs
  have hr:pC rest low high=(0,0,e):=by simp only [pC,hs]
  rw [hr]
  simp only
  rw [aN (by omega),aN (by omega)]
  rfl
 | inr wn =>
  obtain ⟨w,n⟩:=wn
  obtain ⟨h1,h2,h3⟩:=aLd rest 0 0 w n hs
  have h4:=aJl rest 0 0 w n hs (by omega) (by omega)
  simp only [Nat.sub_zero,Nat.pow_zero,lM,gU] at h2 h3
  subst h3
  have hr:pC rest low high=if zW (oU (rest.take n))<low∨high<zW (oU (rest.take n)) then (0,n,14) else (zW (oU (rest.take n)),n,0):=by simp only [pC,hs]
  rw [hr]
  simp only [bT]
  rw [w64 (by omega) (by omega),aMh h2 h4 (by omega),aA]
  generalize oU (rest.take n)=w at *
  have e1:(cond (decide ((w:Int).tmod 2=1)) (some (IntKind.i64.wrap (IntKind.i64.wrap (0 - IntKind.i64.wrap (IntKind.u64.wrap ((w:Int).tdiv 2))) - 1))) (some (IntKind.i64.wrap (IntKind.u64.wrap ((w:Int).tdiv 2)))))=some (zW w):=by
   have e2:(w:Int).tdiv 2=((w / 2:Nat):Int):=by rw [nY (by omega)];omega
   have e3:(w:Int).tmod 2=((w % 2:Nat):Int):=by rw [jV (by omega)];omega
   rw [e2,e3,cU,aS8 (by omega) (by omega),w64 (x:=((w / 2:Nat):Int)) (by omega) (by omega)]
   unfold zW
   by_cases h5:w % 2=1
   ·
    rw [aQ (by omega),aQ h5,w64 (x:=0 - ((w / 2:Nat):Int)) (by omega) (by omega),w64 (by omega) (by omega)]
    congr 1
    omega
   ·
    rw [aN (by omega),aN h5]
  rw [e1,aA]
  by_cases hlow:zW w<low
  ·
   rw [aQ (.inl hlow)]
   simp only [hlow,bS,cW,uD,aA]
   simp
  ·
   by_cases hhigh:high<zW w
   ·
    rw [aQ (.inr hhigh)]
    simp only [hlow,hhigh,bS,cQ,cW,bF,uD,aA]
    simp
   ·
    rw [aN (by omega)]
    simp only [hlow,hhigh,bS,cQ,cW,bF]
    rw [aGt (by omega),aA]
    simp
def aPI (r:aP) (w:iF):Prop:=∃ (b:List UInt8) (a:Nat) (e:Int),b.length≤1000000000∧a≤b.length∧r=⟨b,a,e,true⟩∧w=⟨true,if e=0 then b.drop a else [],e⟩
theorem aOZ {r:aP}{w:iF}{low high:Int} (h:aPI r w):∃ x r' w',gH low high r=some (x,r')∧nG low high w=some (x,w')∧aPI r' w':=by
 obtain ⟨b,a,e,hb,ha,rfl,rfl⟩:=h
 by_cases h:e=0
 ·
  subst h
  have hu:=aID (b.drop a) low high
  rw [kJ] at hu
  refine ⟨_,_,_,aGQ ha hb,aNO (by simp;omega),b,a+(pC (b.drop a) low high).2.1,(pC (b.drop a) low high).2.2,hb,by omega,rfl,?_⟩
  unfold aHj
  simp only [bT]
  by_cases h2:(pC (b.drop a) low high).2.2=0
  ·
   rw [aQ h2,aQ (by omega),lH]
  ·
   rw [aN h2,aN (by omega)]
 ·
  refine ⟨0,⟨b,a,e,true⟩,⟨true,[],e⟩,?_,?_,b,a,e,hb,ha,rfl,by simp [h]⟩
  ·
   unfold gH;rw [aD7];simp [h]
  ·
   unfold nG qM;simp [h]
def aGw (e:Int) (r:aP) (w:iF):Prop:=∃ (b:List UInt8) (a:Nat),b.length≤1000000000∧a≤b.length∧r=⟨b,a,e,true⟩∧w=⟨true,if e=0 then b.drop a else [],e⟩
theorem aRm {r:aP}{w:iF} (h:aPI r w):∃ e,aGw e r w:=by
 obtain ⟨b,a,e,h1,h2,h3,h4⟩:=h
 exact ⟨e,b,a,h1,h2,h3,h4⟩
theorem aPj (l:List UInt8) (low high:Int):sC (pC l low high).1:=by
 unfold pC
 split
 ·
  simp [sC]
 ·
  rename_i u k hs
  have:=aQC (aJl l 0 0 u k hs (by omega) (by simp))
  split
  ·
   simp [sC]
  ·
   exact this
theorem aOX {e:Int}{r:aP}{w:iF} (low high:Int) (h:aGw e r w):∃ x e' r' w',gH low high r=some (x,r')∧nG low high w=some (x,w')∧aGw e' r' w'∧sC x∧(e≠0→x=0∧e'=e)∧(e'=0→e=0):=by
 by_cases he:e=0
 ·
  subst he
  obtain ⟨b,a,hb,ha,rfl,rfl⟩:=h
  have hl:aPI ⟨b,a,0,true⟩ ⟨true,if (0:Int)=0 then b.drop a else [],0⟩:=⟨b,a,0,hb,ha,rfl,rfl⟩
  obtain ⟨x,r',w',h1,h2,h3⟩:=aOZ (low:=low) (high:=high) hl
  obtain ⟨e',h4⟩:=aRm h3
  refine ⟨x,e',r',w',h1,h2,h4,?_,fun h=>absurd rfl h,fun _=>rfl⟩
  rw [aGQ ha hb] at h1
  cases h1
  exact aPj _ _ _
 ·
  obtain ⟨b,a,hb,ha,rfl,rfl⟩:=h
  refine ⟨0,e,⟨b,a,e,true⟩,⟨true,if e=0 then b.drop a else [],e⟩,?_,?_,⟨b,a,hb,ha,rfl,rfl⟩,by simp [sC],fun _=>⟨rfl,rfl⟩,fun h=>absurd h he⟩
  ·
   unfold gH;rw [aD7];simp [he]
  ·
   unfold nG qM;simp [he]
theorem aJ9:∀ (a b:List UInt8),(!(Op.bytesLess a b||decide (a=b)))=Op.bytesLess b a
 | [],[]=>by simp [Op.bytesLess]
 | [],y :: b=>by simp [Op.bytesLess]
 | x :: a,[]=>by simp [Op.bytesLess]
 | x :: a,y :: b=>by
  simp only [Op.bytesLess,List.cons.injEq]
  have ih:=aJ9 a b
  by_cases h1:x<y
  ·
   have h2:¬y<x:=fun h=>absurd (UInt8.lt_trans h1 h) (UInt8.lt_irrefl _)
   have h3:¬y=x:=fun h=>by subst h;exact UInt8.lt_irrefl _ h1
   simp [h1,h2,h3]
  ·
   by_cases h2:y<x
   ·
    have h3:¬x=y:=fun h=>by subst h;exact UInt8.lt_irrefl _ h2
    simp [h1,h2,h3]
   ·
    have h3:x=y:=UInt8.le_antisymm (UInt8.not_lt.1 h2) (UInt8.not_lt.1 h1)
    subst h3
    simpa [h1] using ih
def oI (n:Int):List UInt8:=qX (zz n)
def rJ (s:List UInt8):List UInt8:=qX (zz s.length)++s
theorem lO {n:Int} (h:sC n):(oI n).length≤10:=aAB (aFM h.1 h.2)
theorem aBs {n:Nat} (h:n≤9223372036854775807):(oI (n:Int)).length≤10:=lO ⟨by omega,by omega⟩
theorem tU {s:List UInt8} (h:s.length≤9223372036854775807):(rJ s).length≤10+s.length:=by
 have:=aBs h
 unfold oI at this
 simp only [rJ,aG];omega
theorem aEy (s:List UInt8):s.length≤(rJ s).length:=by simp [rJ]
theorem aBd {b:List UInt8}{n:Int} (hb:b.length≤10000000000000) (h:sC n):gV b n=some (b++oI n):=aCX hb h.1 h.2
theorem aKX {b s:List UInt8} (hb:b.length≤10000000000000) (hs:s.length≤10000000000000):kX b s=some (b++rJ s):=by rw [aGa hb hs,rJ,cX]
theorem rC {α:Type} (B:Nat) (l:List α) (f:α→List UInt8) (b:List UInt8) (hB:(b++l.flatMap f).length≤B) {body:List UInt8 × Int→Option (dG (List UInt8 × Int) (List UInt8))}
  (h:∀ (s:List UInt8) (i:Nat) (hi:i<l.length),(s++f l[i]).length≤B→body (s,(i:Int))=some (.next (s++f l[i],((i+1:Nat):Int)))) (hout:∀ s,body (s,(l.length:Int))=some (.out s)) :
  fX body (b,(0:Int))=some (b++l.flatMap f):=by
 refine aC3 (fun s=>∃ i:Nat,s.2=(i:Int)∧i≤l.length∧s.1=b++(l.take i).flatMap f) (fun s=>l.length - s.2.toNat) (fun _=>b++l.flatMap f) ?_ _ ⟨0,rfl,by omega,by simp⟩
 rintro ⟨s,i0⟩ ⟨i,hi0,hi,hs⟩
 simp only at hi0 hs
 subst hi0 hs
 by_cases hlt:i<l.length
 ·
  have e:b++(l.take i).flatMap f++f l[i]=b++(l.take (i+1)).flatMap f:=by rw [eT hlt,List.flatMap_append];simp
  have hle:(b++(l.take i).flatMap f++f l[i]).length≤B:=by
   rw [e]
   refine gF ?_ hB
   conv=>rhs;rw [← lL (i+1) l,List.flatMap_append]
   simp only [aG];omega
  refine .inl ⟨_,h _ i hlt hle,⟨i+1,rfl,hlt,e⟩,by simp;omega,rfl⟩
 ·
  obtain rfl:i=l.length:=by omega
  rw [hout,kK]
  exact .inr rfl
mutual
def tD:aE→List UInt8
 | ⟨k,i,t,l,ks⟩=>oI k++(if k=1∨k=2∨k=6 then oI i else if k=3 then rJ t else if k=4 then oI l.length++aLs l else if k=5 then oI l.length++aIM l ks else [])
def aLs:List aE→List UInt8
 | []=>[]
 | x :: l=>tD x++aLs l
def aIM:List aE→List (List UInt8)→List UInt8
 | x :: l,k :: ks=>rJ k++tD x++aIM l ks
 | _,_=>[]
end
theorem aLt:∀ l,aLs l=l.flatMap tD
 | []=>by simp [aLs]
 | x :: l=>by simp [aLs,aLt l]
theorem aLu:∀ l ks,aIM l ks=(l.zip ks).flatMap fun p=>rJ p.2++tD p.1
 | [],_=>by simp [aIM]
 | x :: l,[]=>by simp [aIM]
 | x :: l,k :: ks=>by simp [aIM,aLu l ks]
theorem aJI (v:aE):tD v=oI v.Kind++(if v.Kind=1∨v.Kind=2∨v.Kind=6 then oI v.Int else if v.Kind=3 then rJ v.Text else if v.Kind=4 then oI v.Items.length++v.Items.flatMap tD
 else if v.Kind=5 then oI v.Items.length++(v.Items.zip v.Keys).flatMap (fun p=>rJ p.2++tD p.1) else []):=by cases v;simp only [tD,aLt,aLu]
mutual
def nsz:aE→Nat
 | ⟨_,_,_,l,_⟩=>oJ l+1
def oJ:List aE→Nat
 | []=>0
 | x :: l=>nsz x+oJ l
end
theorem aE0 (v:aE):nsz v=oJ v.Items+1:=by cases v;simp [nsz]
theorem aKv {α:Type} (f:α→List UInt8) (g:α→Nat):∀ (l:List α),(∀ x∈l,(f x).length≤g x)→(l.flatMap f).length≤(l.map g).sum
 | [],_=>by simp
 | x :: l,h=>by
  have h1:=h x (by simp)
  have h2:=aKv f g l (fun y hy=>h y (by simp [hy]))
  simp only [iY,aG,iC,List.sum_cons];omega
theorem aMQ:∀ l,l.length≤oJ l
 | []=>by simp
 | x :: l=>by have:=aMQ l;have:=aE0 x;simp only [oJ,eV];omega
theorem aMY (c:Nat):∀ (l:List aE),(l.map fun x=>nsz x*c).sum=oJ l*c
 | []=>by simp [oJ]
 | x :: l=>by simp [oJ,aMY c l,eM]
theorem aLr:∀ (n:Nat) (v:aE),xC v≤n→dF v→shr v=true→(tD v).length+4200≤nsz v*8400:=by
 intro n
 induction n with
 | zero=>intro v h;have:=lD v;omega
 | succ n ih =>
  intro v h hv hs
  have hh:=lD v
  obtain ⟨k0,k1,k2,k3,k4⟩:=(gD v).1 hv
  rw [aJm] at hs
  simp only [aM,fM,bM,List.any_eq_false,lZ,kU,bG] at hs
  obtain ⟨⟨h1,h2⟩,h3⟩:=hs
  have e1:=lO k0
  have e2:=lO k1
  have e3:=tU (s:=v.Text) (by omega)
  have e4:=aBs (n:=v.Items.length) k3.1
  have hi:∀ x∈v.Items,(tD x).length+4200≤nsz x*8400:=fun x hx=>ih x (by have:=nQ hx;omega) (k3.2.2 x hx) (h3 x hx)
  rw [aJI,aE0]
  simp only [aG]
  have f4:(v.Items.flatMap tD).length≤oJ v.Items*8400:=by
   have:=aKv tD (fun x=>nsz x*8400) v.Items (fun x hx=>by have:=hi x hx;omega)
   rwa [aMY] at this
  have key:∀ (l:List aE) (ks:List (List UInt8)),(∀ x∈l,(tD x).length+4200≤nsz x*8400)→(∀ k∈ks,k.length≤4096)→((l.zip ks).flatMap fun p=>rJ p.2++tD p.1).length≤oJ l*8400:=by
   intro l
   induction l with
   | nil=>intro ks _ _;simp
   | cons x l ihl =>
    intro ks hl hk
    cases ks with
    | nil=>simp
    | cons k ks =>
     have a1:=ihl ks (fun y hy=>hl y (by simp [hy])) (fun y hy=>hk y (by simp [hy]))
     have a2:=hl x (by simp)
     have a3:=hk k (by simp)
     have a4:=tU (s:=k) (by omega)
     simp only [List.zip_cons_cons,iY,aG,oJ,eM];omega
  have f5:=key v.Items v.Keys hi (fun k hk=>by have:=h2 k hk;omega)
  split
  ·
   omega
  ·
   split
   ·
    omega
   ·
    split
    ·
     simp only [aG];omega
    ·
     split
     ·
      simp only [aG];omega
     ·
      simp;omega
theorem aGK {o:Bool}{v:aE} (h:fmd o v=true):(v.Kind≠4→v.Kind≠5→v.Items=[])∧(v.Kind=5→v.Keys.length=v.Items.length)∧∀ x∈v.Items,fmd o x=true:=by
 rw [aEV,aM,bM] at h
 refine ⟨fun h4 h5=>?_,fun h5=>?_,h.2⟩
 ·
  have hf:=h.1
  unfold aB7 at hf
  by_cases h0:v.Kind=0
  ·
   simp [h0] at hf;simp [hf]
  ·
   by_cases h1:v.Kind=1
   ·
    simp [h1] at hf;simp [hf]
   ·
    by_cases h2:v.Kind=2
    ·
     simp [h2] at hf;simp [hf]
    ·
     by_cases h6:v.Kind=6
     ·
      simp [h6] at hf;simp [hf]
     ·
      by_cases h3:v.Kind=3
      ·
       simp [h3] at hf;simp [hf]
      ·
       simp [h0,h1,h2,h6,h3,h4,h5] at hf
 ·
  have hf:=h.1
  unfold aB7 at hf
  simp [h5] at hf
  exact hf.1.2
def At (r:aP) (rest:List UInt8):Prop:=∃ (b:List UInt8) (a:Nat),b.length≤1000000000∧a≤b.length∧r=⟨b,a,0,true⟩∧b.drop a=rest
theorem wF {r:aP}{l:List UInt8} (h:At r l):gG r=some 0:=by
 obtain ⟨b,a,_,_,rfl,_⟩:=h
 rfl
theorem aPR {b:List UInt8} (h:b.length≤1000000000):∃ r,aAb b=some r∧At r b:=⟨_,aJQ (by omega),b,0,h,by omega,rfl,rfl⟩
theorem aDE {r:aP}{n low high:Int}{rest:List UInt8} (h:At r (oI n++rest)) (hn:sC n) (h1:low≤n) (h2:n≤high):∃ r',gH low high r=some (n,r')∧At r' rest:=by
 obtain ⟨b,a,hb,ha,rfl,hd⟩:=h
 have hr:=aIE (low:=low) (high:=high) rest hn.1 hn.2
 rw [aN (by omega)] at hr
 have hlen:(oI n).length≤b.length - a:=by
  have:=mT List.length hd
  simp only [kJ,aG] at this
  omega
 refine ⟨_,by rw [aGQ ha hb,hd];unfold oI;rw [hr],b,a+(oI n).length,hb,by omega,?_,?_⟩
 ·
  unfold aA9
  rw [hd];unfold oI;rw [hr];rfl
 ·
  rw [← lH,hd,List.drop_left]
theorem aBq {r:aP}{s:List UInt8}{most:Int}{rest:List UInt8} (h:At r (rJ s++rest)) (hs:(s.length:Int)≤most):∃ r',iU most r=some (s,r')∧At r' rest:=by
 obtain ⟨b,a,hb,ha,rfl,hd⟩:=h
 have hl:=mT List.length hd
 simp only [kJ,aG,rJ] at hl
 have hr:=aIE (low:=0) (high:=most) (s++rest) (n:=(s.length:Int)) (by omega) (by omega)
 rw [aN (by omega)] at hr
 have hd':b.drop a=qX (zz s.length)++(s++rest):=by rw [hd,rJ,cX]
 have hd2:b.drop (a+(qX (zz s.length)).length)=s++rest:=by rw [← lH,hd',List.drop_left]
 refine ⟨⟨b,(a+(qX (zz s.length)).length+s.length:Nat),0,true⟩,?_,b,a+(qX (zz s.length)).length+s.length,hb,by omega,rfl,?_⟩
 ·
  rw [aQq ha hb]
  unfold aPk
  rw [hd',hr]
  simp only [ne_eq,not_true_eq_false,dL]
  rw [aN (by omega),hd2]
  simp
 ·
  rw [← lH,hd2,List.drop_left]
theorem aNP {l:List (List UInt8)} (h:l.length≤9223372036854775807) (hr:aFY l=true) (i:Nat) (hi:i+1<l.length):Op.bytesLess l[i] l[i+1]=true:=aHm.1 hr i hi
theorem aP4:∀ (n:Nat) (v:aE),xC v≤n→xC v≤nsz v:=by
 intro n
 induction n with
 | zero=>intro v h;have:=lD v;omega
 | succ n ih =>
  intro v h
  have hh:=lD v
  rw [hh,aE0]
  have key:∀ l:List aE,(∀ x∈l,xC x≤nsz x)→aEX l≤oJ l:=by
   intro l
   induction l with
   | nil=>simp [aEX,oJ]
   | cons x l ihl =>
    intro hl
    have h1:=hl x (by simp)
    have h2:=ihl (fun y hy=>hl y (by simp [hy]))
    simp only [aEX,oJ];omega
  have:=key v.Items (fun x hx=>ih x (by have:=nQ hx;omega))
  omega
theorem aKM:∀ {l:List aE}{x:aE},x∈l→nsz x≤oJ l
 | [],x,h=>by simp at h
 | y :: l,x,h=>by
  simp only [oJ]
  rcases dY.1 h with rfl | h
  ·
   omega
  ·
   have:=aKM h;omega
theorem aMK:∀ (n:Nat) (v:aE),xC v≤n→nsz v≤1000000→dep v=(xC v:Int)∧siz v=(nsz v:Int):=by
 intro n
 induction n with
 | zero=>intro v h;have:=lD v;omega
 | succ n ih =>
  intro v h hn
  have hh:=lD v
  have hz:=aE0 v
  have hm:=aP4 _ v (eN _)
  have k1:∀ (l:List aE) (a:Nat),(∀ x∈l,dep x=(xC x:Int))→l.foldl (fun a x=>if dep x > a then dep x else a) (a:Int)=((max a (aEX l):Nat):Int):=by
   intro l
   induction l with
   | nil=>intro a _;simp [aEX]
   | cons x l ihl =>
    intro a hl
    have h1:=hl x (by simp)
    simp only [nD,h1]
    have e:(if ((xC x:Nat):Int) > ((a:Nat):Int) then ((xC x:Nat):Int) else ((a:Nat):Int))=((max a (xC x):Nat):Int):=by split <;> omega
    rw [e,ihl _ (fun y hy=>hl y (by simp [hy]))]
    simp only [aEX]
    omega
  have k2:∀ (l:List aE) (a:Nat),(∀ x∈l,siz x=(nsz x:Int))→a+oJ l≤2000000→l.foldl (fun a x=>IntKind.i64.wrap (a+siz x)) (a:Int)=((a+oJ l:Nat):Int):=by
   intro l
   induction l with
   | nil=>intro a _ _;simp [oJ]
   | cons x l ihl =>
    intro a hl ha
    simp only [oJ] at ha
    have h1:=hl x (by simp)
    simp only [nD,h1]
    rw [w64 (by omega) (by omega),show ((a:Nat):Int)+(nsz x:Int)=((a+nsz x:Nat):Int) by omega,ihl _ (fun y hy=>hl y (by simp [hy])) (by omega)]
    simp only [oJ]
    omega
  have hi:∀ x∈v.Items,dep x=(xC x:Int)∧siz x=(nsz x:Int):=fun x hx=>ih x (by have:=nQ hx;omega) (by have:=aKM hx;omega)
  constructor
  ·
   rw [aLZ]
   have:=k1 v.Items 0 (fun x hx=>(hi x hx).1)
   simp only [Int.natCast_zero] at this
   rw [this,w64 (by omega) (by omega)]
   omega
  ·
   rw [aMr]
   have:=k2 v.Items 1 (fun x hx=>(hi x hx).2) (by omega)
   rw [show (1:Int)=((1:Nat):Int) from rfl,this]
   omega
theorem aG2 {r:aP}{l:List UInt8} (k:Int) (h:At r l):kH true k r=some (true,r):=by
 unfold kH
 rw [wF h]
 simp [wF h]
theorem aC6 {α:Type} (f:α→List UInt8) (l:List α) (i:Nat) (hi:i<l.length):(l.drop i).flatMap f=f l[i]++(l.drop (i+1)).flatMap f:=by
 rw [lR hi,iY]
theorem aE2:∀ (l:List aE) (i:Nat) (hi:i<l.length),oJ (l.take (i+1))=oJ (l.take i)+nsz l[i]
 | [],i,hi=>by simp at hi
 | x :: l,0,hi=>by simp [oJ]
 | x :: l,i+1,hi=>by
  have:=aE2 l i (by simpa using hi)
  simp only [kV,oJ,List.getElem_cons_succ] at this ⊢
  omega
theorem aBv:∀ (l:List aE) (i:Nat),oJ (l.take i)≤oJ l
 | [],i=>by simp
 | x :: l,0=>by simp [oJ]
 | x :: l,i+1=>by have:=aBv l i;simp only [kV,oJ];omega
theorem aMy:∀ (n:Nat) (v:aE) (d:Int) (k:Nat) (r:aP) (rest:List UInt8),At r (tD v++rest)→dF v→fmd false v=true→shr v=true→0≤d→(xC v:Int)+d≤17→k+nsz v≤1000→2*xC v≤n →
  ∃ r',fO n d k r=some (v,((k+nsz v:Nat):Int),r')∧At r' rest:=by
 intro n
 induction n using Nat.strongRecOn with
 | _ n ih =>
  intro v d k r rest hat hv hf hs hd0 hd hk hn
  have hh:=lD v
  have hz:=aE0 v
  obtain ⟨m,rfl⟩:∃ m,n=m+2:=⟨n - 2,by omega⟩
  obtain ⟨q0,q1,q2,q3,q4⟩:=(gD v).1 hv
  have hft:=hf
  rw [aOI (xC v) v (eN _)] at hft
  simp only [aM,fM] at hft
  obtain ⟨l1,l2,l3⟩:=aGK hft.1
  have hfi:∀ x∈v.Items,fmd false x=true:=(aGK hf).2.2
  have hs':=hs
  rw [aJm] at hs'
  simp only [aM,fM,bM,List.any_eq_false,lZ,kU,bG] at hs'
  obtain ⟨⟨s1,s2⟩,s3⟩:=hs'
  have hflo:aB7 false v=true:=by rw [aEV,aM] at hf;exact hf.1
  have hk05:0≤v.Kind∧v.Kind≤5:=by
   unfold aB7 at hflo
   by_cases h0:v.Kind=0
   ·
    omega
   by_cases h1:v.Kind=1
   ·
    omega
   by_cases h2:v.Kind=2
   ·
    omega
   by_cases h6:v.Kind=6
   ·
    simp [h6] at hflo
   by_cases h3:v.Kind=3
   ·
    omega
   by_cases h4:v.Kind=4
   ·
    omega
   by_cases h5:v.Kind=5
   ·
    omega
   simp [h0,h1,h2,h6,h3,h4,h5] at hflo
  rw [aJI,cX] at hat
  obtain ⟨r1,a1,a2⟩:=aDE (low:=-9223372036854775808) (high:=9223372036854775807) hat q0 q0.1 q0.2
  have ek:IntKind.i64.wrap ((k:Int)+1)=((k+1:Nat):Int):=by rw [w64 (by omega) (by omega)];omega
  rw [fO]
  have c1:(cond (decide ((k:Int)<(1000:Int))) (decide (d≤(16:Int))) false)=true:=by
   have h1:(k:Int)<1000:=by omega
   have h2:d≤16:=by omega
   simp [h1,h2]
  have c2:(cond (decide ((0:Int)≤v.Kind)) (decide (v.Kind≤(5:Int))) false)=true:=by simp [hk05.1,hk05.2]
  rw [c1,aG2 _ hat]
  simp only [aA,bW,bF]
  rw [a1]
  simp only [aA]
  rw [c2,ek,aG2 _ a2]
  simp only [aA,bW,bF]
  have hnil:∀ {α:Type}{l:List α},decide (l.length=0)=true→l=[]:=fun h=>by simpa using h
  by_cases h1:v.Kind=1
  ·
   simp only [h1,true_or,bT] at a2
   obtain ⟨r2,b1,b2⟩:=aDE (low:=-9223372036854775808) (high:=9223372036854775807) a2 q1 q1.1 q1.2
   have hfl:=hflo
   simp only [aB7,h1,Int.reduceEq,bT,dL,aM,dJ,bG] at hfl
   have c3:(cond (decide (v.Int=(0:Int))) true (decide (v.Int=(1:Int))))=true:=by rcases hfl.1.1.1 with h | h <;> simp [h]
   simp only [h1,bS,cW]
   rw [b1]
   simp only [aA]
   rw [c3,aG2 _ b2]
   simp only [aA,Fl.next]
   have hit:=l1 (by omega) (by omega)
   have hks:v.Keys=[]:=by simpa using hfl.2
   have htx:v.Text=[]:=hfl.1.1.2
   refine ⟨r2,?_,b2⟩
   rw [hz,hit]
   obtain ⟨kd,i,t,l,ks⟩:=v
   simp only at h1 hit hks htx ⊢
   subst h1 hit hks htx
   simp [oJ]
  by_cases h2:v.Kind=2
  ·
   simp only [h2,true_or,or_true,bT] at a2
   obtain ⟨r2,b1,b2⟩:=aDE (low:=-9223372036854775808) (high:=9223372036854775807) a2 q1 q1.1 q1.2
   have hfl:=hflo
   simp only [aB7,h2,Int.reduceEq,bT,dL,aM,bG] at hfl
   simp only [h2,Int.reduceEq,cQ,bS,cW,bF]
   rw [b1]
   simp only [aA,Fl.next]
   have hit:=l1 (by omega) (by omega)
   have hks:v.Keys=[]:=by simpa using hfl.2
   have htx:v.Text=[]:=hfl.1.1
   refine ⟨r2,?_,b2⟩
   rw [hz,hit]
   obtain ⟨kd,i,t,l,ks⟩:=v
   simp only at h2 hit hks htx ⊢
   subst h2 hit hks htx
   simp [oJ]
  by_cases h3:v.Kind=3
  ·
   simp only [h3,Int.reduceEq,or_self,bT,dL] at a2
   obtain ⟨r2,b1,b2⟩:=aBq (most:=9223372036854775807) a2 (by omega)
   have hfl:=hflo
   simp only [aB7,h3,Int.reduceEq,bT,dL,aM,bG] at hfl
   simp only [h3,Int.reduceEq,cQ,bS,cW,bF]
   rw [b1]
   simp only [aA]
   have c3:decide ((v.Text.length:Int)≤4096)=true:=by simp;omega
   rw [c3,aG2 _ b2]
   simp only [aA,Fl.next]
   have hit:=l1 (by omega) (by omega)
   have hks:v.Keys=[]:=by simpa using hfl.2
   have hin:v.Int=0:=hfl.1.1
   refine ⟨r2,?_,b2⟩
   rw [hz,hit]
   obtain ⟨kd,i,t,l,ks⟩:=v
   simp only at h3 hit hks hin ⊢
   subst h3 hit hks hin
   simp [oJ]
  by_cases h0:v.Kind=0
  ·
   simp only [h0,Int.reduceEq,or_self,dL,hH] at a2
   have hfl:=hflo
   simp only [aB7,h0,bT,aM,bG] at hfl
   simp only [h0,Int.reduceEq,cQ,bF,aA,Fl.next]
   have hit:=l1 (by omega) (by omega)
   have hks:v.Keys=[]:=by simpa using hfl.2
   have htx:v.Text=[]:=hfl.1.1.2
   have hin:v.Int=0:=hfl.1.1.1
   refine ⟨r1,?_,a2⟩
   rw [hz,hit]
   obtain ⟨kd,i,t,l,ks⟩:=v
   simp only at h0 hit hks htx hin ⊢
   subst h0 hit hks htx hin
   simp [oJ]
  have h45:v.Kind=4∨v.Kind=5:=by omega
  have e45:(cond (decide (v.Kind=(4:Int))) (some (decide (v.Kind=(4:Int)))) (some (decide (v.Kind=(5:Int)))))=some true:=by rcases h45 with h | h <;> simp [h]
  simp only [h1,h2,h3,cQ,bF]
  rw [e45]
  simp only [aA,cW]
  have hnl:v.Items.length≤oJ v.Items:=aMQ _
  have okn:sC (v.Items.length:Int):=⟨by omega,by omega⟩
  have hdw:IntKind.i64.wrap (d+1)=d+1:=w64 (by omega) (by omega)
  have c3:(cond (decide ((0:Int)≤(v.Items.length:Int))) (decide ((v.Items.length:Int)≤(1000:Int))) false)=true:=by
   have h1:(0:Int)≤(v.Items.length:Int):=by omega
   have h2:(v.Items.length:Int)≤1000:=by omega
   simp [h1,h2]
  have hItem:∀ (i:Nat) (hi:i<v.Items.length) (k':Nat) (r:aP) (rest:List UInt8),k'+nsz v.Items[i]≤1000→At r (tD v.Items[i]++rest)→∃ r',fO m (IntKind.i64.wrap (d+1)) k' r=some (v.Items[i],((k'+nsz v.Items[i]:Nat):Int),r')∧At r' rest:=fun i hi k' r rest hk' hat'=>by
   have hmem:=aX hi
   have hge:=nQ hmem
   rw [hdw]
   exact ih m (by omega) v.Items[i] (d+1) k' r rest hat' (q3.2.2 _ hmem) (hfi _ hmem) (s3 _ hmem) (by omega) (by omega) hk' (by omega)
  rw [iK]
  by_cases h4:v.Kind=4
  ·
   simp only [h4,Int.reduceEq,or_self,bT,dL,cX] at a2
   obtain ⟨r2,b1,b2⟩:=aDE (low:=-9223372036854775808) (high:=9223372036854775807) a2 okn okn.1 okn.2
   rw [b1]
   simp only [aA]
   rw [c3,aG2 _ b2]
   simp only [aA,bW,bF]
   obtain ⟨X,g1,g2⟩:=vB (body:=gS (fO m) ((v.Items.length:Int),r2) v.Kind d)
    (fun s=>∃ (i:Nat) (r':aP),i≤v.Items.length∧s=((i:Int),((k+1+oJ (v.Items.take i):Nat):Int),r',v.Items.take i,[])∧At r' ((v.Items.drop i).flatMap tD++rest)) (fun s=>v.Items.length - s.1.toNat)
    (fun X=>∃ r',X=.go (((k+1+oJ v.Items:Nat):Int),r',v.Items,[])∧At r' rest) (by
     rintro s ⟨i,r',hi,rfl,hat'⟩
     by_cases hlt:i<v.Items.length
     ·
      rw [aC6 tD _ i hlt,cX] at hat'
      have ht1:=aE2 v.Items i hlt
      have ht2:=aBv v.Items (i+1)
      obtain ⟨r3,f1,f2⟩:=hItem i hlt (k+1+oJ (v.Items.take i)) r' _ (by omega) hat'
      refine .inl ⟨_,?_,⟨i+1,r3,by omega,rfl,f2⟩,by simp;omega⟩
      unfold gS
      simp only
      rw [cU,aQ (by omega)]
      simp only [h4,Int.reduceEq,cQ,bF,aA,Fl.next]
      rw [f1]
      simp only [aA]
      rw [wF f2,uM (by simp;omega),nJ hlt (by omega),eT hlt]
      simp only [aA,bS,bW,bF]
      rw [← eT hlt,ht1,iL]
     ·
      obtain rfl:i=v.Items.length:=by omega
      refine .inr ⟨.go (((k+1+oJ v.Items:Nat):Int),r',v.Items,[]),?_,r',rfl,by simpa using hat'⟩
      unfold gS
      simp only
      rw [cU,aN (by omega),kK]) ((0:Int),((k+1:Nat):Int),r2,[],[]) ⟨0,r2,by omega,by simp [oJ],by simpa using b2⟩
   obtain ⟨r',rfl,hat'⟩:=g2
   rw [h4] at g1
   rw [h4,g1]
   simp only [aA,Fl.next]
   have hfl:=hflo
   simp only [aB7,h4,Int.reduceEq,bT,dL,aM,bG] at hfl
   have hks:v.Keys=[]:=by simpa using hfl.2
   have htx:v.Text=[]:=hfl.1.2
   have hin:v.Int=0:=hfl.1.1
   refine ⟨r',?_,hat'⟩
   rw [hz]
   obtain ⟨kd,i,t,l,ks⟩:=v
   simp only at h4 hks htx hin ⊢
   subst h4 hks htx hin
   rw [show k+1+oJ l=k+(oJ l+1) from by omega]
  ·
   have h5:v.Kind=5:=by omega
   have hlen:=l2 h5
   simp only [h5,Int.reduceEq,or_self,bT,dL,cX] at a2
   obtain ⟨r2,b1,b2⟩:=aDE (low:=-9223372036854775808) (high:=9223372036854775807) a2 okn okn.1 okn.2
   rw [b1]
   simp only [aA]
   rw [c3,aG2 _ b2]
   simp only [aA,bW,bF]
   have hfl:=hflo
   simp only [aB7,h5,Int.reduceEq,bT,dL,aM,bG] at hfl
   have hzl:(v.Items.zip v.Keys).length=v.Items.length:=by simp [hlen]
   obtain ⟨X,g1,g2⟩:=vB (body:=gS (fO m) ((v.Items.length:Int),r2) v.Kind d)
    (fun s=>∃ (i:Nat) (r':aP),i≤v.Items.length∧s=((i:Int),((k+1+oJ (v.Items.take i):Nat):Int),r',v.Items.take i,v.Keys.take i)∧At r' (((v.Items.zip v.Keys).drop i).flatMap (fun p=>rJ p.2++tD p.1)++rest)) (fun s=>v.Items.length - s.1.toNat)
    (fun X=>∃ r',X=.go (((k+1+oJ v.Items:Nat):Int),r',v.Items,v.Keys)∧At r' rest) (by
     rintro s ⟨i,r',hi,rfl,hat'⟩
     by_cases hlt:i<v.Items.length
     ·
      have hik:i<v.Keys.length:=by omega
      rw [aC6 _ _ i (by omega),cX,List.getElem_zip,cX] at hat'
      have ht1:=aE2 v.Items i hlt
      have ht2:=aBv v.Items (i+1)
      obtain ⟨r3,e1,e2⟩:=aBq (most:=9223372036854775807) hat' (by have:=s2 _ (aX hik);simp only;omega)
      obtain ⟨r4,f1,f2⟩:=hItem i hlt (k+1+oJ (v.Items.take i)) r3 _ (by omega) e2
      have hl4:(v.Keys[i].length:Int)≤4096:=by have:=s2 _ (aX hik);omega
      have hprev:(gd ((decide ((v.Keys[i].length:Int)≤(4096:Int)))==true&&((decide ((i:Int)=(0:Int)))==false)) (nF (v.Keys.take i) (IntKind.wrap .i64 ((i:Int) - (1:Int)))))=some (if h:i=0 then [] else v.Keys[i - 1]'(by omega)):=by
       by_cases hi0:i=0
       ·
        subst hi0;simp [gd];rfl
       ·
        have e:IntKind.i64.wrap ((i:Int) - 1)=((i - 1:Nat):Int):=by rw [w64 (by omega) (by omega)];omega
        have c2:decide ((i:Int)=0)=false:=by simp;omega
        rw [e,gJ (l:=v.Keys.take i) (i:=i - 1) (by simp;omega),c2,lI hl4]
        simp [gd,hi0]
      refine .inl ⟨((i+1:Nat),((k+1+oJ (v.Items.take (i+1)):Nat):Int),r4,v.Items.take (i+1),v.Keys.take (i+1)),?_,⟨i+1,r4,by omega,rfl,f2⟩,by simp;omega⟩
      unfold gS
      simp only
      rw [cU,aQ (by omega)]
      simp only [h5,bS,cW]
      rw [e1]
      simp only [aA]
      rw [hprev]
      simp only [aA]
      have hC:(cond (decide ((v.Keys[i].length:Int)≤(4096:Int))) (cond (decide ((i:Int)=(0:Int))) true (!(Op.bytesLess v.Keys[i] (if h:i=0 then [] else v.Keys[i - 1]'(by omega))||decide (v.Keys[i]=(if h:i=0 then [] else v.Keys[i - 1]'(by omega)))))) false)=true:=by
       rw [lI hl4,aJ9]
       by_cases hi0:i=0
       ·
        subst hi0;simp
       ·
        have c2:decide ((i:Int)=0)=false:=by simp;omega
        have hr:=aNP (l:=v.Keys) (by omega) hfl.2 (i - 1) (by omega)
        have e:i - 1+1=i:=by omega
        simp only [e] at hr
        rw [c2];simp [hi0,hr]
      rw [hC,aG2 _ e2]
      simp only [aA,bW,bF]
      rw [uM (by simp;omega)]
      simp only [aA,Fl.next]
      rw [f1]
      simp only [aA]
      rw [wF f2,uM (by simp;omega),nJ hlt (by omega)]
      simp only [aA,bS,bW,bF]
      rw [← eT hlt,← eT hik,ht1,iL]
     ·
      obtain rfl:i=v.Items.length:=by omega
      refine .inr ⟨.go (((k+1+oJ v.Items:Nat):Int),r',v.Items,v.Keys),?_,r',rfl,?_⟩
      ·
       unfold gS
       simp only
       rw [cU,aN (by omega),kK,← hlen,kK]
      ·
       rw [mY (by omega)] at hat';simpa using hat') ((0:Int),((k+1:Nat):Int),r2,[],[]) ⟨0,r2,by omega,by simp [oJ],by simpa using b2⟩
   obtain ⟨r',rfl,hat'⟩:=g2
   rw [h5] at g1
   rw [h5,g1]
   simp only [aA,Fl.next]
   have htx:v.Text=[]:=hfl.1.1.2
   have hin:v.Int=0:=hfl.1.1.1
   refine ⟨r',?_,hat'⟩
   rw [hz]
   obtain ⟨kd,i,t,l,ks⟩:=v
   simp only at h5 htx hin ⊢
   subst h5 htx hin
   rw [show k+1+oJ l=k+(oJ l+1) from by omega]
theorem aB2 {b:List UInt8}{n:Int} (hb:b.length≤10000000000000) (h:sC n):kA b n=some (b++oI n):=aEr hb h.1 h.2
theorem aFH {b s:List UInt8} (hb:b.length≤10000000000000) (hs:s.length≤10000000000000):lP b s=some (b++rJ s):=by rw [aH2 hb hs,rJ,cX]
theorem aOV (v:aE):(cond (decide (v.Kind=(1:Int))) (some (decide (v.Kind=(1:Int)))) (cond (decide (v.Kind=(2:Int))) (some (decide (v.Kind=(2:Int)))) (some (decide (v.Kind=(6:Int))))))=some (decide (v.Kind=1∨v.Kind=2∨v.Kind=6)):=by
 by_cases h1:v.Kind=1
 ·
  simp [h1]
 ·
  by_cases h2:v.Kind=2 <;> simp [h1,h2]
theorem aNB (v:aE):(cond (decide (v.Kind=(4:Int))) (some (decide (v.Kind=(4:Int)))) (some (decide (v.Kind=(5:Int)))))=some (decide (v.Kind=4∨v.Kind=5)):=by
 by_cases h1:v.Kind=4 <;> simp [h1]
theorem aGF:∀ (n:Nat) (v:aE) (b:List UInt8),xC v≤n→dF v→fmd true v=true→(b++tD v).length≤1000000000000→pH n b v=some (b++tD v)∧aBE n b v=some (b++tD v):=by
 intro n
 induction n with
 | zero=>intro v b h;have:=lD v;omega
 | succ n ih =>
  intro v b h hv hf hB
  have hh:=lD v
  obtain ⟨k0,k1,k2,k3,k4⟩:=(gD v).1 hv
  obtain ⟨l1,l2,l3⟩:=aGK hf
  rw [aJI] at hB ⊢
  rw [pH,aBE,aOV,aNB]
  simp only [aG] at hB
  rw [aBd (by omega) k0,aB2 (by omega) k0]
  simp only [aA]
  have hb0:(b++oI v.Kind).length=b.length+(oI v.Kind).length:=by simp
  by_cases h126:v.Kind=1∨v.Kind=2∨v.Kind=6
  ·
   simp only [h126,bS,cW,bT] at hB ⊢
   rw [aBd (by omega) k1,aB2 (by omega) k1]
   simp [Fl.next]
  ·
   simp only [h126,cQ,bF,dL] at hB ⊢
   by_cases h3:v.Kind=3
   ·
    have h3t:=aEy v.Text
    simp only [h3,bS,cW,bT] at hB hb0 ⊢
    rw [aKX (by omega) (by omega),aFH (by omega) (by omega)]
    simp [Fl.next]
   ·
    simp only [h3,cQ,bF,dL] at hB ⊢
    by_cases h4:v.Kind=4
    ·
     have hok:sC (v.Items.length:Int):=⟨by omega,by have:=k3.1;omega⟩
     simp only [h4,true_or,bS,cW,bT,aG] at hB ⊢
     rw [aBd (by simp only [aG];omega) hok,aB2 (by simp only [aG];omega) hok]
     simp only [aA,Fl.next]
     rw [rC 1000000000000 v.Items tD _ (by simp only [aG];omega) (fun s i hi hs=>?_) (fun s=>?_),rC 1000000000000 v.Items tD _ (by simp only [aG];omega) (fun s i hi hs=>?_) (fun s=>?_)]
     ·
      simp
     ·
      unfold wN
      rw [cU,aQ (by simp only;omega)]
      simp only [h4,Int.reduceEq,cQ,bF,aA]
      rw [gJ hi,aA,(ih _ _ (by have:=nQ (aX hi);omega) (k3.2.2 _ (aX hi)) (l3 _ (aX hi)) hs).2,aA,nJ hi k3.1]
     ·
      unfold wN
      rw [cU,aN (by simp only;omega)]
     ·
      unfold mU
      rw [cU,aQ (by simp only;omega),gJ hi,aA]
      simp only [h4,Int.reduceEq,cQ,bF]
      rw [(ih _ _ (by have:=nQ (aX hi);omega) (k3.2.2 _ (aX hi)) (l3 _ (aX hi)) hs).1,aA,nJ hi k3.1]
     ·
      unfold mU
      rw [cU,aN (by simp only;omega)]
    ·
     by_cases h5:v.Kind=5
     ·
      have hok:sC (v.Items.length:Int):=⟨by omega,by have:=k3.1;omega⟩
      have hlen:=l2 h5
      have hz:(v.Items.zip v.Keys).length=v.Items.length:=by simp [hlen]
      simp only [h5,or_true,Int.reduceEq,bS,cW,bT,dL,aG] at hB ⊢
      rw [aBd (by simp only [aG];omega) hok,aB2 (by simp only [aG];omega) hok]
      simp only [aA,Fl.next]
      rw [rC 1000000000000 (v.Items.zip v.Keys) (fun p=>rJ p.2++tD p.1) _ (by simp only [aG];omega) (fun s i hi hs=>?_) (fun s=>?_),rC 1000000000000 (v.Items.zip v.Keys) (fun p=>rJ p.2++tD p.1) _ (by simp only [aG];omega) (fun s i hi hs=>?_) (fun s=>?_)]
      ·
       simp
      ·
       unfold wN
       rw [hz] at hi
       have hik:i<v.Keys.length:=by omega
       simp only [List.getElem_zip,aG] at hs ⊢
       have:=aEy v.Keys[i]
       rw [cU,aQ (by omega)]
       simp only [h5,bS,cW]
       rw [gJ hik,aA,aFH (by omega) (by omega),aA,aA,gJ hi,aA,(ih _ _ (by have:=nQ (aX hi);omega) (k3.2.2 _ (aX hi)) (l3 _ (aX hi)) (by simp only [aG];omega)).2,aA,nJ hi k3.1]
       simp
      ·
       unfold wN
       rw [cU,aN (by simp only;omega)]
      ·
       unfold mU
       rw [hz] at hi
       have hik:i<v.Keys.length:=by omega
       simp only [List.getElem_zip,aG] at hs ⊢
       have:=aEy v.Keys[i]
       rw [cU,aQ (by omega),gJ hi,aA]
       simp only [h5,bS,cW]
       rw [gJ hik,aA,aKX (by omega) (by omega),aA,(ih _ _ (by have:=nQ (aX hi);omega) (k3.2.2 _ (aX hi)) (l3 _ (aX hi)) (by simp only [aG];omega)).1,aA,nJ hi k3.1]
       simp
      ·
       unfold mU
       rw [cU,aN (by simp only;omega)]
     ·
      simp only [h4,h5,or_self,cQ,bF,dL,aA,Fl.next]
      rw [aKF (body:=mU (pH n) v) (s:=(b++oI v.Kind,0)) (r:=b++oI v.Kind) (by unfold mU;rw [l1 h4 h5];rfl)]
      simp
theorem aB3 {b:List UInt8}{v:aE} (hv:dF v) (hB:(b++tD v).length≤1000000000000):uH b v=some (b++if fmd true v then tD v else []):=by
 unfold uH aBT
 simp only [aG] at hB
 rw [aAG (by omega),aB4 hv]
 cases hf:fmd true v
 ·
  simp
 ·
  simp only [aA,bW,bF,bT]
  rw [vI (xC v) fun n hn=>(aGF n v b hn hv hf (by simp only [aG];omega)).1,aA]
theorem aEq {b:List UInt8}{v:aE} (hv:dF v) (hB:(b++tD v).length≤1000000000000):zN b v=some (b++if fmd true v then tD v else []):=by
 unfold zN aIF
 simp only [aG] at hB
 rw [uM (by simp;omega),aBf hv]
 cases hf:fmd true v
 ·
  simp
 ·
  simp only [aA,bW,bF,bT,hH]
  rw [vI (xC v) fun n hn=>(aGF n v b hn hv hf (by simp only [aG];omega)).2,aA]
def aI8 (o:dB):List UInt8:=rJ o.Queue++oI o.ToStart++oI o.ToClose++oI o.Total++oI o.Beat++oI o.First++oI o.Coef++oI o.Most++oI o.Attempts++oI o.Fatal.length++o.Fatal.flatMap rJ
def aCj (c:bL):List UInt8:=oI c.Kind++oI c.Seq++rJ c.Name++rJ c.Key++oI c.N++tD c.Data++aI8 c.Opts
theorem aI0 {α:Type} (f:α→List UInt8) (m:Nat):∀ (l:List α),(∀ x∈l,(f x).length≤m)→(l.flatMap f).length≤l.length*m
 | [],_=>by simp
 | x :: l,h=>by
  have h1:=h x (by simp)
  have h2:=aI0 f m l (fun y hy=>h y (by simp [hy]))
  simp only [iY,aG,eV,eM];omega
theorem aDJ {s:List UInt8} (h:pZ s=true):s.length≤64:=by
 unfold pZ at h
 simp only [aM,bG] at h
 exact h.1.1.2
theorem aAM {o:dB} (h:sJ o=true):o.Queue.length≤64∧o.Fatal.length≤64∧∀ s∈o.Fatal,s.length≤4096:=by
 unfold sJ at h
 simp only [aM,dJ,bG,fM,List.any_eq_false,lZ,kU] at h
 refine ⟨?_,h.1.1.1.1.2,fun s hs=>by have:=h.2 s hs;omega⟩
 rcases h.1.1.1.1.1 with hq | hq
 ·
  rw [hq];simp
 ·
  exact aDJ hq
theorem aG5 {o:dB} (h:gO o) (hp:sJ o=true):(aI8 o).length≤300000:=by
 obtain ⟨h1,h2,h3⟩:=aAM hp
 obtain ⟨k0,k1,k2,k3,k4,k5,k6,k7,k8,k9⟩:=h
 have a0:=tU (s:=o.Queue) (by omega)
 have a1:=lO k1
 have a2:=lO k2
 have a3:=lO k3
 have a4:=lO k4
 have a5:=lO k5
 have a6:=lO k6
 have a7:=lO k7
 have a8:=lO k8
 have a9:=aBs k9.1
 have a10:=aI0 rJ 4106 o.Fatal (fun s hs=>by have:=h3 s hs;have:=tU (s:=s) (by omega);omega)
 unfold aI8
 simp only [aG]
 omega
theorem aNL {b:List UInt8}{o:dB} (h:gO o) (hp:sJ o=true) (hb:b.length≤100000000000):tI b o=some (b++aI8 o):=by
 obtain ⟨h1,h2,h3⟩:=aAM hp
 have hl:=aG5 h hp
 obtain ⟨k0,k1,k2,k3,k4,k5,k6,k7,k8,k9⟩:=h
 have hok:sC (o.Fatal.length:Int):=⟨by omega,by omega⟩
 unfold aI8 at hl ⊢
 simp only [aG] at hl
 unfold tI
 simp only [oR,aA]
 rw [aKX (by first | omega | (simp only [aG];omega)) (by omega),aA,aBd (by first | omega | (simp only [aG];omega)) k1,aA,aBd (by first | omega | (simp only [aG];omega)) k2,aA,
  aBd (by first | omega | (simp only [aG];omega)) k3,aA,aBd (by first | omega | (simp only [aG];omega)) k4,aA,aBd (by first | omega | (simp only [aG];omega)) k5,aA,
  aBd (by first | omega | (simp only [aG];omega)) k6,aA,aBd (by first | omega | (simp only [aG];omega)) k7,aA,aBd (by first | omega | (simp only [aG];omega)) k8,aA,
  aBd (by first | omega | (simp only [aG];omega)) hok,aA]
 rw [rC 1000000000000 o.Fatal rJ _ (by first | omega | (simp only [aG];omega)) (fun s i hi hs=>?_) (fun s=>?_)]
 ·
  simp
 ·
  unfold sR
  simp only [aG] at hs
  have:=aEy o.Fatal[i]
  rw [cU,aQ (by simp only;omega),gJ hi,aA,aKX (by simp only;omega) (by omega),aA,nJ hi k9.1]
 ·
  unfold sR
  rw [cU,aN (by simp only;omega)]
theorem aDQ {b:List UInt8}{o:dB} (h:gO o) (hb:b.length≤100000000000):vM b o=some (b++if sJ o then aI8 o else []):=by
 unfold vM
 rw [uM (by simp;omega),aAR h]
 cases hp:sJ o
 ·
  simp
 ·
  obtain ⟨h1,h2,h3⟩:=aAM hp
  have hl:=aG5 h hp
  obtain ⟨k0,k1,k2,k3,k4,k5,k6,k7,k8,k9⟩:=h
  have hok:sC (o.Fatal.length:Int):=⟨by omega,by omega⟩
  unfold aI8 at hl ⊢
  simp only [aG] at hl
  simp only [aA,hH,bW,bF,bT]
  rw [aFH (by omega) (by omega),aA]
  have hns:∀ n∈[o.ToStart,o.ToClose,o.Total,o.Beat,o.First,o.Coef,o.Most,o.Attempts,(o.Fatal.length:Int)],sC n:=by
   simp only [dY,List.not_mem_nil,or_false]
   rintro n (rfl | rfl | rfl | rfl | rfl | rfl | rfl | rfl | rfl) <;> assumption
  rw [rC 1000000000000 [o.ToStart,o.ToClose,o.Total,o.Beat,o.First,o.Coef,o.Most,o.Attempts,(o.Fatal.length:Int)] oI _ (by simp only [aG,iY,oZ,jD];omega) (fun s i hi hs=>?_) (fun s=>?_),aA]
  ·
   rw [rC 1000000000000 o.Fatal rJ _ (by simp only [aG,iY,oZ,jD];omega) (fun s i hi hs=>?_) (fun s=>?_)]
   ·
    simp
   ·
    unfold sO
    simp only [aG] at hs
    have:=aEy o.Fatal[i]
    rw [cU,aQ (by simp only;omega),gJ hi,aA,aFH (by simp only;omega) (by omega),aA,nJ hi k9.1]
   ·
    unfold sO
    rw [cU,aN (by simp only;omega)]
  ·
   unfold sN
   simp only [aG] at hs
   rw [cU,aQ (by simp only;omega),gJ hi,aA,aB2 (by simp only;omega) (hns _ (aX hi)),aA,nJ hi (by simp)]
  ·
   unfold sN
   rw [cU,aN (by simp only;omega)]
theorem rT {v:aE} (h:rG v=true):shr v=true∧fmd false v=true∧fmd true v=true:=by
 unfold rG wth at h
 simp only [aM] at h
 refine ⟨h.1.2,h.2,?_⟩
 have:=h.2
 rw [aOI (xC v) v (eN _)] at this
 simp only [aM] at this
 exact this.1
theorem zI {c:bL} (h:mF c=true):rG c.Data=true∧sJ c.Opts=true:=by
 unfold mF at h
 simp only [aM] at h
 exact ⟨h.1.1.1.1.1.2,h.1.1.1.1.2⟩
theorem yJ {r:aP}{n:Int}{rest:List UInt8} (h:At r (oI n++rest)) (hn:sC n):∃ r',gT r=some (n,r')∧At r' rest:=by
 obtain ⟨r',h1,h2⟩:=aDE (low:=-9223372036854775808) (high:=9223372036854775807) h hn hn.1 hn.2
 exact ⟨r',by unfold gT;rw [h1];rfl,h2⟩
theorem aKU {r:aP}{o:dB}{rest:List UInt8} (h:At r (aI8 o++rest)) (ho:gO o) (hp:sJ o=true):∃ r',nZ r=some (o,r')∧At r' rest:=by
 obtain ⟨p1,p2,p3⟩:=aAM hp
 obtain ⟨k0,k1,k2,k3,k4,k5,k6,k7,k8,k9⟩:=id ho
 have hok:sC (o.Fatal.length:Int):=⟨by omega,by omega⟩
 unfold aI8 at h
 simp only [cX] at h
 obtain ⟨r0,a0,l0⟩:=aBq (most:=4096) h (by omega)
 obtain ⟨r1,a1,l1⟩:=yJ l0 k1
 obtain ⟨r2,a2,l2⟩:=yJ l1 k2
 obtain ⟨r3,a3,l3⟩:=yJ l2 k3
 obtain ⟨r4,a4,l4⟩:=yJ l3 k4
 obtain ⟨r5,a5,l5⟩:=yJ l4 k5
 obtain ⟨r6,a6,l6⟩:=yJ l5 k6
 obtain ⟨r7,a7,l7⟩:=yJ l6 k7
 obtain ⟨r8,a8,l8⟩:=yJ l7 k8
 obtain ⟨r9,a9,l9⟩:=yJ l8 hok
 unfold nZ
 rw [a0]
 simp only [aA,rM]
 rw [a1]
 simp only [aA]
 rw [a2]
 simp only [aA]
 rw [a3]
 simp only [aA]
 rw [a4]
 simp only [aA]
 rw [a5]
 simp only [aA]
 rw [a6]
 simp only [aA]
 rw [a7]
 simp only [aA]
 rw [a8]
 simp only [aA]
 rw [a9]
 simp only [aA]
 rw [wF l9,uU]
 have hin:inB (o.Fatal.length:Int) 0 64=true:=by unfold inB;simp;omega
 rw [hin]
 simp only [aA,bS,eH,gd,bT,bW,cW,bF]
 obtain ⟨X,g1,g2⟩:=vB (body:=oL ((o.Fatal.length:Int),r9))
  (fun s=>∃ (i:Nat) (r':aP),i≤o.Fatal.length∧s=((i:Int),r',o.Fatal.take i)∧At r' ((o.Fatal.drop i).flatMap rJ++rest)) (fun s=>o.Fatal.length - s.1.toNat)
  (fun X=>∃ r',X=(r',o.Fatal)∧At r' rest) (by
   rintro s ⟨i,r',hi,rfl,hat'⟩
   unfold oL
   by_cases hlt:i<o.Fatal.length
   ·
    rw [aC6 rJ _ i hlt,cX] at hat'
    obtain ⟨r3,f1,f2⟩:=aBq (most:=4096) hat' (by have:=p3 _ (aX hlt);omega)
    refine .inl ⟨((i+1:Nat),r3,o.Fatal.take (i+1)),?_,⟨i+1,r3,by omega,rfl,f2⟩,by simp;omega⟩
    simp only
    rw [cU,aQ (by omega),wF hat']
    simp only [aA,bS,cW,Fl.next]
    rw [f1]
    simp only [aA]
    rw [uM (by simp;omega),nJ hlt (by omega),← eT hlt]
    rfl
   ·
    obtain rfl:i=o.Fatal.length:=by omega
    refine .inr ⟨(r',o.Fatal),?_,r',rfl,by simpa using hat'⟩
    simp only
    rw [cU,aN (by omega),kK];rfl) ((0:Int),r9,[]) ⟨0,r9,by omega,by simp,by simpa using l9⟩
 obtain ⟨r',rfl,hat'⟩:=g2
 rw [g1]
 simp only [aA]
 have hokP:gO ⟨o.Queue,o.ToStart,o.ToClose,o.Total,o.Beat,o.First,o.Coef,o.Most,o.Attempts,o.Fatal⟩:=ho
 have hpP:sJ ⟨o.Queue,o.ToStart,o.ToClose,o.Total,o.Beat,o.First,o.Coef,o.Most,o.Attempts,o.Fatal⟩=true:=hp
 rw [wF hat',aCd hokP,hpP]
 refine ⟨r',?_,hat'⟩
 simp only [aA,bS,eH,gd,bT,bW,cW,bF]
 rw [wF hat']
 rfl
theorem aAY {r:aP}{v:aE}{rest:List UInt8} (h:At r (tD v++rest)) (hv:dF v) (hr:rG v=true) (hn:nsz v≤1200):∃ r',uG r=some (v,r')∧At r' rest:=by
 obtain ⟨q1,q2,q3⟩:=rT hr
 obtain ⟨d1,d2⟩:=aMK (xC v) v (eN _) (by omega)
 have hw:wth v=true:=by unfold rG at hr;simp only [aM] at hr;exact hr.1
 unfold wth at hw
 rw [d1,d2] at hw
 simp only [aM,bG] at hw
 obtain ⟨r',g1,g2⟩:=aMy (2*xC v) v 1 0 r rest h hv q2 q1 (by omega) (by omega) (by omega) (eN _)
 have g1:=aBj g1
 simp only [Int.natCast_zero] at g1
 refine ⟨r',?_,g2⟩
 unfold uG
 rw [wF h]
 simp only [aA,Int.reduceEq,cQ,bF,Fl.next]
 rw [g1]
 simp only [aA]
 rw [wF g2]
 rfl

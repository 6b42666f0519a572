/- Plain laws: what the functions compute, with no program in sight. -/
import Derived.Test.YtnigjppddilpcaaGreatDoorGEPP1
import Derived.Test.YtnigjppddilpcaaGreatDoorGEF4
import Derived.Test.YtnigjppddilpcaaGreatDoorGEF10
import Derived.Test.YtnigjppddilpcaaGreatDoorGEF11
import Derived.Test.YtnigjppddilpcaaGreatDoorGEF12
import Derived.Test.YtnigjppddilpcaaGreatDoorGEPP0
import Derived.Test.YtnigjppddilpcaaGreatDoorGEF5
import Derived.Test.YtnigjppddilpcaaGreatDoorGEF7
import Derived.Test.YtnigjppddilpcaaGreatDoorGEF0
import Derived.Test.YtnigjppddilpcaaGreatDoorGEF1
import Derived.Test.YtnigjppddilpcaaGreatDoorGEF14
import Derived.Test.YtnigjppddilpcaaGreatDoorGEF16
namespace Go.Proofs.YtnigjppddilpcaaGreatDoor
open Go Abs
set_option linter.unusedSimpArgs false
set_option linter.unusedVariables false
theorem aMF {b:List UInt8} (h:b.length≤140737488355328):aA7 b=some ⟨b,0,0,true⟩:=by
 unfold aA7
 rw [aBk h];rfl
theorem aGv {b:List UInt8}{a e:Int}{m:Bool}:pO ⟨b,a,e,m⟩=some (cond (!m) true (!decide (e=0))):=by
 unfold pO;rfl
def aDb (b:List UInt8) (at_:Nat) (low high:Int):aX:=⟨b,(at_+(rM (b.drop at_) low high).2.1:Nat),(rM (b.drop at_) low high).2.2,true⟩
theorem aJD {b:List UInt8}{at_:Nat}{low high:Int} (h1:at_≤b.length) (hb:b.length≤1000000000) :
  fN low high ⟨b,at_,0,true⟩=some ((rM (b.drop at_) low high).1,aDb b at_ low high):=by
 unfold fN
 rw [aGv]
 simp only [cJ,bP,cG,aA]
 rw [aJe (by simp;omega),aA]
 unfold aDb
 generalize hrest:b.drop at_=rest
 have hrl:rest.length=b.length - at_:=by rw [← hrest];simp
 have hdrop:List.drop (Int.toNat (at_:Int)) b=rest:=by rw [kN];exact hrest
 obtain ⟨r,hr,hq⟩:∃ r,gL (vZ ⟨b,at_,0,true⟩ low high) ((0:Int),(0:Int))=some r∧Fl.next r (fun _=>some ((0:Int),aX.mk b at_ 3 true))=some ((rM rest low high).1,⟨b,(at_+(rM rest low high).2.1:Nat),(rM rest low high).2.2,true⟩):=by
  refine yJ (fun (s:Int × Int)=>∃ k:Nat,s.2=(k:Int)∧((k≤9∧k≤rest.length∧∃ u:Nat,s.1=(u:Int)∧u<128 ^ k∧xE 0 0 rest=xE k u (rest.drop k))∨(k=10∧xE 0 0 rest=.inl 3)))
   (fun s=>10 - s.2.toNat) _ ?_ ((0:Int),(0:Int)) ⟨0,rfl,.inl ⟨by simp,by simp,0,rfl,by simp,by simp⟩⟩
  rintro ⟨u0,k0⟩ ⟨k,hk0,hI⟩
  simp only at hk0 hI
  subst hk0
  unfold vZ
  simp only [hdrop]
  rw [dO]
  obtain ⟨hk,hkl,u,rfl,hu,hs⟩ | ⟨rfl,hs⟩:=hI
  ·
   rw [bB (by omega),dO]
   by_cases h3:(rest.length:Int)≤k
   ·
    rw [bB h3]
    refine .inr ⟨_,rfl,?_⟩
    have hd:rest.drop k=[]:=pA (by omega)
    have hr:rM rest low high=(0,0,4):=by simp only [rM,hs,hd,xE];rw [aY (by omega)]
    rw [hr];rfl
   ·
    rw [aY h3]
    have hlt:k<rest.length:=by omega
    rw [aGB,aM hlt,aA]
    generalize hc:rest[k]=c
    have hd:rest.drop k=c :: rest.drop (k+1):=by rw [← hc];exact nP hlt
    have hcl:=c.toNat_lt
    rw [hd] at hs
    simp only [xE] at hs
    rw [aY (by omega)] at hs
    rw [aVq (by rw [show IntKind.i64.wrap (7*(k:Int))=7*(k:Int) by rw [IntKind.wrap_i64];omega];omega),aA,aUv]
    generalize hv:lR .or .u64 (u:Int) _=v
    have hv':k≤8∨c.toNat≤1→v=((u+c.toNat % 128*128 ^ k:Nat):Int):=fun hx=>hv ▸ aTn c hk hu hx
    clear hv
    rw [dO]
    by_cases h4:(128:Int)≤(c.toNat:Int)
    ·
     rw [bB h4]
     rw [bB (by omega)] at hs
     refine .inl ⟨_,rfl,⟨k+1,by rw [w64 (by omega) (by omega)];rfl,?_⟩,by simp only [w64 (show (-9223372036854775808:Int)≤(k:Int)+1 by omega) (by omega)];omega⟩
     by_cases hk9:k=9
     ·
      refine .inr ⟨by omega,?_⟩
      rw [hs,hk9]
      cases rest.drop (9+1) <;> simp [xE]
     ·
      have hve:=hv' (.inl (by omega))
      refine .inl ⟨by omega,by omega,_,hve,?_,hs⟩
      rw [oW]
      have h3:c.toNat % 128*128 ^ k≤127*128 ^ k:=gZ _ (by omega)
      omega
    ·
     rw [aY h4]
     rw [aY (by omega)] at hs
     by_cases hX:(0<k∧c.toNat=0)∨(k=9∧1<c.toNat)
     ·
      rw [bB hX] at hs
      have hr:rM rest low high=(0,0,3):=by simp only [rM,hs]
      rw [hr]
      have e:(cond (cond (decide ((0:Int)<(k:Int))) (decide ((c.toNat:Int)=0)) false) true (cond (decide ((k:Int)=9)) (decide ((1:Int)<(c.toNat:Int))) false))=true:=by
       rcases hX with ⟨h5,h6⟩ | ⟨h5,h6⟩
       ·
        simp [h6];omega
       ·
        simp [h5];omega
      rw [e,dM]
      exact .inr ⟨_,rfl,rfl⟩
     ·
      rw [aY hX] at hs
      have e:(cond (cond (decide ((0:Int)<(k:Int))) (decide ((c.toNat:Int)=0)) false) true (cond (decide ((k:Int)=9)) (decide ((1:Int)<(c.toNat:Int))) false))=false:=by
       simp only [nB]
       by_cases h5:0<k <;> by_cases h6:c.toNat=0 <;> by_cases h7:k=9 <;> by_cases h8:1<c.toNat <;> simp <;> omega
      rw [e,bP]
      have hve:=hv' (by omega)
      have hmod:c.toNat % 128=c.toNat:=by omega
      rw [hmod] at hve
      clear hv'
      subst hve
      have hw:(u+c.toNat*128 ^ k)<18446744073709551616:=by
       have:k=0∨k=1∨k=2∨k=3∨k=4∨k=5∨k=6∨k=7∨k=8∨k=9:=by omega
       rcases this with rfl | rfl | rfl | rfl | rfl | rfl | rfl | rfl | rfl | rfl <;> omega
      generalize u+c.toNat*128 ^ k=w at hs hw
      have hr:rM rest low high=if aBX w<low∨high<aBX w then (0,k+1,14) else (aBX w,k+1,0):=by simp only [rM,hs]
      rw [hr,show (2:Int) ^ min (Int.toNat 1) IntKind.u64.bits=2 from sh1,aRf hw,aS3 (by omega) hk]
      refine .inr ?_
      by_cases hlow:aBX w<low
      ·
       rw [bB (.inl hlow)]
       simp only [hlow,cG,dM]
       exact ⟨_,rfl,rfl⟩
      ·
       by_cases hhigh:high<aBX w
       ·
        rw [bB (.inr hhigh)]
        simp only [hlow,hhigh,cG,dK,dM,bP]
        exact ⟨_,rfl,rfl⟩
       ·
        rw [aY (by omega)]
        simp only [hlow,hhigh,cG,dK,dM,bP]
        exact ⟨_,rfl,rfl⟩
  ·
   rw [aY (by omega)]
   refine .inr ⟨_,rfl,?_⟩
   have hr:rM rest low high=(0,0,3):=by simp only [rM,hs]
   rw [hr];rfl
 rw [hr,aA]
 exact hq
theorem aNC {k u:Nat} (h:u*128 ^ k<18446744073709551616) (hu:0<u):k≤9:=by
 refine qX fun hk=>?_
 have h1:128 ^ 10≤128 ^ k:=Nat.pow_le_pow_right (by omega) (by omega)
 have h2:1*128 ^ k≤u*128 ^ k:=gZ _ hu
 have h3:(128:Nat) ^ 10=1180591620717411303424:=by decide
 omega
theorem aQ3 (rest:List UInt8):∀ (u k acc:Nat),(k=0∨0<u)→u*128 ^ k<18446744073709551616→xE k acc (uF u++rest)=.inr (acc+u*128 ^ k,k+(uF u).length):=by
 intro u
 induction u using Nat.strongRecOn with
 | _ u ih =>
  intro k acc h0 hlt
  have hk:k≤9:=by
   rcases h0 with h | h
   ·
    omega
   ·
    exact aNC hlt h
  by_cases h:u<128
  ·
   rw [aG9 h]
   have e:(UInt8.ofNat u).toNat=u:=by simp;omega
   simp only [List.cons_append,iC,xE,e]
   rw [aY (by omega),aY (by omega),aY]
   ·
    rfl
   ·
    rintro (⟨h1,h2⟩ | ⟨h1,h2⟩)
    ·
     omega
    ·
     subst h1
     have:(128:Nat) ^ 9=9223372036854775808:=by decide
     rw [this] at hlt
     omega
  ·
   rw [aJg h]
   have e:(UInt8.ofNat (128+u % 128)).toNat=128+u % 128:=by simp;omega
   simp only [List.cons_append,xE,e]
   rw [aY (by omega),bB (by omega)]
   have hs:128 ^ (k+1)=128 ^ k*128:=oW ..
   have hm:u / 128*128 ^ (k+1)+u % 128*128 ^ k=u*128 ^ k:=by
    rw [hs,oV (128 ^ k) 128,← Nat.mul_assoc,← fO,oV (u / 128) 128,Nat.div_add_mod]
   rw [ih (u / 128) (by omega) (k+1) _ (.inr (by omega)) (by omega),show (128+u % 128) % 128=u % 128 by omega]
   simp only [fB,Sum.inr.injEq,mT]
   exact ⟨by omega,by omega⟩
theorem aLz {n low high:Int} (rest:List UInt8) (h1:-9223372036854775808≤n) (h2:n≤9223372036854775807) :
  rM (uF (zz n)++rest) low high=if n<low∨high<n then (0,(uF (zz n)).length,14) else (n,(uF (zz n)).length,0):=by
 have h:=aIu h1 h2
 unfold rM
 rw [aQ3 rest (zz n) 0 0 (.inl rfl) (by simpa using h)]
 simp only [jF,Nat.pow_zero,Nat.mul_one,aTZ]
theorem aLA:∀ (l:List UInt8) (k u w n:Nat),xE k u l=.inr (w,n)→n≤k+l.length
 | [],k,u,w,n,h=>by simp only [xE] at h;split at h <;> cases h
 | c :: r,k,u,w,n,h=>by
  simp only [xE] at h
  split at h
  ·
   cases h
  ·
   split at h
   ·
    have:=aLA r _ _ _ _ h
    simp only [fB]
    omega
   ·
    split at h
    ·
     cases h
    ·
     cases h
     simp only [fB]
     omega
theorem aLy (l:List UInt8) (low high:Int):(rM l low high).2.1≤l.length:=by
 unfold rM
 split
 ·
  simp
 ·
  rename_i u k h
  have:=aLA l 0 0 u k h
  split <;> simp <;> omega
theorem aTp {l:List UInt8}{low high:Int} (h:(rM l low high).2.2=0):low≤(rM l low high).1∧(rM l low high).1≤high:=by
 unfold rM at h ⊢
 split
 ·
  rename_i e hs
  rw [hs] at h
  simp only at h
  exfalso
  have key:∀ (l:List UInt8) (k u e:Nat),xE k u l=.inl e→e=3∨e=4:=by
   intro l
   induction l with
   | nil=>intro k u e h;simp only [xE] at h;split at h <;> cases h <;> simp
   | cons c r ih =>
    intro k u e h
    simp only [xE] at h
    split at h
    ·
     cases h;simp
    ·
     split at h
     ·
      exact ih _ _ _ h
     ·
      split at h <;> cases h
      simp
  rcases key _ _ _ _ hs with h2 | h2 <;> omega
 ·
  rename_i u k hs
  rw [hs] at h
  simp only at h
  by_cases hc:aBX u<low∨high<aBX u
  ·
   rw [bB hc] at h;simp at h
  ·
   rw [aY hc];simp only;omega
def aSu (b:List UInt8) (at_:Nat) (most:Int):List UInt8 × aX :=
 if (rM (b.drop at_) 0 most).2.2≠0 then ([],aDb b at_ 0 most)
 else if (b.length:Int) - (at_+(rM (b.drop at_) 0 most).2.1:Nat)<(rM (b.drop at_) 0 most).1 then ([],⟨b,(at_+(rM (b.drop at_) 0 most).2.1:Nat),4,true⟩)
 else ((b.drop (at_+(rM (b.drop at_) 0 most).2.1)).take (rM (b.drop at_) 0 most).1.toNat,⟨b,(at_+(rM (b.drop at_) 0 most).2.1+(rM (b.drop at_) 0 most).1.toNat:Nat),0,true⟩)
theorem aTB {b:List UInt8}{at_:Nat}{most:Int} (h1:at_≤b.length) (hb:b.length≤1000000000):jM most ⟨b,at_,0,true⟩=some (aSu b at_ most):=by
 have hu:=aLy (b.drop at_) 0 most
 rw [lX] at hu
 unfold jM aSu
 rw [aJD h1 hb,aA]
 unfold aDb
 rw [aGv,aA]
 by_cases he:(rM (b.drop at_) 0 most).2.2=0
 ·
  have hin:=aTp he
  generalize hr:rM (b.drop at_) 0 most=r at *
  obtain ⟨v,k,e⟩:=r
  simp only at he hin hu
  subst he
  simp only [cJ,bP,Int.natCast_zero,cG,dO,ne_eq,not_true_eq_false,dZ]
  rw [w64 (by omega) (by omega)]
  by_cases h3:(b.length:Int) - (at_+k:Nat)<v
  ·
   rw [bB h3,bB h3]
  ·
   rw [aY h3,aY h3,w64 (by omega) (by omega),aTz (by omega),aA]
   have e1:(((at_+k:Nat):Int)+v).toNat=at_+k+v.toNat:=by omega
   rw [e1,kN,oF,show at_+k+v.toNat - (at_+k)=v.toNat by omega]
   congr 3
   omega
 ·
  rw [bB he]
  have:decide (((rM (b.drop at_) 0 most).2.2:Int)=0)=false:=by simp;omega
  simp only [this,cJ,iT,bP,dM]
def rA:List UInt8→Nat
 | []=>0
 | c :: r=>c.toNat % 128+128*rA r
theorem aNU:∀ (l:List UInt8) (k u w n:Nat),xE k u l=.inr (w,n)→k<n∧n≤k+l.length∧w=u+128 ^ k*rA (l.take (n - k))
 | [],k,u,w,n,h=>by simp only [xE] at h;split at h <;> cases h
 | c :: r,k,u,w,n,h=>by
  simp only [xE] at h
  split at h
  ·
   cases h
  ·
   split at h
   ·
    obtain ⟨h1,h2,h3⟩:=aNU r _ _ _ _ h
    refine ⟨by omega,by simp only [fB];omega,?_⟩
    rw [show n - k=(n - (k+1))+1 by omega,mR,rA,h3,oW,Nat.mul_add,Nat.mul_assoc,kM,oV (c.toNat % 128)]
   ·
    rename_i h3
    split at h
    ·
     cases h
    ·
     cases h
     refine ⟨by omega,by simp,?_⟩
     rw [show k+1 - k=0+1 by omega,mR,rA,List.take_zero,rA,show c.toNat % 128=c.toNat by omega,Nat.mul_zero,tA,oV]
theorem aMl:∀ (l:List UInt8) (k u w n:Nat),xE k u l=.inr (w,n)→k≤9→u<128 ^ k→w<18446744073709551616
 | [],k,u,w,n,h,_,_=>by simp only [xE] at h;split at h <;> cases h
 | c :: r,k,u,w,n,h,hk,hu=>by
  have hc:=c.toNat_lt
  simp only [xE] at h
  split at h
  ·
   cases h
  ·
   split at h
   ·
    have hlt:u+c.toNat % 128*128 ^ k<128 ^ (k+1):=by
     rw [oW]
     have:c.toNat % 128*128 ^ k≤127*128 ^ k:=gZ _ (by omega)
     omega
    by_cases hk9:k=9
    ·
     exfalso
     subst hk9
     cases r with
     | nil=>simp [xE] at h
     | cons d r=>simp [xE] at h
    ·
     exact aMl r _ _ _ _ h (by omega) hlt
   ·
    split at h
    ·
     cases h
    ·
     rename_i h3 h4
     cases h
     have:k=0∨k=1∨k=2∨k=3∨k=4∨k=5∨k=6∨k=7∨k=8∨k=9:=by omega
     rcases this with rfl | rfl | rfl | rfl | rfl | rfl | rfl | rfl | rfl | rfl <;> omega
theorem aNT:∀ (l:List UInt8) (k u e:Nat),xE k u l=.inl e→e=3∨e=4
 | [],k,u,e,h=>by simp only [xE] at h;split at h <;> cases h <;> simp
 | c :: r,k,u,e,h=>by
  simp only [xE] at h
  split at h
  ·
   cases h;simp
  ·
   split at h
   ·
    exact aNT r _ _ _ h
   ·
    split at h <;> cases h
    simp
def aDO (rest:List UInt8):Int × Int:=match xE 0 0 rest with
 | .inl e=>(0,(e:Int))
 | .inr (_,n)=>((n:Int),0)
theorem aRI {m:Bool}{rest:List UInt8}{x:Int} (hr:rest.length≤1000000000):aAa ⟨m,rest,x⟩=some (aDO rest):=by
 unfold aAa
 obtain ⟨r,h1,h2⟩:∃ r,gL (wR ⟨m,rest,x⟩) (1:Int)=some r∧Fl.next r (fun _=>some ((0:Int),(3:Int)))=some (aDO rest):=by
  refine yJ (fun (s:Int)=>∃ k:Nat,s=(k:Int)+1∧((k≤9∧k≤rest.length∧∃ u:Nat,xE 0 0 rest=xE k u (rest.drop k))∨(k=10∧xE 0 0 rest=.inl 3))) (fun s=>12 - s.toNat) _ ?_ 1 ⟨0,rfl,.inl ⟨by omega,by omega,0,by simp⟩⟩
  rintro s ⟨k,rfl,hI⟩
  unfold wR
  rw [dO]
  obtain ⟨hk,hkl,u,hs⟩ | ⟨rfl,hs⟩:=hI
  ·
   rw [bB (by omega),dO]
   by_cases h3:(rest.length:Int)<(k:Int)+1
   ·
    rw [bB h3]
    refine .inr ⟨_,rfl,?_⟩
    have hd:rest.drop k=[]:=pA (by omega)
    rw [hd] at hs
    simp only [xE] at hs
    rw [aY (by omega)] at hs
    simp only [aDO,hs];rfl
   ·
    rw [aY h3]
    have hlt:k<rest.length:=by omega
    rw [w64 (by omega) (by omega),show (k:Int)+1 - 1=(k:Int) by omega,aGB,aM hlt,aA]
    generalize hc:rest[k]=c
    have hd:rest.drop k=c :: rest.drop (k+1):=by rw [← hc];exact nP hlt
    rw [hd] at hs
    simp only [xE] at hs
    rw [aY (by omega)] at hs
    rw [dO]
    by_cases h4:(c.toNat:Int)<128
    ·
     rw [bB h4]
     rw [aY (by omega)] at hs
     by_cases hX:(0<k∧c.toNat=0)∨(k=9∧1<c.toNat)
     ·
      rw [bB hX] at hs
      have e:(cond (cond (decide ((1:Int)<(k:Int)+1)) (decide ((c.toNat:Int)=0)) false) true (cond (decide ((k:Int)+1=10)) (decide ((1:Int)<(c.toNat:Int))) false))=true:=by
       rcases hX with ⟨h5,h6⟩ | ⟨h5,h6⟩
       ·
        have:(1:Int)<(k:Int)+1:=by omega
        simp [h6,this]
       ·
        simp [h5];omega
      rw [e,dM]
      refine .inr ⟨_,rfl,?_⟩
      simp only [aDO,hs];rfl
     ·
      rw [aY hX] at hs
      have e:(cond (cond (decide ((1:Int)<(k:Int)+1)) (decide ((c.toNat:Int)=0)) false) true (cond (decide ((k:Int)+1=10)) (decide ((1:Int)<(c.toNat:Int))) false))=false:=by
       simp only [nB]
       by_cases h5:0<k <;> by_cases h6:c.toNat=0 <;> by_cases h7:k=9 <;> by_cases h8:1<c.toNat <;> simp <;> omega
      rw [e,bP]
      refine .inr ⟨_,rfl,?_⟩
      simp only [aDO,hs];rfl
    ·
     rw [aY h4]
     rw [bB (by omega)] at hs
     refine .inl ⟨_,rfl,⟨k+1,by rw [w64 (by omega) (by omega)];omega,?_⟩,by rw [w64 (by omega) (by omega)];omega⟩
     by_cases hk9:k=9
     ·
      refine .inr ⟨by omega,?_⟩
      rw [hs,hk9]
      cases rest.drop (9+1) <;> simp [xE]
     ·
      exact .inl ⟨by omega,by omega,_,hs⟩
  ·
   rw [aY (by omega)]
   refine .inr ⟨_,rfl,?_⟩
   simp only [aDO,hs];rfl
 rw [h1,aA]
 exact h2
theorem aVd (c:UInt8) (r:List UInt8):rA r≤rA (c :: r):=by simp only [rA];omega
theorem aN7:∀ (l:List UInt8) (j:Nat),rA (l.drop j)≤rA l
 | [],j=>by simp
 | c :: r,0=>by simp
 | c :: r,j+1=>hG (aN7 r j) (aVd c r)
theorem aPb {m:Bool}{rest:List UInt8}{x:Int}{k:Nat} (hk:k≤rest.length) (hw:rA (rest.take k)<18446744073709551616) (hr:rest.length≤1000000000):gL (yX ⟨m,rest,x⟩) ((0:Int),(k:Int) - 1)=some (rA (rest.take k):Int):=by
 refine aFa (fun (s:Int × Int)=>∃ j:Nat,s.2=(j:Int) - 1∧j≤k∧s.1=(rA ((rest.take k).drop j):Int)) (fun s=>(s.2+1).toNat) (fun _=>(rA (rest.take k):Int)) ?_ _ ⟨k,rfl,eP _,by simp [rA]⟩
 rintro ⟨u,i⟩ ⟨j,hi,hj,hu⟩
 simp only at hi hu
 subst hi hu
 unfold yX
 simp only [dO]
 cases j with
 | zero =>
  rw [aY (by omega),oG]
  exact .inr rfl
 | succ j =>
  rw [bB (by omega),show ((j+1:Nat):Int) - 1=(j:Int) by omega,aGB,aM (by omega),aA]
  have hlt:j<(rest.take k).length:=by simp;omega
  have hd:(rest.take k).drop j=rest[j] :: (rest.take k).drop (j+1):=by rw [nP hlt];congr 1;simp
  have hv:rA ((rest.take k).drop j)=rest[j].toNat % 128+128*rA ((rest.take k).drop (j+1)):=by rw [hd,rA]
  have hb:=Nat.lt_of_le_of_lt (aN7 (rest.take k) j) hw
  have e:IntKind.u64.wrap (IntKind.u64.wrap ((rA ((rest.take k).drop (j+1)):Int)*128)+IntKind.u64.wrap ((rest[j].toNat:Int).tmod 128))=(rA ((rest.take k).drop j):Int):=by
   rw [lK (by omega)]
   simp only [IntKind.wrap_u64]
   omega
  rw [e,w64 (by omega) (by omega)]
  refine .inl ⟨((rA ((rest.take k).drop j):Int),(j:Int) - 1),rfl,⟨j,rfl,by omega,rfl⟩,?_,trivial⟩
  simp only
  omega
def aJ3 (rest:List UInt8) (low high:Int):jQ:=⟨true,if (rM rest low high).2.2=0 then rest.drop (rM rest low high).2.1 else [],(rM rest low high).2.2⟩
theorem aQW {rest:List UInt8}{low high:Int} (hr:rest.length≤1000000000):pJ low high ⟨true,rest,0⟩=some ((rM rest low high).1,aJ3 rest low high):=by
 unfold pJ tK
 rw [aRI hr]
 simp only [aA,cJ,bP,cG,aBQ]
 unfold aDO aJ3
 cases hs:xE 0 0 rest with
 | inl e =>
  have he:=aNT rest 0 0 e hs
  have hr:rM rest low high=(0,0,e):=by simp only [rM,hs]
  rw [hr]
  simp only
  rw [aY (by omega),aY (by omega)]
  rfl
 | inr wn =>
  obtain ⟨w,n⟩:=wn
  obtain ⟨h1,h2,h3⟩:=aNU rest 0 0 w n hs
  have h4:=aMl rest 0 0 w n hs (by omega) (by omega)
  simp only [Nat.sub_zero,Nat.pow_zero,pZ,jF] at h2 h3
  subst h3
  have hr:rM rest low high=if aBX (rA (rest.take n))<low∨high<aBX (rA (rest.take n)) then (0,n,14) else (aBX (rA (rest.take n)),n,0):=by simp only [rM,hs]
  rw [hr]
  simp only [cL]
  rw [w64 (by omega) (by omega),aPb h2 h4 (by omega),aA]
  generalize rA (rest.take n)=w at *
  have e1:(cond (decide ((w:Int).tmod 2=1)) (some (IntKind.i64.wrap (IntKind.i64.wrap (0 - IntKind.i64.wrap (IntKind.u64.wrap ((w:Int).tdiv 2))) - 1))) (some (IntKind.i64.wrap (IntKind.u64.wrap ((w:Int).tdiv 2)))))=some (aBX w):=by
   have e2:(w:Int).tdiv 2=((w / 2:Nat):Int):=by rw [pY (by omega)];omega
   have e3:(w:Int).tmod 2=((w % 2:Nat):Int):=by rw [lK (by omega)];omega
   rw [e2,e3,dO,aWC (by omega) (by omega),w64 (x:=((w / 2:Nat):Int)) (by omega) (by omega)]
   unfold aBX
   by_cases h5:w % 2=1
   ·
    rw [bB (by omega),bB h5,w64 (x:=0 - ((w / 2:Nat):Int)) (by omega) (by omega),w64 (by omega) (by omega)]
    congr 1
    omega
   ·
    rw [aY (by omega),aY h5]
  rw [e1,aA]
  by_cases hlow:aBX w<low
  ·
   rw [bB (.inl hlow)]
   simp only [hlow,cG,dM,yM,aA]
   simp
  ·
   by_cases hhigh:high<aBX w
   ·
    rw [bB (.inr hhigh)]
    simp only [hlow,hhigh,cG,dK,dM,bP,yM,aA]
    simp
   ·
    rw [aY (by omega)]
    simp only [hlow,hhigh,cG,dK,dM,bP]
    rw [aJe (by omega),aA]
    simp
def aSW (r:aX) (w:jQ):Prop:=∃ (b:List UInt8) (a:Nat) (e:Int),b.length≤1000000000∧a≤b.length∧r=⟨b,a,e,true⟩∧w=⟨true,if e=0 then b.drop a else [],e⟩
theorem aSb {r:aX}{w:jQ}{low high:Int} (h:aSW r w):∃ x r' w',fN low high r=some (x,r')∧pJ low high w=some (x,w')∧aSW r' w':=by
 obtain ⟨b,a,e,hb,ha,rfl,rfl⟩:=h
 by_cases h:e=0
 ·
  subst h
  have hu:=aLy (b.drop a) low high
  rw [lX] at hu
  refine ⟨_,_,_,aJD ha hb,aQW (by simp;omega),b,a+(rM (b.drop a) low high).2.1,(rM (b.drop a) low high).2.2,hb,by omega,rfl,?_⟩
  unfold aJ3
  simp only [cL]
  by_cases h2:(rM (b.drop a) low high).2.2=0
  ·
   rw [bB h2,bB (by omega),oE]
  ·
   rw [aY h2,aY (by omega)]
 ·
  refine ⟨0,⟨b,a,e,true⟩,⟨true,[],e⟩,?_,?_,b,a,e,hb,ha,rfl,by simp [h]⟩
  ·
   unfold fN;rw [aGv];simp [h]
  ·
   unfold pJ tK;simp [h]
def aJi (e:Int) (r:aX) (w:jQ):Prop:=∃ (b:List UInt8) (a:Nat),b.length≤1000000000∧a≤b.length∧r=⟨b,a,e,true⟩∧w=⟨true,if e=0 then b.drop a else [],e⟩
theorem aUL {r:aX}{w:jQ} (h:aSW r w):∃ e,aJi e r w:=by
 obtain ⟨b,a,e,h1,h2,h3,h4⟩:=h
 exact ⟨e,b,a,h1,h2,h3,h4⟩
theorem aSt (l:List UInt8) (low high:Int):uQ (rM l low high).1:=by
 unfold rM
 split
 ·
  simp [uQ]
 ·
  rename_i u k hs
  have:=aTY (aMl l 0 0 u k hs (by omega) (by simp))
  split
  ·
   simp [uQ]
  ·
   exact this
theorem aR9 {e:Int}{r:aX}{w:jQ} (low high:Int) (h:aJi e r w):∃ x e' r' w',fN low high r=some (x,r')∧pJ low high w=some (x,w')∧aJi e' r' w'∧uQ x∧(e≠0→x=0∧e'=e)∧(e'=0→e=0):=by
 by_cases he:e=0
 ·
  subst he
  obtain ⟨b,a,hb,ha,rfl,rfl⟩:=h
  have hl:aSW ⟨b,a,0,true⟩ ⟨true,if (0:Int)=0 then b.drop a else [],0⟩:=⟨b,a,0,hb,ha,rfl,rfl⟩
  obtain ⟨x,r',w',h1,h2,h3⟩:=aSb (low:=low) (high:=high) hl
  obtain ⟨e',h4⟩:=aUL h3
  refine ⟨x,e',r',w',h1,h2,h4,?_,fun h=>absurd rfl h,fun _=>rfl⟩
  rw [aJD ha hb] at h1
  cases h1
  exact aSt _ _ _
 ·
  obtain ⟨b,a,hb,ha,rfl,rfl⟩:=h
  refine ⟨0,e,⟨b,a,e,true⟩,⟨true,if e=0 then b.drop a else [],e⟩,?_,?_,⟨b,a,hb,ha,rfl,rfl⟩,by simp [uQ],fun _=>⟨rfl,rfl⟩,fun h=>absurd h he⟩
  ·
   unfold fN;rw [aGv];simp [he]
  ·
   unfold pJ tK;simp [he]
theorem aMY:∀ (a b:List UInt8),(!(Op.bytesLess a b||decide (a=b)))=Op.bytesLess b a
 | [],[]=>by simp [Op.bytesLess]
 | [],y :: b=>by simp [Op.bytesLess]
 | x :: a,[]=>by simp [Op.bytesLess]
 | x :: a,y :: b=>by
  simp only [Op.bytesLess,List.cons.injEq]
  have ih:=aMY a b
  by_cases h1:x<y
  ·
   have h2:¬y<x:=fun h=>absurd (UInt8.lt_trans h1 h) (UInt8.lt_irrefl _)
   have h3:¬y=x:=fun h=>by subst h;exact UInt8.lt_irrefl _ h1
   simp [h1,h2,h3]
  ·
   by_cases h2:y<x
   ·
    have h3:¬x=y:=fun h=>by subst h;exact UInt8.lt_irrefl _ h2
    simp [h1,h2,h3]
   ·
    have h3:x=y:=UInt8.le_antisymm (UInt8.not_lt.1 h2) (UInt8.not_lt.1 h1)
    subst h3
    simpa [h1] using ih
def mU (n:Int):List UInt8:=uF (zz n)
def sX (s:List UInt8):List UInt8:=uF (zz s.length)++s
theorem kC {n:Int} (h:uQ n):(mU n).length≤10:=aCB (aIu h.1 h.2)
theorem aAr {n:Nat} (h:n≤9223372036854775807):(mU (n:Int)).length≤10:=kC ⟨by omega,by omega⟩
theorem oN {s:List UInt8} (h:s.length≤9223372036854775807):(sX s).length≤10+s.length:=by
 have:=aAr h
 unfold mU at this
 simp only [sX,aF];omega
theorem aG5 (s:List UInt8):s.length≤(sX s).length:=by simp [sX]
theorem aBB {b:List UInt8}{n:Int} (hb:b.length≤10000000000000) (h:uQ n):hY b n=some (b++mU n):=aE2 hb h.1 h.2
theorem aJQ {b s:List UInt8} (hb:b.length≤10000000000000) (hs:s.length≤10000000000000):kZ b s=some (b++sX s):=by rw [aIU hb hs,sX,dJ]
theorem qG {α:Type} (B:Nat) (l:List α) (f:α→List UInt8) (b:List UInt8) (hB:(b++l.flatMap f).length≤B) {body:List UInt8 × Int→Option (dU (List UInt8 × Int) (List UInt8))}
  (h:∀ (s:List UInt8) (i:Nat) (hi:i<l.length),(s++f l[i]).length≤B→body (s,(i:Int))=some (.next (s++f l[i],((i+1:Nat):Int)))) (hout:∀ s,body (s,(l.length:Int))=some (.out s)) :
  gL body (b,(0:Int))=some (b++l.flatMap f):=by
 refine aFa (fun s=>∃ i:Nat,s.2=(i:Int)∧i≤l.length∧s.1=b++(l.take i).flatMap f) (fun s=>l.length - s.2.toNat) (fun _=>b++l.flatMap f) ?_ _ ⟨0,rfl,by omega,by simp⟩
 rintro ⟨s,i0⟩ ⟨i,hi0,hi,hs⟩
 simp only at hi0 hs
 subst hi0 hs
 by_cases hlt:i<l.length
 ·
  have e:b++(l.take i).flatMap f++f l[i]=b++(l.take (i+1)).flatMap f:=by rw [fF hlt,List.flatMap_append];simp
  have hle:(b++(l.take i).flatMap f++f l[i]).length≤B:=by
   rw [e]
   refine hG ?_ hB
   conv=>rhs;rw [← pQ (i+1) l,List.flatMap_append]
   simp only [aF];omega
  refine .inl ⟨_,h _ i hlt hle,⟨i+1,rfl,hlt,e⟩,by simp;omega,rfl⟩
 ·
  obtain rfl:i=l.length:=by omega
  rw [hout,kY]
  exact .inr rfl
mutual
def rO:aK→List UInt8
 | ⟨k,i,t,l,ks⟩=>mU k++(if k=1∨k=2∨k=6 then mU i else if k=3 then sX t else if k=4 then mU l.length++aN8 l else if k=5 then mU l.length++aLE l ks else [])
def aN8:List aK→List UInt8
 | []=>[]
 | x :: l=>rO x++aN8 l
def aLE:List aK→List (List UInt8)→List UInt8
 | x :: l,k :: ks=>sX k++rO x++aLE l ks
 | _,_=>[]
end
theorem aN9:∀ l,aN8 l=l.flatMap rO
 | []=>by simp [aN8]
 | x :: l=>by simp [aN8,aN9 l]
theorem aOa:∀ l ks,aLE l ks=(l.zip ks).flatMap fun p=>sX p.2++rO p.1
 | [],_=>by simp [aLE]
 | x :: l,[]=>by simp [aLE]
 | x :: l,k :: ks=>by simp [aLE,aOa l ks]
theorem aJf (v:aK):rO v=mU v.Kind++(if v.Kind=1∨v.Kind=2∨v.Kind=6 then mU v.Int else if v.Kind=3 then sX v.Text else if v.Kind=4 then mU v.Items.length++v.Items.flatMap rO
 else if v.Kind=5 then mU v.Items.length++(v.Items.zip v.Keys).flatMap (fun p=>sX p.2++rO p.1) else []):=by cases v;simp only [rO,aN9,aOa]
mutual
def nsz:aK→Nat
 | ⟨_,_,_,l,_⟩=>qM l+1
def qM:List aK→Nat
 | []=>0
 | x :: l=>nsz x+qM l
end
theorem aHz (v:aK):nsz v=qM v.Items+1:=by cases v;simp [nsz]
theorem aNh {α:Type} (f:α→List UInt8) (g:α→Nat):∀ (l:List α),(∀ x∈l,(f x).length≤g x)→(l.flatMap f).length≤(l.map g).sum
 | [],_=>by simp
 | x :: l,h=>by
  have h1:=h x (by simp)
  have h2:=aNh f g l (fun y hy=>h y (by simp [hy]))
  simp only [iM,aF,iN,List.sum_cons];omega
theorem aPO:∀ l,l.length≤qM l
 | []=>by simp
 | x :: l=>by have:=aPO l;have:=aHz x;simp only [qM,fB];omega
theorem aPY (c:Nat):∀ (l:List aK),(l.map fun x=>nsz x*c).sum=qM l*c
 | []=>by simp [qM]
 | x :: l=>by simp [qM,aPY c l,fO]
theorem aKk:∀ (n:Nat) (v:aK),hgt v≤n→dX v→shr v=true→(rO v).length+4200≤nsz v*8400:=by
 intro n
 induction n with
 | zero=>intro v h;have:=mK v;omega
 | succ n ih =>
  intro v h hv hs
  have hh:=mK v
  obtain ⟨k0,k1,k2,k3,k4⟩:=(gF v).1 hv
  rw [aMn] at hs
  simp only [aR,gP,cI,List.any_eq_false,oD,mJ,bU] at hs
  obtain ⟨⟨h1,h2⟩,h3⟩:=hs
  have e1:=kC k0
  have e2:=kC k1
  have e3:=oN (s:=v.Text) (by omega)
  have e4:=aAr (n:=v.Items.length) k3.1
  have hi:∀ x∈v.Items,(rO x).length+4200≤nsz x*8400:=fun x hx=>ih x (by have:=pB hx;omega) (k3.2.2 x hx) (h3 x hx)
  rw [aJf,aHz]
  simp only [aF]
  have f4:(v.Items.flatMap rO).length≤qM v.Items*8400:=by
   have:=aNh rO (fun x=>nsz x*8400) v.Items (fun x hx=>by have:=hi x hx;omega)
   rwa [aPY] at this
  have key:∀ (l:List aK) (ks:List (List UInt8)),(∀ x∈l,(rO x).length+4200≤nsz x*8400)→(∀ k∈ks,k.length≤4096)→((l.zip ks).flatMap fun p=>sX p.2++rO p.1).length≤qM l*8400:=by
   intro l
   induction l with
   | nil=>intro ks _ _;simp
   | cons x l ihl =>
    intro ks hl hk
    cases ks with
    | nil=>simp
    | cons k ks =>
     have a1:=ihl ks (fun y hy=>hl y (by simp [hy])) (fun y hy=>hk y (by simp [hy]))
     have a2:=hl x (by simp)
     have a3:=hk k (by simp)
     have a4:=oN (s:=k) (by omega)
     simp only [List.zip_cons_cons,iM,aF,qM,fO];omega
  have f5:=key v.Items v.Keys hi (fun k hk=>by have:=h2 k hk;omega)
  split
  ·
   omega
  ·
   split
   ·
    omega
   ·
    split
    ·
     simp only [aF];omega
    ·
     split
     ·
      simp only [aF];omega
     ·
      simp;omega
theorem aJx {o:Bool}{v:aK} (h:fmd o v=true):(v.Kind≠4→v.Kind≠5→v.Items=[])∧(v.Kind=5→v.Keys.length=v.Items.length)∧∀ x∈v.Items,fmd o x=true:=by
 rw [aFM,aR,cI] at h
 refine ⟨fun h4 h5=>?_,fun h5=>?_,h.2⟩
 ·
  have hf:=h.1
  unfold aDA at hf
  by_cases h0:v.Kind=0
  ·
   simp [h0] at hf;simp [hf]
  ·
   by_cases h1:v.Kind=1
   ·
    simp [h1] at hf;simp [hf]
   ·
    by_cases h2:v.Kind=2
    ·
     simp [h2] at hf;simp [hf]
    ·
     by_cases h6:v.Kind=6
     ·
      simp [h6] at hf;simp [hf]
     ·
      by_cases h3:v.Kind=3
      ·
       simp [h3] at hf;simp [hf]
      ·
       simp [h0,h1,h2,h6,h3,h4,h5] at hf
 ·
  have hf:=h.1
  unfold aDA at hf
  simp [h5] at hf
  exact hf.1.2
def At (r:aX) (rest:List UInt8):Prop:=∃ (b:List UInt8) (a:Nat),b.length≤1000000000∧a≤b.length∧r=⟨b,a,0,true⟩∧b.drop a=rest
theorem wP {r:aX}{l:List UInt8} (h:At r l):gN r=some 0:=by
 obtain ⟨b,a,_,_,rfl,_⟩:=h
 rfl
theorem aPD {b:List UInt8} (h:b.length≤1000000000):∃ r,aA7 b=some r∧At r b:=⟨_,aMF (by omega),b,0,h,by omega,rfl,rfl⟩
theorem aAn {r:aX}{n low high:Int}{rest:List UInt8} (h:At r (mU n++rest)) (hn:uQ n) (h1:low≤n) (h2:n≤high):∃ r',fN low high r=some (n,r')∧At r' rest:=by
 obtain ⟨b,a,hb,ha,rfl,hd⟩:=h
 have hr:=aLz (low:=low) (high:=high) rest hn.1 hn.2
 rw [aY (by omega)] at hr
 have hlen:(mU n).length≤b.length - a:=by
  have:=qB List.length hd
  simp only [lX,aF] at this
  omega
 refine ⟨_,by rw [aJD ha hb,hd];unfold mU;rw [hr],b,a+(mU n).length,hb,by omega,?_,?_⟩
 ·
  unfold aDb
  rw [hd];unfold mU;rw [hr];rfl
 ·
  rw [← oE,hd,List.drop_left]
theorem aBP {r:aX}{s:List UInt8}{most:Int}{rest:List UInt8} (h:At r (sX s++rest)) (hs:(s.length:Int)≤most):∃ r',jM most r=some (s,r')∧At r' rest:=by
 obtain ⟨b,a,hb,ha,rfl,hd⟩:=h
 have hl:=qB List.length hd
 simp only [lX,aF,sX] at hl
 have hr:=aLz (low:=0) (high:=most) (s++rest) (n:=(s.length:Int)) (by omega) (by omega)
 rw [aY (by omega)] at hr
 have hd':b.drop a=uF (zz s.length)++(s++rest):=by rw [hd,sX,dJ]
 have hd2:b.drop (a+(uF (zz s.length)).length)=s++rest:=by rw [← oE,hd',List.drop_left]
 refine ⟨⟨b,(a+(uF (zz s.length)).length+s.length:Nat),0,true⟩,?_,b,a+(uF (zz s.length)).length+s.length,hb,by omega,rfl,?_⟩
 ·
  rw [aTB ha hb]
  unfold aSu
  rw [hd',hr]
  simp only [ne_eq,not_true_eq_false,dZ]
  rw [aY (by omega),hd2]
  simp
 ·
  rw [← oE,hd2,List.drop_left]
theorem aQX {l:List (List UInt8)} (h:l.length≤9223372036854775807) (hr:aII l=true) (i:Nat) (hi:i+1<l.length):Op.bytesLess l[i] l[i+1]=true:=aJ9.1 hr i hi
theorem aTg:∀ (n:Nat) (v:aK),hgt v≤n→hgt v≤nsz v:=by
 intro n
 induction n with
 | zero=>intro v h;have:=mK v;omega
 | succ n ih =>
  intro v h
  have hh:=mK v
  rw [hh,aHz]
  have key:∀ l:List aK,(∀ x∈l,hgt x≤nsz x)→aHx l≤qM l:=by
   intro l
   induction l with
   | nil=>simp [aHx,qM]
   | cons x l ihl =>
    intro hl
    have h1:=hl x (by simp)
    have h2:=ihl (fun y hy=>hl y (by simp [hy]))
    simp only [aHx,qM];omega
  have:=key v.Items (fun x hx=>ih x (by have:=pB hx;omega))
  omega
theorem aNw:∀ {l:List aK}{x:aK},x∈l→nsz x≤qM l
 | [],x,h=>by simp at h
 | y :: l,x,h=>by
  simp only [qM]
  rcases eT.1 h with rfl | h
  ·
   omega
  ·
   have:=aNw h;omega
theorem aPH:∀ (n:Nat) (v:aK),hgt v≤n→nsz v≤1000000→dep v=(hgt v:Int)∧siz v=(nsz v:Int):=by
 intro n
 induction n with
 | zero=>intro v h;have:=mK v;omega
 | succ n ih =>
  intro v h hn
  have hh:=mK v
  have hz:=aHz v
  have hm:=aTg _ v (eP _)
  have k1:∀ (l:List aK) (a:Nat),(∀ x∈l,dep x=(hgt x:Int))→l.foldl (fun a x=>if dep x > a then dep x else a) (a:Int)=((max a (aHx l):Nat):Int):=by
   intro l
   induction l with
   | nil=>intro a _;simp [aHx]
   | cons x l ihl =>
    intro a hl
    have h1:=hl x (by simp)
    simp only [pH,h1]
    have e:(if ((hgt x:Nat):Int) > ((a:Nat):Int) then ((hgt x:Nat):Int) else ((a:Nat):Int))=((max a (hgt x):Nat):Int):=by split <;> omega
    rw [e,ihl _ (fun y hy=>hl y (by simp [hy]))]
    simp only [aHx]
    omega
  have k2:∀ (l:List aK) (a:Nat),(∀ x∈l,siz x=(nsz x:Int))→a+qM l≤2000000→l.foldl (fun a x=>IntKind.i64.wrap (a+siz x)) (a:Int)=((a+qM l:Nat):Int):=by
   intro l
   induction l with
   | nil=>intro a _ _;simp [qM]
   | cons x l ihl =>
    intro a hl ha
    simp only [qM] at ha
    have h1:=hl x (by simp)
    simp only [pH,h1]
    rw [w64 (by omega) (by omega),show ((a:Nat):Int)+(nsz x:Int)=((a+nsz x:Nat):Int) by omega,ihl _ (fun y hy=>hl y (by simp [hy])) (by omega)]
    simp only [qM]
    omega
  have hi:∀ x∈v.Items,dep x=(hgt x:Int)∧siz x=(nsz x:Int):=fun x hx=>ih x (by have:=pB hx;omega) (by have:=aNw hx;omega)
  constructor
  ·
   rw [aON]
   have:=k1 v.Items 0 (fun x hx=>(hi x hx).1)
   simp only [Int.natCast_zero] at this
   rw [this,w64 (by omega) (by omega)]
   omega
  ·
   rw [aPj]
   have:=k2 v.Items 1 (fun x hx=>(hi x hx).2) (by omega)
   rw [show (1:Int)=((1:Nat):Int) from rfl,this]
   omega
theorem aJN {r:aX}{l:List UInt8} (k:Int) (h:At r l):lW true k r=some (true,r):=by
 unfold lW
 rw [wP h]
 simp [wP h]
theorem aDo {α:Type} (f:α→List UInt8) (l:List α) (i:Nat) (hi:i<l.length):(l.drop i).flatMap f=f l[i]++(l.drop (i+1)).flatMap f:=by
 rw [nP hi,iM]
theorem aHA:∀ (l:List aK) (i:Nat) (hi:i<l.length),qM (l.take (i+1))=qM (l.take i)+nsz l[i]
 | [],i,hi=>by simp at hi
 | x :: l,0,hi=>by simp [qM]
 | x :: l,i+1,hi=>by
  have:=aHA l i (by simpa using hi)
  simp only [mR,qM,List.getElem_cons_succ] at this ⊢
  omega
theorem aDD:∀ (l:List aK) (i:Nat),qM (l.take i)≤qM l
 | [],i=>by simp
 | x :: l,0=>by simp [qM]
 | x :: l,i+1=>by have:=aDD l i;simp only [mR,qM];omega
theorem aPs:∀ (n:Nat) (v:aK) (d:Int) (k:Nat) (r:aX) (rest:List UInt8),At r (rO v++rest)→dX v→fmd false v=true→shr v=true→0≤d→(hgt v:Int)+d≤17→k+nsz v≤1000→2*hgt v≤n →
  ∃ r',gS n d k r=some (v,((k+nsz v:Nat):Int),r')∧At r' rest:=by
 intro n
 induction n using Nat.strongRecOn with
 | _ n ih =>
  intro v d k r rest hat hv hf hs hd0 hd hk hn
  have hh:=mK v
  have hz:=aHz v
  obtain ⟨m,rfl⟩:∃ m,n=m+2:=⟨n - 2,by omega⟩
  obtain ⟨q0,q1,q2,q3,q4⟩:=(gF v).1 hv
  have hft:=hf
  rw [aRT (hgt v) v (eP _)] at hft
  simp only [aR,gP] at hft
  obtain ⟨l1,l2,l3⟩:=aJx hft.1
  have hfi:∀ x∈v.Items,fmd false x=true:=(aJx hf).2.2
  have hs':=hs
  rw [aMn] at hs'
  simp only [aR,gP,cI,List.any_eq_false,oD,mJ,bU] at hs'
  obtain ⟨⟨s1,s2⟩,s3⟩:=hs'
  have hflo:aDA false v=true:=by rw [aFM,aR] at hf;exact hf.1
  have hk05:0≤v.Kind∧v.Kind≤5:=by
   unfold aDA at hflo
   by_cases h0:v.Kind=0
   ·
    omega
   by_cases h1:v.Kind=1
   ·
    omega
   by_cases h2:v.Kind=2
   ·
    omega
   by_cases h6:v.Kind=6
   ·
    simp [h6] at hflo
   by_cases h3:v.Kind=3
   ·
    omega
   by_cases h4:v.Kind=4
   ·
    omega
   by_cases h5:v.Kind=5
   ·
    omega
   simp [h0,h1,h2,h6,h3,h4,h5] at hflo
  rw [aJf,dJ] at hat
  obtain ⟨r1,a1,a2⟩:=aAn (low:=-9223372036854775808) (high:=9223372036854775807) hat q0 q0.1 q0.2
  have ek:IntKind.i64.wrap ((k:Int)+1)=((k+1:Nat):Int):=by rw [w64 (by omega) (by omega)];omega
  rw [gS]
  have c1:(cond (decide ((k:Int)<(1000:Int))) (decide (d≤(16:Int))) false)=true:=by
   have h1:(k:Int)<1000:=by omega
   have h2:d≤16:=by omega
   simp [h1,h2]
  have c2:(cond (decide ((0:Int)≤v.Kind)) (decide (v.Kind≤(5:Int))) false)=true:=by simp [hk05.1,hk05.2]
  rw [c1,aJN _ hat]
  simp only [aA,cJ,bP]
  rw [a1]
  simp only [aA]
  rw [c2,ek,aJN _ a2]
  simp only [aA,cJ,bP]
  have hnil:∀ {α:Type}{l:List α},decide (l.length=0)=true→l=[]:=fun h=>by simpa using h
  by_cases h1:v.Kind=1
  ·
   simp only [h1,true_or,cL] at a2
   obtain ⟨r2,b1,b2⟩:=aAn (low:=-9223372036854775808) (high:=9223372036854775807) a2 q1 q1.1 q1.2
   have hfl:=hflo
   simp only [aDA,h1,Int.reduceEq,cL,dZ,aR,eC,bU] at hfl
   have c3:(cond (decide (v.Int=(0:Int))) true (decide (v.Int=(1:Int))))=true:=by rcases hfl.1.1.1 with h | h <;> simp [h]
   simp only [h1,cG,dM]
   rw [b1]
   simp only [aA]
   rw [c3,aJN _ b2]
   simp only [aA,Fl.next]
   have hit:=l1 (by omega) (by omega)
   have hks:v.Keys=[]:=by simpa using hfl.2
   have htx:v.Text=[]:=hfl.1.1.2
   refine ⟨r2,?_,b2⟩
   rw [hz,hit]
   obtain ⟨kd,i,t,l,ks⟩:=v
   simp only at h1 hit hks htx ⊢
   subst h1 hit hks htx
   simp [qM]
  by_cases h2:v.Kind=2
  ·
   simp only [h2,true_or,or_true,cL] at a2
   obtain ⟨r2,b1,b2⟩:=aAn (low:=-9223372036854775808) (high:=9223372036854775807) a2 q1 q1.1 q1.2
   have hfl:=hflo
   simp only [aDA,h2,Int.reduceEq,cL,dZ,aR,bU] at hfl
   simp only [h2,Int.reduceEq,dK,cG,dM,bP]
   rw [b1]
   simp only [aA,Fl.next]
   have hit:=l1 (by omega) (by omega)
   have hks:v.Keys=[]:=by simpa using hfl.2
   have htx:v.Text=[]:=hfl.1.1
   refine ⟨r2,?_,b2⟩
   rw [hz,hit]
   obtain ⟨kd,i,t,l,ks⟩:=v
   simp only at h2 hit hks htx ⊢
   subst h2 hit hks htx
   simp [qM]
  by_cases h3:v.Kind=3
  ·
   simp only [h3,Int.reduceEq,or_self,cL,dZ] at a2
   obtain ⟨r2,b1,b2⟩:=aBP (most:=9223372036854775807) a2 (by omega)
   have hfl:=hflo
   simp only [aDA,h3,Int.reduceEq,cL,dZ,aR,bU] at hfl
   simp only [h3,Int.reduceEq,dK,cG,dM,bP]
   rw [b1]
   simp only [aA]
   have c3:decide ((v.Text.length:Int)≤4096)=true:=by simp;omega
   rw [c3,aJN _ b2]
   simp only [aA,Fl.next]
   have hit:=l1 (by omega) (by omega)
   have hks:v.Keys=[]:=by simpa using hfl.2
   have hin:v.Int=0:=hfl.1.1
   refine ⟨r2,?_,b2⟩
   rw [hz,hit]
   obtain ⟨kd,i,t,l,ks⟩:=v
   simp only at h3 hit hks hin ⊢
   subst h3 hit hks hin
   simp [qM]
  by_cases h0:v.Kind=0
  ·
   simp only [h0,Int.reduceEq,or_self,dZ,iC] at a2
   have hfl:=hflo
   simp only [aDA,h0,cL,aR,bU] at hfl
   simp only [h0,Int.reduceEq,dK,bP,aA,Fl.next]
   have hit:=l1 (by omega) (by omega)
   have hks:v.Keys=[]:=by simpa using hfl.2
   have htx:v.Text=[]:=hfl.1.1.2
   have hin:v.Int=0:=hfl.1.1.1
   refine ⟨r1,?_,a2⟩
   rw [hz,hit]
   obtain ⟨kd,i,t,l,ks⟩:=v
   simp only at h0 hit hks htx hin ⊢
   subst h0 hit hks htx hin
   simp [qM]
  have h45:v.Kind=4∨v.Kind=5:=by omega
  have e45:(cond (decide (v.Kind=(4:Int))) (some (decide (v.Kind=(4:Int)))) (some (decide (v.Kind=(5:Int)))))=some true:=by rcases h45 with h | h <;> simp [h]
  simp only [h1,h2,h3,dK,bP]
  rw [e45]
  simp only [aA,dM]
  have hnl:v.Items.length≤qM v.Items:=aPO _
  have okn:uQ (v.Items.length:Int):=⟨by omega,by omega⟩
  have hdw:IntKind.i64.wrap (d+1)=d+1:=w64 (by omega) (by omega)
  have c3:(cond (decide ((0:Int)≤(v.Items.length:Int))) (decide ((v.Items.length:Int)≤(1000:Int))) false)=true:=by
   have h1:(0:Int)≤(v.Items.length:Int):=by omega
   have h2:(v.Items.length:Int)≤1000:=by omega
   simp [h1,h2]
  have hItem:∀ (i:Nat) (hi:i<v.Items.length) (k':Nat) (r:aX) (rest:List UInt8),k'+nsz v.Items[i]≤1000→At r (rO v.Items[i]++rest)→∃ r',gS m (IntKind.i64.wrap (d+1)) k' r=some (v.Items[i],((k'+nsz v.Items[i]:Nat):Int),r')∧At r' rest:=fun i hi k' r rest hk' hat'=>by
   have hmem:=bN hi
   have hge:=pB hmem
   rw [hdw]
   exact ih m (by omega) v.Items[i] (d+1) k' r rest hat' (q3.2.2 _ hmem) (hfi _ hmem) (s3 _ hmem) (by omega) (by omega) hk' (by omega)
  rw [kA]
  by_cases h4:v.Kind=4
  ·
   simp only [h4,Int.reduceEq,or_self,cL,dZ,dJ] at a2
   obtain ⟨r2,b1,b2⟩:=aAn (low:=-9223372036854775808) (high:=9223372036854775807) a2 okn okn.1 okn.2
   rw [b1]
   simp only [aA]
   rw [c3,aJN _ b2]
   simp only [aA,cJ,bP]
   obtain ⟨X,g1,g2⟩:=yJ (body:=iW (gS m) ((v.Items.length:Int),r2) v.Kind d)
    (fun s=>∃ (i:Nat) (r':aX),i≤v.Items.length∧s=((i:Int),((k+1+qM (v.Items.take i):Nat):Int),r',v.Items.take i,[])∧At r' ((v.Items.drop i).flatMap rO++rest)) (fun s=>v.Items.length - s.1.toNat)
    (fun X=>∃ r',X=.go (((k+1+qM v.Items:Nat):Int),r',v.Items,[])∧At r' rest) (by
     rintro s ⟨i,r',hi,rfl,hat'⟩
     by_cases hlt:i<v.Items.length
     ·
      rw [aDo rO _ i hlt,dJ] at hat'
      have ht1:=aHA v.Items i hlt
      have ht2:=aDD v.Items (i+1)
      obtain ⟨r3,f1,f2⟩:=hItem i hlt (k+1+qM (v.Items.take i)) r' _ (by omega) hat'
      refine .inl ⟨_,?_,⟨i+1,r3,by omega,rfl,f2⟩,by simp;omega⟩
      unfold iW
      simp only
      rw [dO,bB (by omega)]
      simp only [h4,Int.reduceEq,dK,bP,aA,Fl.next]
      rw [f1]
      simp only [aA]
      rw [wP f2,wO (by simp;omega),nV hlt (by omega),fF hlt]
      simp only [aA,cG,cJ,bP]
      rw [← fF hlt,ht1,kM]
     ·
      obtain rfl:i=v.Items.length:=by omega
      refine .inr ⟨.go (((k+1+qM v.Items:Nat):Int),r',v.Items,[]),?_,r',rfl,by simpa using hat'⟩
      unfold iW
      simp only
      rw [dO,aY (by omega),kY]) ((0:Int),((k+1:Nat):Int),r2,[],[]) ⟨0,r2,by omega,by simp [qM],by simpa using b2⟩
   obtain ⟨r',rfl,hat'⟩:=g2
   rw [h4] at g1
   rw [h4,g1]
   simp only [aA,Fl.next]
   have hfl:=hflo
   simp only [aDA,h4,Int.reduceEq,cL,dZ,aR,bU] at hfl
   have hks:v.Keys=[]:=by simpa using hfl.2
   have htx:v.Text=[]:=hfl.1.2
   have hin:v.Int=0:=hfl.1.1
   refine ⟨r',?_,hat'⟩
   rw [hz]
   obtain ⟨kd,i,t,l,ks⟩:=v
   simp only at h4 hks htx hin ⊢
   subst h4 hks htx hin
   rw [show k+1+qM l=k+(qM l+1) from by omega]
  ·
   have h5:v.Kind=5:=by omega
   have hlen:=l2 h5
   simp only [h5,Int.reduceEq,or_self,cL,dZ,dJ] at a2
   obtain ⟨r2,b1,b2⟩:=aAn (low:=-9223372036854775808) (high:=9223372036854775807) a2 okn okn.1 okn.2
   rw [b1]
   simp only [aA]
   rw [c3,aJN _ b2]
   simp only [aA,cJ,bP]
   have hfl:=hflo
   simp only [aDA,h5,Int.reduceEq,cL,dZ,aR,bU] at hfl
   have hzl:(v.Items.zip v.Keys).length=v.Items.length:=by simp [hlen]
   obtain ⟨X,g1,g2⟩:=yJ (body:=iW (gS m) ((v.Items.length:Int),r2) v.Kind d)
    (fun s=>∃ (i:Nat) (r':aX),i≤v.Items.length∧s=((i:Int),((k+1+qM (v.Items.take i):Nat):Int),r',v.Items.take i,v.Keys.take i)∧At r' (((v.Items.zip v.Keys).drop i).flatMap (fun p=>sX p.2++rO p.1)++rest)) (fun s=>v.Items.length - s.1.toNat)
    (fun X=>∃ r',X=.go (((k+1+qM v.Items:Nat):Int),r',v.Items,v.Keys)∧At r' rest) (by
     rintro s ⟨i,r',hi,rfl,hat'⟩
     by_cases hlt:i<v.Items.length
     ·
      have hik:i<v.Keys.length:=by omega
      rw [aDo _ _ i (by omega),dJ,List.getElem_zip,dJ] at hat'
      have ht1:=aHA v.Items i hlt
      have ht2:=aDD v.Items (i+1)
      obtain ⟨r3,e1,e2⟩:=aBP (most:=9223372036854775807) hat' (by have:=s2 _ (bN hik);simp only;omega)
      obtain ⟨r4,f1,f2⟩:=hItem i hlt (k+1+qM (v.Items.take i)) r3 _ (by omega) e2
      have hl4:(v.Keys[i].length:Int)≤4096:=by have:=s2 _ (bN hik);omega
      have hprev:(gd ((decide ((v.Keys[i].length:Int)≤(4096:Int)))==true&&((decide ((i:Int)=(0:Int)))==false)) (mP (v.Keys.take i) (IntKind.wrap .i64 ((i:Int) - (1:Int)))))=some (if h:i=0 then [] else v.Keys[i - 1]'(by omega)):=by
       by_cases hi0:i=0
       ·
        subst hi0;simp [gd];rfl
       ·
        have e:IntKind.i64.wrap ((i:Int) - 1)=((i - 1:Nat):Int):=by rw [w64 (by omega) (by omega)];omega
        have c2:decide ((i:Int)=0)=false:=by simp;omega
        rw [e,iJ (l:=v.Keys.take i) (i:=i - 1) (by simp;omega),c2,oJ hl4]
        simp [gd,hi0]
      refine .inl ⟨((i+1:Nat),((k+1+qM (v.Items.take (i+1)):Nat):Int),r4,v.Items.take (i+1),v.Keys.take (i+1)),?_,⟨i+1,r4,by omega,rfl,f2⟩,by simp;omega⟩
      unfold iW
      simp only
      rw [dO,bB (by omega)]
      simp only [h5,cG,dM]
      rw [e1]
      simp only [aA]
      rw [hprev]
      simp only [aA]
      have hC:(cond (decide ((v.Keys[i].length:Int)≤(4096:Int))) (cond (decide ((i:Int)=(0:Int))) true (!(Op.bytesLess v.Keys[i] (if h:i=0 then [] else v.Keys[i - 1]'(by omega))||decide (v.Keys[i]=(if h:i=0 then [] else v.Keys[i - 1]'(by omega)))))) false)=true:=by
       rw [oJ hl4,aMY]
       by_cases hi0:i=0
       ·
        subst hi0;simp
       ·
        have c2:decide ((i:Int)=0)=false:=by simp;omega
        have hr:=aQX (l:=v.Keys) (by omega) hfl.2 (i - 1) (by omega)
        have e:i - 1+1=i:=by omega
        simp only [e] at hr
        rw [c2];simp [hi0,hr]
      rw [hC,aJN _ e2]
      simp only [aA,cJ,bP]
      rw [wO (by simp;omega)]
      simp only [aA,Fl.next]
      rw [f1]
      simp only [aA]
      rw [wP f2,wO (by simp;omega),nV hlt (by omega)]
      simp only [aA,cG,cJ,bP]
      rw [← fF hlt,← fF hik,ht1,kM]
     ·
      obtain rfl:i=v.Items.length:=by omega
      refine .inr ⟨.go (((k+1+qM v.Items:Nat):Int),r',v.Items,v.Keys),?_,r',rfl,?_⟩
      ·
       unfold iW
       simp only
       rw [dO,aY (by omega),kY,← hlen,kY]
      ·
       rw [pA (by omega)] at hat';simpa using hat') ((0:Int),((k+1:Nat):Int),r2,[],[]) ⟨0,r2,by omega,by simp [qM],by simpa using b2⟩
   obtain ⟨r',rfl,hat'⟩:=g2
   rw [h5] at g1
   rw [h5,g1]
   simp only [aA,Fl.next]
   have htx:v.Text=[]:=hfl.1.1.2
   have hin:v.Int=0:=hfl.1.1.1
   refine ⟨r',?_,hat'⟩
   rw [hz]
   obtain ⟨kd,i,t,l,ks⟩:=v
   simp only at h5 htx hin ⊢
   subst h5 htx hin
   rw [show k+1+qM l=k+(qM l+1) from by omega]
theorem aBu {b:List UInt8}{n:Int} (hb:b.length≤10000000000000) (h:uQ n):jB b n=some (b++mU n):=aGT hb h.1 h.2
theorem aEK {b s:List UInt8} (hb:b.length≤10000000000000) (hs:s.length≤10000000000000):kH b s=some (b++sX s):=by rw [aKS hb hs,sX,dJ]
theorem aR7 (v:aK):(cond (decide (v.Kind=(1:Int))) (some (decide (v.Kind=(1:Int)))) (cond (decide (v.Kind=(2:Int))) (some (decide (v.Kind=(2:Int)))) (some (decide (v.Kind=(6:Int))))))=some (decide (v.Kind=1∨v.Kind=2∨v.Kind=6)):=by
 by_cases h1:v.Kind=1
 ·
  simp [h1]
 ·
  by_cases h2:v.Kind=2 <;> simp [h1,h2]
theorem aQK (v:aK):(cond (decide (v.Kind=(4:Int))) (some (decide (v.Kind=(4:Int)))) (some (decide (v.Kind=(5:Int)))))=some (decide (v.Kind=4∨v.Kind=5)):=by
 by_cases h1:v.Kind=4 <;> simp [h1]
theorem aJr:∀ (n:Nat) (v:aK) (b:List UInt8),hgt v≤n→dX v→fmd true v=true→(b++rO v).length≤1000000000000→rS n b v=some (b++rO v)∧aAb n b v=some (b++rO v):=by
 intro n
 induction n with
 | zero=>intro v b h;have:=mK v;omega
 | succ n ih =>
  intro v b h hv hf hB
  have hh:=mK v
  obtain ⟨k0,k1,k2,k3,k4⟩:=(gF v).1 hv
  obtain ⟨l1,l2,l3⟩:=aJx hf
  rw [aJf] at hB ⊢
  rw [rS,aAb,aR7,aQK]
  simp only [aF] at hB
  rw [aBB (by omega) k0,aBu (by omega) k0]
  simp only [aA]
  have hb0:(b++mU v.Kind).length=b.length+(mU v.Kind).length:=by simp
  by_cases h126:v.Kind=1∨v.Kind=2∨v.Kind=6
  ·
   simp only [h126,cG,dM,cL] at hB ⊢
   rw [aBB (by omega) k1,aBu (by omega) k1]
   simp [Fl.next]
  ·
   simp only [h126,dK,bP,dZ] at hB ⊢
   by_cases h3:v.Kind=3
   ·
    have h3t:=aG5 v.Text
    simp only [h3,cG,dM,cL] at hB hb0 ⊢
    rw [aJQ (by omega) (by omega),aEK (by omega) (by omega)]
    simp [Fl.next]
   ·
    simp only [h3,dK,bP,dZ] at hB ⊢
    by_cases h4:v.Kind=4
    ·
     have hok:uQ (v.Items.length:Int):=⟨by omega,by have:=k3.1;omega⟩
     simp only [h4,true_or,cG,dM,cL,aF] at hB ⊢
     rw [aBB (by simp only [aF];omega) hok,aBu (by simp only [aF];omega) hok]
     simp only [aA,Fl.next]
     rw [qG 1000000000000 v.Items rO _ (by simp only [aF];omega) (fun s i hi hs=>?_) (fun s=>?_),qG 1000000000000 v.Items rO _ (by simp only [aF];omega) (fun s i hi hs=>?_) (fun s=>?_)]
     ·
      simp
     ·
      unfold yO
      rw [dO,bB (by simp only;omega)]
      simp only [h4,Int.reduceEq,dK,bP,aA]
      rw [iJ hi,aA,(ih _ _ (by have:=pB (bN hi);omega) (k3.2.2 _ (bN hi)) (l3 _ (bN hi)) hs).2,aA,nV hi k3.1]
     ·
      unfold yO
      rw [dO,aY (by simp only;omega)]
     ·
      unfold oY
      rw [dO,bB (by simp only;omega),iJ hi,aA]
      simp only [h4,Int.reduceEq,dK,bP]
      rw [(ih _ _ (by have:=pB (bN hi);omega) (k3.2.2 _ (bN hi)) (l3 _ (bN hi)) hs).1,aA,nV hi k3.1]
     ·
      unfold oY
      rw [dO,aY (by simp only;omega)]
    ·
     by_cases h5:v.Kind=5
     ·
      have hok:uQ (v.Items.length:Int):=⟨by omega,by have:=k3.1;omega⟩
      have hlen:=l2 h5
      have hz:(v.Items.zip v.Keys).length=v.Items.length:=by simp [hlen]
      simp only [h5,or_true,Int.reduceEq,cG,dM,cL,dZ,aF] at hB ⊢
      rw [aBB (by simp only [aF];omega) hok,aBu (by simp only [aF];omega) hok]
      simp only [aA,Fl.next]
      rw [qG 1000000000000 (v.Items.zip v.Keys) (fun p=>sX p.2++rO p.1) _ (by simp only [aF];omega) (fun s i hi hs=>?_) (fun s=>?_),qG 1000000000000 (v.Items.zip v.Keys) (fun p=>sX p.2++rO p.1) _ (by simp only [aF];omega) (fun s i hi hs=>?_) (fun s=>?_)]
      ·
       simp
      ·
       unfold yO
       rw [hz] at hi
       have hik:i<v.Keys.length:=by omega
       simp only [List.getElem_zip,aF] at hs ⊢
       have:=aG5 v.Keys[i]
       rw [dO,bB (by omega)]
       simp only [h5,cG,dM]
       rw [iJ hik,aA,aEK (by omega) (by omega),aA,aA,iJ hi,aA,(ih _ _ (by have:=pB (bN hi);omega) (k3.2.2 _ (bN hi)) (l3 _ (bN hi)) (by simp only [aF];omega)).2,aA,nV hi k3.1]
       simp
      ·
       unfold yO
       rw [dO,aY (by simp only;omega)]
      ·
       unfold oY
       rw [hz] at hi
       have hik:i<v.Keys.length:=by omega
       simp only [List.getElem_zip,aF] at hs ⊢
       have:=aG5 v.Keys[i]
       rw [dO,bB (by omega),iJ hi,aA]
       simp only [h5,cG,dM]
       rw [iJ hik,aA,aJQ (by omega) (by omega),aA,(ih _ _ (by have:=pB (bN hi);omega) (k3.2.2 _ (bN hi)) (l3 _ (bN hi)) (by simp only [aF];omega)).1,aA,nV hi k3.1]
       simp
      ·
       unfold oY
       rw [dO,aY (by simp only;omega)]
     ·
      simp only [h4,h5,or_self,dK,bP,dZ,aA,Fl.next]
      rw [aNq (body:=oY (rS n) v) (s:=(b++mU v.Kind,0)) (r:=b++mU v.Kind) (by unfold oY;rw [l1 h4 h5];rfl)]
      simp
theorem zT {b:List UInt8}{v:aK} (hv:dX v) (hB:(b++rO v).length≤1000000000000):tS b v=some (b++if fmd true v then rO v else []):=by
 unfold tS aDT
 simp only [aF] at hB
 rw [aBk (by omega),aD3 hv]
 cases hf:fmd true v
 ·
  simp
 ·
  simp only [aA,cJ,bP,cL]
  rw [zY (hgt v) fun n hn=>(aJr n v b hn hv hf (by simp only [aF];omega)).1,aA]
theorem aBT {b:List UInt8}{v:aK} (hv:dX v) (hB:(b++rO v).length≤1000000000000):tL b v=some (b++if fmd true v then rO v else []):=by
 unfold tL aHG
 simp only [aF] at hB
 rw [wO (by simp;omega),aDl hv]
 cases hf:fmd true v
 ·
  simp
 ·
  simp only [aA,cJ,bP,cL,iC]
  rw [zY (hgt v) fun n hn=>(aJr n v b hn hv hf (by simp only [aF];omega)).2,aA]
def aIA (o:dR):List UInt8:=sX o.Queue++mU o.ToStart++mU o.ToClose++mU o.Total++mU o.Beat++mU o.First++mU o.Coef++mU o.Most++mU o.Attempts++mU o.Fatal.length++o.Fatal.flatMap sX
def aEo (c:cK):List UInt8:=mU c.Kind++mU c.Seq++sX c.Name++sX c.Key++mU c.N++rO c.Data++aIA c.Opts
theorem aIY {α:Type} (f:α→List UInt8) (m:Nat):∀ (l:List α),(∀ x∈l,(f x).length≤m)→(l.flatMap f).length≤l.length*m
 | [],_=>by simp
 | x :: l,h=>by
  have h1:=h x (by simp)
  have h2:=aIY f m l (fun y hy=>h y (by simp [hy]))
  simp only [iM,aF,fB,fO];omega
theorem aCd {s:List UInt8} (h:nL s=true):s.length≤64:=by
 unfold nL at h
 simp only [aR,bU] at h
 exact h.1.1.2
theorem aCO {o:dR} (h:rZ o=true):o.Queue.length≤64∧o.Fatal.length≤64∧∀ s∈o.Fatal,s.length≤4096:=by
 unfold rZ at h
 simp only [aR,eC,bU,gP,List.any_eq_false,oD,mJ] at h
 refine ⟨?_,h.1.1.1.1.2,fun s hs=>by have:=h.2 s hs;omega⟩
 rcases h.1.1.1.1.1 with hq | hq
 ·
  rw [hq];simp
 ·
  exact aCd hq
theorem aGO {o:dR} (h:iL o) (hp:rZ o=true):(aIA o).length≤300000:=by
 obtain ⟨h1,h2,h3⟩:=aCO hp
 obtain ⟨k0,k1,k2,k3,k4,k5,k6,k7,k8,k9⟩:=h
 have a0:=oN (s:=o.Queue) (by omega)
 have a1:=kC k1
 have a2:=kC k2
 have a3:=kC k3
 have a4:=kC k4
 have a5:=kC k5
 have a6:=kC k6
 have a7:=kC k7
 have a8:=kC k8
 have a9:=aAr k9.1
 have a10:=aIY sX 4106 o.Fatal (fun s hs=>by have:=h3 s hs;have:=oN (s:=s) (by omega);omega)
 unfold aIA
 simp only [aF]
 omega
theorem aLv {b:List UInt8}{o:dR} (h:iL o) (hp:rZ o=true) (hb:b.length≤100000000000):uK b o=some (b++aIA o):=by
 obtain ⟨h1,h2,h3⟩:=aCO hp
 have hl:=aGO h hp
 obtain ⟨k0,k1,k2,k3,k4,k5,k6,k7,k8,k9⟩:=h
 have hok:uQ (o.Fatal.length:Int):=⟨by omega,by omega⟩
 unfold aIA at hl ⊢
 simp only [aF] at hl
 unfold uK
 simp only [qY,aA]
 rw [aJQ (by first | omega | (simp only [aF];omega)) (by omega),aA,aBB (by first | omega | (simp only [aF];omega)) k1,aA,aBB (by first | omega | (simp only [aF];omega)) k2,aA,
  aBB (by first | omega | (simp only [aF];omega)) k3,aA,aBB (by first | omega | (simp only [aF];omega)) k4,aA,aBB (by first | omega | (simp only [aF];omega)) k5,aA,
  aBB (by first | omega | (simp only [aF];omega)) k6,aA,aBB (by first | omega | (simp only [aF];omega)) k7,aA,aBB (by first | omega | (simp only [aF];omega)) k8,aA,
  aBB (by first | omega | (simp only [aF];omega)) hok,aA]
 rw [qG 1000000000000 o.Fatal sX _ (by first | omega | (simp only [aF];omega)) (fun s i hi hs=>?_) (fun s=>?_)]
 ·
  simp
 ·
  unfold wV
  simp only [aF] at hs
  have:=aG5 o.Fatal[i]
  rw [dO,bB (by simp only;omega),iJ hi,aA,aJQ (by simp only;omega) (by omega),aA,nV hi k9.1]
 ·
  unfold wV
  rw [dO,aY (by simp only;omega)]
theorem aIv {b:List UInt8}{o:dR} (h:iL o) (hb:b.length≤100000000000):qD b o=some (b++if rZ o then aIA o else []):=by
 unfold qD
 rw [aBk (by omega),aB0 h]
 cases hp:rZ o
 ·
  simp
 ·
  simp [aLv h hp hb]
theorem aCl {b:List UInt8}{o:dR} (h:iL o) (hb:b.length≤100000000000):pK b o=some (b++if rZ o then aIA o else []):=by
 unfold pK
 rw [wO (by simp;omega),aCQ h]
 cases hp:rZ o
 ·
  simp
 ·
  obtain ⟨h1,h2,h3⟩:=aCO hp
  have hl:=aGO h hp
  obtain ⟨k0,k1,k2,k3,k4,k5,k6,k7,k8,k9⟩:=h
  have hok:uQ (o.Fatal.length:Int):=⟨by omega,by omega⟩
  unfold aIA at hl ⊢
  simp only [aF] at hl
  simp only [aA,iC,cJ,bP,cL]
  rw [aEK (by omega) (by omega),aA]
  have hns:∀ n∈[o.ToStart,o.ToClose,o.Total,o.Beat,o.First,o.Coef,o.Most,o.Attempts,(o.Fatal.length:Int)],uQ n:=by
   simp only [eT,rE,or_false]
   rintro n (rfl | rfl | rfl | rfl | rfl | rfl | rfl | rfl | rfl) <;> assumption
  rw [qG 1000000000000 [o.ToStart,o.ToClose,o.Total,o.Beat,o.First,o.Coef,o.Most,o.Attempts,(o.Fatal.length:Int)] mU _ (by simp only [aF,iM,oS,jO];omega) (fun s i hi hs=>?_) (fun s=>?_),aA]
  ·
   rw [qG 1000000000000 o.Fatal sX _ (by simp only [aF,iM,oS,jO];omega) (fun s i hi hs=>?_) (fun s=>?_)]
   ·
    simp
   ·
    unfold sM
    simp only [aF] at hs
    have:=aG5 o.Fatal[i]
    rw [dO,bB (by simp only;omega),iJ hi,aA,aEK (by simp only;omega) (by omega),aA,nV hi k9.1]
   ·
    unfold sM
    rw [dO,aY (by simp only;omega)]
  ·
   unfold sK
   simp only [aF] at hs
   rw [dO,bB (by simp only;omega),iJ hi,aA,aBu (by simp only;omega) (hns _ (bN hi)),aA,nV hi (by simp)]
  ·
   unfold sK
   rw [dO,aY (by simp only;omega)]
theorem oO {v:aK} (h:kR v=true):shr v=true∧fmd false v=true∧fmd true v=true:=by
 unfold kR wth at h
 simp only [aR] at h
 refine ⟨h.1.2,h.2,?_⟩
 have:=h.2
 rw [aRT (hgt v) v (eP _)] at this
 simp only [aR] at this
 exact this.1
theorem aAp {c:cK} (h:mE c=true):kR c.Data=true∧rZ c.Opts=true:=by
 unfold mE at h
 simp only [aR] at h
 exact ⟨h.1.1.1.1.1.2,h.1.1.1.1.2⟩
theorem aBx {r:aX}{n:Int}{rest:List UInt8} (h:At r (mU n++rest)) (hn:uQ n):∃ r',iX r=some (n,r')∧At r' rest:=by
 obtain ⟨r',h1,h2⟩:=aAn (low:=-9223372036854775808) (high:=9223372036854775807) h hn hn.1 hn.2
 exact ⟨r',by unfold iX;rw [h1];rfl,h2⟩
theorem aIk {r:aX}{o:dR}{rest:List UInt8} (h:At r (aIA o++rest)) (ho:iL o) (hp:rZ o=true):∃ r',nX r=some (o,r')∧At r' rest:=by
 obtain ⟨p1,p2,p3⟩:=aCO hp
 obtain ⟨k0,k1,k2,k3,k4,k5,k6,k7,k8,k9⟩:=id ho
 have hok:uQ (o.Fatal.length:Int):=⟨by omega,by omega⟩
 unfold aIA at h
 simp only [dJ] at h
 obtain ⟨r0,a0,l0⟩:=aBP (most:=4096) h (by omega)
 obtain ⟨r1,a1,l1⟩:=aBx l0 k1
 obtain ⟨r2,a2,l2⟩:=aBx l1 k2
 obtain ⟨r3,a3,l3⟩:=aBx l2 k3
 obtain ⟨r4,a4,l4⟩:=aBx l3 k4
 obtain ⟨r5,a5,l5⟩:=aBx l4 k5
 obtain ⟨r6,a6,l6⟩:=aBx l5 k6
 obtain ⟨r7,a7,l7⟩:=aBx l6 k7
 obtain ⟨r8,a8,l8⟩:=aBx l7 k8
 obtain ⟨r9,a9,l9⟩:=aBx l8 hok
 unfold nX
 rw [a0]
 simp only [aA,vG]
 rw [a1]
 simp only [aA]
 rw [a2]
 simp only [aA]
 rw [a3]
 simp only [aA]
 rw [a4]
 simp only [aA]
 rw [a5]
 simp only [aA]
 rw [a6]
 simp only [aA]
 rw [a7]
 simp only [aA]
 rw [a8]
 simp only [aA]
 rw [a9]
 simp only [aA]
 rw [wP l9,zD]
 have hin:inB (o.Fatal.length:Int) 0 64=true:=by unfold inB;simp;omega
 rw [hin]
 simp only [aA,cG,eJ,gd,cL,cJ,dM,bP]
 obtain ⟨X,g1,g2⟩:=yJ (body:=qO ((o.Fatal.length:Int),r9))
  (fun s=>∃ (i:Nat) (r':aX),i≤o.Fatal.length∧s=((i:Int),r',o.Fatal.take i)∧At r' ((o.Fatal.drop i).flatMap sX++rest)) (fun s=>o.Fatal.length - s.1.toNat)
  (fun X=>∃ r',X=(r',o.Fatal)∧At r' rest) (by
   rintro s ⟨i,r',hi,rfl,hat'⟩
   unfold qO
   by_cases hlt:i<o.Fatal.length
   ·
    rw [aDo sX _ i hlt,dJ] at hat'
    obtain ⟨r3,f1,f2⟩:=aBP (most:=4096) hat' (by have:=p3 _ (bN hlt);omega)
    refine .inl ⟨((i+1:Nat),r3,o.Fatal.take (i+1)),?_,⟨i+1,r3,by omega,rfl,f2⟩,by simp;omega⟩
    simp only
    rw [dO,bB (by omega),wP hat']
    simp only [aA,cG,dM,Fl.next]
    rw [f1]
    simp only [aA]
    rw [wO (by simp;omega),nV hlt (by omega),← fF hlt]
    rfl
   ·
    obtain rfl:i=o.Fatal.length:=by omega
    refine .inr ⟨(r',o.Fatal),?_,r',rfl,by simpa using hat'⟩
    simp only
    rw [dO,aY (by omega),kY];rfl) ((0:Int),r9,[]) ⟨0,r9,by omega,by simp,by simpa using l9⟩
 obtain ⟨r',rfl,hat'⟩:=g2
 rw [g1]
 simp only [aA]
 have hokP:iL ⟨o.Queue,o.ToStart,o.ToClose,o.Total,o.Beat,o.First,o.Coef,o.Most,o.Attempts,o.Fatal⟩:=ho
 have hpP:rZ ⟨o.Queue,o.ToStart,o.ToClose,o.Total,o.Beat,o.First,o.Coef,o.Most,o.Attempts,o.Fatal⟩=true:=hp
 rw [wP hat',aB0 hokP,hpP]
 refine ⟨r',?_,hat'⟩
 simp only [aA,cG,eJ,gd,cL,cJ,dM,bP]
 rw [wP hat']
 rfl
theorem xD {r:aX}{v:aK}{rest:List UInt8} (h:At r (rO v++rest)) (hv:dX v) (hr:kR v=true) (hn:nsz v≤1200):∃ r',tR r=some (v,r')∧At r' rest:=by
 obtain ⟨q1,q2,q3⟩:=oO hr
 obtain ⟨d1,d2⟩:=aPH (hgt v) v (eP _) (by omega)
 have hw:wth v=true:=by unfold kR at hr;simp only [aR] at hr;exact hr.1
 unfold wth at hw
 rw [d1,d2] at hw
 simp only [aR,bU] at hw
 obtain ⟨r',g1,g2⟩:=aPs (2*hgt v) v 1 0 r rest h hv q2 q1 (by omega) (by omega) (by omega) (eP _)
 have g1:=aDq g1
 simp only [Int.natCast_zero] at g1
 refine ⟨r',?_,g2⟩
 unfold tR
 rw [wP h]
 simp only [aA,Int.reduceEq,dK,bP,Fl.next]
 rw [g1]
 simp only [aA]
 rw [wP g2]
 rfl

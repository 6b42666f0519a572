/- Plain laws: what the functions compute, with no program in sight. -/
import Derived.Test.YtnigjppddilpcaaGreatDoorGEPP1
import Derived.Test.YtnigjppddilpcaaGreatDoorGEF4
import Derived.Test.YtnigjppddilpcaaGreatDoorGEF10
import Derived.Test.YtnigjppddilpcaaGreatDoorGEF11
import Derived.Test.YtnigjppddilpcaaGreatDoorGEF12
import Derived.Test.YtnigjppddilpcaaGreatDoorGEPP0
import Derived.Test.YtnigjppddilpcaaGreatDoorGEF5
import Derived.Test.YtnigjppddilpcaaGreatDoorGEF7
import Derived.Test.YtnigjppddilpcaaGreatDoorGEF14
import Derived.Test.YtnigjppddilpcaaGreatDoorGEF15
namespace Go.Proofs.YtnigjppddilpcaaGreatDoor
open Go Abs
set_option linter.unusedSimpArgs false
set_option linter.unusedVariables false
theorem aG3 {b:List UInt8} (h:b.length≤140737488355328):aAp b=some ⟨b,0,0,true⟩:=by
 unfold aAp
 rw [aEC h];rfl
theorem aBj {b:List UInt8}{a e:Int}{m:Bool}:qL ⟨b,a,e,m⟩=some (cond (!m) true (!decide (e=0))):=by
 unfold qL;rfl
theorem aTe {b:List UInt8}{a e:Int}:gH ⟨b,a,e,true⟩=some e:=rfl
theorem aOE {b:List UInt8}{a e x:Int}:jS x ⟨b,a,e,true⟩=some ⟨b,a,(if e=0 then x else e),true⟩:=by
 unfold jS
 rw [aBj]
 by_cases h:e=0 <;> simp [h]
def aCe (b:List UInt8) (at_:Nat) (low high:Int):aX:=⟨b,(at_+(nN (b.drop at_) low high).2.1:Nat),(nN (b.drop at_) low high).2.2,true⟩
theorem aI0 {b:List UInt8}{at_:Nat}{low high:Int} (h1:at_≤b.length) (hb:b.length≤1000000000) :
  fF low high ⟨b,at_,0,true⟩=some ((nN (b.drop at_) low high).1,aCe b at_ low high):=by
 unfold fF
 rw [aBj]
 simp only [dA,cC,cL,aA]
 rw [aGK (by simp;omega),aA]
 unfold aCe
 generalize hrest:b.drop at_=rest
 have hrl:rest.length=b.length - at_:=by rw [← hrest];simp
 have hdrop:List.drop (Int.toNat (at_:Int)) b=rest:=by rw [mZ];exact hrest
 obtain ⟨r,hr,hq⟩:∃ r,fK (wH ⟨b,at_,0,true⟩ low high) ((0:Int),(0:Int))=some r∧Fl.next r (fun _=>some ((0:Int),aX.mk b at_ 3 true))=some ((nN rest low high).1,⟨b,(at_+(nN rest low high).2.1:Nat),(nN rest low high).2.2,true⟩):=by
  refine aDL (fun (s:Int × Int)=>∃ k:Nat,s.2=(k:Int)∧((k≤9∧k≤rest.length∧∃ u:Nat,s.1=(u:Int)∧u<128 ^ k∧xK 0 0 rest=xK k u (rest.drop k))∨(k=10∧xK 0 0 rest=.inl 3)))
   (fun s=>10 - s.2.toNat) _ ?_ ((0:Int),(0:Int)) ⟨0,rfl,.inl ⟨by simp,by simp,0,rfl,by simp,by simp⟩⟩
  rintro ⟨u0,k0⟩ ⟨k,hk0,hI⟩
  simp only at hk0 hI
  subst hk0
  unfold wH
  simp only [hdrop]
  rw [dW]
  obtain ⟨hk,hkl,u,rfl,hu,hs⟩ | ⟨rfl,hs⟩:=hI
  ·
   rw [bH (by omega),dW]
   by_cases h3:(rest.length:Int)≤k
   ·
    rw [bH h3]
    refine .inr ⟨_,rfl,?_⟩
    have hd:rest.drop k=[]:=List.drop_eq_nil_of_le (by omega)
    have hr:nN rest low high=(0,0,4):=by simp only [nN,hs,hd,xK];rw [bE (by omega)]
    rw [hr];rfl
   ·
    rw [bE h3]
    have hlt:k<rest.length:=by omega
    rw [aIs,aT hlt,aA]
    generalize hc:rest[k]=c
    have hd:rest.drop k=c :: rest.drop (k+1):=by rw [← hc];exact rO hlt
    have hcl:=c.toNat_lt
    rw [hd] at hs
    simp only [xK] at hs
    rw [bE (by omega)] at hs
    rw [aT4 (by rw [show IntKind.i64.wrap (7*(k:Int))=7*(k:Int) by rw [IntKind.wrap_i64];omega];omega),aA,aS9]
    generalize hv:mU .or .u64 (u:Int) _=v
    have hv':k≤8∨c.toNat≤1→v=((u+c.toNat % 128*128 ^ k:Nat):Int):=fun hx=>hv ▸ aSa c hk hu hx
    clear hv
    rw [dW]
    by_cases h4:(128:Int)≤(c.toNat:Int)
    ·
     rw [bH h4]
     rw [bH (by omega)] at hs
     refine .inl ⟨_,rfl,⟨k+1,by rw [w64 (by omega) (by omega)];rfl,?_⟩,by simp only [w64 (show (-9223372036854775808:Int)≤(k:Int)+1 by omega) (by omega)];omega⟩
     by_cases hk9:k=9
     ·
      refine .inr ⟨by omega,?_⟩
      rw [hs,hk9]
      cases rest.drop (9+1) <;> simp [xK]
     ·
      have hve:=hv' (.inl (by omega))
      refine .inl ⟨by omega,by omega,_,hve,?_,hs⟩
      rw [pT]
      have h3:c.toNat % 128*128 ^ k≤127*128 ^ k:=kC _ (by omega)
      omega
    ·
     rw [bE h4]
     rw [bE (by omega)] at hs
     by_cases hX:(0<k∧c.toNat=0)∨(k=9∧1<c.toNat)
     ·
      rw [bH hX] at hs
      have hr:nN rest low high=(0,0,3):=by simp only [nN,hs]
      rw [hr]
      have e:(cond (cond (decide ((0:Int)<(k:Int))) (decide ((c.toNat:Int)=0)) false) true (cond (decide ((k:Int)=9)) (decide ((1:Int)<(c.toNat:Int))) false))=true:=by
       rcases hX with ⟨h5,h6⟩ | ⟨h5,h6⟩
       ·
        simp [h6];omega
       ·
        simp [h5];omega
      rw [e,dJ]
      exact .inr ⟨_,rfl,rfl⟩
     ·
      rw [bE hX] at hs
      have e:(cond (cond (decide ((0:Int)<(k:Int))) (decide ((c.toNat:Int)=0)) false) true (cond (decide ((k:Int)=9)) (decide ((1:Int)<(c.toNat:Int))) false))=false:=by
       simp only [nP]
       by_cases h5:0<k <;> by_cases h6:c.toNat=0 <;> by_cases h7:k=9 <;> by_cases h8:1<c.toNat <;> simp <;> omega
      rw [e,cC]
      have hve:=hv' (by omega)
      have hmod:c.toNat % 128=c.toNat:=by omega
      rw [hmod] at hve
      clear hv'
      subst hve
      have hw:(u+c.toNat*128 ^ k)<18446744073709551616:=by
       have:k=0∨k=1∨k=2∨k=3∨k=4∨k=5∨k=6∨k=7∨k=8∨k=9:=by omega
       rcases this with rfl | rfl | rfl | rfl | rfl | rfl | rfl | rfl | rfl | rfl <;> omega
      generalize u+c.toNat*128 ^ k=w at hs hw
      have hr:nN rest low high=if aCa w<low∨high<aCa w then (0,k+1,14) else (aCa w,k+1,0):=by simp only [nN,hs]
      rw [hr,show (2:Int) ^ min (Int.toNat 1) IntKind.u64.bits=2 from sh1,aP4 hw,aRT (by omega) hk]
      refine .inr ?_
      by_cases hlow:aCa w<low
      ·
       rw [bH (.inl hlow)]
       simp only [hlow,cL,dJ]
       exact ⟨_,rfl,rfl⟩
      ·
       by_cases hhigh:high<aCa w
       ·
        rw [bH (.inr hhigh)]
        simp only [hlow,hhigh,cL,dR,dJ,cC]
        exact ⟨_,rfl,rfl⟩
       ·
        rw [bE (by omega)]
        simp only [hlow,hhigh,cL,dR,dJ,cC]
        exact ⟨_,rfl,rfl⟩
  ·
   rw [bE (by omega)]
   refine .inr ⟨_,rfl,?_⟩
   have hr:nN rest low high=(0,0,3):=by simp only [nN,hs]
   rw [hr];rfl
 rw [hr,aA]
 exact hq
theorem aMG {k u:Nat} (h:u*128 ^ k<18446744073709551616) (hu:0<u):k≤9:=by
 refine oF fun hk=>?_
 have h1:128 ^ 10≤128 ^ k:=Nat.pow_le_pow_right (by omega) (by omega)
 have h2:1*128 ^ k≤u*128 ^ k:=kC _ hu
 have h3:(128:Nat) ^ 10=1180591620717411303424:=by decide
 omega
theorem aPT (rest:List UInt8):∀ (u k acc:Nat),(k=0∨0<u)→u*128 ^ k<18446744073709551616→xK k acc (aAW u++rest)=.inr (acc+u*128 ^ k,k+(aAW u).length):=by
 intro u
 induction u using Nat.strongRecOn with
 | _ u ih =>
  intro k acc h0 hlt
  have hk:k≤9:=by
   rcases h0 with h | h
   ·
    omega
   ·
    exact aMG hlt h
  by_cases h:u<128
  ·
   rw [aIG h]
   have e:(UInt8.ofNat u).toNat=u:=by simp;omega
   simp only [List.cons_append,sT,xK,e]
   rw [bE (by omega),bE (by omega),bE]
   ·
    rfl
   ·
    rintro (⟨h1,h2⟩ | ⟨h1,h2⟩)
    ·
     omega
    ·
     subst h1
     have:(128:Nat) ^ 9=9223372036854775808:=by decide
     rw [this] at hlt
     omega
  ·
   rw [aLH h]
   have e:(UInt8.ofNat (128+u % 128)).toNat=128+u % 128:=by simp;omega
   simp only [List.cons_append,xK,e]
   rw [bE (by omega),bH (by omega)]
   have hs:128 ^ (k+1)=128 ^ k*128:=pT ..
   have hm:u / 128*128 ^ (k+1)+u % 128*128 ^ k=u*128 ^ k:=by
    rw [hs,rP (128 ^ k) 128,← Nat.mul_assoc,← jD,rP (u / 128) 128,Nat.div_add_mod]
   rw [ih (u / 128) (by omega) (k+1) _ (.inr (by omega)) (by omega),show (128+u % 128) % 128=u % 128 by omega]
   simp only [fU,Sum.inr.injEq,oQ]
   exact ⟨by omega,by omega⟩
theorem aKL {n low high:Int} (rest:List UInt8) (h1:-9223372036854775808≤n) (h2:n≤9223372036854775807) :
  nN (aAW (zz n)++rest) low high=if n<low∨high<n then (0,(aAW (zz n)).length,14) else (n,(aAW (zz n)).length,0):=by
 have h:=aO7 h1 h2
 unfold nN
 rw [aPT rest (zz n) 0 0 (.inl rfl) (by simpa using h)]
 simp only [kY,Nat.pow_zero,Nat.mul_one,aSK]
theorem aKO:∀ (l:List UInt8) (k u w n:Nat),xK k u l=.inr (w,n)→n≤k+l.length
 | [],k,u,w,n,h=>by simp only [xK] at h;split at h <;> cases h
 | c :: r,k,u,w,n,h=>by
  simp only [xK] at h
  split at h
  ·
   cases h
  ·
   split at h
   ·
    have:=aKO r _ _ _ _ h
    simp only [fU]
    omega
   ·
    split at h
    ·
     cases h
    ·
     cases h
     simp only [fU]
     omega
theorem aFf (l:List UInt8) (low high:Int):(nN l low high).2.1≤l.length:=by
 unfold nN
 split
 ·
  simp
 ·
  rename_i u k h
  have:=aKO l 0 0 u k h
  split <;> simp <;> omega
theorem aLl {l:List UInt8}{low high:Int} (h:(nN l low high).2.2=0):low≤(nN l low high).1∧(nN l low high).1≤high:=by
 unfold nN at h ⊢
 split
 ·
  rename_i e hs
  rw [hs] at h
  simp only at h
  exfalso
  have key:∀ (l:List UInt8) (k u e:Nat),xK k u l=.inl e→e=3∨e=4:=by
   intro l
   induction l with
   | nil=>intro k u e h;simp only [xK] at h;split at h <;> cases h <;> simp
   | cons c r ih =>
    intro k u e h
    simp only [xK] at h
    split at h
    ·
     cases h;simp
    ·
     split at h
     ·
      exact ih _ _ _ h
     ·
      split at h <;> cases h
      simp
  rcases key _ _ _ _ hs with h2 | h2 <;> omega
 ·
  rename_i u k hs
  rw [hs] at h
  simp only at h
  by_cases hc:aCa u<low∨high<aCa u
  ·
   rw [bH hc] at h;simp at h
  ·
   rw [bE hc];simp only;omega
def aKM (b:List UInt8) (at_:Nat) (most:Int):List UInt8 × aX :=
 if (nN (b.drop at_) 0 most).2.2≠0 then ([],aCe b at_ 0 most)
 else if (b.length:Int) - (at_+(nN (b.drop at_) 0 most).2.1:Nat)<(nN (b.drop at_) 0 most).1 then ([],⟨b,(at_+(nN (b.drop at_) 0 most).2.1:Nat),4,true⟩)
 else ((b.drop (at_+(nN (b.drop at_) 0 most).2.1)).take (nN (b.drop at_) 0 most).1.toNat,⟨b,(at_+(nN (b.drop at_) 0 most).2.1+(nN (b.drop at_) 0 most).1.toNat:Nat),0,true⟩)
theorem aLx {b:List UInt8}{at_:Nat}{most:Int} (h1:at_≤b.length) (hb:b.length≤1000000000):iF most ⟨b,at_,0,true⟩=some (aKM b at_ most):=by
 have hu:=aFf (b.drop at_) 0 most
 rw [kH] at hu
 unfold iF aKM
 rw [aI0 h1 hb,aA]
 unfold aCe
 rw [aBj,aA]
 by_cases he:(nN (b.drop at_) 0 most).2.2=0
 ·
  have hin:=aLl he
  generalize hr:nN (b.drop at_) 0 most=r at *
  obtain ⟨v,k,e⟩:=r
  simp only at he hin hu
  subst he
  simp only [dA,cC,Int.natCast_zero,cL,dW,ne_eq,not_true_eq_false,eU]
  rw [w64 (by omega) (by omega)]
  by_cases h3:(b.length:Int) - (at_+k:Nat)<v
  ·
   rw [bH h3,bH h3]
  ·
   rw [bE h3,bE h3,w64 (by omega) (by omega),aSl (by omega),aA]
   have e1:(((at_+k:Nat):Int)+v).toNat=at_+k+v.toNat:=by omega
   rw [e1,mZ,tT,show at_+k+v.toNat - (at_+k)=v.toNat by omega]
   congr 3
   omega
 ·
  rw [bH he]
  have:decide (((nN (b.drop at_) 0 most).2.2:Int)=0)=false:=by simp;omega
  simp only [this,dA,fZ,cC,dJ]
def rR:List UInt8→Nat
 | []=>0
 | c :: r=>c.toNat % 128+128*rR r
theorem aM0:∀ (l:List UInt8) (k u w n:Nat),xK k u l=.inr (w,n)→k<n∧n≤k+l.length∧w=u+128 ^ k*rR (l.take (n - k))
 | [],k,u,w,n,h=>by simp only [xK] at h;split at h <;> cases h
 | c :: r,k,u,w,n,h=>by
  simp only [xK] at h
  split at h
  ·
   cases h
  ·
   split at h
   ·
    obtain ⟨h1,h2,h3⟩:=aM0 r _ _ _ _ h
    refine ⟨by omega,by simp only [fU];omega,?_⟩
    rw [show n - k=(n - (k+1))+1 by omega,List.take_succ_cons,rR,h3,pT,Nat.mul_add,Nat.mul_assoc,mM,rP (c.toNat % 128)]
   ·
    rename_i h3
    split at h
    ·
     cases h
    ·
     cases h
     refine ⟨by omega,by simp,?_⟩
     rw [show k+1 - k=0+1 by omega,List.take_succ_cons,rR,List.take_zero,rR,show c.toNat % 128=c.toNat by omega,Nat.mul_zero,tP,rP]
theorem aLv:∀ (l:List UInt8) (k u w n:Nat),xK k u l=.inr (w,n)→k≤9→u<128 ^ k→w<18446744073709551616
 | [],k,u,w,n,h,_,_=>by simp only [xK] at h;split at h <;> cases h
 | c :: r,k,u,w,n,h,hk,hu=>by
  have hc:=c.toNat_lt
  simp only [xK] at h
  split at h
  ·
   cases h
  ·
   split at h
   ·
    have hlt:u+c.toNat % 128*128 ^ k<128 ^ (k+1):=by
     rw [pT]
     have:c.toNat % 128*128 ^ k≤127*128 ^ k:=kC _ (by omega)
     omega
    by_cases hk9:k=9
    ·
     exfalso
     subst hk9
     cases r with
     | nil=>simp [xK] at h
     | cons d r=>simp [xK] at h
    ·
     exact aLv r _ _ _ _ h (by omega) hlt
   ·
    split at h
    ·
     cases h
    ·
     rename_i h3 h4
     cases h
     have:k=0∨k=1∨k=2∨k=3∨k=4∨k=5∨k=6∨k=7∨k=8∨k=9:=by omega
     rcases this with rfl | rfl | rfl | rfl | rfl | rfl | rfl | rfl | rfl | rfl <;> omega
theorem aMZ:∀ (l:List UInt8) (k u e:Nat),xK k u l=.inl e→e=3∨e=4
 | [],k,u,e,h=>by simp only [xK] at h;split at h <;> cases h <;> simp
 | c :: r,k,u,e,h=>by
  simp only [xK] at h
  split at h
  ·
   cases h;simp
  ·
   split at h
   ·
    exact aMZ r _ _ _ h
   ·
    split at h <;> cases h
    simp
def aDU (rest:List UInt8):Int × Int:=match xK 0 0 rest with
 | .inl e=>(0,(e:Int))
 | .inr (_,n)=>((n:Int),0)
theorem aQx {m:Bool}{rest:List UInt8}{x:Int} (hr:rest.length≤1000000000):sY ⟨m,rest,x⟩=some (aDU rest):=by
 unfold sY
 obtain ⟨r,h1,h2⟩:∃ r,fK (tI ⟨m,rest,x⟩) (1:Int)=some r∧Fl.next r (fun _=>some ((0:Int),(3:Int)))=some (aDU rest):=by
  refine aDL (fun (s:Int)=>∃ k:Nat,s=(k:Int)+1∧((k≤9∧k≤rest.length∧∃ u:Nat,xK 0 0 rest=xK k u (rest.drop k))∨(k=10∧xK 0 0 rest=.inl 3))) (fun s=>12 - s.toNat) _ ?_ 1 ⟨0,rfl,.inl ⟨by omega,by omega,0,by simp⟩⟩
  rintro s ⟨k,rfl,hI⟩
  unfold tI
  rw [dW]
  obtain ⟨hk,hkl,u,hs⟩ | ⟨rfl,hs⟩:=hI
  ·
   rw [bH (by omega),dW]
   by_cases h3:(rest.length:Int)<(k:Int)+1
   ·
    rw [bH h3]
    refine .inr ⟨_,rfl,?_⟩
    have hd:rest.drop k=[]:=List.drop_eq_nil_of_le (by omega)
    rw [hd] at hs
    simp only [xK] at hs
    rw [bE (by omega)] at hs
    simp only [aDU,hs];rfl
   ·
    rw [bE h3]
    have hlt:k<rest.length:=by omega
    rw [w64 (by omega) (by omega),show (k:Int)+1 - 1=(k:Int) by omega,aIs,aT hlt,aA]
    generalize hc:rest[k]=c
    have hd:rest.drop k=c :: rest.drop (k+1):=by rw [← hc];exact rO hlt
    rw [hd] at hs
    simp only [xK] at hs
    rw [bE (by omega)] at hs
    rw [dW]
    by_cases h4:(c.toNat:Int)<128
    ·
     rw [bH h4]
     rw [bE (by omega)] at hs
     by_cases hX:(0<k∧c.toNat=0)∨(k=9∧1<c.toNat)
     ·
      rw [bH hX] at hs
      have e:(cond (cond (decide ((1:Int)<(k:Int)+1)) (decide ((c.toNat:Int)=0)) false) true (cond (decide ((k:Int)+1=10)) (decide ((1:Int)<(c.toNat:Int))) false))=true:=by
       rcases hX with ⟨h5,h6⟩ | ⟨h5,h6⟩
       ·
        have:(1:Int)<(k:Int)+1:=by omega
        simp [h6,this]
       ·
        simp [h5];omega
      rw [e,dJ]
      refine .inr ⟨_,rfl,?_⟩
      simp only [aDU,hs];rfl
     ·
      rw [bE hX] at hs
      have e:(cond (cond (decide ((1:Int)<(k:Int)+1)) (decide ((c.toNat:Int)=0)) false) true (cond (decide ((k:Int)+1=10)) (decide ((1:Int)<(c.toNat:Int))) false))=false:=by
       simp only [nP]
       by_cases h5:0<k <;> by_cases h6:c.toNat=0 <;> by_cases h7:k=9 <;> by_cases h8:1<c.toNat <;> simp <;> omega
      rw [e,cC]
      refine .inr ⟨_,rfl,?_⟩
      simp only [aDU,hs];rfl
    ·
     rw [bE h4]
     rw [bH (by omega)] at hs
     refine .inl ⟨_,rfl,⟨k+1,by rw [w64 (by omega) (by omega)];omega,?_⟩,by rw [w64 (by omega) (by omega)];omega⟩
     by_cases hk9:k=9
     ·
      refine .inr ⟨by omega,?_⟩
      rw [hs,hk9]
      cases rest.drop (9+1) <;> simp [xK]
     ·
      exact .inl ⟨by omega,by omega,_,hs⟩
  ·
   rw [bE (by omega)]
   refine .inr ⟨_,rfl,?_⟩
   simp only [aDU,hs];rfl
 rw [h1,aA]
 exact h2
theorem aTM (c:UInt8) (r:List UInt8):rR r≤rR (c :: r):=by simp only [rR];omega
theorem aNb:∀ (l:List UInt8) (j:Nat),rR (l.drop j)≤rR l
 | [],j=>by simp
 | c :: r,0=>by simp
 | c :: r,j+1=>iR (aNb r j) (aTM c r)
theorem aOb {m:Bool}{rest:List UInt8}{x:Int}{k:Nat} (hk:k≤rest.length) (hw:rR (rest.take k)<18446744073709551616) (hr:rest.length≤1000000000):fK (uX ⟨m,rest,x⟩) ((0:Int),(k:Int) - 1)=some (rR (rest.take k):Int):=by
 refine aIv (fun (s:Int × Int)=>∃ j:Nat,s.2=(j:Int) - 1∧j≤k∧s.1=(rR ((rest.take k).drop j):Int)) (fun s=>(s.2+1).toNat) (fun _=>(rR (rest.take k):Int)) ?_ _ ⟨k,rfl,iV _,by simp [rR]⟩
 rintro ⟨u,i⟩ ⟨j,hi,hj,hu⟩
 simp only at hi hu
 subst hi hu
 unfold uX
 simp only [dW]
 cases j with
 | zero =>
  rw [bE (by omega),List.drop_zero]
  exact .inr rfl
 | succ j =>
  rw [bH (by omega),show ((j+1:Nat):Int) - 1=(j:Int) by omega,aIs,aT (by omega),aA]
  have hlt:j<(rest.take k).length:=by simp;omega
  have hd:(rest.take k).drop j=rest[j] :: (rest.take k).drop (j+1):=by rw [rO hlt];congr 1;simp
  have hv:rR ((rest.take k).drop j)=rest[j].toNat % 128+128*rR ((rest.take k).drop (j+1)):=by rw [hd,rR]
  have hb:=Nat.lt_of_le_of_lt (aNb (rest.take k) j) hw
  have e:IntKind.u64.wrap (IntKind.u64.wrap ((rR ((rest.take k).drop (j+1)):Int)*128)+IntKind.u64.wrap ((rest[j].toNat:Int).tmod 128))=(rR ((rest.take k).drop j):Int):=by
   rw [nX (by omega)]
   simp only [IntKind.wrap_u64]
   omega
  rw [e,w64 (by omega) (by omega)]
  refine .inl ⟨((rR ((rest.take k).drop j):Int),(j:Int) - 1),rfl,⟨j,rfl,by omega,rfl⟩,?_,trivial⟩
  simp only
  omega
def aDr (rest:List UInt8) (low high:Int):aV:=⟨true,if (nN rest low high).2.2=0 then rest.drop (nN rest low high).2.1 else [],(nN rest low high).2.2⟩
theorem aKN {rest:List UInt8}{low high:Int} (hr:rest.length≤1000000000):jG low high ⟨true,rest,0⟩=some ((nN rest low high).1,aDr rest low high):=by
 unfold jG iY
 rw [aQx hr]
 simp only [aA,dA,cC,cL,aB2]
 unfold aDU aDr
 cases hs:xK 0 0 rest with
 | inl e =>
  have he:=aMZ rest 0 0 e hs
  have hr:nN rest low high=(0,0,e):=by simp only [nN,hs]
  rw [hr]
  simp only
  rw [bE (by omega),bE (by omega)]
  rfl
 | inr wn =>
  obtain ⟨w,n⟩:=wn
  obtain ⟨h1,h2,h3⟩:=aM0 rest 0 0 w n hs
  have h4:=aLv rest 0 0 w n hs (by omega) (by omega)
  simp only [Nat.sub_zero,Nat.pow_zero,Nat.one_mul,kY] at h2 h3
  subst h3
  have hr:nN rest low high=if aCa (rR (rest.take n))<low∨high<aCa (rR (rest.take n)) then (0,n,14) else (aCa (rR (rest.take n)),n,0):=by simp only [nN,hs]
  rw [hr]
  simp only [dP]
  rw [w64 (by omega) (by omega),aOb h2 h4 (by omega),aA]
  generalize rR (rest.take n)=w at *
  have e1:(cond (decide ((w:Int).tmod 2=1)) (some (IntKind.i64.wrap (IntKind.i64.wrap (0 - IntKind.i64.wrap (IntKind.u64.wrap ((w:Int).tdiv 2))) - 1))) (some (IntKind.i64.wrap (IntKind.u64.wrap ((w:Int).tdiv 2)))))=some (aCa w):=by
   have e2:(w:Int).tdiv 2=((w / 2:Nat):Int):=by rw [Int.tdiv_eq_ediv_of_nonneg (by omega)];omega
   have e3:(w:Int).tmod 2=((w % 2:Nat):Int):=by rw [nX (by omega)];omega
   rw [e2,e3,dW,aVg (by omega) (by omega),w64 (x:=((w / 2:Nat):Int)) (by omega) (by omega)]
   unfold aCa
   by_cases h5:w % 2=1
   ·
    rw [bH (by omega),bH h5,w64 (x:=0 - ((w / 2:Nat):Int)) (by omega) (by omega),w64 (by omega) (by omega)]
    congr 1
    omega
   ·
    rw [bE (by omega),bE h5]
  rw [e1,aA]
  by_cases hlow:aCa w<low
  ·
   rw [bH (.inl hlow)]
   simp only [hlow,cL,dJ,mN,aA]
   simp
  ·
   by_cases hhigh:high<aCa w
   ·
    rw [bH (.inr hhigh)]
    simp only [hlow,hhigh,cL,dR,dJ,cC,mN,aA]
    simp
   ·
    rw [bE (by omega)]
    simp only [hlow,hhigh,cL,dR,dJ,cC]
    rw [aGK (by omega),aA]
    simp
def aLs (rest:List UInt8) (most:Int):List UInt8 × aV :=
 if (nN rest 0 most).2.2≠0 then ([],aDr rest 0 most)
 else if ((rest.drop (nN rest 0 most).2.1).length:Int)<(nN rest 0 most).1 then ([],⟨true,[],4⟩)
 else ((rest.drop (nN rest 0 most).2.1).take (nN rest 0 most).1.toNat,⟨true,(rest.drop (nN rest 0 most).2.1).drop (nN rest 0 most).1.toNat,0⟩)
theorem aOd {rest:List UInt8}{most:Int} (hr:rest.length≤1000000000):gA most ⟨true,rest,0⟩=some (aLs rest most):=by
 have hu:=aFf rest 0 most
 unfold gA aLs
 rw [aKN hr,aA]
 unfold aDr iY
 simp only [aA,dA,cC]
 by_cases he:(nN rest 0 most).2.2=0
 ·
  have hin:=aLl he
  have he2:((nN rest 0 most).2.2:Int)=0:=by omega
  simp only [he,he2,dP,ne_eq,not_true_eq_false,eU]
  generalize hd:rest.drop (nN rest 0 most).2.1=d
  simp only [Int.ofNat_zero,Int.natCast_zero,cL,dA,cC,dW]
  by_cases h3:(d.length:Int)<(nN rest 0 most).1
  ·
   rw [bH h3,bH h3];rfl
  ·
   rw [bE h3,bE h3,aLw (by omega),aA,aGK (by omega),aA]
 ·
  rw [bH he]
  have e:decide (((nN rest 0 most).2.2:Int)=0)=false:=by simp;omega
  simp only [e,fZ,dJ]
def aNi (r:aX) (w:aV):Prop:=∃ (b:List UInt8) (a:Nat) (e:Int),b.length≤1000000000∧a≤b.length∧r=⟨b,a,e,true⟩∧w=⟨true,if e=0 then b.drop a else [],e⟩
theorem aQZ {r:aX}{w:aV}{low high:Int} (h:aNi r w):∃ x r' w',fF low high r=some (x,r')∧jG low high w=some (x,w')∧aNi r' w':=by
 obtain ⟨b,a,e,hb,ha,rfl,rfl⟩:=h
 by_cases h:e=0
 ·
  subst h
  have hu:=aFf (b.drop a) low high
  rw [kH] at hu
  refine ⟨_,_,_,aI0 ha hb,aKN (by simp;omega),b,a+(nN (b.drop a) low high).2.1,(nN (b.drop a) low high).2.2,hb,by omega,rfl,?_⟩
  unfold aDr
  simp only [dP]
  by_cases h2:(nN (b.drop a) low high).2.2=0
  ·
   rw [bH h2,bH (by omega),rH]
  ·
   rw [bE h2,bE (by omega)]
 ·
  refine ⟨0,⟨b,a,e,true⟩,⟨true,[],e⟩,?_,?_,b,a,e,hb,ha,rfl,by simp [h]⟩
  ·
   unfold fF;rw [aBj];simp [h]
  ·
   unfold jG iY;simp [h]
theorem aPF {r:aX}{w:aV}{most:Int} (h:aNi r w):∃ x r' w',iF most r=some (x,r')∧gA most w=some (x,w')∧aNi r' w':=by
 obtain ⟨b,a,e,hb,ha,rfl,rfl⟩:=h
 by_cases h:e=0
 ·
  subst h
  have hu:=aFf (b.drop a) 0 most
  rw [kH] at hu
  rw [aLx ha hb]
  simp only [dP]
  rw [aOd (by simp;omega)]
  unfold aKM aLs aCe aDr
  by_cases he:(nN (b.drop a) 0 most).2.2=0
  ·
   have hin:=aLl he
   have he2:((nN (b.drop a) 0 most).2.2:Int)=0:=by omega
   simp only [he,he2,dP,ne_eq,not_true_eq_false,eU]
   have e1:((List.drop (nN (b.drop a) 0 most).2.1 (b.drop a)).length:Int)=(b.length:Int) - (a+(nN (b.drop a) 0 most).2.1:Nat):=by simp;omega
   rw [e1]
   by_cases h3:(b.length:Int) - (a+(nN (b.drop a) 0 most).2.1:Nat)<(nN (b.drop a) 0 most).1
   ·
    rw [bH h3,bH h3]
    exact ⟨_,_,_,rfl,rfl,b,_,4,hb,by omega,rfl,by simp⟩
   ·
    rw [bE h3,bE h3]
    refine ⟨_,_,_,rfl,by rw [rH],b,_,0,hb,by omega,rfl,?_⟩
    simp [mM]
  ·
   simp only [ne_eq,he,not_false_eq_true,dP]
   refine ⟨_,_,_,rfl,rfl,b,_,_,hb,by omega,rfl,?_⟩
   have he2:¬((nN (b.drop a) 0 most).2.2:Int)=0:=by omega
   simp only [he2,eU]
 ·
  refine ⟨[],⟨b,a,e,true⟩,⟨true,[],e⟩,?_,?_,b,a,e,hb,ha,rfl,by simp [h]⟩
  ·
   unfold iF fF;rw [aBj];simp [h,aBj]
  ·
   unfold gA jG iY;simp [h]
def kJ (e:Int) (r:aX) (w:aV):Prop:=∃ (b:List UInt8) (a:Nat),b.length≤1000000000∧a≤b.length∧r=⟨b,a,e,true⟩∧w=⟨true,if e=0 then b.drop a else [],e⟩
theorem aQY {r:aX}{w:aV} (h:aNi r w):∃ e,kJ e r w:=by
 obtain ⟨b,a,e,h1,h2,h3,h4⟩:=h
 exact ⟨e,b,a,h1,h2,h3,h4⟩
theorem oD {e:Int}{r:aX}{w:aV} (h:kJ e r w):gH r=some e∧kN w=some e:=by
 obtain ⟨b,a,_,_,rfl,rfl⟩:=h
 exact ⟨rfl,rfl⟩
theorem aGo {e:Int}{r:aX}{w:aV} (x:Int) (h:kJ e r w):∃ r' w',jS x r=some r'∧kO x w=some w'∧kJ (if e=0 then x else e) r' w':=by
 obtain ⟨b,a,hb,ha,rfl,rfl⟩:=h
 refine ⟨_,_,aOE,?_,b,a,hb,ha,rfl,rfl⟩
 unfold kO iY mN
 by_cases h:e=0
 ·
  by_cases h2:x=0
  ·
   simp [h,h2]
  ·
   simp [h,h2]
 ·
  simp [h]
theorem aRg (l:List UInt8) (low high:Int):sQ (nN l low high).1:=by
 unfold nN
 split
 ·
  simp [sQ]
 ·
  rename_i u k hs
  have:=aSJ (aLv l 0 0 u k hs (by omega) (by simp))
  split
  ·
   simp [sQ]
  ·
   exact this
theorem aCp {e:Int}{r:aX}{w:aV} (low high:Int) (h:kJ e r w):∃ x e' r' w',fF low high r=some (x,r')∧jG low high w=some (x,w')∧kJ e' r' w'∧sQ x∧(e≠0→x=0∧e'=e)∧(e'=0→e=0):=by
 by_cases he:e=0
 ·
  subst he
  obtain ⟨b,a,hb,ha,rfl,rfl⟩:=h
  have hl:aNi ⟨b,a,0,true⟩ ⟨true,if (0:Int)=0 then b.drop a else [],0⟩:=⟨b,a,0,hb,ha,rfl,rfl⟩
  obtain ⟨x,r',w',h1,h2,h3⟩:=aQZ (low:=low) (high:=high) hl
  obtain ⟨e',h4⟩:=aQY h3
  refine ⟨x,e',r',w',h1,h2,h4,?_,fun h=>absurd rfl h,fun _=>rfl⟩
  rw [aI0 ha hb] at h1
  cases h1
  exact aRg _ _ _
 ·
  obtain ⟨b,a,hb,ha,rfl,rfl⟩:=h
  refine ⟨0,e,⟨b,a,e,true⟩,⟨true,if e=0 then b.drop a else [],e⟩,?_,?_,⟨b,a,hb,ha,rfl,rfl⟩,by simp [sQ],fun _=>⟨rfl,rfl⟩,fun h=>absurd h he⟩
  ·
   unfold fF;rw [aBj];simp [he]
  ·
   unfold jG iY;simp [he]
theorem aCW {e:Int}{r:aX}{w:aV} (most:Int) (h:kJ e r w):∃ x e' r' w',iF most r=some (x,r')∧gA most w=some (x,w')∧kJ e' r' w'∧x.length≤1000000000∧(e≠0→x=[]∧e'=e)∧(e'=0→e=0):=by
 by_cases he:e=0
 ·
  subst he
  obtain ⟨b,a,hb,ha,rfl,rfl⟩:=h
  have hl:aNi ⟨b,a,0,true⟩ ⟨true,if (0:Int)=0 then b.drop a else [],0⟩:=⟨b,a,0,hb,ha,rfl,rfl⟩
  obtain ⟨x,r',w',h1,h2,h3⟩:=aPF (most:=most) hl
  obtain ⟨e',h4⟩:=aQY h3
  refine ⟨x,e',r',w',h1,h2,h4,?_,fun h=>absurd rfl h,fun _=>rfl⟩
  rw [aLx ha hb] at h1
  have:x=(aKM b a most).1:=by rw [hS h1]
  rw [this]
  unfold aKM
  split
  ·
   simp
  ·
   split
   ·
    simp
   ·
    simp only [pM,kH];omega
 ·
  obtain ⟨b,a,hb,ha,rfl,rfl⟩:=h
  refine ⟨[],e,⟨b,a,e,true⟩,⟨true,if e=0 then b.drop a else [],e⟩,?_,?_,⟨b,a,hb,ha,rfl,rfl⟩,by simp,fun _=>⟨rfl,rfl⟩,fun h=>absurd h he⟩
  ·
   unfold iF fF;rw [aBj];simp [he,aBj]
  ·
   unfold gA jG iY;simp [he]
theorem aOJ {b:List UInt8} (h:b.length≤1000000000):∃ r w,aAp b=some r∧aBb b=some w∧kJ 0 r w:=by
 refine ⟨_,⟨true,b,0⟩,aG3 (by omega),?_,b,0,h,by omega,rfl,by simp⟩
 unfold aBb
 rw [wW (by simp;omega)];simp
def eIf (c:Bool) (e:Int):Int:=if e=0 then (if c then 0 else 3) else e
theorem aQD {c:Bool}{e:Int}:eIf c e=0↔e=0∧c=true:=by
 unfold eIf
 by_cases h:e=0
 ·
  cases c <;> simp [h]
 ·
  simp [h]
theorem aGs {σ τ ρ θ:Type}{b1:σ→Option (dU σ ρ)}{b2:τ→Option (dU τ θ)} (R:σ→τ→Prop) (m:σ→Nat) (Q:ρ→θ→Prop)
  (h:∀ s t,R s t→(∃ s' t',b1 s=some (.next s')∧b2 t=some (.next t')∧R s' t'∧m s'<m s)∨(∃ x y,b1 s=some (.out x)∧fK b2 t=some y∧Q x y)) :
  ∀ s t,R s t→∃ x y,fK b1 s=some x∧fK b2 t=some y∧Q x y:=by
 have key:∀ n s t,m s≤n→R s t→∃ x y,fK b1 s=some x∧fK b2 t=some y∧Q x y:=by
  intro n
  induction n with
  | zero =>
   intro s t hm hr
   rcases h s t hr with ⟨s',t',h1,h2,h3,h4⟩ | ⟨x,y,h1,h2,h3⟩
   ·
    omega
   ·
    exact ⟨x,y,pY h1,h2,h3⟩
  | succ n ih =>
   intro s t hm hr
   rcases h s t hr with ⟨s',t',h1,h2,h3,h4⟩ | ⟨x,y,h1,h2,h3⟩
   ·
    obtain ⟨x,y,g1,g2,g3⟩:=ih s' t' (by omega) h3
    exact ⟨x,y,by rw [mX h1,g1],by rw [mX h2,g2],g3⟩
   ·
    exact ⟨x,y,pY h1,h2,h3⟩
 exact fun s t hr=>key _ s t (iV _) hr
theorem aMa:∀ (a b:List UInt8),(!(Op.bytesLess a b||decide (a=b)))=Op.bytesLess b a
 | [],[]=>by simp [Op.bytesLess]
 | [],y :: b=>by simp [Op.bytesLess]
 | x :: a,[]=>by simp [Op.bytesLess]
 | x :: a,y :: b=>by
  simp only [Op.bytesLess,List.cons.injEq]
  have ih:=aMa a b
  by_cases h1:x<y
  ·
   have h2:¬y<x:=fun h=>absurd (UInt8.lt_trans h1 h) (UInt8.lt_irrefl _)
   have h3:¬y=x:=fun h=>by subst h;exact UInt8.lt_irrefl _ h1
   simp [h1,h2,h3]
  ·
   by_cases h2:y<x
   ·
    have h3:¬x=y:=fun h=>by subst h;exact UInt8.lt_irrefl _ h2
    simp [h1,h2,h3]
   ·
    have h3:x=y:=UInt8.le_antisymm (UInt8.not_lt.1 h2) (UInt8.not_lt.1 h1)
    subst h3
    simpa [h1] using ih
def aDl (n:Int):List UInt8:=aAW (zz n)
def aHu (s:List UInt8):List UInt8:=aAW (zz s.length)++s
theorem aRf {b:List UInt8}{n:Int} (hb:b.length≤10000000000000) (h:sQ n):iZ b n=some (b++aDl n):=aE8 hb h.1 h.2
theorem aUg {b s:List UInt8} (hb:b.length≤10000000000000) (hs:s.length≤10000000000000):mH b s=some (b++aHu s):=by rw [aIn hb hs,aHu,iU]
def At (r:aX) (rest:List UInt8):Prop:=∃ (b:List UInt8) (a:Nat),b.length≤1000000000∧a≤b.length∧r=⟨b,a,0,true⟩∧b.drop a=rest
theorem aIM {r:aX}{l:List UInt8} (h:At r l):gH r=some 0:=by
 obtain ⟨b,a,_,_,rfl,_⟩:=h
 rfl
theorem aRR {b:List UInt8} (h:b.length≤1000000000):∃ r,aAp b=some r∧At r b:=⟨_,aG3 (by omega),b,0,h,by omega,rfl,rfl⟩
theorem aQn {r:aX}{n low high:Int}{rest:List UInt8} (h:At r (aDl n++rest)) (hn:sQ n) (h1:low≤n) (h2:n≤high):∃ r',fF low high r=some (n,r')∧At r' rest:=by
 obtain ⟨b,a,hb,ha,rfl,hd⟩:=h
 have hr:=aKL (low:=low) (high:=high) rest hn.1 hn.2
 rw [bE (by omega)] at hr
 have hlen:(aDl n).length≤b.length - a:=by
  have:=congrArg List.length hd
  simp only [kH,jC] at this
  omega
 refine ⟨_,by rw [aI0 ha hb,hd];unfold aDl;rw [hr],b,a+(aDl n).length,hb,by omega,?_,?_⟩
 ·
  unfold aCe
  rw [hd];unfold aDl;rw [hr];rfl
 ·
  rw [← rH,hd,List.drop_left]
theorem aRS {r:aX}{s:List UInt8}{most:Int}{rest:List UInt8} (h:At r (aHu s++rest)) (hs:(s.length:Int)≤most):∃ r',iF most r=some (s,r')∧At r' rest:=by
 obtain ⟨b,a,hb,ha,rfl,hd⟩:=h
 have hl:=congrArg List.length hd
 simp only [kH,jC,aHu] at hl
 have hr:=aKL (low:=0) (high:=most) (s++rest) (n:=(s.length:Int)) (by omega) (by omega)
 rw [bE (by omega)] at hr
 have hd':b.drop a=aAW (zz s.length)++(s++rest):=by rw [hd,aHu,iU]
 have hd2:b.drop (a+(aAW (zz s.length)).length)=s++rest:=by rw [← rH,hd',List.drop_left]
 refine ⟨⟨b,(a+(aAW (zz s.length)).length+s.length:Nat),0,true⟩,?_,b,a+(aAW (zz s.length)).length+s.length,hb,by omega,rfl,?_⟩
 ·
  rw [aLx ha hb]
  unfold aKM
  rw [hd',hr]
  simp only [ne_eq,not_true_eq_false,eU]
  rw [bE (by omega),hd2]
  simp
 ·
  rw [← rH,hd2,List.drop_left]
theorem aSS {r:aX}{l:List UInt8} (k:Int) (h:At r l):kZ true k r=some (true,r):=by
 unfold kZ
 rw [aIM h]
 simp [aIM h]
def q14:dE:=⟨14,3,[],[],[],[],0,0,0,0,⟨0,0,[],[],[]⟩,⟨[],0,0,0,0,0,0,0,0,[]⟩,[],[]⟩
def q02:dE:=⟨2,0,[119],[],[97,47,98],[115],0,0,0,0,⟨0,0,[],[],[]⟩,⟨[],0,0,0,0,0,0,0,0,[]⟩,[],[]⟩
theorem aSR:jP ⟨[],0,0,0,0,0,0,0,0,[]⟩:=by simp [jP,sQ,okS,aAc]
theorem aN2:pD q14:=⟨by simp [q14,sQ],by simp [q14,sQ],by simp [q14,okS],by simp [q14,okS],by simp [q14,okS],by simp [q14,okS],by simp [q14,sQ],by simp [q14,sQ],by simp [q14,sQ],by simp [q14,sQ],aEH,aSR,⟨by simp [q14],by simp [q14],by simp [q14]⟩,by simp [q14,okS]⟩
theorem aTs:pD q02:=⟨by simp [q02,sQ],by simp [q02,sQ],by simp [q02,okS],by simp [q02,okS],by simp [q02,okS],by simp [q02,okS],by simp [q02,sQ],by simp [q02,sQ],by simp [q02,sQ],by simp [q02,sQ],aEH,aSR,⟨by simp [q02],by simp [q02],by simp [q02]⟩,by simp [q02,okS]⟩
theorem aS1:aEJ q14=true:=by decide +kernel
theorem aUh:aEJ q02=false:=by decide +kernel
theorem i00:aDl 0=[0]:=by decide +kernel
theorem aUO {b:List UInt8} (hb:b.length≤1000000):yU b ⟨0,0,[],[],[]⟩=some (b++[0]):=by
 unfold yU aD3
 rw [aEC (by omega),show aAU ⟨0,0,[],[],[]⟩ true=some (fmd true ⟨0,0,[],[],[]⟩) from aEi aEH,aA,show fmd true ⟨0,0,[],[],[]⟩=true from rfl,aA,dA,cC,aAb 1 fun n hn=>?_,aA]
 obtain ⟨m,rfl⟩:∃ m,n=m+1:=⟨n - 1,by omega⟩
 have hl:fK (zY (sM m) ⟨0,0,[],[],[]⟩) (b++[0],(0:Int))=some (b++[0]):=pY rfl
 rw [sM]
 simp only
 rw [aRf (by omega) ⟨by decide,by decide⟩,i00,aA]
 show (fK (zY (sM m) ⟨0,0,[],[],[]⟩) (b++[0],(0:Int))).bind (fun x=>some x)=_
 rw [hl]
 rfl
theorem aTZ {b:List UInt8} (hb:b.length≤1000):fK (uC q14) (b,(0:Int))=some (b++[0,0,0,0]):=by
 have t0:∀ {c:List UInt8},c.length≤2000→mH c []=some (c++[0]):=fun h=>by
  rw [aUg (by omega) (by simp)]
  have:aHu []=[0]:=by decide +kernel
  rw [this]
 have s0:∀ (c:List UInt8) (i:Nat),i=0∨i=1∨i=2∨i=3→c.length≤2000→uC q14 (c,(i:Int))=some (.next (c++[0],((i+1:Nat):Int))):=fun c i hi hc=>by
  unfold uC
  rcases hi with rfl | rfl | rfl | rfl <;> (show (mH c []).bind _=_;rw [t0 hc];rfl)
 have h:=(mX (s0 b 0 (by omega) (by omega))).trans<|(mX (s0 (b++[0]) 1 (by omega) (by simp;omega))).trans<|(mX (s0 (b++[0]++[0]) 2 (by omega) (by simp;omega))).trans<|(mX (s0 (b++[0]++[0]++[0]) 3 (by omega) (by simp;omega))).trans<|pY (r:=b++[0]++[0]++[0]++[0]) rfl
 simpa using h
theorem aTY {b:List UInt8} (hb:b.length≤1000):fK (uD q14) (b,(0:Int))=some (b++[0,0,0,0]):=by
 have t0:∀ {c:List UInt8},c.length≤2000→iZ c 0=some (c++[0]):=fun h=>by
  rw [aRf (by omega) ⟨by decide,by decide⟩,i00]
 have s0:∀ (c:List UInt8) (i:Nat),i=0∨i=1∨i=2∨i=3→c.length≤2000→uD q14 (c,(i:Int))=some (.next (c++[0],((i+1:Nat):Int))):=fun c i hi hc=>by
  unfold uD
  rcases hi with rfl | rfl | rfl | rfl <;> (show (iZ c 0).bind _=_;rw [t0 hc];rfl)
 have h:=(mX (s0 b 0 (by omega) (by omega))).trans<|(mX (s0 (b++[0]) 1 (by omega) (by simp;omega))).trans<|(mX (s0 (b++[0]++[0]) 2 (by omega) (by simp;omega))).trans<|(mX (s0 (b++[0]++[0]++[0]) 3 (by omega) (by simp;omega))).trans<|pY (r:=b++[0]++[0]++[0]++[0]) rfl
 simpa using h
theorem aTX:rA q14=some ([28,6,0,0,0,0,0,0,0,0,0,0,0],0):=by
 unfold rA
 have e1:aDl 14=[28]:=by decide +kernel
 have e2:aDl 3=[6]:=by decide +kernel
 have e3:aHu []=[0]:=by decide +kernel
 have l3:∀ b:List UInt8,fK (aAL q14) (b,(0:Int))=some b:=fun b=>pY rfl
 rw [yR aN2,aS1,aA,dA,cC,show q14.Kind=14 from rfl,show q14.Time=3 from rfl,aRf (by simp) ⟨by decide,by decide⟩,e1,aA,aRf (by simp) ⟨by decide,by decide⟩,e2,aA,aTZ (by simp),aA,aTY (by simp),aA,
  show q14.Data=⟨0,0,[],[],[]⟩ from rfl,aUO (by simp),aA,show ((q14.Commands.length:Nat):Int)=0 from rfl,aRf (by simp) ⟨by decide,by decide⟩,i00,aA,l3,aA,show q14.Parent=[] from rfl,aUg (by simp) (by simp),e3,aA]
 rfl
theorem aNr {r:aX}{n:Int}{rest:List UInt8} (h:At r (aDl n++rest)) (hn:sQ n):∃ r',jY r=some (n,r')∧At r' rest:=by
 obtain ⟨r',h1,h2⟩:=aQn (low:=-9223372036854775808) (high:=9223372036854775807) h hn hn.1 hn.2
 exact ⟨r',by unfold jY;rw [h1];rfl,h2⟩
theorem aRx {r:aX}{rest:List UInt8} (h:At r (aHu []++rest)):∃ r',oG r=some ([],r')∧At r' rest:=by
 obtain ⟨r',h1,h2⟩:=aRS (most:=4096) h (by simp)
 exact ⟨r',by unfold oG;rw [h1];rfl,h2⟩
theorem aUN {r:aX}{rest:List UInt8} (h:At r (aDl 0++rest)):∃ r',qO r=some (⟨0,0,[],[],[]⟩,r')∧At r' rest:=by
 obtain ⟨r1,a1,h1⟩:=aQn (low:=-9223372036854775808) (high:=9223372036854775807) h ⟨by decide,by decide⟩ (by decide) (by decide)
 have g:nT 1 0 r=some (⟨0,0,[],[],[]⟩,1,r1):=by
  unfold nT
  refine aAb 1 fun n hn=>?_
  obtain ⟨m,rfl⟩:∃ m,n=m+1:=⟨n - 1,by omega⟩
  rw [gF]
  rw [show (cond (decide ((0:Int)<(1000:Int))) (decide ((1:Int)≤(16:Int))) false)=true from rfl,aSS _ h,aA,dA,cC,a1,aA]
  simp only
  rw [show (cond (decide ((0:Int)≤(0:Int))) (decide ((0:Int)≤(5:Int))) false)=true from rfl,aSS _ h1,aA]
  rfl
 refine ⟨r1,?_,h1⟩
 unfold qO
 rw [aIM h,aA]
 show ((nT (1:Int) (0:Int) r).bind _)=_
 rw [g,aA,aIM h1]
 rfl
theorem aU3 {r:aX}{rest:List UInt8} (h:At r (aDl 0++rest)):∃ r',gK 200 r=some ([],r')∧At r' rest:=by
 obtain ⟨r1,a1,h1⟩:=aNr h ⟨by decide,by decide⟩
 refine ⟨r1,?_,h1⟩
 unfold gK
 rw [a1,aA]
 simp only
 rw [aIM h1,aA,wV,show inB 0 0 200=true from rfl]
 have hl:fK (eH ((0:Int),r1)) (([]:List bY),(0:Int),r1)=some ([],r1):=pY rfl
 show ((fK (eH ((0:Int),r1)) (([]:List bY),(0:Int),r1)).bind _)=_
 rw [hl]
 rfl
theorem aTU:qZ [28,6,0,0,0,0,0,0,0,0,0,0,0]=some (q14,0):=by
 obtain ⟨r,o1,o2⟩:=aRR (b:=[28,6,0,0,0,0,0,0,0,0,0,0,0]) (by decide)
 have hb:([28,6,0,0,0,0,0,0,0,0,0,0,0]:List UInt8)=aDl 14++(aDl 3++(aHu []++(aHu []++(aHu []++(aHu []++(aDl 0++(aDl 0++(aDl 0++(aDl 0++(aDl 0++(aDl 0++(aHu []++[])))))))))))):=by decide +kernel
 have o3:=o2
 rw [hb] at o3
 obtain ⟨r1,a1,t1⟩:=aNr o3 ⟨by decide,by decide⟩
 obtain ⟨r2,a2,t2⟩:=aNr t1 ⟨by decide,by decide⟩
 obtain ⟨r3,a3,t3⟩:=aRx t2
 obtain ⟨r4,a4,t4⟩:=aRx t3
 obtain ⟨r5,a5,t5⟩:=aRx t4
 obtain ⟨r6,a6,t6⟩:=aRx t5
 obtain ⟨r7,a7,t7⟩:=aNr t6 ⟨by decide,by decide⟩
 obtain ⟨r8,a8,t8⟩:=aNr t7 ⟨by decide,by decide⟩
 obtain ⟨r9,a9,t9⟩:=aNr t8 ⟨by decide,by decide⟩
 obtain ⟨r10,a10,t10⟩:=aNr t9 ⟨by decide,by decide⟩
 obtain ⟨r11,a11,t11⟩:=aUN t10
 obtain ⟨r12,a12,t12⟩:=aU3 t11
 obtain ⟨r13,a13,t13⟩:=aRx t12
 have e:pU r13=some 0:=by
  obtain ⟨b,a,h1,h2,rfl,h3⟩:=t13
  have:¬a<b.length:=fun hh=>by
   have:=congrArg List.length h3
   simp only [kH,lH] at this;omega
  unfold pU gH
  simp only [aA,cL,dA,cC]
  rw [dW,bE (by omega)]
 unfold qZ
 rw [o1,aA,a1,aA,a2,aA,a3,aA,a4,aA,a5,aA,a6,aA,a7,aA,a8,aA,a9,aA,a10,aA,a11,aA,a12,aA,a13,aA,e,aA]
 rw [show dE.mk 14 _ _ _ _ _ _ _ _ _ _ _ _ _=q14 from rfl,yR aN2,aS1]
 rfl
theorem aO6:aAi=some true:=by
 unfold aAi
 rw [show dE.mk 14 _ _ _ _ _ _ _ _ _ _ _ _ _=q14 from rfl,show dE.mk 2 _ _ _ _ _ _ _ _ _ _ _ _ _=q02 from rfl,aTX,aA]
 simp only
 rw [aTU,aA]
 have h2:rA q02=some ([],3):=by
  unfold rA
  rw [yR aTs,aUh]
  rfl
 rw [h2,aA,aEP aN2]
 rfl
theorem aHT {e:Int}{r:aX}{w:aV} (c:Bool) (k k2:Int) (h:kJ e r w):∃ r' w',kZ c k r=some (decide (eIf c e=0),r')∧gS c k2 w=some w'∧kJ (eIf c e) r' w':=by
 obtain ⟨h1,h2⟩:=oD h
 unfold kZ gS
 rw [h1]
 by_cases hc:c=true
 ·
  have he:eIf c e=e:=by unfold eIf;by_cases h:e=0 <;> simp [h,hc]
  rw [he]
  refine ⟨r,w,?_,by simp [hc],h⟩
  simp [hc,h1]
 ·
  have hc:c=false:=by simpa using hc
  obtain ⟨r',w',h3,h4,h5⟩:=aGo 3 h
  have he:eIf c e=if e=0 then 3 else e:=by unfold eIf;simp [hc]
  rw [he]
  by_cases h0:e=0
  ·
   refine ⟨r',w',?_,by simp [hc,h4],h5⟩
   simp [hc,h0,h3,(oD h5).1]
  ·
   refine ⟨r,w',?_,by simp [hc,h4],?_⟩
   ·
    simp [hc,h0,h1]
   ·
    -- the reader that has failed stays
    obtain ⟨b,a,hb,ha,rfl,rfl⟩:=h
    rw [aOE] at h3
    simp only [h0,eU] at h3 h5 ⊢
    rw [hS h3];exact h5
theorem aCU {e:Int}{r:aX}{w:aV} (k:Int) (h:kJ e r w):nB k w=some (decide (e=0)):=by
 unfold nB
 rw [(oD h).2];rfl
theorem aLd {e:Int}{r:aX}{w:aV} (k:Int) (h:kJ e r w):∃ x e' r' w',fF (-9223372036854775808) 9223372036854775807 r=some (x,r')∧lU k w=some (x,w')∧kJ e' r' w'∧sQ x∧(e≠0→x=0∧e'=e)∧(e'=0→e=0):=by
 obtain ⟨x,e',r',w',h1,h2,h3,h4,h5,h6⟩:=aCp (-9223372036854775808) 9223372036854775807 h
 exact ⟨x,e',r',w',h1,by unfold lU;rw [h2];rfl,h3,h4,h5,h6⟩
theorem aMs {e:Int}{r:aX}{w:aV} (k:Int) (h:kJ e r w):∃ x e' r' w',iF 9223372036854775807 r=some (x,r')∧kJ e' r' w'∧x.length≤1000000000∧(e≠0→x=[]∧e'=e)∧(e'=0→e=0) ∧
  ∃ w'',qG k w=some (x,w'')∧gS (decide ((x.length:Int)≤4096)) k w'=some w'':=by
 obtain ⟨x,e',r',w',h1,h2,h3,h4,h5,h6⟩:=aCW 9223372036854775807 h
 obtain ⟨r2,w2,g1,g2,g3⟩:=aHT (decide ((x.length:Int)≤4096)) k k h3
 refine ⟨x,e',r',w',h1,h3,h4,h5,h6,w2,?_,g2⟩
 unfold qG
 rw [h2,aA]
 simp only
 rw [g2,aA]
theorem kJ.trans_w {e:Int}{r r2:aX}{w w2:aV} (h:kJ e r w) (h2:kJ e r2 w2) (he:e≠0):kJ e r w2:=by
 obtain ⟨b,a,hb,ha,rfl,rfl⟩:=h
 obtain ⟨b2,a2,hb2,ha2,rfl,rfl⟩:=h2
 exact ⟨b,a,hb,ha,rfl,by simp [he]⟩
theorem aPr {e:Int}{r:aX}{w w1:aV} (c1 c2:Bool) (k:Int) (h:kJ e r w) (h1:gS c1 k w=some w1):gS c2 k w1=gS (c1&&c2) k w:=by
 obtain ⟨b,a,hb,ha,rfl,rfl⟩:=h
 unfold gS kO iY mN at *
 by_cases he:e=0
 ·
  cases c1 <;> cases c2 <;> simp [he] at h1 ⊢ <;> subst h1 <;> simp
 ·
  cases c1 <;> cases c2 <;> simp [he] at h1 ⊢ <;> subst h1 <;> simp [he]
def zV:aQ:=⟨0,0,[],[],[]⟩
theorem aHX:eA zV:=by
 refine (hU _).2 ⟨?_,?_,?_,?_,?_⟩ <;> simp [zV,sQ,okS,aAc]
theorem aGt {k i:Int}{t:List UInt8} (hk:sQ k) (hi:sQ i) (ht:t.length≤1000000000):eA ⟨k,i,t,[],[]⟩ :=
 (hU _).2 ⟨hk,hi,by simp only [okS];omega,by simp [aAc],by simp [aAc]⟩
def aS4 (A:Option (aQ × Int × aX)) (B:Option (aQ × Int × aV)) (e:Int):Prop :=
 ∃ v k v' k' e' r' w',A=some (v,k,r')∧B=some (v',k',w')∧kJ e' r' w'∧eA v'∧(e'=0→v=v'∧k=k')∧(e≠0→e'=e)
theorem aNV {n:Nat}{kd d:Int} (hk:sQ kd)
  (ih:∀ (k:Int) (r:aX) (w:aV),kJ 0 r w→aS4 (gF n (IntKind.i64.wrap (d+1)) k r) (fC n (IntKind.i64.wrap (d+1)) k w) 0)
  (k:Int) (r:aX) (w:aV) (h:kJ 0 r w):aS4 (jZ (n+1) kd 0 [] d k r) (jX (n+1) kd 0 [] d k w) 0:=by
 rw [jZ,jX]
 obtain ⟨x,e1,r1,w1,h1,h2,h3,h4,h5,h6⟩:=aLd k h
 rw [h1,h2]
 simp only [aA]
 obtain ⟨r2,w2,g1,g2,g3⟩:=aHT (cond (decide ((0:Int)≤x)) (decide (x≤(1000:Int))) false) k k h3
 rw [g1,g2]
 simp only [aA]
 generalize hE:eIf (cond (decide ((0:Int)≤x)) (decide (x≤(1000:Int))) false) e1=E at g1 g3
 have hno:∀ (e:Int) (r:aX) (w:aV) (i k:Int) (vs:List aQ) (ks:List (List UInt8)),e≠0→kJ e r w→fK (gJ (fC n) (x,w1) kd d) (i,k,w,vs,ks)=some (k,w,vs,ks):=by
  intro e r w i k vs ks he hl
  refine pY ?_
  unfold gJ
  simp only
  by_cases hi:i<x
  ·
   rw [dW,bH hi,aCU k hl];simp [he,Fl.next]
  ·
   rw [dW,bE hi];simp [Fl.next]
 by_cases hE0:E=0
 ·
  -- the number is good
  have hx:0≤x∧x≤1000:=by
   rw [hE0] at hE
   have:=(aQD.1 hE).2
   by_cases h0:0≤x
   ·
    simp [h0] at this;exact ⟨h0,this⟩
   ·
    simp [h0] at this
  obtain ⟨m,rfl⟩:∃ m:Nat,x=(m:Int):=⟨x.toNat,by omega⟩
  rw [hE0] at g3
  simp only [hE0,cL,dA,cC]
  let Q:Fl (aQ × Int × aX) (Int × aX × List aQ × List (List UInt8))→(Int × aV × List aQ × List (List UInt8))→Prop:=fun a b =>
   (∃ (k:Int) (vs:List aQ) (ks:List (List UInt8)) (r:aX) (w:aV),a=.go (k,r,vs,ks)∧b=(k,w,vs,ks)∧kJ 0 r w∧eA ⟨kd,0,[],vs,ks⟩) ∨
   (∃ (v:aQ) (k k':Int) (vs:List aQ) (ks:List (List UInt8)) (r:aX) (w:aV) (e:Int),a=.done (v,k,r)∧b=(k',w,vs,ks)∧kJ e r w∧e≠0∧eA ⟨kd,0,[],vs,ks⟩)
  let R:(Int × Int × aX × List aQ × List (List UInt8))→(Int × Int × aV × List aQ × List (List UInt8))→Prop:=fun s t =>
   ∃ (i:Nat) (k:Int) (vs:List aQ) (ks:List (List UInt8)) (r:aX) (w:aV),s=((i:Int),k,r,vs,ks)∧t=((i:Int),k,w,vs,ks)∧kJ 0 r w∧i≤m∧vs.length=i∧(ks.length=if kd=5 then i else 0)∧(∀ v∈vs,eA v)∧∀ s∈ks,s.length≤1000000000
  have hok:∀ (vs:List aQ) (ks:List (List UInt8)),vs.length≤1000→ks.length≤1001→(∀ v∈vs,eA v)→(∀ s∈ks,s.length≤1000000000)→eA ⟨kd,0,[],vs,ks⟩:=fun vs ks a1 a2 a3 a4 =>
   (hU _).2 ⟨hk,by simp [sQ],by simp [okS],⟨by simp only;omega,by simp only;omega,a3⟩,⟨by simp only;omega,by simp only;omega,fun s hs=>by have:=a4 s hs;simp only [okS];omega⟩⟩
  obtain ⟨X,Y,l1,l2,l3⟩:=aGs (b1:=jV (gF n) ((m:Int),r1) kd d) (b2:=gJ (fC n) ((m:Int),w1) kd d) R (fun s=>m - s.1.toNat) Q (by
   rintro s t ⟨i,k,vs,ks,r,w,rfl,rfl,hl,hi,hvs,hks,ov,ok⟩
   have hkl:ks.length≤1000:=by rw [hks];split <;> omega
   by_cases hlt:i<m
   ·
    by_cases h5k:kd=5
    ·
     obtain ⟨x,e3,r3,w3,a1,a2,a3,a4,a5,w4,a6,a7⟩:=aMs k hl
     have hprev:(gd ((decide (((x).length:Int)≤(4096:Int)))==true&&((decide ((i:Int)=(0:Int)))==false)) (nG ks (IntKind.wrap .i64 ((i:Int) - (1:Int)))))=some (if x.length≤4096∧i≠0 then ks.getD (i - 1) [] else []):=by
      by_cases hx:x.length≤4096
      ·
       by_cases hi0:i=0
       ·
        subst hi0;simp [gd,hx];rfl
       ·
        have e:IntKind.i64.wrap ((i:Int) - 1)=((i - 1:Nat):Int):=by rw [w64 (by omega) (by omega)];omega
        have hik:i - 1<ks.length:=by rw [hks,bH h5k];omega
        rw [e,kM hik]
        have c1:decide ((x.length:Int)≤4096)=true:=by simp;omega
        have c2:decide ((i:Int)=0)=false:=by simp;omega
        rw [c1,c2]
        simp [gd,hx,hi0,hik]
      ·
       have c1:decide ((x.length:Int)≤4096)=false:=by simp;omega
       rw [c1];simp [gd,hx];rfl
     have hp2:∀ l:List (List UInt8),l=ks++[x]→(gd ((decide ((i:Int)=(0:Int)))==false) (nG l (IntKind.wrap .i64 ((i:Int) - (1:Int)))))=some (if i≠0 then ks.getD (i - 1) [] else [])∧(gd ((decide ((i:Int)=(0:Int)))==false) (nG l (i:Int)))=some (if i≠0 then x else []):=by
      rintro l rfl
      by_cases hi0:i=0
      ·
       subst hi0;constructor <;> (simp [gd];rfl)
      ·
       have e:IntKind.i64.wrap ((i:Int) - 1)=((i - 1:Nat):Int):=by rw [w64 (by omega) (by omega)];omega
       have hkl2:ks.length=i:=by rw [hks,bH h5k]
       have hik:i - 1<ks.length:=by omega
       have c2:decide ((i:Int)=0)=false:=by simp;omega
       rw [e,kM (l:=ks++[x]) (by simp;omega),kM (l:=ks++[x]) (i:=i) (by simp;omega),c2]
       constructor
       ·
        simp [gd,hi0,List.getElem_append_left hik]
        rw [aT hik];rfl
       ·
        simp [gd,hi0,hkl2]
     obtain ⟨p1,p2⟩:=hp2 _ rfl
     generalize hprevv:(if x.length≤4096∧i≠0 then ks.getD (i - 1) [] else [])=pv at hprev
     generalize hC:(cond (decide (((x).length:Int)≤(4096:Int))) (cond (decide ((i:Int)=(0:Int))) true (!(Op.bytesLess x pv||decide (x=pv)))) false)=C
     have hC2:(decide ((x.length:Int)≤4096)&&cond (decide ((i:Int)=0)) true (Op.bytesLess (if i≠0 then ks.getD (i - 1) [] else []) (if i≠0 then x else [])))=C:=by
      rw [← hC,← hprevv,aMa]
      by_cases hx:x.length≤4096
      ·
       have c1:decide ((x.length:Int)≤4096)=true:=by simp;omega
       rw [c1]
       by_cases hi0:i=0
       ·
        subst hi0;simp
       ·
        have c2:decide ((i:Int)=0)=false:=by simp;omega
        rw [c2];simp [hx,hi0]
      ·
       have c1:decide ((x.length:Int)≤4096)=false:=by simp;omega
       rw [c1];rfl
     obtain ⟨r5,w5,s1,s2,s3⟩:=aHT C k k a2
     have s4:gS (cond (decide ((i:Int)=0)) true (Op.bytesLess (if i≠0 then ks.getD (i - 1) [] else []) (if i≠0 then x else []))) k w4=some w5:=by rw [aPr _ _ k a2 a7,hC2,s2]
     have hkl5:(ks++[x]).length=i+1:=by rw [jC,hks,bH h5k];rfl
     have okks:∀ s∈ks++[x],s.length≤1000000000:=by
      intro s hs
      rcases fH.1 hs with hs | hs
      ·
       exact ok s hs
      ·
       rw [kQ.1 hs];exact a3
     have hL:jV (gF n) ((m:Int),r1) kd d ((i:Int),k,r,vs,ks)=cond (!decide (eIf C e3=0)) (some (dU.out (Fl.done (zV,k,r5)))) (((gF n) (IntKind.i64.wrap (d+1)) k r5).bind fun x30=>(gH x30.2.2).bind fun x32=>cond (!decide (x32=(0:Int))) (some (dU.out (Fl.done (zV,x30.2.1,x30.2.2)))) ((app 80 vs [x30.1]).bind fun x38=>some (dU.next ((IntKind.i64.wrap ((i:Int)+1)),x30.2.1,x30.2.2,x38,ks++[x])))):=by
      unfold jV
      simp only
      rw [dW,bH (by omega)]
      simp only [h5k,cL,dJ]
      rw [a1]
      simp only [aA]
      rw [hprev]
      simp only [aA]
      rw [hC,s1,wW (by simp;omega)]
      by_cases hz:eIf C e3=0
      ·
       simp [hz,Fl.next,zV]
      ·
       simp [hz,Fl.next,zV]
     have hR:gJ (fC n) ((m:Int),w1) kd d ((i:Int),k,w,vs,ks)=cond (decide (eIf C e3=0)) (((fC n) (IntKind.i64.wrap (d+1)) k w5).bind fun x39=>(app 80 vs [x39.1]).bind fun x41=>some (dU.next ((IntKind.i64.wrap ((i:Int)+1)),x39.2.1,x39.2.2,x41,ks++[x]))) (some (dU.next ((IntKind.i64.wrap ((i:Int)+1)),k,w5,vs,ks++[x]))):=by
      unfold gJ
      simp only
      rw [dW,bH (by omega),aCU k hl]
      simp only [cL,aA,dJ,Fl.next,h5k]
      rw [a6]
      simp only [aA]
      rw [wW (by simp;omega)]
      simp only [aA]
      rw [p1,p2]
      simp only [aA]
      rw [s4]
      simp only [aA]
      rw [aCU k s3]
      rfl
     rw [hL]
     by_cases hz:eIf C e3=0
     ·
      rw [hz] at s3
      obtain ⟨v,k1,v',k1',e',r',w',b1,b2,b3,b4,b5,b6⟩:=ih k r5 w5 s3
      have hi1:IntKind.i64.wrap ((i:Int)+1)=((i+1:Nat):Int):=by rw [w64 (by omega) (by omega)];omega
      have hR2:gJ (fC n) ((m:Int),w1) kd d ((i:Int),k,w,vs,ks)=some (dU.next (((i+1:Nat):Int),k1',w',vs++[v'],ks++[x])):=by
       rw [hR,hz]
       simp only [cL,dJ]
       rw [b2,aA,wW (by simp;omega),aA,hi1]
      rw [hz,b1]
      simp only [cL,dA,cC,aA]
      rw [(oD b3).1,wW (by simp;omega),hi1]
      simp only [aA]
      have okvs:∀ y∈vs++[v'],eA y:=by
       intro y hy
       rcases fH.1 hy with hy | hy
       ·
        exact ov y hy
       ·
        rw [kQ.1 hy];exact b4
      by_cases he:e'=0
      ·
       obtain ⟨rfl,rfl⟩:=b5 he
       subst he
       exact .inl ⟨_,_,rfl,hR2,⟨i+1,k1,vs++[v],ks++[x],r',w',rfl,rfl,b3,by omega,by simp [hvs],by rw [bH h5k];exact hkl5,okvs,okks⟩,by simp;omega⟩
      ·
       refine .inr ⟨.done (zV,k1,r'),(k1',w',vs++[v'],ks++[x]),by simp [he],?_,.inr ⟨zV,k1,k1',vs++[v'],ks++[x],r',w',e',rfl,rfl,b3,he,hok _ _ (by simp;omega) (by omega) okvs okks⟩⟩
       rw [mX hR2,hno e' r' w' _ _ _ _ he b3]
     ·
      refine .inr ⟨.done (zV,k,r5),(k,w5,vs,ks++[x]),by simp [hz],?_,.inr ⟨zV,k,k,vs,ks++[x],r5,w5,_,rfl,rfl,s3,hz,hok _ _ (by omega) (by omega) ov okks⟩⟩
      have hR3:gJ (fC n) ((m:Int),w1) kd d ((i:Int),k,w,vs,ks)=some (dU.next ((IntKind.i64.wrap ((i:Int)+1)),k,w5,vs,ks++[x])):=by rw [hR];simp [hz]
      rw [mX hR3,hno _ r5 w5 _ _ _ _ hz s3]
    ·
     obtain ⟨v,k1,v',k1',e',r',w',b1,b2,b3,b4,b5,b6⟩:=ih k r w hl
     have hi1:IntKind.i64.wrap ((i:Int)+1)=((i+1:Nat):Int):=by rw [w64 (by omega) (by omega)];omega
     have hR2:gJ (fC n) ((m:Int),w1) kd d ((i:Int),k,w,vs,ks)=some (dU.next (((i+1:Nat):Int),k1',w',vs++[v'],ks)):=by
      unfold gJ
      simp only
      rw [dW,bH (by omega),aCU k hl]
      simp only [cL,aA,dJ,Fl.next,h5k,dR,cC]
      rw [aCU k hl]
      simp only [cL,aA,dJ]
      rw [b2,aA,wW (by simp;omega),aA,hi1]
     unfold jV
     simp only
     rw [dW,bH (by omega)]
     simp only [h5k,dR,cC,aA,Fl.next]
     rw [b1]
     simp only [aA]
     rw [(oD b3).1,wW (by simp;omega),hi1]
     simp only [aA]
     have okvs:∀ y∈vs++[v'],eA y:=by
      intro y hy
      rcases fH.1 hy with hy | hy
      ·
       exact ov y hy
      ·
       rw [kQ.1 hy];exact b4
     by_cases he:e'=0
     ·
      obtain ⟨rfl,rfl⟩:=b5 he
      subst he
      exact .inl ⟨_,_,rfl,hR2,⟨i+1,k1,vs++[v],ks,r',w',rfl,rfl,b3,by omega,by simp [hvs],by rw [bE h5k] at hks ⊢;exact hks,okvs,ok⟩,by simp;omega⟩
     ·
      refine .inr ⟨.done (zV,k1,r'),(k1',w',vs++[v'],ks),by simp [he,zV],?_,.inr ⟨zV,k1,k1',vs++[v'],ks,r',w',e',rfl,rfl,b3,he,hok _ _ (by simp;omega) (by omega) okvs ok⟩⟩
      rw [mX hR2,hno e' r' w' _ _ _ _ he b3]
   ·
    refine .inr ⟨.go (k,r,vs,ks),(k,w,vs,ks),?_,?_,.inl ⟨k,vs,ks,r,w,rfl,rfl,hl,hok vs ks (by omega) (by omega) ov ok⟩⟩
    ·
     unfold jV
     rw [dW,bE (by simp only;omega)]
    ·
     refine pY ?_
     unfold gJ
     rw [dW,bE (by simp only;omega)];rfl) (0,k,r2,[],[]) (0,k,w2,[],[]) ⟨0,k,[],[],r2,w2,rfl,rfl,g3,by omega,rfl,by simp,by simp,by simp⟩
  rw [l1,l2]
  rcases l3 with ⟨k,vs,ks,r,w,rfl,rfl,q1,q2⟩ | ⟨v,k,k',vs,ks,r,w,e,rfl,rfl,q1,q2,q3⟩
  ·
   exact ⟨_,_,_,_,0,_,_,rfl,rfl,q1,q2,fun _=>⟨rfl,rfl⟩,fun h=>absurd rfl h⟩
  ·
   exact ⟨_,_,_,_,e,_,_,rfl,rfl,q1,q3,fun h=>absurd h q2,fun h=>absurd rfl h⟩
 ·
  have hd:decide (E=0)=false:=by simp [hE0]
  simp only [hd,fZ,dJ]
  rw [hno E r2 w2 0 k [] [] hE0 g3]
  exact ⟨_,_,_,_,E,_,_,rfl,rfl,g3,aGt hk (by simp [sQ]) (by simp),fun h=>absurd h hE0,fun h=>absurd rfl h⟩
theorem aOq:∀ (n:Nat) (d k:Int) (r:aX) (w:aV) (e:Int),kJ e r w→-1000000≤d→d≤1000000→2*(17 - d).toNat+1≤n→aS4 (gF n d k r) (fC n d k w) e:=by
 intro n
 induction n using Nat.strongRecOn with
 | _ n ih =>
  intro d k r w e h hd1 hd2 hn
  obtain ⟨m,rfl⟩:∃ m,n=m+1:=⟨n - 1,by omega⟩
  rw [gF,fC]
  generalize hk1:IntKind.i64.wrap (k+1)=k1
  obtain ⟨r1,w1,a1,a2,a3⟩:=aHT (cond (decide (k<(1000:Int))) (decide (d≤(16:Int))) false) k k h
  rw [a1,a2]
  simp only [aA]
  generalize hE:eIf (cond (decide (k<(1000:Int))) (decide (d≤(16:Int))) false) e=E at a1 a3
  obtain ⟨x,e2,r2,w2,b1,b2,b3,b4,b5,b6⟩:=aLd k1 a3
  rw [b1,b2]
  by_cases hE0:E=0
  ·
   subst hE0
   obtain ⟨he0,hc⟩:=aQD.1 hE
   have hd:d≤16:=by
    by_cases hk:k<1000
    ·
     simpa [hk] using hc
    ·
     simp [hk] at hc
   simp only [cL,dA,cC,aA]
   obtain ⟨r3,w3,c1,c2,c3⟩:=aHT (cond (decide ((0:Int)≤x)) (decide (x≤(5:Int))) false) k1 k1 b3
   rw [c1,c2]
   simp only [aA]
   rw [aCU k1 c3]
   simp only [aA]
   generalize hE3:eIf (cond (decide ((0:Int)≤x)) (decide (x≤(5:Int))) false) e2=E3 at c1 c3
   by_cases hE30:E3=0
   ·
    subst hE30
    simp only [cL,dA,cC]
    by_cases h1:x=1
    ·
     simp only [h1,cL,dJ]
     obtain ⟨x4,e4,r4,w4,d1,d2,d3,d4,d5,d6⟩:=aLd k1 c3
     obtain ⟨r5,w5,f1,f2,f3⟩:=aHT (cond (decide (x4=(0:Int))) true (decide (x4=(1:Int)))) k1 k1 d3
     rw [d1,d2]
     simp only [aA]
     rw [f1,f2]
     exact ⟨_,_,_,_,_,_,_,rfl,rfl,f3,aGt (by simp [sQ]) d4 (by simp),fun _=>⟨rfl,rfl⟩,fun h=>absurd he0 h⟩
    ·
     simp only [h1,dR,cC]
     by_cases h2:x=2
     ·
      simp only [h2,cL,dJ]
      obtain ⟨x4,e4,r4,w4,d1,d2,d3,d4,d5,d6⟩:=aLd k1 c3
      rw [d1,d2]
      exact ⟨_,_,_,_,_,_,_,rfl,rfl,d3,aGt (by simp [sQ]) d4 (by simp),fun _=>⟨rfl,rfl⟩,fun h=>absurd he0 h⟩
     ·
      simp only [h2,dR,cC]
      by_cases h3:x=3
      ·
       simp only [h3,cL,dJ]
       obtain ⟨x4,e4,r4,w4,d1,d2,d3,d4,d5,w6,d6,d7⟩:=aMs k1 c3
       obtain ⟨r5,w5,f1,f2,f3⟩:=aHT (decide ((x4.length:Int)≤4096)) k1 k1 d2
       have:w6=w5:=by rw [d7] at f2;exact hS f2
       subst this
       rw [d1,d6]
       simp only [aA]
       rw [f1]
       exact ⟨_,_,_,_,_,_,_,rfl,rfl,f3,aGt (by simp [sQ]) (by simp [sQ]) d3,fun _=>⟨rfl,rfl⟩,fun h=>absurd he0 h⟩
      ·
       simp only [h3,dR,cC]
       by_cases h45:x=4∨x=5
       ·
        have e45:(cond (decide (x=(4:Int))) (some (decide (x=(4:Int)))) (some (decide (x=(5:Int)))))=some true:=by rcases h45 with h | h <;> simp [h]
        rw [e45]
        simp only [aA,dJ]
        obtain ⟨m2,rfl⟩:∃ m2,m=m2+1:=⟨m - 1,by omega⟩
        have hdw:IntKind.i64.wrap (d+1)=d+1:=w64 (by omega) (by omega)
        obtain ⟨v,kk,v',kk',e',r',w',g1,g2,g3,g4,g5,g6⟩:=aNV (n:=m2) (kd:=x) (d:=d) b4 (fun k r w hl=>ih m2 (by omega) _ k r w 0 hl (by rw [hdw];omega) (by rw [hdw];omega) (by rw [hdw];omega)) k1 r3 w3 c3
        rw [g1,g2]
        exact ⟨v,kk,v',kk',e',r',w',rfl,rfl,g3,g4,g5,fun h=>absurd he0 h⟩
       ·
        have h4:x≠4:=fun h=>h45 (.inl h)
        have h5:x≠5:=fun h=>h45 (.inr h)
        simp only [h4,h5,dR,cC,aA]
        exact ⟨_,_,_,_,_,_,_,rfl,rfl,c3,aGt b4 (by simp [sQ]) (by simp),fun _=>⟨rfl,rfl⟩,fun h=>absurd he0 h⟩
   ·
    have hd:decide (E3=0)=false:=by simp [hE30]
    simp only [hd,fZ,dJ]
    exact ⟨_,_,_,_,E3,_,_,rfl,rfl,c3,aHX,fun h=>absurd h hE30,fun h=>absurd he0 h⟩
  ·
   have hd:decide (E=0)=false:=by simp [hE0]
   obtain ⟨rfl,rfl⟩:=b5 hE0
   simp only [hd,fZ,dJ,aA]
   obtain ⟨r3,w3,c1,c2,c3⟩:=aHT (cond (decide ((0:Int)≤0)) (decide ((0:Int)≤(5:Int))) false) k1 k1 b3
   rw [c2]
   simp only [aA]
   rw [aCU k1 c3]
   have hz:eIf (cond (decide ((0:Int)≤0)) (decide ((0:Int)≤(5:Int))) false) e2=e2:=by unfold eIf;rw [bE hE0]
   rw [hz] at c3 ⊢
   have hw:w3=w2:=by simp [gS] at c2;exact c2.symm
   subst hw
   simp only [hE0,dR,fZ,dJ,aA]
   exact ⟨_,_,_,_,e2,_,_,rfl,rfl,a3.trans_w b3 hE0,aHX,fun h=>absurd h hE0,fun h=>by unfold eIf at hE;rw [bE h] at hE;exact hE.symm⟩

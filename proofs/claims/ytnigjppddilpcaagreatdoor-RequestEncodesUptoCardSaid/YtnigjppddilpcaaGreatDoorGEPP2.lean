/- Plain laws: what the functions compute, with no program in sight. -/
import Derived.Test.YtnigjppddilpcaaGreatDoorGEPP0
import Derived.Test.YtnigjppddilpcaaGreatDoorGEF0
import Derived.Test.YtnigjppddilpcaaGreatDoorGEF7
import Derived.Test.YtnigjppddilpcaaGreatDoorGEF4
import Derived.Test.YtnigjppddilpcaaGreatDoorGEF10
import Derived.Test.YtnigjppddilpcaaGreatDoorGEF11
import Derived.Test.YtnigjppddilpcaaGreatDoorGEF12
import Derived.Test.YtnigjppddilpcaaGreatDoorGEPP1
import Derived.Test.YtnigjppddilpcaaGreatDoorGEF5
namespace Go.Proofs.YtnigjppddilpcaaGreatDoor
open Go Abs
set_option linter.unusedSimpArgs false
set_option linter.unusedVariables false
theorem xL {xs:List UInt8} (h:xs.length≤140737488355328):gC xs=some xs:=by
 rw [gC,qS (by simpa using h)];simp
theorem aA9 {b:List UInt8}{n:Int} (hb:b.length≤10000000000000) (h1:-9223372036854775808≤n) (h2:n≤9223372036854775807):fB b n=some (b++nC (zz n)):=by
 have hv:=xE (aD9 h1 h2)
 unfold fB
 rw [xL (by omega),Option.bind_some,sh1,aQs,aKr h1 h2]
 obtain ⟨r,hr,u,hu,hlt,he⟩:=rE (body:=tM) (fun s=>∃ u:Nat,s.2=(u:Int)∧u<18446744073709551616∧s.1++nC u=b++nC (zz n)) (fun s=>s.2.toNat)
  (fun r=>∃ u:Nat,r.2=(u:Int)∧u<128∧r.1++nC u=b++nC (zz n)) (fun s ⟨u,hu,hlt,he⟩=>by
   have hlen:s.1.length+(nC u).length=b.length+(nC (zz n)).length:=by simpa using congrArg List.length he
   unfold tM
   rw [hu,cC]
   by_cases h:u<128
   ·
    rw [if_neg (by omega)]
    exact .inr ⟨_,rfl,u,rfl,h,he⟩
   ·
    rw [if_pos (by omega),aP9,aCr (by omega),Option.bind_some,qS (by simp;omega),Option.bind_some,sh7,aQt]
    refine .inl ⟨_,rfl,⟨u / 128,rfl,by omega,?_⟩,by simp;omega⟩
    rw [← he,aEN h,List.append_assoc,List.singleton_append]) (b,(zz n:Nat)) ⟨zz n,rfl,aD9 h1 h2,rfl⟩
 have hlen:r.1.length+(nC u).length=b.length+(nC (zz n)).length:=by simpa using congrArg List.length he
 rw [hr,Option.bind_some,hu,aDc (aK7 (by omega)),Option.bind_some,qS (by simp;omega),Option.bind_some,← aCW hlt,he]
theorem aEv {b s:List UInt8} (hb:b.length≤10000000000000) (hs:s.length≤10000000000000):hU b s=some (b++nC (zz s.length)++s):=by
 have hv:=xE (aD9 (n:=(s.length:Int)) (by omega) (by omega))
 unfold hU
 rw [aA9 (by omega) (by omega) (by omega),Option.bind_some,qS (by simp;omega),Option.bind_some]
theorem aL7 {n:Int} (h1:-9223372036854775808≤n) (h2:n≤9223372036854775807):sP n=some (zz n:Int):=by
 unfold sP
 rw [cC]
 by_cases h:0≤n
 ·
  rw [if_pos h];congr 1;simp only [IntKind.wrap_u64,zz,h,if_true];omega
 ·
  rw [if_neg h];congr 1;simp only [IntKind.wrap_u64,IntKind.wrap_i64,zz,h,if_false];omega
theorem aCM {b:List UInt8}{n:Int} (hb:b.length≤10000000000000) (h1:-9223372036854775808≤n) (h2:n≤9223372036854775807):gB b n=some (b++nC (zz n)):=by
 have hv:=xE (aD9 h1 h2)
 unfold gB
 rw [qS (by simp;omega),Option.bind_some,List.nil_append,aL7 h1 h2,Option.bind_some]
 obtain ⟨r,hr,u,hu,hlt,he⟩:=rE (body:=rG) (fun s=>∃ u:Nat,s.2=(u:Int)∧u<18446744073709551616∧s.1++nC u=b++nC (zz n)) (fun s=>s.2.toNat)
  (fun r=>∃ u:Nat,r.2=(u:Int)∧u<128∧r.1++nC u=b++nC (zz n)) (fun s ⟨u,hu,hlt,he⟩=>by
   have hlen:s.1.length+(nC u).length=b.length+(nC (zz n)).length:=by simpa using congrArg List.length he
   unfold rG
   rw [hu,cC]
   by_cases h:u<128
   ·
    rw [if_neg (by omega)]
    exact .inr ⟨_,rfl,u,rfl,h,he⟩
   ·
    rw [if_pos (by omega)]
    have e:IntKind.u8.wrap (IntKind.u64.wrap ((u:Int).tmod 128+128))=((128+u % 128:Nat):Int):=by
     rw [IntKind.wrap_u64,IntKind.wrap_u8,Int.tmod_eq_emod_of_nonneg (by omega)];omega
    rw [e,aCr (by omega),Option.bind_some,qS (by simp;omega),Option.bind_some]
    have e2:IntKind.u64.wrap ((u:Int).tdiv 128)=((u / 128:Nat):Int):=by rw [IntKind.wrap_u64,Int.tdiv_eq_ediv_of_nonneg (by omega)];omega
    rw [e2]
    refine .inl ⟨_,rfl,⟨u / 128,rfl,by omega,?_⟩,by simp;omega⟩
    rw [← he,aEN h,List.append_assoc,List.singleton_append]) (b,(zz n:Nat)) ⟨zz n,rfl,aD9 h1 h2,rfl⟩
 have hlen:r.1.length+(nC u).length=b.length+(nC (zz n)).length:=by simpa using congrArg List.length he
 rw [hr,Option.bind_some,hu,aDc (aK7 (by omega)),Option.bind_some,qS (by simp;omega),Option.bind_some,← aCW hlt,he]
theorem aGo {b s:List UInt8} (hb:b.length≤10000000000000) (hs:s.length≤10000000000000):gU b s=some (b++nC (zz s.length)++s):=by
 have hv:=xE (aD9 (n:=(s.length:Int)) (by omega) (by omega))
 unfold gU
 rw [aCM (by omega) (by omega) (by omega),Option.bind_some]
 rw [aBf (body:=qC s) (fun x=>∃ i:Nat,x.2=(i:Int)∧i≤s.length∧x.1=b++nC (zz s.length)++s.take i) (fun x=>s.length - x.2.toNat) (fun _=>b++nC (zz s.length)++s) ?_ (b++nC (zz s.length),0) ⟨0,rfl,by omega,by simp⟩]
 ·
  rfl
 ·
  rintro ⟨o,i0⟩ ⟨i,hi0,hi,ho⟩
  simp only at hi0 ho
  subst hi0 ho
  unfold qC
  rw [cC]
  by_cases h:i<s.length
  ·
   rw [if_pos (by omega),aCy,List.getElem?_eq_getElem h,Option.bind_some,aE0,Option.bind_some,qS (by simp;omega),Option.bind_some]
   refine .inl ⟨_,rfl,⟨i+1,by rw [w64 (by omega) (by omega)];rfl,h,?_⟩,by simp only [w64 (show (-9223372036854775808:Int)≤(i:Int)+1 by omega) (by omega)];omega,rfl⟩
   rw [List.take_succ_eq_append_getElem h];simp
  ·
   rw [if_neg (by omega),List.take_of_length_le (by omega)]
   exact .inr rfl
end Go.Proofs.YtnigjppddilpcaaGreatDoor
namespace Go.Proofs.YtnigjppddilpcaaGreatDoor
open Go Abs
set_option linter.unusedSimpArgs false
set_option linter.unusedVariables false
theorem aH0 {b:List UInt8} (h:b.length≤140737488355328):wH b=some ⟨b,0,0,true⟩:=by
 unfold wH
 rw [xL h];rfl
theorem aCs {b:List UInt8}{a e:Int}{m:Bool}:jJ ⟨b,a,e,m⟩=some (cond (!m) true (!decide (e=0))):=by
 unfold jJ;rfl
def xZ (b:List UInt8) (at_:Nat) (low high:Int):aQ:=⟨b,(at_+(kY (b.drop at_) low high).2.1:Nat),(kY (b.drop at_) low high).2.2,true⟩
theorem aFe {b:List UInt8}{at_:Nat}{low high:Int} (h1:at_≤b.length) (hb:b.length≤1000000000) :
  eP low high ⟨b,at_,0,true⟩=some ((kY (b.drop at_) low high).1,xZ b at_ low high):=by
 unfold eP
 rw [aCs]
 simp only [Bool.not_true,cond_false,decide_true,Option.bind_some]
 rw [aEM (by simp;omega),Option.bind_some]
 unfold xZ
 generalize hrest:b.drop at_=rest
 have hrl:rest.length=b.length - at_:=by rw [← hrest];simp
 have hdrop:List.drop (Int.toNat (at_:Int)) b=rest:=by rw [Int.toNat_natCast];exact hrest
 obtain ⟨r,hr,hq⟩:∃ r,eQ (oI ⟨b,at_,0,true⟩ low high) ((0:Int),(0:Int))=some r∧Fl.next r (fun _=>some ((0:Int),aQ.mk b at_ 3 true))=some ((kY rest low high).1,⟨b,(at_+(kY rest low high).2.1:Nat),(kY rest low high).2.2,true⟩):=by
  refine rE (fun (s:Int × Int)=>∃ k:Nat,s.2=(k:Int)∧((k≤9∧k≤rest.length∧∃ u:Nat,s.1=(u:Int)∧u<128 ^ k∧pD 0 0 rest=pD k u (rest.drop k))∨(k=10∧pD 0 0 rest=.inl 3)))
   (fun s=>10 - s.2.toNat) _ ?_ ((0:Int),(0:Int)) ⟨0,rfl,.inl ⟨by simp,by simp,0,rfl,by simp,by simp⟩⟩
  rintro ⟨u0,k0⟩ ⟨k,hk0,hI⟩
  simp only at hk0 hI
  subst hk0
  unfold oI
  simp only [hdrop]
  rw [cC]
  obtain ⟨hk,hkl,u,rfl,hu,hs⟩ | ⟨rfl,hs⟩:=hI
  ·
   rw [if_pos (by omega),cC]
   by_cases h3:(rest.length:Int)≤k
   ·
    rw [if_pos h3]
    refine .inr ⟨_,rfl,?_⟩
    have hd:rest.drop k=[]:=List.drop_eq_nil_of_le (by omega)
    have hr:kY rest low high=(0,0,4):=by simp only [kY,hs,hd,pD];rw [if_neg (by omega)]
    rw [hr];rfl
   ·
    rw [if_neg h3]
    have hlt:k<rest.length:=by omega
    rw [aCy,List.getElem?_eq_getElem hlt,Option.bind_some]
    generalize hc:rest[k]=c
    have hd:rest.drop k=c :: rest.drop (k+1):=by rw [← hc];exact List.drop_eq_getElem_cons hlt
    have hcl:=c.toNat_lt
    rw [hd] at hs
    simp only [pD] at hs
    rw [if_neg (by omega)] at hs
    rw [aPJ (by rw [show IntKind.i64.wrap (7*(k:Int))=7*(k:Int) by rw [IntKind.wrap_i64];omega];omega),Option.bind_some,aOP]
    generalize hv:gO .or .u64 (u:Int) _=v
    have hv':k≤8∨c.toNat≤1→v=((u+c.toNat % 128*128 ^ k:Nat):Int):=fun hx=>hv ▸ aNZ c hk hu hx
    clear hv
    rw [cC]
    by_cases h4:(128:Int)≤(c.toNat:Int)
    ·
     rw [if_pos h4]
     rw [if_pos (by omega)] at hs
     refine .inl ⟨_,rfl,⟨k+1,by rw [w64 (by omega) (by omega)];rfl,?_⟩,by simp only [w64 (show (-9223372036854775808:Int)≤(k:Int)+1 by omega) (by omega)];omega⟩
     by_cases hk9:k=9
     ·
      refine .inr ⟨by omega,?_⟩
      rw [hs,hk9]
      cases rest.drop (9+1) <;> simp [pD]
     ·
      have hve:=hv' (.inl (by omega))
      refine .inl ⟨by omega,by omega,_,hve,?_,hs⟩
      rw [Nat.pow_succ]
      have h3:c.toNat % 128*128 ^ k≤127*128 ^ k:=Nat.mul_le_mul_right _ (by omega)
      omega
    ·
     rw [if_neg h4]
     rw [if_neg (by omega)] at hs
     by_cases hX:(0<k∧c.toNat=0)∨(k=9∧1<c.toNat)
     ·
      rw [if_pos hX] at hs
      have hr:kY rest low high=(0,0,3):=by simp only [kY,hs]
      rw [hr]
      have e:(cond (cond (decide ((0:Int)<(k:Int))) (decide ((c.toNat:Int)=0)) false) true (cond (decide ((k:Int)=9)) (decide ((1:Int)<(c.toNat:Int))) false))=true:=by
       rcases hX with ⟨h5,h6⟩ | ⟨h5,h6⟩
       ·
        simp [h6];omega
       ·
        simp [h5];omega
      rw [e,cond_true]
      exact .inr ⟨_,rfl,rfl⟩
     ·
      rw [if_neg hX] at hs
      have e:(cond (cond (decide ((0:Int)<(k:Int))) (decide ((c.toNat:Int)=0)) false) true (cond (decide ((k:Int)=9)) (decide ((1:Int)<(c.toNat:Int))) false))=false:=by
       simp only [Bool.cond_eq_ite]
       by_cases h5:0<k <;> by_cases h6:c.toNat=0 <;> by_cases h7:k=9 <;> by_cases h8:1<c.toNat <;> simp <;> omega
      rw [e,cond_false]
      have hve:=hv' (by omega)
      have hmod:c.toNat % 128=c.toNat:=by omega
      rw [hmod] at hve
      clear hv'
      subst hve
      have hw:(u+c.toNat*128 ^ k)<18446744073709551616:=by
       have:k=0∨k=1∨k=2∨k=3∨k=4∨k=5∨k=6∨k=7∨k=8∨k=9:=by omega
       rcases this with rfl | rfl | rfl | rfl | rfl | rfl | rfl | rfl | rfl | rfl <;> omega
      generalize u+c.toNat*128 ^ k=w at hs hw
      have hr:kY rest low high=if wA w<low∨high<wA w then (0,k+1,14) else (wA w,k+1,0):=by simp only [kY,hs]
      rw [hr,show (2:Int) ^ min (Int.toNat 1) IntKind.u64.bits=2 from sh1,aL5 hw,aNH (by omega) hk]
      refine .inr ?_
      by_cases hlow:wA w<low
      ·
       rw [if_pos (.inl hlow)]
       simp only [hlow,decide_true,cond_true]
       exact ⟨_,rfl,rfl⟩
      ·
       by_cases hhigh:high<wA w
       ·
        rw [if_pos (.inr hhigh)]
        simp only [hlow,hhigh,decide_true,decide_false,cond_true,cond_false]
        exact ⟨_,rfl,rfl⟩
       ·
        rw [if_neg (by omega)]
        simp only [hlow,hhigh,decide_true,decide_false,cond_true,cond_false]
        exact ⟨_,rfl,rfl⟩
  ·
   rw [if_neg (by omega)]
   refine .inr ⟨_,rfl,?_⟩
   have hr:kY rest low high=(0,0,3):=by simp only [kY,hs]
   rw [hr];rfl
 rw [hr,Option.bind_some]
 exact hq
theorem aIT {k u:Nat} (h:u*128 ^ k<18446744073709551616) (hu:0<u):k≤9:=by
 refine Classical.byContradiction fun hk=>?_
 have h1:128 ^ 10≤128 ^ k:=Nat.pow_le_pow_right (by omega) (by omega)
 have h2:1*128 ^ k≤u*128 ^ k:=Nat.mul_le_mul_right _ hu
 have h3:(128:Nat) ^ 10=1180591620717411303424:=by decide
 omega
theorem aLV (rest:List UInt8):∀ (u k acc:Nat),(k=0∨0<u)→u*128 ^ k<18446744073709551616→pD k acc (nC u++rest)=.inr (acc+u*128 ^ k,k+(nC u).length):=by
 intro u
 induction u using Nat.strongRecOn with
 | _ u ih =>
  intro k acc h0 hlt
  have hk:k≤9:=by
   rcases h0 with h | h
   ·
    omega
   ·
    exact aIT hlt h
  by_cases h:u<128
  ·
   rw [aCW h]
   have e:(UInt8.ofNat u).toNat=u:=by simp;omega
   simp only [List.cons_append,List.nil_append,pD,e]
   rw [if_neg (by omega),if_neg (by omega),if_neg]
   ·
    rfl
   ·
    rintro (⟨h1,h2⟩ | ⟨h1,h2⟩)
    ·
     omega
    ·
     subst h1
     have:(128:Nat) ^ 9=9223372036854775808:=by decide
     rw [this] at hlt
     omega
  ·
   rw [aEN h]
   have e:(UInt8.ofNat (128+u % 128)).toNat=128+u % 128:=by simp;omega
   simp only [List.cons_append,pD,e]
   rw [if_neg (by omega),if_pos (by omega)]
   have hs:128 ^ (k+1)=128 ^ k*128:=Nat.pow_succ ..
   have hm:u / 128*128 ^ (k+1)+u % 128*128 ^ k=u*128 ^ k:=by
    rw [hs,Nat.mul_comm (128 ^ k) 128,← Nat.mul_assoc,← Nat.add_mul,Nat.mul_comm (u / 128) 128,Nat.div_add_mod]
   rw [ih (u / 128) (by omega) (k+1) _ (.inr (by omega)) (by omega),show (128+u % 128) % 128=u % 128 by omega]
   simp only [List.length_cons,Sum.inr.injEq,Prod.mk.injEq]
   exact ⟨by omega,by omega⟩
theorem aG7 {n low high:Int} (rest:List UInt8) (h1:-9223372036854775808≤n) (h2:n≤9223372036854775807) :
  kY (nC (zz n)++rest) low high=if n<low∨high<n then (0,(nC (zz n)).length,14) else (n,(nC (zz n)).length,0):=by
 have h:=aD9 h1 h2
 unfold kY
 rw [aLV rest (zz n) 0 0 (.inl rfl) (by simpa using h)]
 simp only [Nat.zero_add,Nat.pow_zero,Nat.mul_one,aOn]
theorem aG8:∀ (l:List UInt8) (k u w n:Nat),pD k u l=.inr (w,n)→n≤k+l.length
 | [],k,u,w,n,h=>by simp only [pD] at h;split at h <;> cases h
 | c :: r,k,u,w,n,h=>by
  simp only [pD] at h
  split at h
  ·
   cases h
  ·
   split at h
   ·
    have:=aG8 r _ _ _ _ h
    simp only [List.length_cons]
    omega
   ·
    split at h
    ·
     cases h
    ·
     cases h
     simp only [List.length_cons]
     omega
theorem aG6 (l:List UInt8) (low high:Int):(kY l low high).2.1≤l.length:=by
 unfold kY
 split
 ·
  simp
 ·
  rename_i u k h
  have:=aG8 l 0 0 u k h
  split <;> simp <;> omega
theorem aN0 {l:List UInt8}{low high:Int} (h:(kY l low high).2.2=0):low≤(kY l low high).1∧(kY l low high).1≤high:=by
 unfold kY at h ⊢
 split
 ·
  rename_i e hs
  rw [hs] at h
  simp only at h
  exfalso
  have key:∀ (l:List UInt8) (k u e:Nat),pD k u l=.inl e→e=3∨e=4:=by
   intro l
   induction l with
   | nil=>intro k u e h;simp only [pD] at h;split at h <;> cases h <;> simp
   | cons c r ih =>
    intro k u e h
    simp only [pD] at h
    split at h
    ·
     cases h;simp
    ·
     split at h
     ·
      exact ih _ _ _ h
     ·
      split at h <;> cases h
      simp
  rcases key _ _ _ _ hs with h2 | h2 <;> omega
 ·
  rename_i u k hs
  rw [hs] at h
  simp only at h
  by_cases hc:wA u<low∨high<wA u
  ·
   rw [if_pos hc] at h;simp at h
  ·
   rw [if_neg hc];simp only;omega
def aM8 (b:List UInt8) (at_:Nat) (most:Int):List UInt8 × aQ :=
 if (kY (b.drop at_) 0 most).2.2≠0 then ([],xZ b at_ 0 most)
 else if (b.length:Int) - (at_+(kY (b.drop at_) 0 most).2.1:Nat)<(kY (b.drop at_) 0 most).1 then ([],⟨b,(at_+(kY (b.drop at_) 0 most).2.1:Nat),4,true⟩)
 else ((b.drop (at_+(kY (b.drop at_) 0 most).2.1)).take (kY (b.drop at_) 0 most).1.toNat,⟨b,(at_+(kY (b.drop at_) 0 most).2.1+(kY (b.drop at_) 0 most).1.toNat:Nat),0,true⟩)
theorem aOc {b:List UInt8}{at_:Nat}{most:Int} (h1:at_≤b.length) (hb:b.length≤1000000000):fZ most ⟨b,at_,0,true⟩=some (aM8 b at_ most):=by
 have hu:=aG6 (b.drop at_) 0 most
 rw [List.length_drop] at hu
 unfold fZ aM8
 rw [aFe h1 hb,Option.bind_some]
 unfold xZ
 rw [aCs,Option.bind_some]
 by_cases he:(kY (b.drop at_) 0 most).2.2=0
 ·
  have hin:=aN0 he
  generalize hr:kY (b.drop at_) 0 most=r at *
  obtain ⟨v,k,e⟩:=r
  simp only at he hin hu
  subst he
  simp only [Bool.not_true,cond_false,Int.natCast_zero,decide_true,cC,ne_eq,not_true_eq_false,if_false]
  rw [w64 (by omega) (by omega)]
  by_cases h3:(b.length:Int) - (at_+k:Nat)<v
  ·
   rw [if_pos h3,if_pos h3]
  ·
   rw [if_neg h3,if_neg h3,w64 (by omega) (by omega),aOa (by omega),Option.bind_some]
   have e1:(((at_+k:Nat):Int)+v).toNat=at_+k+v.toNat:=by omega
   rw [e1,Int.toNat_natCast,List.drop_take,show at_+k+v.toNat - (at_+k)=v.toNat by omega]
   congr 3
   omega
 ·
  rw [if_pos he]
  have:decide (((kY (b.drop at_) 0 most).2.2:Int)=0)=false:=by simp;omega
  simp only [this,Bool.not_true,Bool.not_false,cond_false,cond_true]
def kL:List UInt8→Nat
 | []=>0
 | c :: r=>c.toNat % 128+128*kL r
theorem aJb:∀ (l:List UInt8) (k u w n:Nat),pD k u l=.inr (w,n)→k<n∧n≤k+l.length∧w=u+128 ^ k*kL (l.take (n - k))
 | [],k,u,w,n,h=>by simp only [pD] at h;split at h <;> cases h
 | c :: r,k,u,w,n,h=>by
  simp only [pD] at h
  split at h
  ·
   cases h
  ·
   split at h
   ·
    obtain ⟨h1,h2,h3⟩:=aJb r _ _ _ _ h
    refine ⟨by omega,by simp only [List.length_cons];omega,?_⟩
    rw [show n - k=(n - (k+1))+1 by omega,List.take_succ_cons,kL,h3,Nat.pow_succ,Nat.mul_add,Nat.mul_assoc,Nat.add_assoc,Nat.mul_comm (c.toNat % 128)]
   ·
    rename_i h3
    split at h
    ·
     cases h
    ·
     cases h
     refine ⟨by omega,by simp,?_⟩
     rw [show k+1 - k=0+1 by omega,List.take_succ_cons,kL,List.take_zero,kL,show c.toNat % 128=c.toNat by omega,Nat.mul_zero,Nat.add_zero,Nat.mul_comm]
theorem aHK:∀ (l:List UInt8) (k u w n:Nat),pD k u l=.inr (w,n)→k≤9→u<128 ^ k→w<18446744073709551616
 | [],k,u,w,n,h,_,_=>by simp only [pD] at h;split at h <;> cases h
 | c :: r,k,u,w,n,h,hk,hu=>by
  have hc:=c.toNat_lt
  simp only [pD] at h
  split at h
  ·
   cases h
  ·
   split at h
   ·
    have hlt:u+c.toNat % 128*128 ^ k<128 ^ (k+1):=by
     rw [Nat.pow_succ]
     have:c.toNat % 128*128 ^ k≤127*128 ^ k:=Nat.mul_le_mul_right _ (by omega)
     omega
    by_cases hk9:k=9
    ·
     exfalso
     subst hk9
     cases r with
     | nil=>simp [pD] at h
     | cons d r=>simp [pD] at h
    ·
     exact aHK r _ _ _ _ h (by omega) hlt
   ·
    split at h
    ·
     cases h
    ·
     rename_i h3 h4
     cases h
     have:k=0∨k=1∨k=2∨k=3∨k=4∨k=5∨k=6∨k=7∨k=8∨k=9:=by omega
     rcases this with rfl | rfl | rfl | rfl | rfl | rfl | rfl | rfl | rfl | rfl <;> omega
theorem aJa:∀ (l:List UInt8) (k u e:Nat),pD k u l=.inl e→e=3∨e=4
 | [],k,u,e,h=>by simp only [pD] at h;split at h <;> cases h <;> simp
 | c :: r,k,u,e,h=>by
  simp only [pD] at h
  split at h
  ·
   cases h;simp
  ·
   split at h
   ·
    exact aJa r _ _ _ h
   ·
    split at h <;> cases h
    simp
def zI (rest:List UInt8):Int × Int:=match pD 0 0 rest with
 | .inl e=>(0,(e:Int))
 | .inr (_,n)=>((n:Int),0)
theorem aMv {m:Bool}{rest:List UInt8}{x:Int} (hr:rest.length≤1000000000):rS ⟨m,rest,x⟩=some (zI rest):=by
 unfold rS
 obtain ⟨r,h1,h2⟩:∃ r,eQ (oT ⟨m,rest,x⟩) (1:Int)=some r∧Fl.next r (fun _=>some ((0:Int),(3:Int)))=some (zI rest):=by
  refine rE (fun (s:Int)=>∃ k:Nat,s=(k:Int)+1∧((k≤9∧k≤rest.length∧∃ u:Nat,pD 0 0 rest=pD k u (rest.drop k))∨(k=10∧pD 0 0 rest=.inl 3))) (fun s=>12 - s.toNat) _ ?_ 1 ⟨0,rfl,.inl ⟨by omega,by omega,0,by simp⟩⟩
  rintro s ⟨k,rfl,hI⟩
  unfold oT
  rw [cC]
  obtain ⟨hk,hkl,u,hs⟩ | ⟨rfl,hs⟩:=hI
  ·
   rw [if_pos (by omega),cC]
   by_cases h3:(rest.length:Int)<(k:Int)+1
   ·
    rw [if_pos h3]
    refine .inr ⟨_,rfl,?_⟩
    have hd:rest.drop k=[]:=List.drop_eq_nil_of_le (by omega)
    rw [hd] at hs
    simp only [pD] at hs
    rw [if_neg (by omega)] at hs
    simp only [zI,hs];rfl
   ·
    rw [if_neg h3]
    have hlt:k<rest.length:=by omega
    rw [w64 (by omega) (by omega),show (k:Int)+1 - 1=(k:Int) by omega,aCy,List.getElem?_eq_getElem hlt,Option.bind_some]
    generalize hc:rest[k]=c
    have hd:rest.drop k=c :: rest.drop (k+1):=by rw [← hc];exact List.drop_eq_getElem_cons hlt
    rw [hd] at hs
    simp only [pD] at hs
    rw [if_neg (by omega)] at hs
    rw [cC]
    by_cases h4:(c.toNat:Int)<128
    ·
     rw [if_pos h4]
     rw [if_neg (by omega)] at hs
     by_cases hX:(0<k∧c.toNat=0)∨(k=9∧1<c.toNat)
     ·
      rw [if_pos hX] at hs
      have e:(cond (cond (decide ((1:Int)<(k:Int)+1)) (decide ((c.toNat:Int)=0)) false) true (cond (decide ((k:Int)+1=10)) (decide ((1:Int)<(c.toNat:Int))) false))=true:=by
       rcases hX with ⟨h5,h6⟩ | ⟨h5,h6⟩
       ·
        have:(1:Int)<(k:Int)+1:=by omega
        simp [h6,this]
       ·
        simp [h5];omega
      rw [e,cond_true]
      refine .inr ⟨_,rfl,?_⟩
      simp only [zI,hs];rfl
     ·
      rw [if_neg hX] at hs
      have e:(cond (cond (decide ((1:Int)<(k:Int)+1)) (decide ((c.toNat:Int)=0)) false) true (cond (decide ((k:Int)+1=10)) (decide ((1:Int)<(c.toNat:Int))) false))=false:=by
       simp only [Bool.cond_eq_ite]
       by_cases h5:0<k <;> by_cases h6:c.toNat=0 <;> by_cases h7:k=9 <;> by_cases h8:1<c.toNat <;> simp <;> omega
      rw [e,cond_false]
      refine .inr ⟨_,rfl,?_⟩
      simp only [zI,hs];rfl
    ·
     rw [if_neg h4]
     rw [if_pos (by omega)] at hs
     refine .inl ⟨_,rfl,⟨k+1,by rw [w64 (by omega) (by omega)];omega,?_⟩,by rw [w64 (by omega) (by omega)];omega⟩
     by_cases hk9:k=9
     ·
      refine .inr ⟨by omega,?_⟩
      rw [hs,hk9]
      cases rest.drop (9+1) <;> simp [pD]
     ·
      exact .inl ⟨by omega,by omega,_,hs⟩
  ·
   rw [if_neg (by omega)]
   refine .inr ⟨_,rfl,?_⟩
   simp only [zI,hs];rfl
 rw [h1,Option.bind_some]
 exact h2
theorem aPw (c:UInt8) (r:List UInt8):kL r≤kL (c :: r):=by simp only [kL];omega
theorem aJn:∀ (l:List UInt8) (j:Nat),kL (l.drop j)≤kL l
 | [],j=>by simp
 | c :: r,0=>by simp
 | c :: r,j+1=>Nat.le_trans (aJn r j) (aPw c r)
theorem aKf {m:Bool}{rest:List UInt8}{x:Int}{k:Nat} (hk:k≤rest.length) (hw:kL (rest.take k)<18446744073709551616) (hr:rest.length≤1000000000):eQ (qV ⟨m,rest,x⟩) ((0:Int),(k:Int) - 1)=some (kL (rest.take k):Int):=by
 refine aBf (fun (s:Int × Int)=>∃ j:Nat,s.2=(j:Int) - 1∧j≤k∧s.1=(kL ((rest.take k).drop j):Int)) (fun s=>(s.2+1).toNat) (fun _=>(kL (rest.take k):Int)) ?_ _ ⟨k,rfl,Nat.le_refl _,by simp [kL]⟩
 rintro ⟨u,i⟩ ⟨j,hi,hj,hu⟩
 simp only at hi hu
 subst hi hu
 unfold qV
 simp only [cC]
 cases j with
 | zero =>
  rw [if_neg (by omega),List.drop_zero]
  exact .inr rfl
 | succ j =>
  rw [if_pos (by omega),show ((j+1:Nat):Int) - 1=(j:Int) by omega,aCy,List.getElem?_eq_getElem (by omega),Option.bind_some]
  have hlt:j<(rest.take k).length:=by simp;omega
  have hd:(rest.take k).drop j=rest[j] :: (rest.take k).drop (j+1):=by rw [List.drop_eq_getElem_cons hlt];congr 1;simp
  have hv:kL ((rest.take k).drop j)=rest[j].toNat % 128+128*kL ((rest.take k).drop (j+1)):=by rw [hd,kL]
  have hb:=Nat.lt_of_le_of_lt (aJn (rest.take k) j) hw
  have e:IntKind.u64.wrap (IntKind.u64.wrap ((kL ((rest.take k).drop (j+1)):Int)*128)+IntKind.u64.wrap ((rest[j].toNat:Int).tmod 128))=(kL ((rest.take k).drop j):Int):=by
   rw [Int.tmod_eq_emod_of_nonneg (by omega)]
   simp only [IntKind.wrap_u64]
   omega
  rw [e,w64 (by omega) (by omega)]
  refine .inl ⟨((kL ((rest.take k).drop j):Int),(j:Int) - 1),rfl,⟨j,rfl,by omega,rfl⟩,?_,trivial⟩
  simp only
  omega
def aFE (rest:List UInt8) (low high:Int):fQ:=⟨true,if (kY rest low high).2.2=0 then rest.drop (kY rest low high).2.1 else [],(kY rest low high).2.2⟩
theorem aLP {rest:List UInt8}{low high:Int} (hr:rest.length≤1000000000):jE low high ⟨true,rest,0⟩=some ((kY rest low high).1,aFE rest low high):=by
 unfold jE mK
 rw [aMv hr]
 simp only [Option.bind_some,Bool.not_true,cond_false,decide_true,yV]
 unfold zI aFE
 cases hs:pD 0 0 rest with
 | inl e =>
  have he:=aJa rest 0 0 e hs
  have hr:kY rest low high=(0,0,e):=by simp only [kY,hs]
  rw [hr]
  simp only
  rw [if_neg (by omega),if_neg (by omega)]
  rfl
 | inr wn =>
  obtain ⟨w,n⟩:=wn
  obtain ⟨h1,h2,h3⟩:=aJb rest 0 0 w n hs
  have h4:=aHK rest 0 0 w n hs (by omega) (by omega)
  simp only [Nat.sub_zero,Nat.pow_zero,Nat.one_mul,Nat.zero_add] at h2 h3
  subst h3
  have hr:kY rest low high=if wA (kL (rest.take n))<low∨high<wA (kL (rest.take n)) then (0,n,14) else (wA (kL (rest.take n)),n,0):=by simp only [kY,hs]
  rw [hr]
  simp only [if_true]
  rw [w64 (by omega) (by omega),aKf h2 h4 (by omega),Option.bind_some]
  generalize kL (rest.take n)=w at *
  have e1:(cond (decide ((w:Int).tmod 2=1)) (some (IntKind.i64.wrap (IntKind.i64.wrap (0 - IntKind.i64.wrap (IntKind.u64.wrap ((w:Int).tdiv 2))) - 1))) (some (IntKind.i64.wrap (IntKind.u64.wrap ((w:Int).tdiv 2)))))=some (wA w):=by
   have e2:(w:Int).tdiv 2=((w / 2:Nat):Int):=by rw [Int.tdiv_eq_ediv_of_nonneg (by omega)];omega
   have e3:(w:Int).tmod 2=((w % 2:Nat):Int):=by rw [Int.tmod_eq_emod_of_nonneg (by omega)];omega
   rw [e2,e3,cC,aQD (by omega) (by omega),w64 (x:=((w / 2:Nat):Int)) (by omega) (by omega)]
   unfold wA
   by_cases h5:w % 2=1
   ·
    rw [if_pos (by omega),if_pos h5,w64 (x:=0 - ((w / 2:Nat):Int)) (by omega) (by omega),w64 (by omega) (by omega)]
    congr 1
    omega
   ·
    rw [if_neg (by omega),if_neg h5]
  rw [e1,Option.bind_some]
  by_cases hlow:wA w<low
  ·
   rw [if_pos (.inl hlow)]
   simp only [hlow,decide_true,cond_true,qD,Option.bind_some]
   simp
  ·
   by_cases hhigh:high<wA w
   ·
    rw [if_pos (.inr hhigh)]
    simp only [hlow,hhigh,decide_true,decide_false,cond_true,cond_false,qD,Option.bind_some]
    simp
   ·
    rw [if_neg (by omega)]
    simp only [hlow,hhigh,decide_true,decide_false,cond_true,cond_false]
    rw [aEM (by omega),Option.bind_some]
    simp
def aNz (r:aQ) (w:fQ):Prop:=∃ (b:List UInt8) (a:Nat) (e:Int),b.length≤1000000000∧a≤b.length∧r=⟨b,a,e,true⟩∧w=⟨true,if e=0 then b.drop a else [],e⟩
theorem aMQ {r:aQ}{w:fQ}{low high:Int} (h:aNz r w):∃ x r' w',eP low high r=some (x,r')∧jE low high w=some (x,w')∧aNz r' w':=by
 obtain ⟨b,a,e,hb,ha,rfl,rfl⟩:=h
 by_cases h:e=0
 ·
  subst h
  have hu:=aG6 (b.drop a) low high
  rw [List.length_drop] at hu
  refine ⟨_,_,_,aFe ha hb,aLP (by simp;omega),b,a+(kY (b.drop a) low high).2.1,(kY (b.drop a) low high).2.2,hb,by omega,rfl,?_⟩
  unfold aFE
  simp only [if_true]
  by_cases h2:(kY (b.drop a) low high).2.2=0
  ·
   rw [if_pos h2,if_pos (by omega),List.drop_drop]
  ·
   rw [if_neg h2,if_neg (by omega)]
 ·
  refine ⟨0,⟨b,a,e,true⟩,⟨true,[],e⟩,?_,?_,b,a,e,hb,ha,rfl,by simp [h]⟩
  ·
   unfold eP;rw [aCs];simp [h]
  ·
   unfold jE mK;simp [h]
end Go.Proofs.YtnigjppddilpcaaGreatDoor
namespace Go.Proofs.YtnigjppddilpcaaGreatDoor
open Go Abs
set_option linter.unusedSimpArgs false
set_option linter.unusedVariables false
def aER (e:Int) (r:aQ) (w:fQ):Prop:=∃ (b:List UInt8) (a:Nat),b.length≤1000000000∧a≤b.length∧r=⟨b,a,e,true⟩∧w=⟨true,if e=0 then b.drop a else [],e⟩
theorem aO3 {r:aQ}{w:fQ} (h:aNz r w):∃ e,aER e r w:=by
 obtain ⟨b,a,e,h1,h2,h3,h4⟩:=h
 exact ⟨e,b,a,h1,h2,h3,h4⟩
theorem aM7 (l:List UInt8) (low high:Int):qW (kY l low high).1:=by
 unfold kY
 split
 ·
  simp [qW]
 ·
  rename_i u k hs
  have:=aOm (aHK l 0 0 u k hs (by omega) (by simp))
  split
  ·
   simp [qW]
  ·
   exact this
theorem aMO {e:Int}{r:aQ}{w:fQ} (low high:Int) (h:aER e r w):∃ x e' r' w',eP low high r=some (x,r')∧jE low high w=some (x,w')∧aER e' r' w'∧qW x∧(e≠0→x=0∧e'=e)∧(e'=0→e=0):=by
 by_cases he:e=0
 ·
  subst he
  obtain ⟨b,a,hb,ha,rfl,rfl⟩:=h
  have hl:aNz ⟨b,a,0,true⟩ ⟨true,if (0:Int)=0 then b.drop a else [],0⟩:=⟨b,a,0,hb,ha,rfl,rfl⟩
  obtain ⟨x,r',w',h1,h2,h3⟩:=aMQ (low:=low) (high:=high) hl
  obtain ⟨e',h4⟩:=aO3 h3
  refine ⟨x,e',r',w',h1,h2,h4,?_,fun h=>absurd rfl h,fun _=>rfl⟩
  rw [aFe ha hb] at h1
  cases h1
  exact aM7 _ _ _
 ·
  obtain ⟨b,a,hb,ha,rfl,rfl⟩:=h
  refine ⟨0,e,⟨b,a,e,true⟩,⟨true,if e=0 then b.drop a else [],e⟩,?_,?_,⟨b,a,hb,ha,rfl,rfl⟩,by simp [qW],fun _=>⟨rfl,rfl⟩,fun h=>absurd h he⟩
  ·
   unfold eP;rw [aCs];simp [he]
  ·
   unfold jE mK;simp [he]
theorem aIl:∀ (a b:List UInt8),(!(Op.bytesLess a b||decide (a=b)))=Op.bytesLess b a
 | [],[]=>by simp [Op.bytesLess]
 | [],y :: b=>by simp [Op.bytesLess]
 | x :: a,[]=>by simp [Op.bytesLess]
 | x :: a,y :: b=>by
  simp only [Op.bytesLess,List.cons.injEq]
  have ih:=aIl a b
  by_cases h1:x<y
  ·
   have h2:¬y<x:=fun h=>absurd (UInt8.lt_trans h1 h) (UInt8.lt_irrefl _)
   have h3:¬y=x:=fun h=>by subst h;exact UInt8.lt_irrefl _ h1
   simp [h1,h2,h3]
  ·
   by_cases h2:y<x
   ·
    have h3:¬x=y:=fun h=>by subst h;exact UInt8.lt_irrefl _ h2
    simp [h1,h2,h3]
   ·
    have h3:x=y:=UInt8.le_antisymm (UInt8.not_lt.1 h2) (UInt8.not_lt.1 h1)
    subst h3
    simpa [h1] using ih
end Go.Proofs.YtnigjppddilpcaaGreatDoor
namespace Go.Proofs.YtnigjppddilpcaaGreatDoor
open Go Abs
set_option linter.unusedSimpArgs false
set_option linter.unusedVariables false
def kB (n:Int):List UInt8:=nC (zz n)
def nN (s:List UInt8):List UInt8:=nC (zz s.length)++s
theorem iD {n:Int} (h:qW n):(kB n).length≤10:=xE (aD9 h.1 h.2)
theorem yW {n:Nat} (h:n≤9223372036854775807):(kB (n:Int)).length≤10:=iD ⟨by omega,by omega⟩
theorem pS {s:List UInt8} (h:s.length≤9223372036854775807):(nN s).length≤10+s.length:=by
 have:=yW h
 unfold kB at this
 simp only [nN,List.length_append];omega
theorem aCV (s:List UInt8):s.length≤(nN s).length:=by simp [nN]
theorem yF {b:List UInt8}{n:Int} (hb:b.length≤10000000000000) (h:qW n):fB b n=some (b++kB n):=aA9 hb h.1 h.2
theorem aIV {b s:List UInt8} (hb:b.length≤10000000000000) (hs:s.length≤10000000000000):hU b s=some (b++nN s):=by rw [aEv hb hs,nN,List.append_assoc]
theorem nG {α:Type} (B:Nat) (l:List α) (f:α→List UInt8) (b:List UInt8) (hB:(b++l.flatMap f).length≤B) {body:List UInt8 × Int→Option (cM (List UInt8 × Int) (List UInt8))}
  (h:∀ (s:List UInt8) (i:Nat) (hi:i<l.length),(s++f l[i]).length≤B→body (s,(i:Int))=some (.next (s++f l[i],((i+1:Nat):Int)))) (hout:∀ s,body (s,(l.length:Int))=some (.out s)) :
  eQ body (b,(0:Int))=some (b++l.flatMap f):=by
 refine aBf (fun s=>∃ i:Nat,s.2=(i:Int)∧i≤l.length∧s.1=b++(l.take i).flatMap f) (fun s=>l.length - s.2.toNat) (fun _=>b++l.flatMap f) ?_ _ ⟨0,rfl,by omega,by simp⟩
 rintro ⟨s,i0⟩ ⟨i,hi0,hi,hs⟩
 simp only at hi0 hs
 subst hi0 hs
 by_cases hlt:i<l.length
 ·
  have e:b++(l.take i).flatMap f++f l[i]=b++(l.take (i+1)).flatMap f:=by rw [List.take_succ_eq_append_getElem hlt,List.flatMap_append];simp
  have hle:(b++(l.take i).flatMap f++f l[i]).length≤B:=by
   rw [e]
   refine Nat.le_trans ?_ hB
   conv=>rhs;rw [← List.take_append_drop (i+1) l,List.flatMap_append]
   simp only [List.length_append];omega
  refine .inl ⟨_,h _ i hlt hle,⟨i+1,rfl,hlt,e⟩,by simp;omega,rfl⟩
 ·
  obtain rfl:i=l.length:=by omega
  rw [hout,List.take_length]
  exact .inr rfl
mutual
def pE:aG→List UInt8
 | ⟨k,i,t,l,ks⟩=>kB k++(if k=1∨k=2∨k=6 then kB i else if k=3 then nN t else if k=4 then kB l.length++aJp l else if k=5 then kB l.length++aHc l ks else [])
def aJp:List aG→List UInt8
 | []=>[]
 | x :: l=>pE x++aJp l
def aHc:List aG→List (List UInt8)→List UInt8
 | x :: l,k :: ks=>nN k++pE x++aHc l ks
 | _,_=>[]
end
theorem aJq:∀ l,aJp l=l.flatMap pE
 | []=>by simp [aJp]
 | x :: l=>by simp [aJp,aJq l]
theorem aJr:∀ l ks,aHc l ks=(l.zip ks).flatMap fun p=>nN p.2++pE p.1
 | [],_=>by simp [aHc]
 | x :: l,[]=>by simp [aHc]
 | x :: l,k :: ks=>by simp [aHc,aJr l ks]
theorem aHQ (v:aG):pE v=kB v.Kind++(if v.Kind=1∨v.Kind=2∨v.Kind=6 then kB v.Int else if v.Kind=3 then nN v.Text else if v.Kind=4 then kB v.Items.length++v.Items.flatMap pE
 else if v.Kind=5 then kB v.Items.length++(v.Items.zip v.Keys).flatMap (fun p=>nN p.2++pE p.1) else []):=by cases v;simp only [pE,aJq,aJr]
mutual
def nsz:aG→Nat
 | ⟨_,_,_,l,_⟩=>kC l+1
def kC:List aG→Nat
 | []=>0
 | x :: l=>nsz x+kC l
end
theorem aDn (v:aG):nsz v=kC v.Items+1:=by cases v;simp [nsz]
theorem aIu {α:Type} (f:α→List UInt8) (g:α→Nat):∀ (l:List α),(∀ x∈l,(f x).length≤g x)→(l.flatMap f).length≤(l.map g).sum
 | [],_=>by simp
 | x :: l,h=>by
  have h1:=h x (by simp)
  have h2:=aIu f g l (fun y hy=>h y (by simp [hy]))
  simp only [List.flatMap_cons,List.length_append,List.map_cons,List.sum_cons];omega
theorem aKM:∀ l,l.length≤kC l
 | []=>by simp
 | x :: l=>by have:=aKM l;have:=aDn x;simp only [kC,List.length_cons];omega
theorem aKX (c:Nat):∀ (l:List aG),(l.map fun x=>nsz x*c).sum=kC l*c
 | []=>by simp [kC]
 | x :: l=>by simp [kC,aKX c l,Nat.add_mul]
theorem aJo:∀ (n:Nat) (v:aG),tN v≤n→cP v→shr v=true→(pE v).length+4200≤nsz v*8400:=by
 intro n
 induction n with
 | zero=>intro v h;have:=hZ v;omega
 | succ n ih =>
  intro v h hv hs
  have hh:=hZ v
  obtain ⟨k0,k1,k2,k3,k4⟩:=(eM v).1 hv
  rw [aHL] at hs
  simp only [Bool.and_eq_true,Bool.not_eq_true',List.all_eq_true,List.any_eq_false,iM,decide_eq_false_iff_not,decide_eq_true_eq] at hs
  obtain ⟨⟨h1,h2⟩,h3⟩:=hs
  have e1:=iD k0
  have e2:=iD k1
  have e3:=pS (s:=v.Text) (by omega)
  have e4:=yW (n:=v.Items.length) k3.1
  have hi:∀ x∈v.Items,(pE x).length+4200≤nsz x*8400:=fun x hx=>ih x (by have:=jK hx;omega) (k3.2.2 x hx) (h3 x hx)
  rw [aHQ,aDn]
  simp only [List.length_append]
  have f4:(v.Items.flatMap pE).length≤kC v.Items*8400:=by
   have:=aIu pE (fun x=>nsz x*8400) v.Items (fun x hx=>by have:=hi x hx;omega)
   rwa [aKX] at this
  have key:∀ (l:List aG) (ks:List (List UInt8)),(∀ x∈l,(pE x).length+4200≤nsz x*8400)→(∀ k∈ks,k.length≤4096)→((l.zip ks).flatMap fun p=>nN p.2++pE p.1).length≤kC l*8400:=by
   intro l
   induction l with
   | nil=>intro ks _ _;simp
   | cons x l ihl =>
    intro ks hl hk
    cases ks with
    | nil=>simp
    | cons k ks =>
     have a1:=ihl ks (fun y hy=>hl y (by simp [hy])) (fun y hy=>hk y (by simp [hy]))
     have a2:=hl x (by simp)
     have a3:=hk k (by simp)
     have a4:=pS (s:=k) (by omega)
     simp only [List.zip_cons_cons,List.flatMap_cons,List.length_append,kC,Nat.add_mul];omega
  have f5:=key v.Items v.Keys hi (fun k hk=>by have:=h2 k hk;omega)
  split
  ·
   omega
  ·
   split
   ·
    omega
   ·
    split
    ·
     simp only [List.length_append];omega
    ·
     split
     ·
      simp only [List.length_append];omega
     ·
      simp;omega
theorem aE7 {o:Bool}{v:aG} (h:xW o v=true):(v.Kind≠4→v.Kind≠5→v.Items=[])∧(v.Kind=5→v.Keys.length=v.Items.length)∧∀ x∈v.Items,xW o x=true:=by
 rw [aDi,Bool.and_eq_true,List.all_eq_true] at h
 refine ⟨fun h4 h5=>?_,fun h5=>?_,h.2⟩
 ·
  have hf:=h.1
  unfold aAi at hf
  by_cases h0:v.Kind=0
  ·
   simp [h0] at hf;simp [hf]
  ·
   by_cases h1:v.Kind=1
   ·
    simp [h1] at hf;simp [hf]
   ·
    by_cases h2:v.Kind=2
    ·
     simp [h2] at hf;simp [hf]
    ·
     by_cases h6:v.Kind=6
     ·
      simp [h6] at hf;simp [hf]
     ·
      by_cases h3:v.Kind=3
      ·
       simp [h3] at hf;simp [hf]
      ·
       simp [h0,h1,h2,h6,h3,h4,h5] at hf
 ·
  have hf:=h.1
  unfold aAi at hf
  simp [h5] at hf
  exact hf.1.2
end Go.Proofs.YtnigjppddilpcaaGreatDoor
namespace Go.Proofs.YtnigjppddilpcaaGreatDoor
open Go Abs
set_option linter.unusedSimpArgs false
set_option linter.unusedVariables false
def At (r:aQ) (rest:List UInt8):Prop:=∃ (b:List UInt8) (a:Nat),b.length≤1000000000∧a≤b.length∧r=⟨b,a,0,true⟩∧b.drop a=rest
theorem sH {r:aQ}{l:List UInt8} (h:At r l):eO r=some 0:=by
 obtain ⟨b,a,_,_,rfl,_⟩:=h
 rfl
theorem aNG {b:List UInt8} (h:b.length≤1000000000):∃ r,wH b=some r∧At r b:=⟨_,aH0 (by omega),b,0,h,by omega,rfl,rfl⟩
theorem aBQ {r:aQ}{n low high:Int}{rest:List UInt8} (h:At r (kB n++rest)) (hn:qW n) (h1:low≤n) (h2:n≤high):∃ r',eP low high r=some (n,r')∧At r' rest:=by
 obtain ⟨b,a,hb,ha,rfl,hd⟩:=h
 have hr:=aG7 (low:=low) (high:=high) rest hn.1 hn.2
 rw [if_neg (by omega)] at hr
 have hlen:(kB n).length≤b.length - a:=by
  have:=congrArg List.length hd
  simp only [List.length_drop,List.length_append] at this
  omega
 refine ⟨_,by rw [aFe ha hb,hd];unfold kB;rw [hr],b,a+(kB n).length,hb,by omega,?_,?_⟩
 ·
  unfold xZ
  rw [hd];unfold kB;rw [hr];rfl
 ·
  rw [← List.drop_drop,hd,List.drop_left]
theorem yU {r:aQ}{s:List UInt8}{most:Int}{rest:List UInt8} (h:At r (nN s++rest)) (hs:(s.length:Int)≤most):∃ r',fZ most r=some (s,r')∧At r' rest:=by
 obtain ⟨b,a,hb,ha,rfl,hd⟩:=h
 have hl:=congrArg List.length hd
 simp only [List.length_drop,List.length_append,nN] at hl
 have hr:=aG7 (low:=0) (high:=most) (s++rest) (n:=(s.length:Int)) (by omega) (by omega)
 rw [if_neg (by omega)] at hr
 have hd':b.drop a=nC (zz s.length)++(s++rest):=by rw [hd,nN,List.append_assoc]
 have hd2:b.drop (a+(nC (zz s.length)).length)=s++rest:=by rw [← List.drop_drop,hd',List.drop_left]
 refine ⟨⟨b,(a+(nC (zz s.length)).length+s.length:Nat),0,true⟩,?_,b,a+(nC (zz s.length)).length+s.length,hb,by omega,rfl,?_⟩
 ·
  rw [aOc ha hb]
  unfold aM8
  rw [hd',hr]
  simp only [ne_eq,not_true_eq_false,if_false]
  rw [if_neg (by omega),hd2]
  simp
 ·
  rw [← List.drop_drop,hd2,List.drop_left]
theorem aLQ {l:List (List UInt8)} (h:l.length≤9223372036854775807) (hr:aEi l=true) (i:Nat) (hi:i+1<l.length):Op.bytesLess l[i] l[i+1]=true:=aFH.1 hr i hi
theorem aNT:∀ (n:Nat) (v:aG),tN v≤n→tN v≤nsz v:=by
 intro n
 induction n with
 | zero=>intro v h;have:=hZ v;omega
 | succ n ih =>
  intro v h
  have hh:=hZ v
  rw [hh,aDn]
  have key:∀ l:List aG,(∀ x∈l,tN x≤nsz x)→aDk l≤kC l:=by
   intro l
   induction l with
   | nil=>simp [aDk,kC]
   | cons x l ihl =>
    intro hl
    have h1:=hl x (by simp)
    have h2:=ihl (fun y hy=>hl y (by simp [hy]))
    simp only [aDk,kC];omega
  have:=key v.Items (fun x hx=>ih x (by have:=jK hx;omega))
  omega
theorem aIM:∀ {l:List aG}{x:aG},x∈l→nsz x≤kC l
 | [],x,h=>by simp at h
 | y :: l,x,h=>by
  simp only [kC]
  rcases List.mem_cons.1 h with rfl | h
  ·
   omega
  ·
   have:=aIM h;omega
theorem aKF:∀ (n:Nat) (v:aG),tN v≤n→nsz v≤1000000→dep v=(tN v:Int)∧siz v=(nsz v:Int):=by
 intro n
 induction n with
 | zero=>intro v h;have:=hZ v;omega
 | succ n ih =>
  intro v h hn
  have hh:=hZ v
  have hz:=aDn v
  have hm:=aNT _ v (Nat.le_refl _)
  have k1:∀ (l:List aG) (a:Nat),(∀ x∈l,dep x=(tN x:Int))→l.foldl (fun a x=>if dep x > a then dep x else a) (a:Int)=((max a (aDk l):Nat):Int):=by
   intro l
   induction l with
   | nil=>intro a _;simp [aDk]
   | cons x l ihl =>
    intro a hl
    have h1:=hl x (by simp)
    simp only [List.foldl_cons,h1]
    have e:(if ((tN x:Nat):Int) > ((a:Nat):Int) then ((tN x:Nat):Int) else ((a:Nat):Int))=((max a (tN x):Nat):Int):=by split <;> omega
    rw [e,ihl _ (fun y hy=>hl y (by simp [hy]))]
    simp only [aDk]
    omega
  have k2:∀ (l:List aG) (a:Nat),(∀ x∈l,siz x=(nsz x:Int))→a+kC l≤2000000→l.foldl (fun a x=>IntKind.i64.wrap (a+siz x)) (a:Int)=((a+kC l:Nat):Int):=by
   intro l
   induction l with
   | nil=>intro a _ _;simp [kC]
   | cons x l ihl =>
    intro a hl ha
    simp only [kC] at ha
    have h1:=hl x (by simp)
    simp only [List.foldl_cons,h1]
    rw [w64 (by omega) (by omega),show ((a:Nat):Int)+(nsz x:Int)=((a+nsz x:Nat):Int) by omega,ihl _ (fun y hy=>hl y (by simp [hy])) (by omega)]
    simp only [kC]
    omega
  have hi:∀ x∈v.Items,dep x=(tN x:Int)∧siz x=(nsz x:Int):=fun x hx=>ih x (by have:=jK hx;omega) (by have:=aIM hx;omega)
  constructor
  ·
   rw [aJV]
   have:=k1 v.Items 0 (fun x hx=>(hi x hx).1)
   simp only [Int.natCast_zero] at this
   rw [this,w64 (by omega) (by omega)]
   omega
  ·
   rw [aKm]
   have:=k2 v.Items 1 (fun x hx=>(hi x hx).2) (by omega)
   rw [show (1:Int)=((1:Nat):Int) from rfl,this]
   omega
theorem aFp {r:aQ}{l:List UInt8} (k:Int) (h:At r l):gV true k r=some (true,r):=by
 unfold gV
 rw [sH h]
 simp [sH h]
theorem aBj {α:Type} (f:α→List UInt8) (l:List α) (i:Nat) (hi:i<l.length):(l.drop i).flatMap f=f l[i]++(l.drop (i+1)).flatMap f:=by
 rw [List.drop_eq_getElem_cons hi,List.flatMap_cons]
theorem aDp:∀ (l:List aG) (i:Nat) (hi:i<l.length),kC (l.take (i+1))=kC (l.take i)+nsz l[i]
 | [],i,hi=>by simp at hi
 | x :: l,0,hi=>by simp [kC]
 | x :: l,i+1,hi=>by
  have:=aDp l i (by simpa using hi)
  simp only [List.take_succ_cons,kC,List.getElem_cons_succ] at this ⊢
  omega
theorem zA:∀ (l:List aG) (i:Nat),kC (l.take i)≤kC l
 | [],i=>by simp
 | x :: l,0=>by simp [kC]
 | x :: l,i+1=>by have:=zA l i;simp only [List.take_succ_cons,kC];omega
theorem aKt:∀ (n:Nat) (v:aG) (d:Int) (k:Nat) (r:aQ) (rest:List UInt8),At r (pE v++rest)→cP v→xW false v=true→shr v=true→0≤d→(tN v:Int)+d≤17→k+nsz v≤1000→2*tN v≤n →
  ∃ r',dS n d k r=some (v,((k+nsz v:Nat):Int),r')∧At r' rest:=by
 intro n
 induction n using Nat.strongRecOn with
 | _ n ih =>
  intro v d k r rest hat hv hf hs hd0 hd hk hn
  have hh:=hZ v
  have hz:=aDn v
  obtain ⟨m,rfl⟩:∃ m,n=m+2:=⟨n - 2,by omega⟩
  obtain ⟨q0,q1,q2,q3,q4⟩:=(eM v).1 hv
  have hft:=hf
  rw [aMC (tN v) v (Nat.le_refl _)] at hft
  simp only [Bool.and_eq_true,Bool.not_eq_true'] at hft
  obtain ⟨l1,l2,l3⟩:=aE7 hft.1
  have hfi:∀ x∈v.Items,xW false x=true:=(aE7 hf).2.2
  have hs':=hs
  rw [aHL] at hs'
  simp only [Bool.and_eq_true,Bool.not_eq_true',List.all_eq_true,List.any_eq_false,iM,decide_eq_false_iff_not,decide_eq_true_eq] at hs'
  obtain ⟨⟨s1,s2⟩,s3⟩:=hs'
  have hflo:aAi false v=true:=by rw [aDi,Bool.and_eq_true] at hf;exact hf.1
  have hk05:0≤v.Kind∧v.Kind≤5:=by
   unfold aAi at hflo
   by_cases h0:v.Kind=0
   ·
    omega
   by_cases h1:v.Kind=1
   ·
    omega
   by_cases h2:v.Kind=2
   ·
    omega
   by_cases h6:v.Kind=6
   ·
    simp [h6] at hflo
   by_cases h3:v.Kind=3
   ·
    omega
   by_cases h4:v.Kind=4
   ·
    omega
   by_cases h5:v.Kind=5
   ·
    omega
   simp [h0,h1,h2,h6,h3,h4,h5] at hflo
  rw [aHQ,List.append_assoc] at hat
  obtain ⟨r1,a1,a2⟩:=aBQ (low:=-9223372036854775808) (high:=9223372036854775807) hat q0 q0.1 q0.2
  have ek:IntKind.i64.wrap ((k:Int)+1)=((k+1:Nat):Int):=by rw [w64 (by omega) (by omega)];omega
  rw [dS]
  have c1:(cond (decide ((k:Int)<(1000:Int))) (decide (d≤(16:Int))) false)=true:=by
   have h1:(k:Int)<1000:=by omega
   have h2:d≤16:=by omega
   simp [h1,h2]
  have c2:(cond (decide ((0:Int)≤v.Kind)) (decide (v.Kind≤(5:Int))) false)=true:=by simp [hk05.1,hk05.2]
  rw [c1,aFp _ hat]
  simp only [Option.bind_some,Bool.not_true,cond_false]
  rw [a1]
  simp only [Option.bind_some]
  rw [c2,ek,aFp _ a2]
  simp only [Option.bind_some,Bool.not_true,cond_false]
  have hnil:∀ {α:Type}{l:List α},decide (l.length=0)=true→l=[]:=fun h=>by simpa using h
  by_cases h1:v.Kind=1
  ·
   simp only [h1,true_or,if_true] at a2
   obtain ⟨r2,b1,b2⟩:=aBQ (low:=-9223372036854775808) (high:=9223372036854775807) a2 q1 q1.1 q1.2
   have hfl:=hflo
   simp only [aAi,h1,Int.reduceEq,if_true,if_false,Bool.and_eq_true,Bool.or_eq_true,decide_eq_true_eq] at hfl
   have c3:(cond (decide (v.Int=(0:Int))) true (decide (v.Int=(1:Int))))=true:=by rcases hfl.1.1.1 with h | h <;> simp [h]
   simp only [h1,decide_true,cond_true]
   rw [b1]
   simp only [Option.bind_some]
   rw [c3,aFp _ b2]
   simp only [Option.bind_some,Fl.next]
   have hit:=l1 (by omega) (by omega)
   have hks:v.Keys=[]:=by simpa using hfl.2
   have htx:v.Text=[]:=hfl.1.1.2
   refine ⟨r2,?_,b2⟩
   rw [hz,hit]
   obtain ⟨kd,i,t,l,ks⟩:=v
   simp only at h1 hit hks htx ⊢
   subst h1 hit hks htx
   simp [kC]
  by_cases h2:v.Kind=2
  ·
   simp only [h2,true_or,or_true,if_true] at a2
   obtain ⟨r2,b1,b2⟩:=aBQ (low:=-9223372036854775808) (high:=9223372036854775807) a2 q1 q1.1 q1.2
   have hfl:=hflo
   simp only [aAi,h2,Int.reduceEq,if_true,if_false,Bool.and_eq_true,decide_eq_true_eq] at hfl
   simp only [h2,Int.reduceEq,decide_false,decide_true,cond_true,cond_false]
   rw [b1]
   simp only [Option.bind_some,Fl.next]
   have hit:=l1 (by omega) (by omega)
   have hks:v.Keys=[]:=by simpa using hfl.2
   have htx:v.Text=[]:=hfl.1.1
   refine ⟨r2,?_,b2⟩
   rw [hz,hit]
   obtain ⟨kd,i,t,l,ks⟩:=v
   simp only at h2 hit hks htx ⊢
   subst h2 hit hks htx
   simp [kC]
  by_cases h3:v.Kind=3
  ·
   simp only [h3,Int.reduceEq,or_self,if_true,if_false] at a2
   obtain ⟨r2,b1,b2⟩:=yU (most:=9223372036854775807) a2 (by omega)
   have hfl:=hflo
   simp only [aAi,h3,Int.reduceEq,if_true,if_false,Bool.and_eq_true,decide_eq_true_eq] at hfl
   simp only [h3,Int.reduceEq,decide_false,decide_true,cond_true,cond_false]
   rw [b1]
   simp only [Option.bind_some]
   have c3:decide ((v.Text.length:Int)≤4096)=true:=by simp;omega
   rw [c3,aFp _ b2]
   simp only [Option.bind_some,Fl.next]
   have hit:=l1 (by omega) (by omega)
   have hks:v.Keys=[]:=by simpa using hfl.2
   have hin:v.Int=0:=hfl.1.1
   refine ⟨r2,?_,b2⟩
   rw [hz,hit]
   obtain ⟨kd,i,t,l,ks⟩:=v
   simp only at h3 hit hks hin ⊢
   subst h3 hit hks hin
   simp [kC]
  by_cases h0:v.Kind=0
  ·
   simp only [h0,Int.reduceEq,or_self,if_false,List.nil_append] at a2
   have hfl:=hflo
   simp only [aAi,h0,if_true,Bool.and_eq_true,decide_eq_true_eq] at hfl
   simp only [h0,Int.reduceEq,decide_false,cond_false,Option.bind_some,Fl.next]
   have hit:=l1 (by omega) (by omega)
   have hks:v.Keys=[]:=by simpa using hfl.2
   have htx:v.Text=[]:=hfl.1.1.2
   have hin:v.Int=0:=hfl.1.1.1
   refine ⟨r1,?_,a2⟩
   rw [hz,hit]
   obtain ⟨kd,i,t,l,ks⟩:=v
   simp only at h0 hit hks htx hin ⊢
   subst h0 hit hks htx hin
   simp [kC]
  have h45:v.Kind=4∨v.Kind=5:=by omega
  have e45:(cond (decide (v.Kind=(4:Int))) (some (decide (v.Kind=(4:Int)))) (some (decide (v.Kind=(5:Int)))))=some true:=by rcases h45 with h | h <;> simp [h]
  simp only [h1,h2,h3,decide_false,cond_false]
  rw [e45]
  simp only [Option.bind_some,cond_true]
  have hnl:v.Items.length≤kC v.Items:=aKM _
  have okn:qW (v.Items.length:Int):=⟨by omega,by omega⟩
  have hdw:IntKind.i64.wrap (d+1)=d+1:=w64 (by omega) (by omega)
  have c3:(cond (decide ((0:Int)≤(v.Items.length:Int))) (decide ((v.Items.length:Int)≤(1000:Int))) false)=true:=by
   have h1:(0:Int)≤(v.Items.length:Int):=by omega
   have h2:(v.Items.length:Int)≤1000:=by omega
   simp [h1,h2]
  have hItem:∀ (i:Nat) (hi:i<v.Items.length) (k':Nat) (r:aQ) (rest:List UInt8),k'+nsz v.Items[i]≤1000→At r (pE v.Items[i]++rest)→∃ r',dS m (IntKind.i64.wrap (d+1)) k' r=some (v.Items[i],((k'+nsz v.Items[i]:Nat):Int),r')∧At r' rest:=fun i hi k' r rest hk' hat'=>by
   have hmem:=List.getElem_mem hi
   have hge:=jK hmem
   rw [hdw]
   exact ih m (by omega) v.Items[i] (d+1) k' r rest hat' (q3.2.2 _ hmem) (hfi _ hmem) (s3 _ hmem) (by omega) (by omega) hk' (by omega)
  rw [fT]
  by_cases h4:v.Kind=4
  ·
   simp only [h4,Int.reduceEq,or_self,if_true,if_false,List.append_assoc] at a2
   obtain ⟨r2,b1,b2⟩:=aBQ (low:=-9223372036854775808) (high:=9223372036854775807) a2 okn okn.1 okn.2
   rw [b1]
   simp only [Option.bind_some]
   rw [c3,aFp _ b2]
   simp only [Option.bind_some,Bool.not_true,cond_false]
   obtain ⟨X,g1,g2⟩:=rE (body:=eX (dS m) ((v.Items.length:Int),r2) v.Kind d)
    (fun s=>∃ (i:Nat) (r':aQ),i≤v.Items.length∧s=((i:Int),((k+1+kC (v.Items.take i):Nat):Int),r',v.Items.take i,[])∧At r' ((v.Items.drop i).flatMap pE++rest)) (fun s=>v.Items.length - s.1.toNat)
    (fun X=>∃ r',X=.go (((k+1+kC v.Items:Nat):Int),r',v.Items,[])∧At r' rest) (by
     rintro s ⟨i,r',hi,rfl,hat'⟩
     by_cases hlt:i<v.Items.length
     ·
      rw [aBj pE _ i hlt,List.append_assoc] at hat'
      have ht1:=aDp v.Items i hlt
      have ht2:=zA v.Items (i+1)
      obtain ⟨r3,f1,f2⟩:=hItem i hlt (k+1+kC (v.Items.take i)) r' _ (by omega) hat'
      refine .inl ⟨_,?_,⟨i+1,r3,by omega,rfl,f2⟩,by simp;omega⟩
      unfold eX
      simp only
      rw [cC,if_pos (by omega)]
      simp only [h4,Int.reduceEq,decide_false,cond_false,Option.bind_some,Fl.next]
      rw [f1]
      simp only [Option.bind_some]
      rw [sH f2,qS (by simp;omega),kM hlt (by omega),List.take_succ_eq_append_getElem hlt]
      simp only [Option.bind_some,decide_true,Bool.not_true,cond_false]
      rw [← List.take_succ_eq_append_getElem hlt,ht1,Nat.add_assoc]
     ·
      obtain rfl:i=v.Items.length:=by omega
      refine .inr ⟨.go (((k+1+kC v.Items:Nat):Int),r',v.Items,[]),?_,r',rfl,by simpa using hat'⟩
      unfold eX
      simp only
      rw [cC,if_neg (by omega),List.take_length]) ((0:Int),((k+1:Nat):Int),r2,[],[]) ⟨0,r2,by omega,by simp [kC],by simpa using b2⟩
   obtain ⟨r',rfl,hat'⟩:=g2
   rw [h4] at g1
   rw [h4,g1]
   simp only [Option.bind_some,Fl.next]
   have hfl:=hflo
   simp only [aAi,h4,Int.reduceEq,if_true,if_false,Bool.and_eq_true,decide_eq_true_eq] at hfl
   have hks:v.Keys=[]:=by simpa using hfl.2
   have htx:v.Text=[]:=hfl.1.2
   have hin:v.Int=0:=hfl.1.1
   refine ⟨r',?_,hat'⟩
   rw [hz]
   obtain ⟨kd,i,t,l,ks⟩:=v
   simp only at h4 hks htx hin ⊢
   subst h4 hks htx hin
   rw [show k+1+kC l=k+(kC l+1) from by omega]
  ·
   have h5:v.Kind=5:=by omega
   have hlen:=l2 h5
   simp only [h5,Int.reduceEq,or_self,if_true,if_false,List.append_assoc] at a2
   obtain ⟨r2,b1,b2⟩:=aBQ (low:=-9223372036854775808) (high:=9223372036854775807) a2 okn okn.1 okn.2
   rw [b1]
   simp only [Option.bind_some]
   rw [c3,aFp _ b2]
   simp only [Option.bind_some,Bool.not_true,cond_false]
   have hfl:=hflo
   simp only [aAi,h5,Int.reduceEq,if_true,if_false,Bool.and_eq_true,decide_eq_true_eq] at hfl
   have hzl:(v.Items.zip v.Keys).length=v.Items.length:=by simp [hlen]
   obtain ⟨X,g1,g2⟩:=rE (body:=eX (dS m) ((v.Items.length:Int),r2) v.Kind d)
    (fun s=>∃ (i:Nat) (r':aQ),i≤v.Items.length∧s=((i:Int),((k+1+kC (v.Items.take i):Nat):Int),r',v.Items.take i,v.Keys.take i)∧At r' (((v.Items.zip v.Keys).drop i).flatMap (fun p=>nN p.2++pE p.1)++rest)) (fun s=>v.Items.length - s.1.toNat)
    (fun X=>∃ r',X=.go (((k+1+kC v.Items:Nat):Int),r',v.Items,v.Keys)∧At r' rest) (by
     rintro s ⟨i,r',hi,rfl,hat'⟩
     by_cases hlt:i<v.Items.length
     ·
      have hik:i<v.Keys.length:=by omega
      rw [aBj _ _ i (by omega),List.append_assoc,List.getElem_zip,List.append_assoc] at hat'
      have ht1:=aDp v.Items i hlt
      have ht2:=zA v.Items (i+1)
      obtain ⟨r3,e1,e2⟩:=yU (most:=9223372036854775807) hat' (by have:=s2 _ (List.getElem_mem hik);simp only;omega)
      obtain ⟨r4,f1,f2⟩:=hItem i hlt (k+1+kC (v.Items.take i)) r3 _ (by omega) e2
      have hl4:(v.Keys[i].length:Int)≤4096:=by have:=s2 _ (List.getElem_mem hik);omega
      have hprev:(gd ((decide ((v.Keys[i].length:Int)≤(4096:Int)))==true&&((decide ((i:Int)=(0:Int)))==false)) (jT (v.Keys.take i) (IntKind.wrap .i64 ((i:Int) - (1:Int)))))=some (if h:i=0 then [] else v.Keys[i - 1]'(by omega)):=by
       by_cases hi0:i=0
       ·
        subst hi0;simp [gd];rfl
       ·
        have e:IntKind.i64.wrap ((i:Int) - 1)=((i - 1:Nat):Int):=by rw [w64 (by omega) (by omega)];omega
        have c2:decide ((i:Int)=0)=false:=by simp;omega
        rw [e,fH (l:=v.Keys.take i) (i:=i - 1) (by simp;omega),c2,decide_eq_true hl4]
        simp [gd,hi0]
      refine .inl ⟨((i+1:Nat),((k+1+kC (v.Items.take (i+1)):Nat):Int),r4,v.Items.take (i+1),v.Keys.take (i+1)),?_,⟨i+1,r4,by omega,rfl,f2⟩,by simp;omega⟩
      unfold eX
      simp only
      rw [cC,if_pos (by omega)]
      simp only [h5,decide_true,cond_true]
      rw [e1]
      simp only [Option.bind_some]
      rw [hprev]
      simp only [Option.bind_some]
      have hC:(cond (decide ((v.Keys[i].length:Int)≤(4096:Int))) (cond (decide ((i:Int)=(0:Int))) true (!(Op.bytesLess v.Keys[i] (if h:i=0 then [] else v.Keys[i - 1]'(by omega))||decide (v.Keys[i]=(if h:i=0 then [] else v.Keys[i - 1]'(by omega)))))) false)=true:=by
       rw [decide_eq_true hl4,aIl]
       by_cases hi0:i=0
       ·
        subst hi0;simp
       ·
        have c2:decide ((i:Int)=0)=false:=by simp;omega
        have hr:=aLQ (l:=v.Keys) (by omega) hfl.2 (i - 1) (by omega)
        have e:i - 1+1=i:=by omega
        simp only [e] at hr
        rw [c2];simp [hi0,hr]
      rw [hC,aFp _ e2]
      simp only [Option.bind_some,Bool.not_true,cond_false]
      rw [qS (by simp;omega)]
      simp only [Option.bind_some,Fl.next]
      rw [f1]
      simp only [Option.bind_some]
      rw [sH f2,qS (by simp;omega),kM hlt (by omega)]
      simp only [Option.bind_some,decide_true,Bool.not_true,cond_false]
      rw [← List.take_succ_eq_append_getElem hlt,← List.take_succ_eq_append_getElem hik,ht1,Nat.add_assoc]
     ·
      obtain rfl:i=v.Items.length:=by omega
      refine .inr ⟨.go (((k+1+kC v.Items:Nat):Int),r',v.Items,v.Keys),?_,r',rfl,?_⟩
      ·
       unfold eX
       simp only
       rw [cC,if_neg (by omega),List.take_length,← hlen,List.take_length]
      ·
       rw [List.drop_eq_nil_of_le (by omega)] at hat';simpa using hat') ((0:Int),((k+1:Nat):Int),r2,[],[]) ⟨0,r2,by omega,by simp [kC],by simpa using b2⟩
   obtain ⟨r',rfl,hat'⟩:=g2
   rw [h5] at g1
   rw [h5,g1]
   simp only [Option.bind_some,Fl.next]
   have htx:v.Text=[]:=hfl.1.1.2
   have hin:v.Int=0:=hfl.1.1.1
   refine ⟨r',?_,hat'⟩
   rw [hz]
   obtain ⟨kd,i,t,l,ks⟩:=v
   simp only at h5 htx hin ⊢
   subst h5 htx hin
   rw [show k+1+kC l=k+(kC l+1) from by omega]
end Go.Proofs.YtnigjppddilpcaaGreatDoor
namespace Go.Proofs.YtnigjppddilpcaaGreatDoor
open Go Abs
set_option linter.unusedSimpArgs false
set_option linter.unusedVariables false
theorem aAe {b:List UInt8}{n:Int} (hb:b.length≤10000000000000) (h:qW n):gB b n=some (b++kB n):=aCM hb h.1 h.2
theorem aD4 {b s:List UInt8} (hb:b.length≤10000000000000) (hs:s.length≤10000000000000):gU b s=some (b++nN s):=by rw [aGo hb hs,nN,List.append_assoc]
theorem aMM (v:aG):(cond (decide (v.Kind=(1:Int))) (some (decide (v.Kind=(1:Int)))) (cond (decide (v.Kind=(2:Int))) (some (decide (v.Kind=(2:Int)))) (some (decide (v.Kind=(6:Int))))))=some (decide (v.Kind=1∨v.Kind=2∨v.Kind=6)):=by
 by_cases h1:v.Kind=1
 ·
  simp [h1]
 ·
  by_cases h2:v.Kind=2 <;> simp [h1,h2]
theorem aLC (v:aG):(cond (decide (v.Kind=(4:Int))) (some (decide (v.Kind=(4:Int)))) (some (decide (v.Kind=(5:Int)))))=some (decide (v.Kind=4∨v.Kind=5)):=by
 by_cases h1:v.Kind=4 <;> simp [h1]
theorem aE3:∀ (n:Nat) (v:aG) (b:List UInt8),tN v≤n→cP v→xW true v=true→(b++pE v).length≤1000000000000→lE n b v=some (b++pE v)∧rT n b v=some (b++pE v):=by
 intro n
 induction n with
 | zero=>intro v b h;have:=hZ v;omega
 | succ n ih =>
  intro v b h hv hf hB
  have hh:=hZ v
  obtain ⟨k0,k1,k2,k3,k4⟩:=(eM v).1 hv
  obtain ⟨l1,l2,l3⟩:=aE7 hf
  rw [aHQ] at hB ⊢
  rw [lE,rT,aMM,aLC]
  simp only [List.length_append] at hB
  rw [yF (by omega) k0,aAe (by omega) k0]
  simp only [Option.bind_some]
  have hb0:(b++kB v.Kind).length=b.length+(kB v.Kind).length:=by simp
  by_cases h126:v.Kind=1∨v.Kind=2∨v.Kind=6
  ·
   simp only [h126,decide_true,cond_true,if_true] at hB ⊢
   rw [yF (by omega) k1,aAe (by omega) k1]
   simp [Fl.next]
  ·
   simp only [h126,decide_false,cond_false,if_false] at hB ⊢
   by_cases h3:v.Kind=3
   ·
    have h3t:=aCV v.Text
    simp only [h3,decide_true,cond_true,if_true] at hB hb0 ⊢
    rw [aIV (by omega) (by omega),aD4 (by omega) (by omega)]
    simp [Fl.next]
   ·
    simp only [h3,decide_false,cond_false,if_false] at hB ⊢
    by_cases h4:v.Kind=4
    ·
     have hok:qW (v.Items.length:Int):=⟨by omega,by have:=k3.1;omega⟩
     simp only [h4,true_or,decide_true,cond_true,if_true,List.length_append] at hB ⊢
     rw [yF (by simp only [List.length_append];omega) hok,aAe (by simp only [List.length_append];omega) hok]
     simp only [Option.bind_some,Fl.next]
     rw [nG 1000000000000 v.Items pE _ (by simp only [List.length_append];omega) (fun s i hi hs=>?_) (fun s=>?_),nG 1000000000000 v.Items pE _ (by simp only [List.length_append];omega) (fun s i hi hs=>?_) (fun s=>?_)]
     ·
      simp
     ·
      unfold qG
      rw [cC,if_pos (by simp only;omega)]
      simp only [h4,Int.reduceEq,decide_false,cond_false,Option.bind_some]
      rw [fH hi,Option.bind_some,(ih _ _ (by have:=jK (List.getElem_mem hi);omega) (k3.2.2 _ (List.getElem_mem hi)) (l3 _ (List.getElem_mem hi)) hs).2,Option.bind_some,kM hi k3.1]
     ·
      unfold qG
      rw [cC,if_neg (by simp only;omega)]
     ·
      unfold iX
      rw [cC,if_pos (by simp only;omega),fH hi,Option.bind_some]
      simp only [h4,Int.reduceEq,decide_false,cond_false]
      rw [(ih _ _ (by have:=jK (List.getElem_mem hi);omega) (k3.2.2 _ (List.getElem_mem hi)) (l3 _ (List.getElem_mem hi)) hs).1,Option.bind_some,kM hi k3.1]
     ·
      unfold iX
      rw [cC,if_neg (by simp only;omega)]
    ·
     by_cases h5:v.Kind=5
     ·
      have hok:qW (v.Items.length:Int):=⟨by omega,by have:=k3.1;omega⟩
      have hlen:=l2 h5
      have hz:(v.Items.zip v.Keys).length=v.Items.length:=by simp [hlen]
      simp only [h5,or_true,Int.reduceEq,decide_true,cond_true,if_true,if_false,List.length_append] at hB ⊢
      rw [yF (by simp only [List.length_append];omega) hok,aAe (by simp only [List.length_append];omega) hok]
      simp only [Option.bind_some,Fl.next]
      rw [nG 1000000000000 (v.Items.zip v.Keys) (fun p=>nN p.2++pE p.1) _ (by simp only [List.length_append];omega) (fun s i hi hs=>?_) (fun s=>?_),nG 1000000000000 (v.Items.zip v.Keys) (fun p=>nN p.2++pE p.1) _ (by simp only [List.length_append];omega) (fun s i hi hs=>?_) (fun s=>?_)]
      ·
       simp
      ·
       unfold qG
       rw [hz] at hi
       have hik:i<v.Keys.length:=by omega
       simp only [List.getElem_zip,List.length_append] at hs ⊢
       have:=aCV v.Keys[i]
       rw [cC,if_pos (by omega)]
       simp only [h5,decide_true,cond_true]
       rw [fH hik,Option.bind_some,aD4 (by omega) (by omega),Option.bind_some,Option.bind_some,fH hi,Option.bind_some,(ih _ _ (by have:=jK (List.getElem_mem hi);omega) (k3.2.2 _ (List.getElem_mem hi)) (l3 _ (List.getElem_mem hi)) (by simp only [List.length_append];omega)).2,Option.bind_some,kM hi k3.1]
       simp
      ·
       unfold qG
       rw [cC,if_neg (by simp only;omega)]
      ·
       unfold iX
       rw [hz] at hi
       have hik:i<v.Keys.length:=by omega
       simp only [List.getElem_zip,List.length_append] at hs ⊢
       have:=aCV v.Keys[i]
       rw [cC,if_pos (by omega),fH hi,Option.bind_some]
       simp only [h5,decide_true,cond_true]
       rw [fH hik,Option.bind_some,aIV (by omega) (by omega),Option.bind_some,(ih _ _ (by have:=jK (List.getElem_mem hi);omega) (k3.2.2 _ (List.getElem_mem hi)) (l3 _ (List.getElem_mem hi)) (by simp only [List.length_append];omega)).1,Option.bind_some,kM hi k3.1]
       simp
      ·
       unfold iX
       rw [cC,if_neg (by simp only;omega)]
     ·
      simp only [h4,h5,or_self,decide_false,cond_false,if_false,Option.bind_some,Fl.next]
      rw [aIF (body:=iX (lE n) v) (s:=(b++kB v.Kind,0)) (r:=b++kB v.Kind) (by unfold iX;rw [l1 h4 h5];rfl)]
      simp
theorem aAf {b:List UInt8}{v:aG} (hv:cP v) (hB:(b++pE v).length≤1000000000000):qP b v=some (b++if xW true v then pE v else []):=by
 unfold qP zT
 simp only [List.length_append] at hB
 rw [xL (by omega),aAg hv]
 cases hf:xW true v
 ·
  simp
 ·
  simp only [Option.bind_some,Bool.not_true,cond_false,if_true]
  rw [rQ (tN v) fun n hn=>(aE3 n v b hn hv hf (by simp only [List.length_append];omega)).1,Option.bind_some]
theorem aCL {b:List UInt8}{v:aG} (hv:cP v) (hB:(b++pE v).length≤1000000000000):qE b v=some (b++if xW true v then pE v else []):=by
 unfold qE aDw
 simp only [List.length_append] at hB
 rw [qS (by simp;omega),yI hv]
 cases hf:xW true v
 ·
  simp
 ·
  simp only [Option.bind_some,Bool.not_true,cond_false,if_true,List.nil_append]
  rw [rQ (tN v) fun n hn=>(aE3 n v b hn hv hf (by simp only [List.length_append];omega)).2,Option.bind_some]
end Go.Proofs.YtnigjppddilpcaaGreatDoor

/- Plain laws: what the functions compute, with no program in sight. -/
import Derived.Test.YtnigjppddilpcaaGreatDoorGEPP0
import Derived.Test.YtnigjppddilpcaaGreatDoorGEF0
import Derived.Test.YtnigjppddilpcaaGreatDoorGEF7
import Derived.Test.YtnigjppddilpcaaGreatDoorGEF4
import Derived.Test.YtnigjppddilpcaaGreatDoorGEF10
import Derived.Test.YtnigjppddilpcaaGreatDoorGEF11
import Derived.Test.YtnigjppddilpcaaGreatDoorGEF12
import Derived.Test.YtnigjppddilpcaaGreatDoorGEPP1
import Derived.Test.YtnigjppddilpcaaGreatDoorGEF5
namespace Go.Proofs.YtnigjppddilpcaaGreatDoor
open Go Abs
set_option linter.unusedSimpArgs false
set_option linter.unusedVariables false
theorem xD {xs:List UInt8} (h:xs.length≤140737488355328):fV xs=some xs:=by
 rw [fV,jM (by simpa using h)];simp
theorem aBm {b:List UInt8}{n:Int} (hb:b.length≤10000000000000) (h1:-9223372036854775808≤n) (h2:n≤9223372036854775807):eR b n=some (b++mC (zz n)):=by
 have hv:=wW (aEp h1 h2)
 unfold eR
 rw [xD (by omega),Option.bind_some,sh1,aQ9,aKK h1 h2]
 obtain ⟨r,hr,u,hu,hlt,he⟩:=qK (body:=sH) (fun s=>∃ u:Nat,s.2=(u:Int)∧u<18446744073709551616∧s.1++mC u=b++mC (zz n)) (fun s=>s.2.toNat)
  (fun r=>∃ u:Nat,r.2=(u:Int)∧u<128∧r.1++mC u=b++mC (zz n)) (fun s ⟨u,hu,hlt,he⟩=>by
   have hlen:s.1.length+(mC u).length=b.length+(mC (zz n)).length:=by simpa using congrArg List.length he
   unfold sH
   rw [hu,bE]
   by_cases h:u<128
   ·
    rw [if_neg (by omega)]
    exact .inr ⟨_,rfl,u,rfl,h,he⟩
   ·
    rw [if_pos (by omega),aQO,aCv (by omega),Option.bind_some,jM (by simp;omega),Option.bind_some,sh7,aRa]
    refine .inl ⟨_,rfl,⟨u / 128,rfl,by omega,?_⟩,by simp;omega⟩
    rw [← he,aBC h,List.append_assoc,List.singleton_append]) (b,(zz n:Nat)) ⟨zz n,rfl,aEp h1 h2,rfl⟩
 have hlen:r.1.length+(mC u).length=b.length+(mC (zz n)).length:=by simpa using congrArg List.length he
 rw [hr,Option.bind_some,hu,aDg (aLq (by omega)),Option.bind_some,jM (by simp;omega),Option.bind_some,← aAj hlt,he]
theorem aEK {b s:List UInt8} (hb:b.length≤10000000000000) (hs:s.length≤10000000000000):hU b s=some (b++mC (zz s.length)++s):=by
 have hv:=wW (aEp (n:=(s.length:Int)) (by omega) (by omega))
 unfold hU
 rw [aBm (by omega) (by omega) (by omega),Option.bind_some,jM (by simp;omega),Option.bind_some]
theorem aMy {n:Int} (h1:-9223372036854775808≤n) (h2:n≤9223372036854775807):zK n=some (zz n:Int):=by
 unfold zK
 rw [bE]
 by_cases h:0≤n
 ·
  rw [if_pos h];congr 1;simp only [IntKind.wrap_u64,zz,h,if_true];omega
 ·
  rw [if_neg h];congr 1;simp only [IntKind.wrap_u64,IntKind.wrap_i64,zz,h,if_false];omega
theorem aCQ {b:List UInt8}{n:Int} (hb:b.length≤10000000000000) (h1:-9223372036854775808≤n) (h2:n≤9223372036854775807):gI b n=some (b++mC (zz n)):=by
 have hv:=wW (aEp h1 h2)
 unfold gI
 rw [jM (by simp;omega),Option.bind_some,List.nil_append,aMy h1 h2,Option.bind_some]
 obtain ⟨r,hr,u,hu,hlt,he⟩:=qK (body:=uO) (fun s=>∃ u:Nat,s.2=(u:Int)∧u<18446744073709551616∧s.1++mC u=b++mC (zz n)) (fun s=>s.2.toNat)
  (fun r=>∃ u:Nat,r.2=(u:Int)∧u<128∧r.1++mC u=b++mC (zz n)) (fun s ⟨u,hu,hlt,he⟩=>by
   have hlen:s.1.length+(mC u).length=b.length+(mC (zz n)).length:=by simpa using congrArg List.length he
   unfold uO
   rw [hu,bE]
   by_cases h:u<128
   ·
    rw [if_neg (by omega)]
    exact .inr ⟨_,rfl,u,rfl,h,he⟩
   ·
    rw [if_pos (by omega)]
    have e:IntKind.u8.wrap (IntKind.u64.wrap ((u:Int).tmod 128+128))=((128+u % 128:Nat):Int):=by
     rw [IntKind.wrap_u64,IntKind.wrap_u8,Int.tmod_eq_emod_of_nonneg (by omega)];omega
    rw [e,aCv (by omega),Option.bind_some,jM (by simp;omega),Option.bind_some]
    have e2:IntKind.u64.wrap ((u:Int).tdiv 128)=((u / 128:Nat):Int):=by rw [IntKind.wrap_u64,Int.tdiv_eq_ediv_of_nonneg (by omega)];omega
    rw [e2]
    refine .inl ⟨_,rfl,⟨u / 128,rfl,by omega,?_⟩,by simp;omega⟩
    rw [← he,aBC h,List.append_assoc,List.singleton_append]) (b,(zz n:Nat)) ⟨zz n,rfl,aEp h1 h2,rfl⟩
 have hlen:r.1.length+(mC u).length=b.length+(mC (zz n)).length:=by simpa using congrArg List.length he
 rw [hr,Option.bind_some,hu,aDg (aLq (by omega)),Option.bind_some,jM (by simp;omega),Option.bind_some,← aAj hlt,he]
theorem aGC {b s:List UInt8} (hb:b.length≤10000000000000) (hs:s.length≤10000000000000):iM b s=some (b++mC (zz s.length)++s):=by
 have hv:=wW (aEp (n:=(s.length:Int)) (by omega) (by omega))
 unfold iM
 rw [aCQ (by omega) (by omega) (by omega),Option.bind_some]
 rw [aBu (body:=sY s) (fun x=>∃ i:Nat,x.2=(i:Int)∧i≤s.length∧x.1=b++mC (zz s.length)++s.take i) (fun x=>s.length - x.2.toNat) (fun _=>b++mC (zz s.length)++s) ?_ (b++mC (zz s.length),0) ⟨0,rfl,by omega,by simp⟩]
 ·
  rfl
 ·
  rintro ⟨o,i0⟩ ⟨i,hi0,hi,ho⟩
  simp only at hi0 ho
  subst hi0 ho
  unfold sY
  rw [bE]
  by_cases h:i<s.length
  ·
   rw [if_pos (by omega),aCE,List.getElem?_eq_getElem h,Option.bind_some,aFe,Option.bind_some,jM (by simp;omega),Option.bind_some]
   refine .inl ⟨_,rfl,⟨i+1,by rw [w64 (by omega) (by omega)];rfl,h,?_⟩,by simp only [w64 (show (-9223372036854775808:Int)≤(i:Int)+1 by omega) (by omega)];omega,rfl⟩
   rw [List.take_succ_eq_append_getElem h];simp
  ·
   rw [if_neg (by omega),List.take_of_length_le (by omega)]
   exact .inr rfl
end Go.Proofs.YtnigjppddilpcaaGreatDoor
namespace Go.Proofs.YtnigjppddilpcaaGreatDoor
open Go Abs
set_option linter.unusedSimpArgs false
set_option linter.unusedVariables false
theorem aAo {b:List UInt8} (h:b.length≤140737488355328):rE b=some ⟨b,0,0,true⟩:=by
 unfold rE
 rw [xD h];rfl
theorem pK {b:List UInt8}{a e:Int}{m:Bool}:jU ⟨b,a,e,m⟩=some (cond (!m) true (!decide (e=0))):=by
 unfold jU;rfl
theorem aAO {b:List UInt8}{a e:Int}:dS ⟨b,a,e,true⟩=some e:=rfl
theorem aEN {b:List UInt8}{a e x:Int}:fE x ⟨b,a,e,true⟩=some ⟨b,a,(if e=0 then x else e),true⟩:=by
 unfold fE
 rw [pK]
 by_cases h:e=0 <;> simp [h]
def tT (b:List UInt8) (at_:Nat) (low high:Int):aD:=⟨b,(at_+(fR (b.drop at_) low high).2.1:Nat),(fR (b.drop at_) low high).2.2,true⟩
theorem aDq {b:List UInt8}{at_:Nat}{low high:Int} (h1:at_≤b.length) (hb:b.length≤1000000000) :
  cW low high ⟨b,at_,0,true⟩=some ((fR (b.drop at_) low high).1,tT b at_ low high):=by
 unfold cW
 rw [pK]
 simp only [Bool.not_true,cond_false,decide_true,Option.bind_some]
 rw [aC0 (by simp;omega),Option.bind_some]
 unfold tT
 generalize hrest:b.drop at_=rest
 have hrl:rest.length=b.length - at_:=by rw [← hrest];simp
 have hdrop:List.drop (Int.toNat (at_:Int)) b=rest:=by rw [Int.toNat_natCast];exact hrest
 obtain ⟨r,hr,hq⟩:∃ r,dL (nQ ⟨b,at_,0,true⟩ low high) ((0:Int),(0:Int))=some r∧Fl.next r (fun _=>some ((0:Int),aD.mk b at_ 3 true))=some ((fR rest low high).1,⟨b,(at_+(fR rest low high).2.1:Nat),(fR rest low high).2.2,true⟩):=by
  refine qK (fun (s:Int × Int)=>∃ k:Nat,s.2=(k:Int)∧((k≤9∧k≤rest.length∧∃ u:Nat,s.1=(u:Int)∧u<128 ^ k∧mX 0 0 rest=mX k u (rest.drop k))∨(k=10∧mX 0 0 rest=.inl 3)))
   (fun s=>10 - s.2.toNat) _ ?_ ((0:Int),(0:Int)) ⟨0,rfl,.inl ⟨by simp,by simp,0,rfl,by simp,by simp⟩⟩
  rintro ⟨u0,k0⟩ ⟨k,hk0,hI⟩
  simp only at hk0 hI
  subst hk0
  unfold nQ
  simp only [hdrop]
  rw [bE]
  obtain ⟨hk,hkl,u,rfl,hu,hs⟩ | ⟨rfl,hs⟩:=hI
  ·
   rw [if_pos (by omega),bE]
   by_cases h3:(rest.length:Int)≤k
   ·
    rw [if_pos h3]
    refine .inr ⟨_,rfl,?_⟩
    have hd:rest.drop k=[]:=List.drop_eq_nil_of_le (by omega)
    have hr:fR rest low high=(0,0,4):=by simp only [fR,hs,hd,mX];rw [if_neg (by omega)]
    rw [hr];rfl
   ·
    rw [if_neg h3]
    have hlt:k<rest.length:=by omega
    rw [aCE,List.getElem?_eq_getElem hlt,Option.bind_some]
    generalize hc:rest[k]=c
    have hd:rest.drop k=c :: rest.drop (k+1):=by rw [← hc];exact List.drop_eq_getElem_cons hlt
    have hcl:=c.toNat_lt
    rw [hd] at hs
    simp only [mX] at hs
    rw [if_neg (by omega)] at hs
    rw [aQl (by rw [show IntKind.i64.wrap (7*(k:Int))=7*(k:Int) by rw [IntKind.wrap_i64];omega];omega),Option.bind_some,aPn]
    generalize hv:gM .or .u64 (u:Int) _=v
    have hv':k≤8∨c.toNat≤1→v=((u+c.toNat % 128*128 ^ k:Nat):Int):=fun hx=>hv ▸ aOt c hk hu hx
    clear hv
    rw [bE]
    by_cases h4:(128:Int)≤(c.toNat:Int)
    ·
     rw [if_pos h4]
     rw [if_pos (by omega)] at hs
     refine .inl ⟨_,rfl,⟨k+1,by rw [w64 (by omega) (by omega)];rfl,?_⟩,by simp only [w64 (show (-9223372036854775808:Int)≤(k:Int)+1 by omega) (by omega)];omega⟩
     by_cases hk9:k=9
     ·
      refine .inr ⟨by omega,?_⟩
      rw [hs,hk9]
      cases rest.drop (9+1) <;> simp [mX]
     ·
      have hve:=hv' (.inl (by omega))
      refine .inl ⟨by omega,by omega,_,hve,?_,hs⟩
      rw [Nat.pow_succ]
      have h3:c.toNat % 128*128 ^ k≤127*128 ^ k:=Nat.mul_le_mul_right _ (by omega)
      omega
    ·
     rw [if_neg h4]
     rw [if_neg (by omega)] at hs
     by_cases hX:(0<k∧c.toNat=0)∨(k=9∧1<c.toNat)
     ·
      rw [if_pos hX] at hs
      have hr:fR rest low high=(0,0,3):=by simp only [fR,hs]
      rw [hr]
      have e:(cond (cond (decide ((0:Int)<(k:Int))) (decide ((c.toNat:Int)=0)) false) true (cond (decide ((k:Int)=9)) (decide ((1:Int)<(c.toNat:Int))) false))=true:=by
       rcases hX with ⟨h5,h6⟩ | ⟨h5,h6⟩
       ·
        simp [h6];omega
       ·
        simp [h5];omega
      rw [e,cond_true]
      exact .inr ⟨_,rfl,rfl⟩
     ·
      rw [if_neg hX] at hs
      have e:(cond (cond (decide ((0:Int)<(k:Int))) (decide ((c.toNat:Int)=0)) false) true (cond (decide ((k:Int)=9)) (decide ((1:Int)<(c.toNat:Int))) false))=false:=by
       simp only [Bool.cond_eq_ite]
       by_cases h5:0<k <;> by_cases h6:c.toNat=0 <;> by_cases h7:k=9 <;> by_cases h8:1<c.toNat <;> simp <;> omega
      rw [e,cond_false]
      have hve:=hv' (by omega)
      have hmod:c.toNat % 128=c.toNat:=by omega
      rw [hmod] at hve
      clear hv'
      subst hve
      have hw:(u+c.toNat*128 ^ k)<18446744073709551616:=by
       have:k=0∨k=1∨k=2∨k=3∨k=4∨k=5∨k=6∨k=7∨k=8∨k=9:=by omega
       rcases this with rfl | rfl | rfl | rfl | rfl | rfl | rfl | rfl | rfl | rfl <;> omega
      generalize u+c.toNat*128 ^ k=w at hs hw
      have hr:fR rest low high=if rH w<low∨high<rH w then (0,k+1,14) else (rH w,k+1,0):=by simp only [fR,hs]
      rw [hr,show (2:Int) ^ min (Int.toNat 1) IntKind.u64.bits=2 from sh1,aMv hw,aOa (by omega) hk]
      refine .inr ?_
      by_cases hlow:rH w<low
      ·
       rw [if_pos (.inl hlow)]
       simp only [hlow,decide_true,cond_true]
       exact ⟨_,rfl,rfl⟩
      ·
       by_cases hhigh:high<rH w
       ·
        rw [if_pos (.inr hhigh)]
        simp only [hlow,hhigh,decide_true,decide_false,cond_true,cond_false]
        exact ⟨_,rfl,rfl⟩
       ·
        rw [if_neg (by omega)]
        simp only [hlow,hhigh,decide_true,decide_false,cond_true,cond_false]
        exact ⟨_,rfl,rfl⟩
  ·
   rw [if_neg (by omega)]
   refine .inr ⟨_,rfl,?_⟩
   have hr:fR rest low high=(0,0,3):=by simp only [fR,hs]
   rw [hr];rfl
 rw [hr,Option.bind_some]
 exact hq
theorem aI7 {k u:Nat} (h:u*128 ^ k<18446744073709551616) (hu:0<u):k≤9:=by
 refine Classical.byContradiction fun hk=>?_
 have h1:128 ^ 10≤128 ^ k:=Nat.pow_le_pow_right (by omega) (by omega)
 have h2:1*128 ^ k≤u*128 ^ k:=Nat.mul_le_mul_right _ hu
 have h3:(128:Nat) ^ 10=1180591620717411303424:=by decide
 omega
theorem aMl (rest:List UInt8):∀ (u k acc:Nat),(k=0∨0<u)→u*128 ^ k<18446744073709551616→mX k acc (mC u++rest)=.inr (acc+u*128 ^ k,k+(mC u).length):=by
 intro u
 induction u using Nat.strongRecOn with
 | _ u ih =>
  intro k acc h0 hlt
  have hk:k≤9:=by
   rcases h0 with h | h
   ·
    omega
   ·
    exact aI7 hlt h
  by_cases h:u<128
  ·
   rw [aAj h]
   have e:(UInt8.ofNat u).toNat=u:=by simp;omega
   simp only [List.cons_append,List.nil_append,mX,e]
   rw [if_neg (by omega),if_neg (by omega),if_neg]
   ·
    rfl
   ·
    rintro (⟨h1,h2⟩ | ⟨h1,h2⟩)
    ·
     omega
    ·
     subst h1
     have:(128:Nat) ^ 9=9223372036854775808:=by decide
     rw [this] at hlt
     omega
  ·
   rw [aBC h]
   have e:(UInt8.ofNat (128+u % 128)).toNat=128+u % 128:=by simp;omega
   simp only [List.cons_append,mX,e]
   rw [if_neg (by omega),if_pos (by omega)]
   have hs:128 ^ (k+1)=128 ^ k*128:=Nat.pow_succ ..
   have hm:u / 128*128 ^ (k+1)+u % 128*128 ^ k=u*128 ^ k:=by
    rw [hs,Nat.mul_comm (128 ^ k) 128,← Nat.mul_assoc,← Nat.add_mul,Nat.mul_comm (u / 128) 128,Nat.div_add_mod]
   rw [ih (u / 128) (by omega) (k+1) _ (.inr (by omega)) (by omega),show (128+u % 128) % 128=u % 128 by omega]
   simp only [List.length_cons,Sum.inr.injEq,Prod.mk.injEq]
   exact ⟨by omega,by omega⟩
theorem aHh {n low high:Int} (rest:List UInt8) (h1:-9223372036854775808≤n) (h2:n≤9223372036854775807) :
  fR (mC (zz n)++rest) low high=if n<low∨high<n then (0,(mC (zz n)).length,14) else (n,(mC (zz n)).length,0):=by
 have h:=aEp h1 h2
 unfold fR
 rw [aMl rest (zz n) 0 0 (.inl rfl) (by simpa using h)]
 simp only [Nat.zero_add,Nat.pow_zero,Nat.mul_one,aOS]
theorem aHk:∀ (l:List UInt8) (k u w n:Nat),mX k u l=.inr (w,n)→n≤k+l.length
 | [],k,u,w,n,h=>by simp only [mX] at h;split at h <;> cases h
 | c :: r,k,u,w,n,h=>by
  simp only [mX] at h
  split at h
  ·
   cases h
  ·
   split at h
   ·
    have:=aHk r _ _ _ _ h
    simp only [List.length_cons]
    omega
   ·
    split at h
    ·
     cases h
    ·
     cases h
     simp only [List.length_cons]
     omega
theorem vR (l:List UInt8) (low high:Int):(fR l low high).2.1≤l.length:=by
 unfold fR
 split
 ·
  simp
 ·
  rename_i u k h
  have:=aHk l 0 0 u k h
  split <;> simp <;> omega
theorem aHP {l:List UInt8}{low high:Int} (h:(fR l low high).2.2=0):low≤(fR l low high).1∧(fR l low high).1≤high:=by
 unfold fR at h ⊢
 split
 ·
  rename_i e hs
  rw [hs] at h
  simp only at h
  exfalso
  have key:∀ (l:List UInt8) (k u e:Nat),mX k u l=.inl e→e=3∨e=4:=by
   intro l
   induction l with
   | nil=>intro k u e h;simp only [mX] at h;split at h <;> cases h <;> simp
   | cons c r ih =>
    intro k u e h
    simp only [mX] at h
    split at h
    ·
     cases h;simp
    ·
     split at h
     ·
      exact ih _ _ _ h
     ·
      split at h <;> cases h
      simp
  rcases key _ _ _ _ hs with h2 | h2 <;> omega
 ·
  rename_i u k hs
  rw [hs] at h
  simp only at h
  by_cases hc:rH u<low∨high<rH u
  ·
   rw [if_pos hc] at h;simp at h
  ·
   rw [if_neg hc];simp only;omega
def aFL (b:List UInt8) (at_:Nat) (most:Int):List UInt8 × aD :=
 if (fR (b.drop at_) 0 most).2.2≠0 then ([],tT b at_ 0 most)
 else if (b.length:Int) - (at_+(fR (b.drop at_) 0 most).2.1:Nat)<(fR (b.drop at_) 0 most).1 then ([],⟨b,(at_+(fR (b.drop at_) 0 most).2.1:Nat),4,true⟩)
 else ((b.drop (at_+(fR (b.drop at_) 0 most).2.1)).take (fR (b.drop at_) 0 most).1.toNat,⟨b,(at_+(fR (b.drop at_) 0 most).2.1+(fR (b.drop at_) 0 most).1.toNat:Nat),0,true⟩)
theorem aE2 {b:List UInt8}{at_:Nat}{most:Int} (h1:at_≤b.length) (hb:b.length≤1000000000):eC most ⟨b,at_,0,true⟩=some (aFL b at_ most):=by
 have hu:=vR (b.drop at_) 0 most
 rw [List.length_drop] at hu
 unfold eC aFL
 rw [aDq h1 hb,Option.bind_some]
 unfold tT
 rw [pK,Option.bind_some]
 by_cases he:(fR (b.drop at_) 0 most).2.2=0
 ·
  have hin:=aHP he
  generalize hr:fR (b.drop at_) 0 most=r at *
  obtain ⟨v,k,e⟩:=r
  simp only at he hin hu
  subst he
  simp only [Bool.not_true,cond_false,Int.natCast_zero,decide_true,bE,ne_eq,not_true_eq_false,if_false]
  rw [w64 (by omega) (by omega)]
  by_cases h3:(b.length:Int) - (at_+k:Nat)<v
  ·
   rw [if_pos h3,if_pos h3]
  ·
   rw [if_neg h3,if_neg h3,w64 (by omega) (by omega),aOG (by omega),Option.bind_some]
   have e1:(((at_+k:Nat):Int)+v).toNat=at_+k+v.toNat:=by omega
   rw [e1,Int.toNat_natCast,List.drop_take,show at_+k+v.toNat - (at_+k)=v.toNat by omega]
   congr 3
   omega
 ·
  rw [if_pos he]
  have:decide (((fR (b.drop at_) 0 most).2.2:Int)=0)=false:=by simp;omega
  simp only [this,Bool.not_true,Bool.not_false,cond_false,cond_true]
def iE:List UInt8→Nat
 | []=>0
 | c :: r=>c.toNat % 128+128*iE r
theorem aCX:∀ (l:List UInt8) (k u w n:Nat),mX k u l=.inr (w,n)→k<n∧n≤k+l.length∧w=u+128 ^ k*iE (l.take (n - k))
 | [],k,u,w,n,h=>by simp only [mX] at h;split at h <;> cases h
 | c :: r,k,u,w,n,h=>by
  simp only [mX] at h
  split at h
  ·
   cases h
  ·
   split at h
   ·
    obtain ⟨h1,h2,h3⟩:=aCX r _ _ _ _ h
    refine ⟨by omega,by simp only [List.length_cons];omega,?_⟩
    rw [show n - k=(n - (k+1))+1 by omega,List.take_succ_cons,iE,h3,Nat.pow_succ,Nat.mul_add,Nat.mul_assoc,Nat.add_assoc,Nat.mul_comm (c.toNat % 128)]
   ·
    rename_i h3
    split at h
    ·
     cases h
    ·
     cases h
     refine ⟨by omega,by simp,?_⟩
     rw [show k+1 - k=0+1 by omega,List.take_succ_cons,iE,List.take_zero,iE,show c.toNat % 128=c.toNat by omega,Nat.mul_zero,Nat.add_zero,Nat.mul_comm]
theorem aHZ:∀ (l:List UInt8) (k u w n:Nat),mX k u l=.inr (w,n)→k≤9→u<128 ^ k→w<18446744073709551616
 | [],k,u,w,n,h,_,_=>by simp only [mX] at h;split at h <;> cases h
 | c :: r,k,u,w,n,h,hk,hu=>by
  have hc:=c.toNat_lt
  simp only [mX] at h
  split at h
  ·
   cases h
  ·
   split at h
   ·
    have hlt:u+c.toNat % 128*128 ^ k<128 ^ (k+1):=by
     rw [Nat.pow_succ]
     have:c.toNat % 128*128 ^ k≤127*128 ^ k:=Nat.mul_le_mul_right _ (by omega)
     omega
    by_cases hk9:k=9
    ·
     exfalso
     subst hk9
     cases r with
     | nil=>simp [mX] at h
     | cons d r=>simp [mX] at h
    ·
     exact aHZ r _ _ _ _ h (by omega) hlt
   ·
    split at h
    ·
     cases h
    ·
     rename_i h3 h4
     cases h
     have:k=0∨k=1∨k=2∨k=3∨k=4∨k=5∨k=6∨k=7∨k=8∨k=9:=by omega
     rcases this with rfl | rfl | rfl | rfl | rfl | rfl | rfl | rfl | rfl | rfl <;> omega
theorem aCW:∀ (l:List UInt8) (k u e:Nat),mX k u l=.inl e→e=3∨e=4
 | [],k,u,e,h=>by simp only [mX] at h;split at h <;> cases h <;> simp
 | c :: r,k,u,e,h=>by
  simp only [mX] at h
  split at h
  ·
   cases h;simp
  ·
   split at h
   ·
    exact aCW r _ _ _ h
   ·
    split at h <;> cases h
    simp
def zZ (rest:List UInt8):Int × Int:=match mX 0 0 rest with
 | .inl e=>(0,(e:Int))
 | .inr (_,n)=>((n:Int),0)
theorem aMZ {m:Bool}{rest:List UInt8}{x:Int} (hr:rest.length≤1000000000):qQ ⟨m,rest,x⟩=some (zZ rest):=by
 unfold qQ
 obtain ⟨r,h1,h2⟩:∃ r,dL (nZ ⟨m,rest,x⟩) (1:Int)=some r∧Fl.next r (fun _=>some ((0:Int),(3:Int)))=some (zZ rest):=by
  refine qK (fun (s:Int)=>∃ k:Nat,s=(k:Int)+1∧((k≤9∧k≤rest.length∧∃ u:Nat,mX 0 0 rest=mX k u (rest.drop k))∨(k=10∧mX 0 0 rest=.inl 3))) (fun s=>12 - s.toNat) _ ?_ 1 ⟨0,rfl,.inl ⟨by omega,by omega,0,by simp⟩⟩
  rintro s ⟨k,rfl,hI⟩
  unfold nZ
  rw [bE]
  obtain ⟨hk,hkl,u,hs⟩ | ⟨rfl,hs⟩:=hI
  ·
   rw [if_pos (by omega),bE]
   by_cases h3:(rest.length:Int)<(k:Int)+1
   ·
    rw [if_pos h3]
    refine .inr ⟨_,rfl,?_⟩
    have hd:rest.drop k=[]:=List.drop_eq_nil_of_le (by omega)
    rw [hd] at hs
    simp only [mX] at hs
    rw [if_neg (by omega)] at hs
    simp only [zZ,hs];rfl
   ·
    rw [if_neg h3]
    have hlt:k<rest.length:=by omega
    rw [w64 (by omega) (by omega),show (k:Int)+1 - 1=(k:Int) by omega,aCE,List.getElem?_eq_getElem hlt,Option.bind_some]
    generalize hc:rest[k]=c
    have hd:rest.drop k=c :: rest.drop (k+1):=by rw [← hc];exact List.drop_eq_getElem_cons hlt
    rw [hd] at hs
    simp only [mX] at hs
    rw [if_neg (by omega)] at hs
    rw [bE]
    by_cases h4:(c.toNat:Int)<128
    ·
     rw [if_pos h4]
     rw [if_neg (by omega)] at hs
     by_cases hX:(0<k∧c.toNat=0)∨(k=9∧1<c.toNat)
     ·
      rw [if_pos hX] at hs
      have e:(cond (cond (decide ((1:Int)<(k:Int)+1)) (decide ((c.toNat:Int)=0)) false) true (cond (decide ((k:Int)+1=10)) (decide ((1:Int)<(c.toNat:Int))) false))=true:=by
       rcases hX with ⟨h5,h6⟩ | ⟨h5,h6⟩
       ·
        have:(1:Int)<(k:Int)+1:=by omega
        simp [h6,this]
       ·
        simp [h5];omega
      rw [e,cond_true]
      refine .inr ⟨_,rfl,?_⟩
      simp only [zZ,hs];rfl
     ·
      rw [if_neg hX] at hs
      have e:(cond (cond (decide ((1:Int)<(k:Int)+1)) (decide ((c.toNat:Int)=0)) false) true (cond (decide ((k:Int)+1=10)) (decide ((1:Int)<(c.toNat:Int))) false))=false:=by
       simp only [Bool.cond_eq_ite]
       by_cases h5:0<k <;> by_cases h6:c.toNat=0 <;> by_cases h7:k=9 <;> by_cases h8:1<c.toNat <;> simp <;> omega
      rw [e,cond_false]
      refine .inr ⟨_,rfl,?_⟩
      simp only [zZ,hs];rfl
    ·
     rw [if_neg h4]
     rw [if_pos (by omega)] at hs
     refine .inl ⟨_,rfl,⟨k+1,by rw [w64 (by omega) (by omega)];omega,?_⟩,by rw [w64 (by omega) (by omega)];omega⟩
     by_cases hk9:k=9
     ·
      refine .inr ⟨by omega,?_⟩
      rw [hs,hk9]
      cases rest.drop (9+1) <;> simp [mX]
     ·
      exact .inl ⟨by omega,by omega,_,hs⟩
  ·
   rw [if_neg (by omega)]
   refine .inr ⟨_,rfl,?_⟩
   simp only [zZ,hs];rfl
 rw [h1,Option.bind_some]
 exact h2
theorem aP7 (c:UInt8) (r:List UInt8):iE r≤iE (c :: r):=by simp only [iE];omega
theorem aJA:∀ (l:List UInt8) (j:Nat),iE (l.drop j)≤iE l
 | [],j=>by simp
 | c :: r,0=>by simp
 | c :: r,j+1=>Nat.le_trans (aJA r j) (aP7 c r)
theorem aKw {m:Bool}{rest:List UInt8}{x:Int}{k:Nat} (hk:k≤rest.length) (hw:iE (rest.take k)<18446744073709551616) (hr:rest.length≤1000000000):dL (pT ⟨m,rest,x⟩) ((0:Int),(k:Int) - 1)=some (iE (rest.take k):Int):=by
 refine aBu (fun (s:Int × Int)=>∃ j:Nat,s.2=(j:Int) - 1∧j≤k∧s.1=(iE ((rest.take k).drop j):Int)) (fun s=>(s.2+1).toNat) (fun _=>(iE (rest.take k):Int)) ?_ _ ⟨k,rfl,Nat.le_refl _,by simp [iE]⟩
 rintro ⟨u,i⟩ ⟨j,hi,hj,hu⟩
 simp only at hi hu
 subst hi hu
 unfold pT
 simp only [bE]
 cases j with
 | zero =>
  rw [if_neg (by omega),List.drop_zero]
  exact .inr rfl
 | succ j =>
  rw [if_pos (by omega),show ((j+1:Nat):Int) - 1=(j:Int) by omega,aCE,List.getElem?_eq_getElem (by omega),Option.bind_some]
  have hlt:j<(rest.take k).length:=by simp;omega
  have hd:(rest.take k).drop j=rest[j] :: (rest.take k).drop (j+1):=by rw [List.drop_eq_getElem_cons hlt];congr 1;simp
  have hv:iE ((rest.take k).drop j)=rest[j].toNat % 128+128*iE ((rest.take k).drop (j+1)):=by rw [hd,iE]
  have hb:=Nat.lt_of_le_of_lt (aJA (rest.take k) j) hw
  have e:IntKind.u64.wrap (IntKind.u64.wrap ((iE ((rest.take k).drop (j+1)):Int)*128)+IntKind.u64.wrap ((rest[j].toNat:Int).tmod 128))=(iE ((rest.take k).drop j):Int):=by
   rw [Int.tmod_eq_emod_of_nonneg (by omega)]
   simp only [IntKind.wrap_u64]
   omega
  rw [e,w64 (by omega) (by omega)]
  refine .inl ⟨((iE ((rest.take k).drop j):Int),(j:Int) - 1),rfl,⟨j,rfl,by omega,rfl⟩,?_,trivial⟩
  simp only
  omega
def yM (rest:List UInt8) (low high:Int):aM:=⟨true,if (fR rest low high).2.2=0 then rest.drop (fR rest low high).2.1 else [],(fR rest low high).2.2⟩
theorem aHj {rest:List UInt8}{low high:Int} (hr:rest.length≤1000000000):fS low high ⟨true,rest,0⟩=some ((fR rest low high).1,yM rest low high):=by
 unfold fS eZ
 rw [aMZ hr]
 simp only [Option.bind_some,Bool.not_true,cond_false,decide_true,qJ]
 unfold zZ yM
 cases hs:mX 0 0 rest with
 | inl e =>
  have he:=aCW rest 0 0 e hs
  have hr:fR rest low high=(0,0,e):=by simp only [fR,hs]
  rw [hr]
  simp only
  rw [if_neg (by omega),if_neg (by omega)]
  rfl
 | inr wn =>
  obtain ⟨w,n⟩:=wn
  obtain ⟨h1,h2,h3⟩:=aCX rest 0 0 w n hs
  have h4:=aHZ rest 0 0 w n hs (by omega) (by omega)
  simp only [Nat.sub_zero,Nat.pow_zero,Nat.one_mul,Nat.zero_add] at h2 h3
  subst h3
  have hr:fR rest low high=if rH (iE (rest.take n))<low∨high<rH (iE (rest.take n)) then (0,n,14) else (rH (iE (rest.take n)),n,0):=by simp only [fR,hs]
  rw [hr]
  simp only [if_true]
  rw [w64 (by omega) (by omega),aKw h2 h4 (by omega),Option.bind_some]
  generalize iE (rest.take n)=w at *
  have e1:(cond (decide ((w:Int).tmod 2=1)) (some (IntKind.i64.wrap (IntKind.i64.wrap (0 - IntKind.i64.wrap (IntKind.u64.wrap ((w:Int).tdiv 2))) - 1))) (some (IntKind.i64.wrap (IntKind.u64.wrap ((w:Int).tdiv 2)))))=some (rH w):=by
   have e2:(w:Int).tdiv 2=((w / 2:Nat):Int):=by rw [Int.tdiv_eq_ediv_of_nonneg (by omega)];omega
   have e3:(w:Int).tmod 2=((w % 2:Nat):Int):=by rw [Int.tmod_eq_emod_of_nonneg (by omega)];omega
   rw [e2,e3,bE,aRl (by omega) (by omega),w64 (x:=((w / 2:Nat):Int)) (by omega) (by omega)]
   unfold rH
   by_cases h5:w % 2=1
   ·
    rw [if_pos (by omega),if_pos h5,w64 (x:=0 - ((w / 2:Nat):Int)) (by omega) (by omega),w64 (by omega) (by omega)]
    congr 1
    omega
   ·
    rw [if_neg (by omega),if_neg h5]
  rw [e1,Option.bind_some]
  by_cases hlow:rH w<low
  ·
   rw [if_pos (.inl hlow)]
   simp only [hlow,decide_true,cond_true,iT,Option.bind_some]
   simp
  ·
   by_cases hhigh:high<rH w
   ·
    rw [if_pos (.inr hhigh)]
    simp only [hlow,hhigh,decide_true,decide_false,cond_true,cond_false,iT,Option.bind_some]
    simp
   ·
    rw [if_neg (by omega)]
    simp only [hlow,hhigh,decide_true,decide_false,cond_true,cond_false]
    rw [aC0 (by omega),Option.bind_some]
    simp
def aHW (rest:List UInt8) (most:Int):List UInt8 × aM :=
 if (fR rest 0 most).2.2≠0 then ([],yM rest 0 most)
 else if ((rest.drop (fR rest 0 most).2.1).length:Int)<(fR rest 0 most).1 then ([],⟨true,[],4⟩)
 else ((rest.drop (fR rest 0 most).2.1).take (fR rest 0 most).1.toNat,⟨true,(rest.drop (fR rest 0 most).2.1).drop (fR rest 0 most).1.toNat,0⟩)
theorem aKy {rest:List UInt8}{most:Int} (hr:rest.length≤1000000000):eH most ⟨true,rest,0⟩=some (aHW rest most):=by
 have hu:=vR rest 0 most
 unfold eH aHW
 rw [aHj hr,Option.bind_some]
 unfold yM eZ
 simp only [Option.bind_some,Bool.not_true,cond_false]
 by_cases he:(fR rest 0 most).2.2=0
 ·
  have hin:=aHP he
  have he2:((fR rest 0 most).2.2:Int)=0:=by omega
  simp only [he,he2,if_true,ne_eq,not_true_eq_false,if_false]
  generalize hd:rest.drop (fR rest 0 most).2.1=d
  simp only [Int.ofNat_zero,Int.natCast_zero,decide_true,Bool.not_true,cond_false,bE]
  by_cases h3:(d.length:Int)<(fR rest 0 most).1
  ·
   rw [if_pos h3,if_pos h3];rfl
  ·
   rw [if_neg h3,if_neg h3,aE1 (by omega),Option.bind_some,aC0 (by omega),Option.bind_some]
 ·
  rw [if_pos he]
  have e:decide (((fR rest 0 most).2.2:Int)=0)=false:=by simp;omega
  simp only [e,Bool.not_false,cond_true]
def aJJ (r:aD) (w:aM):Prop:=∃ (b:List UInt8) (a:Nat) (e:Int),b.length≤1000000000∧a≤b.length∧r=⟨b,a,e,true⟩∧w=⟨true,if e=0 then b.drop a else [],e⟩
theorem aNn {r:aD}{w:aM}{low high:Int} (h:aJJ r w):∃ x r' w',cW low high r=some (x,r')∧fS low high w=some (x,w')∧aJJ r' w':=by
 obtain ⟨b,a,e,hb,ha,rfl,rfl⟩:=h
 by_cases h:e=0
 ·
  subst h
  have hu:=vR (b.drop a) low high
  rw [List.length_drop] at hu
  refine ⟨_,_,_,aDq ha hb,aHj (by simp;omega),b,a+(fR (b.drop a) low high).2.1,(fR (b.drop a) low high).2.2,hb,by omega,rfl,?_⟩
  unfold yM
  simp only [if_true]
  by_cases h2:(fR (b.drop a) low high).2.2=0
  ·
   rw [if_pos h2,if_pos (by omega),List.drop_drop]
  ·
   rw [if_neg h2,if_neg (by omega)]
 ·
  refine ⟨0,⟨b,a,e,true⟩,⟨true,[],e⟩,?_,?_,b,a,e,hb,ha,rfl,by simp [h]⟩
  ·
   unfold cW;rw [pK];simp [h]
  ·
   unfold fS eZ;simp [h]
theorem aL4 {r:aD}{w:aM}{most:Int} (h:aJJ r w):∃ x r' w',eC most r=some (x,r')∧eH most w=some (x,w')∧aJJ r' w':=by
 obtain ⟨b,a,e,hb,ha,rfl,rfl⟩:=h
 by_cases h:e=0
 ·
  subst h
  have hu:=vR (b.drop a) 0 most
  rw [List.length_drop] at hu
  rw [aE2 ha hb]
  simp only [if_true]
  rw [aKy (by simp;omega)]
  unfold aFL aHW tT yM
  by_cases he:(fR (b.drop a) 0 most).2.2=0
  ·
   have hin:=aHP he
   have he2:((fR (b.drop a) 0 most).2.2:Int)=0:=by omega
   simp only [he,he2,if_true,ne_eq,not_true_eq_false,if_false]
   have e1:((List.drop (fR (b.drop a) 0 most).2.1 (b.drop a)).length:Int)=(b.length:Int) - (a+(fR (b.drop a) 0 most).2.1:Nat):=by simp;omega
   rw [e1]
   by_cases h3:(b.length:Int) - (a+(fR (b.drop a) 0 most).2.1:Nat)<(fR (b.drop a) 0 most).1
   ·
    rw [if_pos h3,if_pos h3]
    exact ⟨_,_,_,rfl,rfl,b,_,4,hb,by omega,rfl,by simp⟩
   ·
    rw [if_neg h3,if_neg h3]
    refine ⟨_,_,_,rfl,by rw [List.drop_drop],b,_,0,hb,by omega,rfl,?_⟩
    simp [Nat.add_assoc]
  ·
   simp only [ne_eq,he,not_false_eq_true,if_true]
   refine ⟨_,_,_,rfl,rfl,b,_,_,hb,by omega,rfl,?_⟩
   have he2:¬((fR (b.drop a) 0 most).2.2:Int)=0:=by omega
   simp only [he2,if_false]
 ·
  refine ⟨[],⟨b,a,e,true⟩,⟨true,[],e⟩,?_,?_,b,a,e,hb,ha,rfl,by simp [h]⟩
  ·
   unfold eC cW;rw [pK];simp [h,pK]
  ·
   unfold eH fS eZ;simp [h]
end Go.Proofs.YtnigjppddilpcaaGreatDoor
namespace Go.Proofs.YtnigjppddilpcaaGreatDoor
open Go Abs
set_option linter.unusedSimpArgs false
set_option linter.unusedVariables false
def fZ (e:Int) (r:aD) (w:aM):Prop:=∃ (b:List UInt8) (a:Nat),b.length≤1000000000∧a≤b.length∧r=⟨b,a,e,true⟩∧w=⟨true,if e=0 then b.drop a else [],e⟩
theorem aNm {r:aD}{w:aM} (h:aJJ r w):∃ e,fZ e r w:=by
 obtain ⟨b,a,e,h1,h2,h3,h4⟩:=h
 exact ⟨e,b,a,h1,h2,h3,h4⟩
theorem kX {e:Int}{r:aD}{w:aM} (h:fZ e r w):dS r=some e∧iS w=some e:=by
 obtain ⟨b,a,_,_,rfl,rfl⟩:=h
 exact ⟨rfl,rfl⟩
theorem aHI {e:Int}{r:aD}{w:aM} (x:Int) (h:fZ e r w):∃ r' w',fE x r=some r'∧gR x w=some w'∧fZ (if e=0 then x else e) r' w':=by
 obtain ⟨b,a,hb,ha,rfl,rfl⟩:=h
 refine ⟨_,_,aEN,?_,b,a,hb,ha,rfl,rfl⟩
 unfold gR eZ iT
 by_cases h:e=0
 ·
  by_cases h2:x=0
  ·
   simp [h,h2]
  ·
   simp [h,h2]
 ·
  simp [h]
theorem aNE (l:List UInt8) (low high:Int):lV (fR l low high).1:=by
 unfold fR
 split
 ·
  simp [lV]
 ·
  rename_i u k hs
  have:=aOR (aHZ l 0 0 u k hs (by omega) (by simp))
  split
  ·
   simp [lV]
  ·
   exact this
theorem aHJ {e:Int}{r:aD}{w:aM} (low high:Int) (h:fZ e r w):∃ x e' r' w',cW low high r=some (x,r')∧fS low high w=some (x,w')∧fZ e' r' w'∧lV x∧(e≠0→x=0∧e'=e)∧(e'=0→e=0):=by
 by_cases he:e=0
 ·
  subst he
  obtain ⟨b,a,hb,ha,rfl,rfl⟩:=h
  have hl:aJJ ⟨b,a,0,true⟩ ⟨true,if (0:Int)=0 then b.drop a else [],0⟩:=⟨b,a,0,hb,ha,rfl,rfl⟩
  obtain ⟨x,r',w',h1,h2,h3⟩:=aNn (low:=low) (high:=high) hl
  obtain ⟨e',h4⟩:=aNm h3
  refine ⟨x,e',r',w',h1,h2,h4,?_,fun h=>absurd rfl h,fun _=>rfl⟩
  rw [aDq ha hb] at h1
  cases h1
  exact aNE _ _ _
 ·
  obtain ⟨b,a,hb,ha,rfl,rfl⟩:=h
  refine ⟨0,e,⟨b,a,e,true⟩,⟨true,if e=0 then b.drop a else [],e⟩,?_,?_,⟨b,a,hb,ha,rfl,rfl⟩,by simp [lV],fun _=>⟨rfl,rfl⟩,fun h=>absurd h he⟩
  ·
   unfold cW;rw [pK];simp [he]
  ·
   unfold fS eZ;simp [he]
theorem aBr {e:Int}{r:aD}{w:aM} (most:Int) (h:fZ e r w):∃ x e' r' w',eC most r=some (x,r')∧eH most w=some (x,w')∧fZ e' r' w'∧x.length≤1000000000∧(e≠0→x=[]∧e'=e)∧(e'=0→e=0):=by
 by_cases he:e=0
 ·
  subst he
  obtain ⟨b,a,hb,ha,rfl,rfl⟩:=h
  have hl:aJJ ⟨b,a,0,true⟩ ⟨true,if (0:Int)=0 then b.drop a else [],0⟩:=⟨b,a,0,hb,ha,rfl,rfl⟩
  obtain ⟨x,r',w',h1,h2,h3⟩:=aL4 (most:=most) hl
  obtain ⟨e',h4⟩:=aNm h3
  refine ⟨x,e',r',w',h1,h2,h4,?_,fun h=>absurd rfl h,fun _=>rfl⟩
  rw [aE2 ha hb] at h1
  have:x=(aFL b a most).1:=by rw [Option.some.inj h1]
  rw [this]
  unfold aFL
  split
  ·
   simp
  ·
   split
   ·
    simp
   ·
    simp only [List.length_take,List.length_drop];omega
 ·
  obtain ⟨b,a,hb,ha,rfl,rfl⟩:=h
  refine ⟨[],e,⟨b,a,e,true⟩,⟨true,if e=0 then b.drop a else [],e⟩,?_,?_,⟨b,a,hb,ha,rfl,rfl⟩,by simp,fun _=>⟨rfl,rfl⟩,fun h=>absurd h he⟩
  ·
   unfold eC cW;rw [pK];simp [he,pK]
  ·
   unfold eH fS eZ;simp [he]
theorem aOo {b:List UInt8} (h:b.length≤1000000000):∃ r w,rE b=some r∧aCc b=some w∧fZ 0 r w:=by
 refine ⟨_,⟨true,b,0⟩,aAo (by omega),?_,b,0,h,by omega,rfl,by simp⟩
 unfold aCc
 rw [jM (by simp;omega)];simp
def eIf (c:Bool) (e:Int):Int:=if e=0 then (if c then 0 else 3) else e
theorem aM4 {c:Bool}{e:Int}:eIf c e=0↔e=0∧c=true:=by
 unfold eIf
 by_cases h:e=0
 ·
  cases c <;> simp [h]
 ·
  simp [h]
theorem aFx {σ τ ρ θ:Type}{b1:σ→Option (bS σ ρ)}{b2:τ→Option (bS τ θ)} (R:σ→τ→Prop) (m:σ→Nat) (Q:ρ→θ→Prop)
  (h:∀ s t,R s t→(∃ s' t',b1 s=some (.next s')∧b2 t=some (.next t')∧R s' t'∧m s'<m s)∨(∃ x y,b1 s=some (.out x)∧dL b2 t=some y∧Q x y)) :
  ∀ s t,R s t→∃ x y,dL b1 s=some x∧dL b2 t=some y∧Q x y:=by
 have key:∀ n s t,m s≤n→R s t→∃ x y,dL b1 s=some x∧dL b2 t=some y∧Q x y:=by
  intro n
  induction n with
  | zero =>
   intro s t hm hr
   rcases h s t hr with ⟨s',t',h1,h2,h3,h4⟩ | ⟨x,y,h1,h2,h3⟩
   ·
    omega
   ·
    exact ⟨x,y,qB h1,h2,h3⟩
  | succ n ih =>
   intro s t hm hr
   rcases h s t hr with ⟨s',t',h1,h2,h3,h4⟩ | ⟨x,y,h1,h2,h3⟩
   ·
    obtain ⟨x,y,g1,g2,g3⟩:=ih s' t' (by omega) h3
    exact ⟨x,y,by rw [yH h1,g1],by rw [yH h2,g2],g3⟩
   ·
    exact ⟨x,y,qB h1,h2,h3⟩
 exact fun s t hr=>key _ s t (Nat.le_refl _) hr
theorem aFc:∀ (a b:List UInt8),(!(Op.bytesLess a b||decide (a=b)))=Op.bytesLess b a
 | [],[]=>by simp [Op.bytesLess]
 | [],y :: b=>by simp [Op.bytesLess]
 | x :: a,[]=>by simp [Op.bytesLess]
 | x :: a,y :: b=>by
  simp only [Op.bytesLess,List.cons.injEq]
  have ih:=aFc a b
  by_cases h1:x<y
  ·
   have h2:¬y<x:=fun h=>absurd (UInt8.lt_trans h1 h) (UInt8.lt_irrefl _)
   have h3:¬y=x:=fun h=>by subst h;exact UInt8.lt_irrefl _ h1
   simp [h1,h2,h3]
  ·
   by_cases h2:y<x
   ·
    have h3:¬x=y:=fun h=>by subst h;exact UInt8.lt_irrefl _ h2
    simp [h1,h2,h3]
   ·
    have h3:x=y:=UInt8.le_antisymm (UInt8.not_lt.1 h2) (UInt8.not_lt.1 h1)
    subst h3
    simpa [h1] using ih
end Go.Proofs.YtnigjppddilpcaaGreatDoor
namespace Go.Proofs.YtnigjppddilpcaaGreatDoor
open Go Abs
set_option linter.unusedSimpArgs false
set_option linter.unusedVariables false
def iO (n:Int):List UInt8:=mC (zz n)
def jY (s:List UInt8):List UInt8:=mC (zz s.length)++s
theorem iL {n:Int} (h:lV n):(iO n).length≤10:=wW (aEp h.1 h.2)
theorem zA {n:Nat} (h:n≤9223372036854775807):(iO (n:Int)).length≤10:=iL ⟨by omega,by omega⟩
theorem pC {s:List UInt8} (h:s.length≤9223372036854775807):(jY s).length≤10+s.length:=by
 have:=zA h
 unfold iO at this
 simp only [jY,List.length_append];omega
theorem tM (s:List UInt8):s.length≤(jY s).length:=by simp [jY]
theorem yJ {b:List UInt8}{n:Int} (hb:b.length≤10000000000000) (h:lV n):eR b n=some (b++iO n):=aBm hb h.1 h.2
theorem aI9 {b s:List UInt8} (hb:b.length≤10000000000000) (hs:s.length≤10000000000000):hU b s=some (b++jY s):=by rw [aEK hb hs,jY,List.append_assoc]
theorem mT {α:Type} (B:Nat) (l:List α) (f:α→List UInt8) (b:List UInt8) (hB:(b++l.flatMap f).length≤B) {body:List UInt8 × Int→Option (bS (List UInt8 × Int) (List UInt8))}
  (h:∀ (s:List UInt8) (i:Nat) (hi:i<l.length),(s++f l[i]).length≤B→body (s,(i:Int))=some (.next (s++f l[i],((i+1:Nat):Int)))) (hout:∀ s,body (s,(l.length:Int))=some (.out s)) :
  dL body (b,(0:Int))=some (b++l.flatMap f):=by
 refine aBu (fun s=>∃ i:Nat,s.2=(i:Int)∧i≤l.length∧s.1=b++(l.take i).flatMap f) (fun s=>l.length - s.2.toNat) (fun _=>b++l.flatMap f) ?_ _ ⟨0,rfl,by omega,by simp⟩
 rintro ⟨s,i0⟩ ⟨i,hi0,hi,hs⟩
 simp only at hi0 hs
 subst hi0 hs
 by_cases hlt:i<l.length
 ·
  have e:b++(l.take i).flatMap f++f l[i]=b++(l.take (i+1)).flatMap f:=by rw [List.take_succ_eq_append_getElem hlt,List.flatMap_append];simp
  have hle:(b++(l.take i).flatMap f++f l[i]).length≤B:=by
   rw [e]
   refine Nat.le_trans ?_ hB
   conv=>rhs;rw [← List.take_append_drop (i+1) l,List.flatMap_append]
   simp only [List.length_append];omega
  refine .inl ⟨_,h _ i hlt hle,⟨i+1,rfl,hlt,e⟩,by simp;omega,rfl⟩
 ·
  obtain rfl:i=l.length:=by omega
  rw [hout,List.take_length]
  exact .inr rfl
mutual
def kA:aC→List UInt8
 | ⟨k,i,t,l,ks⟩=>iO k++(if k=1∨k=2∨k=6 then iO i else if k=3 then jY t else if k=4 then iO l.length++aJC l else if k=5 then iO l.length++aHp l ks else [])
def aJC:List aC→List UInt8
 | []=>[]
 | x :: l=>kA x++aJC l
def aHp:List aC→List (List UInt8)→List UInt8
 | x :: l,k :: ks=>jY k++kA x++aHp l ks
 | _,_=>[]
end
theorem aJD:∀ l,aJC l=l.flatMap kA
 | []=>by simp [aJC]
 | x :: l=>by simp [aJC,aJD l]
theorem aJE:∀ l ks,aHp l ks=(l.zip ks).flatMap fun p=>jY p.2++kA p.1
 | [],_=>by simp [aHp]
 | x :: l,[]=>by simp [aHp]
 | x :: l,k :: ks=>by simp [aHp,aJE l ks]
theorem aC2 (v:aC):kA v=iO v.Kind++(if v.Kind=1∨v.Kind=2∨v.Kind=6 then iO v.Int else if v.Kind=3 then jY v.Text else if v.Kind=4 then iO v.Items.length++v.Items.flatMap kA
 else if v.Kind=5 then iO v.Items.length++(v.Items.zip v.Keys).flatMap (fun p=>jY p.2++kA p.1) else []):=by cases v;simp only [kA,aJD,aJE]
mutual
def nsz:aC→Nat
 | ⟨_,_,_,l,_⟩=>iZ l+1
def iZ:List aC→Nat
 | []=>0
 | x :: l=>nsz x+iZ l
end
theorem aB6 (v:aC):nsz v=iZ v.Items+1:=by cases v;simp [nsz]
theorem aIF {α:Type} (f:α→List UInt8) (g:α→Nat):∀ (l:List α),(∀ x∈l,(f x).length≤g x)→(l.flatMap f).length≤(l.map g).sum
 | [],_=>by simp
 | x :: l,h=>by
  have h1:=h x (by simp)
  have h2:=aIF f g l (fun y hy=>h y (by simp [hy]))
  simp only [List.flatMap_cons,List.length_append,List.map_cons,List.sum_cons];omega
theorem aK5:∀ l,l.length≤iZ l
 | []=>by simp
 | x :: l=>by have:=aK5 l;have:=aB6 x;simp only [iZ,List.length_cons];omega
theorem aLf (c:Nat):∀ (l:List aC),(l.map fun x=>nsz x*c).sum=iZ l*c
 | []=>by simp [iZ]
 | x :: l=>by simp [iZ,aLf c l,Nat.add_mul]
theorem aJB:∀ (n:Nat) (v:aC),rM v≤n→bR v→shr v=true→(kA v).length+4200≤nsz v*8400:=by
 intro n
 induction n with
 | zero=>intro v h;have:=hD v;omega
 | succ n ih =>
  intro v h hv hs
  have hh:=hD v
  obtain ⟨k0,k1,k2,k3,k4⟩:=(eD v).1 hv
  rw [aH0] at hs
  simp only [Bool.and_eq_true,Bool.not_eq_true',List.all_eq_true,List.any_eq_false,iW,decide_eq_false_iff_not,decide_eq_true_eq] at hs
  obtain ⟨⟨h1,h2⟩,h3⟩:=hs
  have e1:=iL k0
  have e2:=iL k1
  have e3:=pC (s:=v.Text) (by omega)
  have e4:=zA (n:=v.Items.length) k3.1
  have hi:∀ x∈v.Items,(kA x).length+4200≤nsz x*8400:=fun x hx=>ih x (by have:=jI hx;omega) (k3.2.2 x hx) (h3 x hx)
  rw [aC2,aB6]
  simp only [List.length_append]
  have f4:(v.Items.flatMap kA).length≤iZ v.Items*8400:=by
   have:=aIF kA (fun x=>nsz x*8400) v.Items (fun x hx=>by have:=hi x hx;omega)
   rwa [aLf] at this
  have key:∀ (l:List aC) (ks:List (List UInt8)),(∀ x∈l,(kA x).length+4200≤nsz x*8400)→(∀ k∈ks,k.length≤4096)→((l.zip ks).flatMap fun p=>jY p.2++kA p.1).length≤iZ l*8400:=by
   intro l
   induction l with
   | nil=>intro ks _ _;simp
   | cons x l ihl =>
    intro ks hl hk
    cases ks with
    | nil=>simp
    | cons k ks =>
     have a1:=ihl ks (fun y hy=>hl y (by simp [hy])) (fun y hy=>hk y (by simp [hy]))
     have a2:=hl x (by simp)
     have a3:=hk k (by simp)
     have a4:=pC (s:=k) (by omega)
     simp only [List.zip_cons_cons,List.flatMap_cons,List.length_append,iZ,Nat.add_mul];omega
  have f5:=key v.Items v.Keys hi (fun k hk=>by have:=h2 k hk;omega)
  split
  ·
   omega
  ·
   split
   ·
    omega
   ·
    split
    ·
     simp only [List.length_append];omega
    ·
     split
     ·
      simp only [List.length_append];omega
     ·
      simp;omega
theorem aCz {o:Bool}{v:aC} (h:xE o v=true):(v.Kind≠4→v.Kind≠5→v.Items=[])∧(v.Kind=5→v.Keys.length=v.Items.length)∧∀ x∈v.Items,xE o x=true:=by
 rw [aDn,Bool.and_eq_true,List.all_eq_true] at h
 refine ⟨fun h4 h5=>?_,fun h5=>?_,h.2⟩
 ·
  have hf:=h.1
  unfold aAA at hf
  by_cases h0:v.Kind=0
  ·
   simp [h0] at hf;simp [hf]
  ·
   by_cases h1:v.Kind=1
   ·
    simp [h1] at hf;simp [hf]
   ·
    by_cases h2:v.Kind=2
    ·
     simp [h2] at hf;simp [hf]
    ·
     by_cases h6:v.Kind=6
     ·
      simp [h6] at hf;simp [hf]
     ·
      by_cases h3:v.Kind=3
      ·
       simp [h3] at hf;simp [hf]
      ·
       simp [h0,h1,h2,h6,h3,h4,h5] at hf
 ·
  have hf:=h.1
  unfold aAA at hf
  simp [h5] at hf
  exact hf.1.2
end Go.Proofs.YtnigjppddilpcaaGreatDoor
namespace Go.Proofs.YtnigjppddilpcaaGreatDoor
open Go Abs
set_option linter.unusedSimpArgs false
set_option linter.unusedVariables false
def At (r:aD) (rest:List UInt8):Prop:=∃ (b:List UInt8) (a:Nat),b.length≤1000000000∧a≤b.length∧r=⟨b,a,0,true⟩∧b.drop a=rest
theorem mD {r:aD}{l:List UInt8} (h:At r l):dS r=some 0:=by
 obtain ⟨b,a,_,_,rfl,_⟩:=h
 rfl
theorem aKV {b:List UInt8} (h:b.length≤1000000000):∃ r,rE b=some r∧At r b:=⟨_,aAo (by omega),b,0,h,by omega,rfl,rfl⟩
theorem aB1 {r:aD}{n low high:Int}{rest:List UInt8} (h:At r (iO n++rest)) (hn:lV n) (h1:low≤n) (h2:n≤high):∃ r',cW low high r=some (n,r')∧At r' rest:=by
 obtain ⟨b,a,hb,ha,rfl,hd⟩:=h
 have hr:=aHh (low:=low) (high:=high) rest hn.1 hn.2
 rw [if_neg (by omega)] at hr
 have hlen:(iO n).length≤b.length - a:=by
  have:=congrArg List.length hd
  simp only [List.length_drop,List.length_append] at this
  omega
 refine ⟨_,by rw [aDq ha hb,hd];unfold iO;rw [hr],b,a+(iO n).length,hb,by omega,?_,?_⟩
 ·
  unfold tT
  rw [hd];unfold iO;rw [hr];rfl
 ·
  rw [← List.drop_drop,hd,List.drop_left]
theorem yX {r:aD}{s:List UInt8}{most:Int}{rest:List UInt8} (h:At r (jY s++rest)) (hs:(s.length:Int)≤most):∃ r',eC most r=some (s,r')∧At r' rest:=by
 obtain ⟨b,a,hb,ha,rfl,hd⟩:=h
 have hl:=congrArg List.length hd
 simp only [List.length_drop,List.length_append,jY] at hl
 have hr:=aHh (low:=0) (high:=most) (s++rest) (n:=(s.length:Int)) (by omega) (by omega)
 rw [if_neg (by omega)] at hr
 have hd':b.drop a=mC (zz s.length)++(s++rest):=by rw [hd,jY,List.append_assoc]
 have hd2:b.drop (a+(mC (zz s.length)).length)=s++rest:=by rw [← List.drop_drop,hd',List.drop_left]
 refine ⟨⟨b,(a+(mC (zz s.length)).length+s.length:Nat),0,true⟩,?_,b,a+(mC (zz s.length)).length+s.length,hb,by omega,rfl,?_⟩
 ·
  rw [aE2 ha hb]
  unfold aFL
  rw [hd',hr]
  simp only [ne_eq,not_true_eq_false,if_false]
  rw [if_neg (by omega),hd2]
  simp
 ·
  rw [← List.drop_drop,hd2,List.drop_left]
theorem aMg {l:List (List UInt8)} (h:l.length≤9223372036854775807) (hr:aEA l=true) (i:Nat) (hi:i+1<l.length):Op.bytesLess l[i] l[i+1]=true:=aFW.1 hr i hi
theorem aOm:∀ (n:Nat) (v:aC),rM v≤n→rM v≤nsz v:=by
 intro n
 induction n with
 | zero=>intro v h;have:=hD v;omega
 | succ n ih =>
  intro v h
  have hh:=hD v
  rw [hh,aB6]
  have key:∀ l:List aC,(∀ x∈l,rM x≤nsz x)→aDp l≤iZ l:=by
   intro l
   induction l with
   | nil=>simp [aDp,iZ]
   | cons x l ihl =>
    intro hl
    have h1:=hl x (by simp)
    have h2:=ihl (fun y hy=>hl y (by simp [hy]))
    simp only [aDp,iZ];omega
  have:=key v.Items (fun x hx=>ih x (by have:=jI hx;omega))
  omega
theorem aIY:∀ {l:List aC}{x:aC},x∈l→nsz x≤iZ l
 | [],x,h=>by simp at h
 | y :: l,x,h=>by
  simp only [iZ]
  rcases List.mem_cons.1 h with rfl | h
  ·
   omega
  ·
   have:=aIY h;omega
theorem aKZ:∀ (n:Nat) (v:aC),rM v≤n→nsz v≤1000000→dep v=(rM v:Int)∧siz v=(nsz v:Int):=by
 intro n
 induction n with
 | zero=>intro v h;have:=hD v;omega
 | succ n ih =>
  intro v h hn
  have hh:=hD v
  have hz:=aB6 v
  have hm:=aOm _ v (Nat.le_refl _)
  have k1:∀ (l:List aC) (a:Nat),(∀ x∈l,dep x=(rM x:Int))→l.foldl (fun a x=>if dep x > a then dep x else a) (a:Int)=((max a (aDp l):Nat):Int):=by
   intro l
   induction l with
   | nil=>intro a _;simp [aDp]
   | cons x l ihl =>
    intro a hl
    have h1:=hl x (by simp)
    simp only [List.foldl_cons,h1]
    have e:(if ((rM x:Nat):Int) > ((a:Nat):Int) then ((rM x:Nat):Int) else ((a:Nat):Int))=((max a (rM x):Nat):Int):=by split <;> omega
    rw [e,ihl _ (fun y hy=>hl y (by simp [hy]))]
    simp only [aDp]
    omega
  have k2:∀ (l:List aC) (a:Nat),(∀ x∈l,siz x=(nsz x:Int))→a+iZ l≤2000000→l.foldl (fun a x=>IntKind.i64.wrap (a+siz x)) (a:Int)=((a+iZ l:Nat):Int):=by
   intro l
   induction l with
   | nil=>intro a _ _;simp [iZ]
   | cons x l ihl =>
    intro a hl ha
    simp only [iZ] at ha
    have h1:=hl x (by simp)
    simp only [List.foldl_cons,h1]
    rw [w64 (by omega) (by omega),show ((a:Nat):Int)+(nsz x:Int)=((a+nsz x:Nat):Int) by omega,ihl _ (fun y hy=>hl y (by simp [hy])) (by omega)]
    simp only [iZ]
    omega
  have hi:∀ x∈v.Items,dep x=(rM x:Int)∧siz x=(nsz x:Int):=fun x hx=>ih x (by have:=jI hx;omega) (by have:=aIY hx;omega)
  constructor
  ·
   rw [aJ9]
   have:=k1 v.Items 0 (fun x hx=>(hi x hx).1)
   simp only [Int.natCast_zero] at this
   rw [this,w64 (by omega) (by omega)]
   omega
  ·
   rw [aKE]
   have:=k2 v.Items 1 (fun x hx=>(hi x hx).2) (by omega)
   rw [show (1:Int)=((1:Nat):Int) from rfl,this]
   omega
theorem aFC {r:aD}{l:List UInt8} (k:Int) (h:At r l):fD true k r=some (true,r):=by
 unfold fD
 rw [mD h]
 simp [mD h]
theorem aBx {α:Type} (f:α→List UInt8) (l:List α) (i:Nat) (hi:i<l.length):(l.drop i).flatMap f=f l[i]++(l.drop (i+1)).flatMap f:=by
 rw [List.drop_eq_getElem_cons hi,List.flatMap_cons]
theorem aDu:∀ (l:List aC) (i:Nat) (hi:i<l.length),iZ (l.take (i+1))=iZ (l.take i)+nsz l[i]
 | [],i,hi=>by simp at hi
 | x :: l,0,hi=>by simp [iZ]
 | x :: l,i+1,hi=>by
  have:=aDu l i (by simpa using hi)
  simp only [List.take_succ_cons,iZ,List.getElem_cons_succ] at this ⊢
  omega
theorem zG:∀ (l:List aC) (i:Nat),iZ (l.take i)≤iZ l
 | [],i=>by simp
 | x :: l,0=>by simp [iZ]
 | x :: l,i+1=>by have:=zG l i;simp only [List.take_succ_cons,iZ];omega
theorem aKM:∀ (n:Nat) (v:aC) (d:Int) (k:Nat) (r:aD) (rest:List UInt8),At r (kA v++rest)→bR v→xE false v=true→shr v=true→0≤d→(rM v:Int)+d≤17→k+nsz v≤1000→2*rM v≤n →
  ∃ r',bX n d k r=some (v,((k+nsz v:Nat):Int),r')∧At r' rest:=by
 intro n
 induction n using Nat.strongRecOn with
 | _ n ih =>
  intro v d k r rest hat hv hf hs hd0 hd hk hn
  have hh:=hD v
  have hz:=aB6 v
  obtain ⟨m,rfl⟩:∃ m,n=m+2:=⟨n - 2,by omega⟩
  obtain ⟨q0,q1,q2,q3,q4⟩:=(eD v).1 hv
  have hft:=hf
  rw [aM8 (rM v) v (Nat.le_refl _)] at hft
  simp only [Bool.and_eq_true,Bool.not_eq_true'] at hft
  obtain ⟨l1,l2,l3⟩:=aCz hft.1
  have hfi:∀ x∈v.Items,xE false x=true:=(aCz hf).2.2
  have hs':=hs
  rw [aH0] at hs'
  simp only [Bool.and_eq_true,Bool.not_eq_true',List.all_eq_true,List.any_eq_false,iW,decide_eq_false_iff_not,decide_eq_true_eq] at hs'
  obtain ⟨⟨s1,s2⟩,s3⟩:=hs'
  have hflo:aAA false v=true:=by rw [aDn,Bool.and_eq_true] at hf;exact hf.1
  have hk05:0≤v.Kind∧v.Kind≤5:=by
   unfold aAA at hflo
   by_cases h0:v.Kind=0
   ·
    omega
   by_cases h1:v.Kind=1
   ·
    omega
   by_cases h2:v.Kind=2
   ·
    omega
   by_cases h6:v.Kind=6
   ·
    simp [h6] at hflo
   by_cases h3:v.Kind=3
   ·
    omega
   by_cases h4:v.Kind=4
   ·
    omega
   by_cases h5:v.Kind=5
   ·
    omega
   simp [h0,h1,h2,h6,h3,h4,h5] at hflo
  rw [aC2,List.append_assoc] at hat
  obtain ⟨r1,a1,a2⟩:=aB1 (low:=-9223372036854775808) (high:=9223372036854775807) hat q0 q0.1 q0.2
  have ek:IntKind.i64.wrap ((k:Int)+1)=((k+1:Nat):Int):=by rw [w64 (by omega) (by omega)];omega
  rw [bX]
  have c1:(cond (decide ((k:Int)<(1000:Int))) (decide (d≤(16:Int))) false)=true:=by
   have h1:(k:Int)<1000:=by omega
   have h2:d≤16:=by omega
   simp [h1,h2]
  have c2:(cond (decide ((0:Int)≤v.Kind)) (decide (v.Kind≤(5:Int))) false)=true:=by simp [hk05.1,hk05.2]
  rw [c1,aFC _ hat]
  simp only [Option.bind_some,Bool.not_true,cond_false]
  rw [a1]
  simp only [Option.bind_some]
  rw [c2,ek,aFC _ a2]
  simp only [Option.bind_some,Bool.not_true,cond_false]
  have hnil:∀ {α:Type}{l:List α},decide (l.length=0)=true→l=[]:=fun h=>by simpa using h
  by_cases h1:v.Kind=1
  ·
   simp only [h1,true_or,if_true] at a2
   obtain ⟨r2,b1,b2⟩:=aB1 (low:=-9223372036854775808) (high:=9223372036854775807) a2 q1 q1.1 q1.2
   have hfl:=hflo
   simp only [aAA,h1,Int.reduceEq,if_true,if_false,Bool.and_eq_true,Bool.or_eq_true,decide_eq_true_eq] at hfl
   have c3:(cond (decide (v.Int=(0:Int))) true (decide (v.Int=(1:Int))))=true:=by rcases hfl.1.1.1 with h | h <;> simp [h]
   simp only [h1,decide_true,cond_true]
   rw [b1]
   simp only [Option.bind_some]
   rw [c3,aFC _ b2]
   simp only [Option.bind_some,Fl.next]
   have hit:=l1 (by omega) (by omega)
   have hks:v.Keys=[]:=by simpa using hfl.2
   have htx:v.Text=[]:=hfl.1.1.2
   refine ⟨r2,?_,b2⟩
   rw [hz,hit]
   obtain ⟨kd,i,t,l,ks⟩:=v
   simp only at h1 hit hks htx ⊢
   subst h1 hit hks htx
   simp [iZ]
  by_cases h2:v.Kind=2
  ·
   simp only [h2,true_or,or_true,if_true] at a2
   obtain ⟨r2,b1,b2⟩:=aB1 (low:=-9223372036854775808) (high:=9223372036854775807) a2 q1 q1.1 q1.2
   have hfl:=hflo
   simp only [aAA,h2,Int.reduceEq,if_true,if_false,Bool.and_eq_true,decide_eq_true_eq] at hfl
   simp only [h2,Int.reduceEq,decide_false,decide_true,cond_true,cond_false]
   rw [b1]
   simp only [Option.bind_some,Fl.next]
   have hit:=l1 (by omega) (by omega)
   have hks:v.Keys=[]:=by simpa using hfl.2
   have htx:v.Text=[]:=hfl.1.1
   refine ⟨r2,?_,b2⟩
   rw [hz,hit]
   obtain ⟨kd,i,t,l,ks⟩:=v
   simp only at h2 hit hks htx ⊢
   subst h2 hit hks htx
   simp [iZ]
  by_cases h3:v.Kind=3
  ·
   simp only [h3,Int.reduceEq,or_self,if_true,if_false] at a2
   obtain ⟨r2,b1,b2⟩:=yX (most:=9223372036854775807) a2 (by omega)
   have hfl:=hflo
   simp only [aAA,h3,Int.reduceEq,if_true,if_false,Bool.and_eq_true,decide_eq_true_eq] at hfl
   simp only [h3,Int.reduceEq,decide_false,decide_true,cond_true,cond_false]
   rw [b1]
   simp only [Option.bind_some]
   have c3:decide ((v.Text.length:Int)≤4096)=true:=by simp;omega
   rw [c3,aFC _ b2]
   simp only [Option.bind_some,Fl.next]
   have hit:=l1 (by omega) (by omega)
   have hks:v.Keys=[]:=by simpa using hfl.2
   have hin:v.Int=0:=hfl.1.1
   refine ⟨r2,?_,b2⟩
   rw [hz,hit]
   obtain ⟨kd,i,t,l,ks⟩:=v
   simp only at h3 hit hks hin ⊢
   subst h3 hit hks hin
   simp [iZ]
  by_cases h0:v.Kind=0
  ·
   simp only [h0,Int.reduceEq,or_self,if_false,List.nil_append] at a2
   have hfl:=hflo
   simp only [aAA,h0,if_true,Bool.and_eq_true,decide_eq_true_eq] at hfl
   simp only [h0,Int.reduceEq,decide_false,cond_false,Option.bind_some,Fl.next]
   have hit:=l1 (by omega) (by omega)
   have hks:v.Keys=[]:=by simpa using hfl.2
   have htx:v.Text=[]:=hfl.1.1.2
   have hin:v.Int=0:=hfl.1.1.1
   refine ⟨r1,?_,a2⟩
   rw [hz,hit]
   obtain ⟨kd,i,t,l,ks⟩:=v
   simp only at h0 hit hks htx hin ⊢
   subst h0 hit hks htx hin
   simp [iZ]
  have h45:v.Kind=4∨v.Kind=5:=by omega
  have e45:(cond (decide (v.Kind=(4:Int))) (some (decide (v.Kind=(4:Int)))) (some (decide (v.Kind=(5:Int)))))=some true:=by rcases h45 with h | h <;> simp [h]
  simp only [h1,h2,h3,decide_false,cond_false]
  rw [e45]
  simp only [Option.bind_some,cond_true]
  have hnl:v.Items.length≤iZ v.Items:=aK5 _
  have okn:lV (v.Items.length:Int):=⟨by omega,by omega⟩
  have hdw:IntKind.i64.wrap (d+1)=d+1:=w64 (by omega) (by omega)
  have c3:(cond (decide ((0:Int)≤(v.Items.length:Int))) (decide ((v.Items.length:Int)≤(1000:Int))) false)=true:=by
   have h1:(0:Int)≤(v.Items.length:Int):=by omega
   have h2:(v.Items.length:Int)≤1000:=by omega
   simp [h1,h2]
  have hItem:∀ (i:Nat) (hi:i<v.Items.length) (k':Nat) (r:aD) (rest:List UInt8),k'+nsz v.Items[i]≤1000→At r (kA v.Items[i]++rest)→∃ r',bX m (IntKind.i64.wrap (d+1)) k' r=some (v.Items[i],((k'+nsz v.Items[i]:Nat):Int),r')∧At r' rest:=fun i hi k' r rest hk' hat'=>by
   have hmem:=List.getElem_mem hi
   have hge:=jI hmem
   rw [hdw]
   exact ih m (by omega) v.Items[i] (d+1) k' r rest hat' (q3.2.2 _ hmem) (hfi _ hmem) (s3 _ hmem) (by omega) (by omega) hk' (by omega)
  rw [eE]
  by_cases h4:v.Kind=4
  ·
   simp only [h4,Int.reduceEq,or_self,if_true,if_false,List.append_assoc] at a2
   obtain ⟨r2,b1,b2⟩:=aB1 (low:=-9223372036854775808) (high:=9223372036854775807) a2 okn okn.1 okn.2
   rw [b1]
   simp only [Option.bind_some]
   rw [c3,aFC _ b2]
   simp only [Option.bind_some,Bool.not_true,cond_false]
   obtain ⟨X,g1,g2⟩:=qK (body:=cQ (bX m) ((v.Items.length:Int),r2) v.Kind d)
    (fun s=>∃ (i:Nat) (r':aD),i≤v.Items.length∧s=((i:Int),((k+1+iZ (v.Items.take i):Nat):Int),r',v.Items.take i,[])∧At r' ((v.Items.drop i).flatMap kA++rest)) (fun s=>v.Items.length - s.1.toNat)
    (fun X=>∃ r',X=.go (((k+1+iZ v.Items:Nat):Int),r',v.Items,[])∧At r' rest) (by
     rintro s ⟨i,r',hi,rfl,hat'⟩
     by_cases hlt:i<v.Items.length
     ·
      rw [aBx kA _ i hlt,List.append_assoc] at hat'
      have ht1:=aDu v.Items i hlt
      have ht2:=zG v.Items (i+1)
      obtain ⟨r3,f1,f2⟩:=hItem i hlt (k+1+iZ (v.Items.take i)) r' _ (by omega) hat'
      refine .inl ⟨_,?_,⟨i+1,r3,by omega,rfl,f2⟩,by simp;omega⟩
      unfold cQ
      simp only
      rw [bE,if_pos (by omega)]
      simp only [h4,Int.reduceEq,decide_false,cond_false,Option.bind_some,Fl.next]
      rw [f1]
      simp only [Option.bind_some]
      rw [mD f2,jM (by simp;omega),kR hlt (by omega),List.take_succ_eq_append_getElem hlt]
      simp only [Option.bind_some,decide_true,Bool.not_true,cond_false]
      rw [← List.take_succ_eq_append_getElem hlt,ht1,Nat.add_assoc]
     ·
      obtain rfl:i=v.Items.length:=by omega
      refine .inr ⟨.go (((k+1+iZ v.Items:Nat):Int),r',v.Items,[]),?_,r',rfl,by simpa using hat'⟩
      unfold cQ
      simp only
      rw [bE,if_neg (by omega),List.take_length]) ((0:Int),((k+1:Nat):Int),r2,[],[]) ⟨0,r2,by omega,by simp [iZ],by simpa using b2⟩
   obtain ⟨r',rfl,hat'⟩:=g2
   rw [h4] at g1
   rw [h4,g1]
   simp only [Option.bind_some,Fl.next]
   have hfl:=hflo
   simp only [aAA,h4,Int.reduceEq,if_true,if_false,Bool.and_eq_true,decide_eq_true_eq] at hfl
   have hks:v.Keys=[]:=by simpa using hfl.2
   have htx:v.Text=[]:=hfl.1.2
   have hin:v.Int=0:=hfl.1.1
   refine ⟨r',?_,hat'⟩
   rw [hz]
   obtain ⟨kd,i,t,l,ks⟩:=v
   simp only at h4 hks htx hin ⊢
   subst h4 hks htx hin
   rw [show k+1+iZ l=k+(iZ l+1) from by omega]
  ·
   have h5:v.Kind=5:=by omega
   have hlen:=l2 h5
   simp only [h5,Int.reduceEq,or_self,if_true,if_false,List.append_assoc] at a2
   obtain ⟨r2,b1,b2⟩:=aB1 (low:=-9223372036854775808) (high:=9223372036854775807) a2 okn okn.1 okn.2
   rw [b1]
   simp only [Option.bind_some]
   rw [c3,aFC _ b2]
   simp only [Option.bind_some,Bool.not_true,cond_false]
   have hfl:=hflo
   simp only [aAA,h5,Int.reduceEq,if_true,if_false,Bool.and_eq_true,decide_eq_true_eq] at hfl
   have hzl:(v.Items.zip v.Keys).length=v.Items.length:=by simp [hlen]
   obtain ⟨X,g1,g2⟩:=qK (body:=cQ (bX m) ((v.Items.length:Int),r2) v.Kind d)
    (fun s=>∃ (i:Nat) (r':aD),i≤v.Items.length∧s=((i:Int),((k+1+iZ (v.Items.take i):Nat):Int),r',v.Items.take i,v.Keys.take i)∧At r' (((v.Items.zip v.Keys).drop i).flatMap (fun p=>jY p.2++kA p.1)++rest)) (fun s=>v.Items.length - s.1.toNat)
    (fun X=>∃ r',X=.go (((k+1+iZ v.Items:Nat):Int),r',v.Items,v.Keys)∧At r' rest) (by
     rintro s ⟨i,r',hi,rfl,hat'⟩
     by_cases hlt:i<v.Items.length
     ·
      have hik:i<v.Keys.length:=by omega
      rw [aBx _ _ i (by omega),List.append_assoc,List.getElem_zip,List.append_assoc] at hat'
      have ht1:=aDu v.Items i hlt
      have ht2:=zG v.Items (i+1)
      obtain ⟨r3,e1,e2⟩:=yX (most:=9223372036854775807) hat' (by have:=s2 _ (List.getElem_mem hik);simp only;omega)
      obtain ⟨r4,f1,f2⟩:=hItem i hlt (k+1+iZ (v.Items.take i)) r3 _ (by omega) e2
      have hl4:(v.Keys[i].length:Int)≤4096:=by have:=s2 _ (List.getElem_mem hik);omega
      have hprev:(gd ((decide ((v.Keys[i].length:Int)≤(4096:Int)))==true&&((decide ((i:Int)=(0:Int)))==false)) (jV (v.Keys.take i) (IntKind.wrap .i64 ((i:Int) - (1:Int)))))=some (if h:i=0 then [] else v.Keys[i - 1]'(by omega)):=by
       by_cases hi0:i=0
       ·
        subst hi0;simp [gd];rfl
       ·
        have e:IntKind.i64.wrap ((i:Int) - 1)=((i - 1:Nat):Int):=by rw [w64 (by omega) (by omega)];omega
        have c2:decide ((i:Int)=0)=false:=by simp;omega
        rw [e,eQ (l:=v.Keys.take i) (i:=i - 1) (by simp;omega),c2,decide_eq_true hl4]
        simp [gd,hi0]
      refine .inl ⟨((i+1:Nat),((k+1+iZ (v.Items.take (i+1)):Nat):Int),r4,v.Items.take (i+1),v.Keys.take (i+1)),?_,⟨i+1,r4,by omega,rfl,f2⟩,by simp;omega⟩
      unfold cQ
      simp only
      rw [bE,if_pos (by omega)]
      simp only [h5,decide_true,cond_true]
      rw [e1]
      simp only [Option.bind_some]
      rw [hprev]
      simp only [Option.bind_some]
      have hC:(cond (decide ((v.Keys[i].length:Int)≤(4096:Int))) (cond (decide ((i:Int)=(0:Int))) true (!(Op.bytesLess v.Keys[i] (if h:i=0 then [] else v.Keys[i - 1]'(by omega))||decide (v.Keys[i]=(if h:i=0 then [] else v.Keys[i - 1]'(by omega)))))) false)=true:=by
       rw [decide_eq_true hl4,aFc]
       by_cases hi0:i=0
       ·
        subst hi0;simp
       ·
        have c2:decide ((i:Int)=0)=false:=by simp;omega
        have hr:=aMg (l:=v.Keys) (by omega) hfl.2 (i - 1) (by omega)
        have e:i - 1+1=i:=by omega
        simp only [e] at hr
        rw [c2];simp [hi0,hr]
      rw [hC,aFC _ e2]
      simp only [Option.bind_some,Bool.not_true,cond_false]
      rw [jM (by simp;omega)]
      simp only [Option.bind_some,Fl.next]
      rw [f1]
      simp only [Option.bind_some]
      rw [mD f2,jM (by simp;omega),kR hlt (by omega)]
      simp only [Option.bind_some,decide_true,Bool.not_true,cond_false]
      rw [← List.take_succ_eq_append_getElem hlt,← List.take_succ_eq_append_getElem hik,ht1,Nat.add_assoc]
     ·
      obtain rfl:i=v.Items.length:=by omega
      refine .inr ⟨.go (((k+1+iZ v.Items:Nat):Int),r',v.Items,v.Keys),?_,r',rfl,?_⟩
      ·
       unfold cQ
       simp only
       rw [bE,if_neg (by omega),List.take_length,← hlen,List.take_length]
      ·
       rw [List.drop_eq_nil_of_le (by omega)] at hat';simpa using hat') ((0:Int),((k+1:Nat):Int),r2,[],[]) ⟨0,r2,by omega,by simp [iZ],by simpa using b2⟩
   obtain ⟨r',rfl,hat'⟩:=g2
   rw [h5] at g1
   rw [h5,g1]
   simp only [Option.bind_some,Fl.next]
   have htx:v.Text=[]:=hfl.1.1.2
   have hin:v.Int=0:=hfl.1.1.1
   refine ⟨r',?_,hat'⟩
   rw [hz]
   obtain ⟨kd,i,t,l,ks⟩:=v
   simp only at h5 htx hin ⊢
   subst h5 htx hin
   rw [show k+1+iZ l=k+(iZ l+1) from by omega]
end Go.Proofs.YtnigjppddilpcaaGreatDoor

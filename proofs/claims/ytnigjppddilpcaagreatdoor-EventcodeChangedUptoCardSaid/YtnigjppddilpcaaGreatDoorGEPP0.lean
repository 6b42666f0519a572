/- Plain laws: what the functions compute, with no program in sight. -/
import Derived.Test.YtnigjppddilpcaaGreatDoorPk2
import Derived.Test.YtnigjppddilpcaaGreatDoorGEF0
import Derived.Test.YtnigjppddilpcaaGreatDoorGEF7
import Derived.Test.YtnigjppddilpcaaGreatDoorGEF4
import Derived.Test.YtnigjppddilpcaaGreatDoorGEF10
import Derived.Test.YtnigjppddilpcaaGreatDoorGEF11
import Derived.Test.YtnigjppddilpcaaGreatDoorGEF12
import Derived.Test.YtnigjppddilpcaaGreatDoorGEF1
import Derived.Test.YtnigjppddilpcaaGreatDoorGEF2
import Derived.Test.YtnigjppddilpcaaGreatDoorGEF6
import Derived.Test.YtnigjppddilpcaaGreatDoorGEF8
import Derived.Test.YtnigjppddilpcaaGreatDoorGESh
import Derived.Test.YtnigjppddilpcaaGreatDoorGEF5
namespace Go.Proofs.YtnigjppddilpcaaGreatDoor
open Go Abs
set_option linter.unusedSimpArgs false
set_option linter.unusedVariables false
theorem jW {i n:Nat} (h:i<n) (hn:n≤9223372036854775807):IntKind.i64.wrap ((i:Int)+1)=((i+1:Nat):Int):=by rw [w64 (by omega) (by omega)];omega
theorem eH {α:Type}{l:List α}{i:Nat} (h:i<l.length):gR l (i:Int)=some l[i]:=by rw [aEu,List.getElem?_eq_getElem h]
theorem kL {τ:Type} (n:Nat) (p:Nat→Bool) (b:τ) {body:Int→Option (cD Int (Fl τ Unit))} (h:∀ i:Nat,i<n→body (i:Int)=some (if p i then .next ((i+1:Nat):Int) else .out (.done b)))
  (hout:body (n:Int)=some (.out (.go ()))):dO body (0:Int)=some (if (List.range n).all p then .go () else .done b):=by
 refine xK (fun s=>∃ i:Nat,s=(i:Int)∧i≤n∧∀ j,j<i→p j=true) (fun s=>n - s.toNat) (fun _=>(if (List.range n).all p then Fl.go () else Fl.done b:Fl τ Unit)) ?_ _ ⟨0,rfl,by omega,by omega⟩
 rintro s ⟨i,rfl,hi,hp⟩
 by_cases hlt:i<n
 ·
  rw [h i hlt]
  by_cases hpi:p i=true
  ·
   rw [if_pos hpi]
   exact .inl ⟨_,rfl,⟨i+1,rfl,hlt,fun j hj=>by rcases Nat.lt_succ_iff_lt_or_eq.1 hj with h1 | rfl;exact hp j h1;exact hpi⟩,by simp;omega,rfl⟩
  ·
   rw [if_neg hpi,if_neg (fun ha=>hpi (List.all_eq_true.1 ha i (List.mem_range.2 hlt)))]
   exact .inr rfl
 ·
  obtain rfl:i=n:=by omega
  rw [hout,if_pos (List.all_eq_true.2 fun j hj=>hp j (List.mem_range.1 hj))]
  exact .inr rfl
theorem pF {α:Type} [Inhabited α] (l:List α) (p:α→Bool):((List.range l.length).all fun i=>p (l.getD i default))=l.all p:=by
 rw [Bool.eq_iff_iff,List.all_eq_true,List.all_eq_true]
 constructor
 ·
  intro h x hx
  obtain ⟨i,hi,rfl⟩:=List.mem_iff_getElem.1 hx
  have:=h i (List.mem_range.2 hi)
  simpa [hi] using this
 ·
  intro h i hi
  have hi:=List.mem_range.1 hi
  simpa [hi] using h _ (List.getElem_mem hi)
theorem tM {α:Type} (l:List α) (p:α→Bool) {body:Int→Option (cD Int (Fl Int Unit))} (h:∀ (i:Nat) (hi:i<l.length),body (i:Int)=some (if p l[i] then .out (.done (i:Int)) else .next ((i+1:Nat):Int)))
  (hout:body (l.length:Int)=some (.out (.go ()))):∃ x:Int,((dO body (0:Int)).bind fun r=>Fl.next r fun _=>some (-1:Int))=some x∧decide ((0:Int)≤x)=l.any p:=by
 obtain ⟨r,h1,x,h2,h3⟩:∃ r,dO body (0:Int)=some r∧∃ x:Int,(Fl.next r fun _=>some (-1:Int))=some x∧decide ((0:Int)≤x)=l.any p:=by
  refine oP (fun s=>∃ i:Nat,s=(i:Int)∧i≤l.length∧∀ j (hj:j<l.length),j<i→p l[j]=false) (fun s=>l.length - s.toNat) _ ?_ _ ⟨0,rfl,by omega,by omega⟩
  rintro s ⟨i,rfl,hi,hp⟩
  by_cases hlt:i<l.length
  ·
   rw [h i hlt]
   by_cases hpi:p l[i]=true
   ·
    rw [if_pos hpi]
    refine .inr ⟨_,rfl,i,rfl,?_⟩
    have:l.any p=true:=List.any_eq_true.2 ⟨_,List.getElem_mem hlt,hpi⟩
    rw [this];simp
   ·
    rw [if_neg hpi]
    exact .inl ⟨_,rfl,⟨i+1,rfl,hlt,fun j hj hji=>by rcases Nat.lt_succ_iff_lt_or_eq.1 hji with h1 | rfl;exact hp j hj h1;simpa using hpi⟩,by simp;omega⟩
  ·
   obtain rfl:i=l.length:=by omega
   rw [hout]
   refine .inr ⟨_,rfl,-1,rfl,?_⟩
   have:l.any p=false:=by
    rw [List.any_eq_false]
    intro x hx
    obtain ⟨j,hj,rfl⟩:=List.mem_iff_getElem.1 hx
    simp [hp j hj hj]
   rw [this];decide
 exact ⟨x,by rw [h1,Option.bind_some];exact h2,h3⟩
theorem xJ {α σ:Type} (l:List α) (f:σ→α→σ) (s0:σ) {body:σ × Int→Option (cD (σ × Int) σ)} (h:∀ (s:σ) (i:Nat) (hi:i<l.length),body (s,(i:Int))=some (.next (f s l[i],((i+1:Nat):Int))))
  (hout:∀ s,body (s,(l.length:Int))=some (.out s)):dO body (s0,(0:Int))=some (l.foldl f s0):=by
 refine xK (fun s=>∃ i:Nat,s.2=(i:Int)∧i≤l.length∧s.1=(l.take i).foldl f s0) (fun s=>l.length - s.2.toNat) (fun _=>l.foldl f s0) ?_ _ ⟨0,rfl,by omega,by simp⟩
 rintro ⟨s,i0⟩ ⟨i,hi0,hi,hs⟩
 simp only at hi0 hs
 subst hi0
 by_cases hlt:i<l.length
 ·
  refine .inl ⟨_,h s i hlt,⟨i+1,rfl,hlt,?_⟩,by simp;omega,rfl⟩
  rw [hs,List.take_succ_eq_append_getElem hlt,List.foldl_append]
  rfl
 ·
  obtain rfl:i=l.length:=by omega
  rw [hout,hs,List.take_length]
  exact .inr rfl
end Go.Proofs.YtnigjppddilpcaaGreatDoor
namespace Go.Proofs.YtnigjppddilpcaaGreatDoor
open Go Abs
set_option linter.unusedSimpArgs false
set_option linter.unusedVariables false
theorem sN {xs:List UInt8} (h:xs.length≤140737488355328):eV xs=some xs:=by
 rw [eV,lQ (by simpa using h)];simp
theorem xB {b:List UInt8}{n:Int} (hb:b.length≤10000000000000) (h1:-9223372036854775808≤n) (h2:n≤9223372036854775807):eP b n=some (b++kB (zz n)):=by
 have hv:=sE (aBi h1 h2)
 unfold eP
 rw [sN (by omega),Option.bind_some,sh1,aN2,aHd h1 h2]
 obtain ⟨r,hr,u,hu,hlt,he⟩:=oP (body:=pE) (fun s=>∃ u:Nat,s.2=(u:Int)∧u<18446744073709551616∧s.1++kB u=b++kB (zz n)) (fun s=>s.2.toNat)
  (fun r=>∃ u:Nat,r.2=(u:Int)∧u<128∧r.1++kB u=b++kB (zz n)) (fun s ⟨u,hu,hlt,he⟩=>by
   have hlen:s.1.length+(kB u).length=b.length+(kB (zz n)).length:=by simpa using congrArg List.length he
   unfold pE
   rw [hu,cE]
   by_cases h:u<128
   ·
    rw [if_neg (by omega)]
    exact .inr ⟨_,rfl,u,rfl,h,he⟩
   ·
    rw [if_pos (by omega),aND,aFm (by omega),Option.bind_some,lQ (by simp;omega),Option.bind_some,sh7,aN3]
    refine .inl ⟨_,rfl,⟨u / 128,rfl,by omega,?_⟩,by simp;omega⟩
    rw [← he,aBQ h,List.append_assoc,List.singleton_append]) (b,(zz n:Nat)) ⟨zz n,rfl,aBi h1 h2,rfl⟩
 have hlen:r.1.length+(kB u).length=b.length+(kB (zz n)).length:=by simpa using congrArg List.length he
 rw [hr,Option.bind_some,hu,aAC (aHV (by omega)),Option.bind_some,lQ (by simp;omega),Option.bind_some,← aAp hlt,he]
theorem aBz {b s:List UInt8} (hb:b.length≤10000000000000) (hs:s.length≤10000000000000):gM b s=some (b++kB (zz s.length)++s):=by
 have hv:=sE (aBi (n:=(s.length:Int)) (by omega) (by omega))
 unfold gM
 rw [xB (by omega) (by omega) (by omega),Option.bind_some,lQ (by simp;omega),Option.bind_some]
theorem aIV {n:Int} (h1:-9223372036854775808≤n) (h2:n≤9223372036854775807):uL n=some (zz n:Int):=by
 unfold uL
 rw [cE]
 by_cases h:0≤n
 ·
  rw [if_pos h];congr 1;simp only [IntKind.wrap_u64,zz,h,if_true];omega
 ·
  rw [if_neg h];congr 1;simp only [IntKind.wrap_u64,IntKind.wrap_i64,zz,h,if_false];omega
theorem aAe {b:List UInt8}{n:Int} (hb:b.length≤10000000000000) (h1:-9223372036854775808≤n) (h2:n≤9223372036854775807):iP b n=some (b++kB (zz n)):=by
 have hv:=sE (aBi h1 h2)
 unfold iP
 rw [lQ (by simp;omega),Option.bind_some,List.nil_append,aIV h1 h2,Option.bind_some]
 obtain ⟨r,hr,u,hu,hlt,he⟩:=oP (body:=qP) (fun s=>∃ u:Nat,s.2=(u:Int)∧u<18446744073709551616∧s.1++kB u=b++kB (zz n)) (fun s=>s.2.toNat)
  (fun r=>∃ u:Nat,r.2=(u:Int)∧u<128∧r.1++kB u=b++kB (zz n)) (fun s ⟨u,hu,hlt,he⟩=>by
   have hlen:s.1.length+(kB u).length=b.length+(kB (zz n)).length:=by simpa using congrArg List.length he
   unfold qP
   rw [hu,cE]
   by_cases h:u<128
   ·
    rw [if_neg (by omega)]
    exact .inr ⟨_,rfl,u,rfl,h,he⟩
   ·
    rw [if_pos (by omega)]
    have e:IntKind.u8.wrap (IntKind.u64.wrap ((u:Int).tmod 128+128))=((128+u % 128:Nat):Int):=by
     rw [IntKind.wrap_u64,IntKind.wrap_u8,Int.tmod_eq_emod_of_nonneg (by omega)];omega
    rw [e,aFm (by omega),Option.bind_some,lQ (by simp;omega),Option.bind_some]
    have e2:IntKind.u64.wrap ((u:Int).tdiv 128)=((u / 128:Nat):Int):=by rw [IntKind.wrap_u64,Int.tdiv_eq_ediv_of_nonneg (by omega)];omega
    rw [e2]
    refine .inl ⟨_,rfl,⟨u / 128,rfl,by omega,?_⟩,by simp;omega⟩
    rw [← he,aBQ h,List.append_assoc,List.singleton_append]) (b,(zz n:Nat)) ⟨zz n,rfl,aBi h1 h2,rfl⟩
 have hlen:r.1.length+(kB u).length=b.length+(kB (zz n)).length:=by simpa using congrArg List.length he
 rw [hr,Option.bind_some,hu,aAC (aHV (by omega)),Option.bind_some,lQ (by simp;omega),Option.bind_some,← aAp hlt,he]
theorem aDj {b s:List UInt8} (hb:b.length≤10000000000000) (hs:s.length≤10000000000000):gZ b s=some (b++kB (zz s.length)++s):=by
 have hv:=sE (aBi (n:=(s.length:Int)) (by omega) (by omega))
 unfold gZ
 rw [aAe (by omega) (by omega) (by omega),Option.bind_some]
 rw [xK (body:=pM s) (fun x=>∃ i:Nat,x.2=(i:Int)∧i≤s.length∧x.1=b++kB (zz s.length)++s.take i) (fun x=>s.length - x.2.toNat) (fun _=>b++kB (zz s.length)++s) ?_ (b++kB (zz s.length),0) ⟨0,rfl,by omega,by simp⟩]
 ·
  rfl
 ·
  rintro ⟨o,i0⟩ ⟨i,hi0,hi,ho⟩
  simp only at hi0 ho
  subst hi0 ho
  unfold pM
  rw [cE]
  by_cases h:i<s.length
  ·
   rw [if_pos (by omega),aEu,List.getElem?_eq_getElem h,Option.bind_some,aB2,Option.bind_some,lQ (by simp;omega),Option.bind_some]
   refine .inl ⟨_,rfl,⟨i+1,by rw [w64 (by omega) (by omega)];rfl,h,?_⟩,by simp only [w64 (show (-9223372036854775808:Int)≤(i:Int)+1 by omega) (by omega)];omega,rfl⟩
   rw [List.take_succ_eq_append_getElem h];simp
  ·
   rw [if_neg (by omega),List.take_of_length_le (by omega)]
   exact .inr rfl
end Go.Proofs.YtnigjppddilpcaaGreatDoor
namespace Go.Proofs.YtnigjppddilpcaaGreatDoor
open Go Abs
set_option linter.unusedSimpArgs false
set_option linter.unusedVariables false
theorem aEY {b:List UInt8} (h:b.length≤140737488355328):pP b=some ⟨b,0,0,true⟩:=by
 unfold pP
 rw [sN h];rfl
theorem aHs {b:List UInt8}{a e:Int}{m:Bool}:gY ⟨b,a,e,m⟩=some (cond (!m) true (!decide (e=0))):=by
 unfold gY;rfl
def vR (b:List UInt8) (at_:Nat) (low high:Int):aG:=⟨b,(at_+(nE (b.drop at_) low high).2.1:Nat),(nE (b.drop at_) low high).2.2,true⟩
theorem aJC {b:List UInt8}{at_:Nat}{low high:Int} (h1:at_≤b.length) (hb:b.length≤1000000000) :
  dG low high ⟨b,at_,0,true⟩=some ((nE (b.drop at_) low high).1,vR b at_ low high):=by
 unfold dG
 rw [aHs]
 simp only [Bool.not_true,cond_false,decide_true,Option.bind_some]
 rw [aEK (by simp;omega),Option.bind_some]
 unfold vR
 generalize hrest:b.drop at_=rest
 have hrl:rest.length=b.length - at_:=by rw [← hrest];simp
 have hdrop:List.drop (Int.toNat (at_:Int)) b=rest:=by rw [Int.toNat_natCast];exact hrest
 obtain ⟨r,hr,hq⟩:∃ r,dO (lE ⟨b,at_,0,true⟩ low high) ((0:Int),(0:Int))=some r∧Fl.next r (fun _=>some ((0:Int),aG.mk b at_ 3 true))=some ((nE rest low high).1,⟨b,(at_+(nE rest low high).2.1:Nat),(nE rest low high).2.2,true⟩):=by
  refine oP (fun (s:Int × Int)=>∃ k:Nat,s.2=(k:Int)∧((k≤9∧k≤rest.length∧∃ u:Nat,s.1=(u:Int)∧u<128 ^ k∧wN 0 0 rest=wN k u (rest.drop k))∨(k=10∧wN 0 0 rest=.inl 3)))
   (fun s=>10 - s.2.toNat) _ ?_ ((0:Int),(0:Int)) ⟨0,rfl,.inl ⟨by simp,by simp,0,rfl,by simp,by simp⟩⟩
  rintro ⟨u0,k0⟩ ⟨k,hk0,hI⟩
  simp only at hk0 hI
  subst hk0
  unfold lE
  simp only [hdrop]
  rw [cE]
  obtain ⟨hk,hkl,u,rfl,hu,hs⟩ | ⟨rfl,hs⟩:=hI
  ·
   rw [if_pos (by omega),cE]
   by_cases h3:(rest.length:Int)≤k
   ·
    rw [if_pos h3]
    refine .inr ⟨_,rfl,?_⟩
    have hd:rest.drop k=[]:=List.drop_eq_nil_of_le (by omega)
    have hr:nE rest low high=(0,0,4):=by simp only [nE,hs,hd,wN];rw [if_neg (by omega)]
    rw [hr];rfl
   ·
    rw [if_neg h3]
    have hlt:k<rest.length:=by omega
    rw [aEu,List.getElem?_eq_getElem hlt,Option.bind_some]
    generalize hc:rest[k]=c
    have hd:rest.drop k=c :: rest.drop (k+1):=by rw [← hc];exact List.drop_eq_getElem_cons hlt
    have hcl:=c.toNat_lt
    rw [hd] at hs
    simp only [wN] at hs
    rw [if_neg (by omega)] at hs
    rw [aM9 (by rw [show IntKind.i64.wrap (7*(k:Int))=7*(k:Int) by rw [IntKind.wrap_i64];omega];omega),Option.bind_some,aL3]
    generalize hv:eT .or .u64 (u:Int) _=v
    have hv':k≤8∨c.toNat≤1→v=((u+c.toNat % 128*128 ^ k:Nat):Int):=fun hx=>hv ▸ aK4 c hk hu hx
    clear hv
    rw [cE]
    by_cases h4:(128:Int)≤(c.toNat:Int)
    ·
     rw [if_pos h4]
     rw [if_pos (by omega)] at hs
     refine .inl ⟨_,rfl,⟨k+1,by rw [w64 (by omega) (by omega)];rfl,?_⟩,by simp only [w64 (show (-9223372036854775808:Int)≤(k:Int)+1 by omega) (by omega)];omega⟩
     by_cases hk9:k=9
     ·
      refine .inr ⟨by omega,?_⟩
      rw [hs,hk9]
      cases rest.drop (9+1) <;> simp [wN]
     ·
      have hve:=hv' (.inl (by omega))
      refine .inl ⟨by omega,by omega,_,hve,?_,hs⟩
      rw [Nat.pow_succ]
      have h3:c.toNat % 128*128 ^ k≤127*128 ^ k:=Nat.mul_le_mul_right _ (by omega)
      omega
    ·
     rw [if_neg h4]
     rw [if_neg (by omega)] at hs
     by_cases hX:(0<k∧c.toNat=0)∨(k=9∧1<c.toNat)
     ·
      rw [if_pos hX] at hs
      have hr:nE rest low high=(0,0,3):=by simp only [nE,hs]
      rw [hr]
      have e:(cond (cond (decide ((0:Int)<(k:Int))) (decide ((c.toNat:Int)=0)) false) true (cond (decide ((k:Int)=9)) (decide ((1:Int)<(c.toNat:Int))) false))=true:=by
       rcases hX with ⟨h5,h6⟩ | ⟨h5,h6⟩
       ·
        simp [h6];omega
       ·
        simp [h5];omega
      rw [e,cond_true]
      exact .inr ⟨_,rfl,rfl⟩
     ·
      rw [if_neg hX] at hs
      have e:(cond (cond (decide ((0:Int)<(k:Int))) (decide ((c.toNat:Int)=0)) false) true (cond (decide ((k:Int)=9)) (decide ((1:Int)<(c.toNat:Int))) false))=false:=by
       simp only [Bool.cond_eq_ite]
       by_cases h5:0<k <;> by_cases h6:c.toNat=0 <;> by_cases h7:k=9 <;> by_cases h8:1<c.toNat <;> simp <;> omega
      rw [e,cond_false]
      have hve:=hv' (by omega)
      have hmod:c.toNat % 128=c.toNat:=by omega
      rw [hmod] at hve
      clear hv'
      subst hve
      have hw:(u+c.toNat*128 ^ k)<18446744073709551616:=by
       have:k=0∨k=1∨k=2∨k=3∨k=4∨k=5∨k=6∨k=7∨k=8∨k=9:=by omega
       rcases this with rfl | rfl | rfl | rfl | rfl | rfl | rfl | rfl | rfl | rfl <;> omega
      generalize u+c.toNat*128 ^ k=w at hs hw
      have hr:nE rest low high=if aAn w<low∨high<aAn w then (0,k+1,14) else (aAn w,k+1,0):=by simp only [nE,hs]
      rw [hr,show (2:Int) ^ min (Int.toNat 1) IntKind.u64.bits=2 from sh1,aIT hw,aKE (by omega) hk]
      refine .inr ?_
      by_cases hlow:aAn w<low
      ·
       rw [if_pos (.inl hlow)]
       simp only [hlow,decide_true,cond_true]
       exact ⟨_,rfl,rfl⟩
      ·
       by_cases hhigh:high<aAn w
       ·
        rw [if_pos (.inr hhigh)]
        simp only [hlow,hhigh,decide_true,decide_false,cond_true,cond_false]
        exact ⟨_,rfl,rfl⟩
       ·
        rw [if_neg (by omega)]
        simp only [hlow,hhigh,decide_true,decide_false,cond_true,cond_false]
        exact ⟨_,rfl,rfl⟩
  ·
   rw [if_neg (by omega)]
   refine .inr ⟨_,rfl,?_⟩
   have hr:nE rest low high=(0,0,3):=by simp only [nE,hs]
   rw [hr];rfl
 rw [hr,Option.bind_some]
 exact hq
theorem aFR {k u:Nat} (h:u*128 ^ k<18446744073709551616) (hu:0<u):k≤9:=by
 refine Classical.byContradiction fun hk=>?_
 have h1:128 ^ 10≤128 ^ k:=Nat.pow_le_pow_right (by omega) (by omega)
 have h2:1*128 ^ k≤u*128 ^ k:=Nat.mul_le_mul_right _ hu
 have h3:(128:Nat) ^ 10=1180591620717411303424:=by decide
 omega
theorem aIL (rest:List UInt8):∀ (u k acc:Nat),(k=0∨0<u)→u*128 ^ k<18446744073709551616→wN k acc (kB u++rest)=.inr (acc+u*128 ^ k,k+(kB u).length):=by
 intro u
 induction u using Nat.strongRecOn with
 | _ u ih =>
  intro k acc h0 hlt
  have hk:k≤9:=by
   rcases h0 with h | h
   ·
    omega
   ·
    exact aFR hlt h
  by_cases h:u<128
  ·
   rw [aAp h]
   have e:(UInt8.ofNat u).toNat=u:=by simp;omega
   simp only [List.cons_append,List.nil_append,wN,e]
   rw [if_neg (by omega),if_neg (by omega),if_neg]
   ·
    rfl
   ·
    rintro (⟨h1,h2⟩ | ⟨h1,h2⟩)
    ·
     omega
    ·
     subst h1
     have:(128:Nat) ^ 9=9223372036854775808:=by decide
     rw [this] at hlt
     omega
  ·
   rw [aBQ h]
   have e:(UInt8.ofNat (128+u % 128)).toNat=128+u % 128:=by simp;omega
   simp only [List.cons_append,wN,e]
   rw [if_neg (by omega),if_pos (by omega)]
   have hs:128 ^ (k+1)=128 ^ k*128:=Nat.pow_succ ..
   have hm:u / 128*128 ^ (k+1)+u % 128*128 ^ k=u*128 ^ k:=by
    rw [hs,Nat.mul_comm (128 ^ k) 128,← Nat.mul_assoc,← Nat.add_mul,Nat.mul_comm (u / 128) 128,Nat.div_add_mod]
   rw [ih (u / 128) (by omega) (k+1) _ (.inr (by omega)) (by omega),show (128+u % 128) % 128=u % 128 by omega]
   simp only [List.length_cons,Sum.inr.injEq,Prod.mk.injEq]
   exact ⟨by omega,by omega⟩
theorem aDU {n low high:Int} (rest:List UInt8) (h1:-9223372036854775808≤n) (h2:n≤9223372036854775807) :
  nE (kB (zz n)++rest) low high=if n<low∨high<n then (0,(kB (zz n)).length,14) else (n,(kB (zz n)).length,0):=by
 have h:=aBi h1 h2
 unfold nE
 rw [aIL rest (zz n) 0 0 (.inl rfl) (by simpa using h)]
 simp only [Nat.zero_add,Nat.pow_zero,Nat.mul_one,aLB]
theorem aDY:∀ (l:List UInt8) (k u w n:Nat),wN k u l=.inr (w,n)→n≤k+l.length
 | [],k,u,w,n,h=>by simp only [wN] at h;split at h <;> cases h
 | c :: r,k,u,w,n,h=>by
  simp only [wN] at h
  split at h
  ·
   cases h
  ·
   split at h
   ·
    have:=aDY r _ _ _ _ h
    simp only [List.length_cons]
    omega
   ·
    split at h
    ·
     cases h
    ·
     cases h
     simp only [List.length_cons]
     omega
theorem aIE (l:List UInt8) (low high:Int):(nE l low high).2.1≤l.length:=by
 unfold nE
 split
 ·
  simp
 ·
  rename_i u k h
  have:=aDY l 0 0 u k h
  split <;> simp <;> omega
theorem aK8 {l:List UInt8}{low high:Int} (h:(nE l low high).2.2=0):low≤(nE l low high).1∧(nE l low high).1≤high:=by
 unfold nE at h ⊢
 split
 ·
  rename_i e hs
  rw [hs] at h
  simp only at h
  exfalso
  have key:∀ (l:List UInt8) (k u e:Nat),wN k u l=.inl e→e=3∨e=4:=by
   intro l
   induction l with
   | nil=>intro k u e h;simp only [wN] at h;split at h <;> cases h <;> simp
   | cons c r ih =>
    intro k u e h
    simp only [wN] at h
    split at h
    ·
     cases h;simp
    ·
     split at h
     ·
      exact ih _ _ _ h
     ·
      split at h <;> cases h
      simp
  rcases key _ _ _ _ hs with h2 | h2 <;> omega
 ·
  rename_i u k hs
  rw [hs] at h
  simp only at h
  by_cases hc:aAn u<low∨high<aAn u
  ·
   rw [if_pos hc] at h;simp at h
  ·
   rw [if_neg hc];simp only;omega
def aJ3 (b:List UInt8) (at_:Nat) (most:Int):List UInt8 × aG :=
 if (nE (b.drop at_) 0 most).2.2≠0 then ([],vR b at_ 0 most)
 else if (b.length:Int) - (at_+(nE (b.drop at_) 0 most).2.1:Nat)<(nE (b.drop at_) 0 most).1 then ([],⟨b,(at_+(nE (b.drop at_) 0 most).2.1:Nat),4,true⟩)
 else ((b.drop (at_+(nE (b.drop at_) 0 most).2.1)).take (nE (b.drop at_) 0 most).1.toNat,⟨b,(at_+(nE (b.drop at_) 0 most).2.1+(nE (b.drop at_) 0 most).1.toNat:Nat),0,true⟩)
theorem aLo {b:List UInt8}{at_:Nat}{most:Int} (h1:at_≤b.length) (hb:b.length≤1000000000):fF most ⟨b,at_,0,true⟩=some (aJ3 b at_ most):=by
 have hu:=aIE (b.drop at_) 0 most
 rw [List.length_drop] at hu
 unfold fF aJ3
 rw [aJC h1 hb,Option.bind_some]
 unfold vR
 rw [aHs,Option.bind_some]
 by_cases he:(nE (b.drop at_) 0 most).2.2=0
 ·
  have hin:=aK8 he
  generalize hr:nE (b.drop at_) 0 most=r at *
  obtain ⟨v,k,e⟩:=r
  simp only at he hin hu
  subst he
  simp only [Bool.not_true,cond_false,Int.natCast_zero,decide_true,cE,ne_eq,not_true_eq_false,if_false]
  rw [w64 (by omega) (by omega)]
  by_cases h3:(b.length:Int) - (at_+k:Nat)<v
  ·
   rw [if_pos h3,if_pos h3]
  ·
   rw [if_neg h3,if_neg h3,w64 (by omega) (by omega),aLm (by omega),Option.bind_some]
   have e1:(((at_+k:Nat):Int)+v).toNat=at_+k+v.toNat:=by omega
   rw [e1,Int.toNat_natCast,List.drop_take,show at_+k+v.toNat - (at_+k)=v.toNat by omega]
   congr 3
   omega
 ·
  rw [if_pos he]
  have:decide (((nE (b.drop at_) 0 most).2.2:Int)=0)=false:=by simp;omega
  simp only [this,Bool.not_true,Bool.not_false,cond_false,cond_true]
end Go.Proofs.YtnigjppddilpcaaGreatDoor
namespace Go.Proofs.YtnigjppddilpcaaGreatDoor
open Go Abs
set_option linter.unusedSimpArgs false
set_option linter.unusedVariables false
theorem aFi:∀ (a b:List UInt8),(!(Op.bytesLess a b||decide (a=b)))=Op.bytesLess b a
 | [],[]=>by simp [Op.bytesLess]
 | [],y :: b=>by simp [Op.bytesLess]
 | x :: a,[]=>by simp [Op.bytesLess]
 | x :: a,y :: b=>by
  simp only [Op.bytesLess,List.cons.injEq]
  have ih:=aFi a b
  by_cases h1:x<y
  ·
   have h2:¬y<x:=fun h=>absurd (UInt8.lt_trans h1 h) (UInt8.lt_irrefl _)
   have h3:¬y=x:=fun h=>by subst h;exact UInt8.lt_irrefl _ h1
   simp [h1,h2,h3]
  ·
   by_cases h2:y<x
   ·
    have h3:¬x=y:=fun h=>by subst h;exact UInt8.lt_irrefl _ h2
    simp [h1,h2,h3]
   ·
    have h3:x=y:=UInt8.le_antisymm (UInt8.not_lt.1 h2) (UInt8.not_lt.1 h1)
    subst h3
    simpa [h1] using ih
end Go.Proofs.YtnigjppddilpcaaGreatDoor
namespace Go.Proofs.YtnigjppddilpcaaGreatDoor
open Go Abs
set_option linter.unusedSimpArgs false
set_option linter.unusedVariables false
mutual
def qW:aD→Nat
 | ⟨_,_,_,l,_⟩=>aAL l+1
def aAL:List aD→Nat
 | []=>0
 | x :: l=>max (qW x) (aAL l)
end
theorem iZ:∀ {l:List aD}{x:aD},x∈l→qW x≤aAL l
 | [],x,h=>by simp at h
 | y :: l,x,h=>by
  simp only [aAL]
  rcases List.mem_cons.1 h with rfl | h
  ·
   omega
  ·
   have:=iZ h;omega
theorem gV (v:aD):qW v=aAL v.Items+1:=by cases v;simp [qW]
theorem aGT {v x:aD} (h:x∈v.Items):qW x<qW v:=by have:=iZ h;have:=gV v;omega
mutual
def oE:aD→aD→Bool
 | ⟨k,i,t,l,ks⟩,w=>decide (k=w.Kind)&&decide (i=w.Int)&&decide (t=w.Text)&&decide (ks=w.Keys)&&pC l w.Items
def pC:List aD→List aD→Bool
 | [],[]=>true
 | x :: l,y :: m=>oE x y&&pC l m
 | _,_=>false
end
theorem aCV (v w:aD):oE v w=(decide (v.Kind=w.Kind)&&decide (v.Int=w.Int)&&decide (v.Text=w.Text)&&decide (v.Keys=w.Keys)&&pC v.Items w.Items):=by cases v;simp [oE]
theorem sF:∀ (l m:List aD),pC l m=true↔l.length=m.length∧∀ i (h:i<l.length) (h2:i<m.length),oE l[i] m[i]=true
 | [],[]=>by simp [pC]
 | [],y :: m=>by simp [pC]
 | x :: l,[]=>by simp [pC]
 | x :: l,y :: m=>by
  simp only [pC,Bool.and_eq_true,sF l m,List.length_cons,Nat.add_right_cancel_iff]
  constructor
  ·
   rintro ⟨h1,h2,h3⟩
   refine ⟨h2,fun i hi hi2=>?_⟩
   cases i with
   | zero=>exact h1
   | succ i=>exact h3 i (by omega) (by omega)
  ·
   rintro ⟨h2,h3⟩
   exact ⟨h3 0 (by omega) (by omega),h2,fun i hi hi2=>h3 (i+1) (by omega) (by omega)⟩
theorem aIU:∀ (n:Nat) (v w:aD),qW v≤n→(oE v w=true↔v=w):=by
 intro n
 induction n with
 | zero=>intro v w h;have:=gV v;omega
 | succ n ih =>
  intro v w h
  rw [aCV]
  simp only [Bool.and_eq_true,decide_eq_true_eq,sF]
  constructor
  ·
   rintro ⟨⟨⟨⟨h1,h2⟩,h3⟩,h4⟩,h5,h6⟩
   have h7:v.Items=w.Items:=List.ext_getElem h5 fun i hi hi2=>(ih _ _ (by have:=aGT (List.getElem_mem hi:v.Items[i]∈v.Items);omega)).1 (h6 i hi hi2)
   cases v;cases w;simp_all
  ·
   rintro rfl
   exact ⟨⟨⟨⟨rfl,rfl⟩,rfl⟩,rfl⟩,rfl,fun i hi _=>(ih _ _ (by have:=aGT (List.getElem_mem hi:v.Items[i]∈v.Items);omega)).2 rfl⟩
theorem aCF {a b:List (List UInt8)} (ha:a.length≤9223372036854775807):fE a b=some (decide (a=b)):=by
 unfold fE
 rw [uA]
 by_cases h:(a.length:Int)=b.length
 ·
  rw [if_pos h,kL a.length (fun i=>decide (a[i]?=b[i]?)) false (fun i hi=>?_) ?_,Option.bind_some]
  ·
   split
   ·
    rename_i h2
    rw [List.all_eq_true] at h2
    have:a=b:=List.ext_getElem? fun i=>by
     by_cases hi:i<a.length
     ·
      have:=h2 i (List.mem_range.2 hi);simpa using this
     ·
      rw [List.getElem?_eq_none (by omega),List.getElem?_eq_none (by omega)]
    simp [Fl.next,this]
   ·
    rename_i h2
    have:a≠b:=fun e=>h2 (by rw [List.all_eq_true];intro i _;simp [e])
    simp [Fl.next,this]
  ·
   unfold gF
   rw [cE,if_neg (by omega)]
  ·
   unfold gF
   have hb:i<b.length:=by omega
   rw [cE,if_pos (by omega),eH hi,Option.bind_some,eH hb,Option.bind_some,uA,jW hi ha,List.getElem?_eq_getElem hi,List.getElem?_eq_getElem hb]
   simp only [Option.some.injEq,decide_eq_true_eq]
   split <;> rfl
 ·
  rw [if_neg h]
  have:a≠b:=fun e=>h (by rw [e])
  simp [this]
theorem zL {l m:List aD} (h:l.length=m.length) (p:Nat→Bool) (hp:∀ i (h1:i<l.length) (h2:i<m.length),p i=oE l[i] m[i]):(List.range l.length).all p=pC l m:=by
 rw [Bool.eq_iff_iff,List.all_eq_true,sF]
 constructor
 ·
  exact fun hh=>⟨h,fun i h1 h2=>by rw [← hp i h1 h2];exact hh i (List.mem_range.2 h1)⟩
 ·
  exact fun hh i hi=>by have:=List.mem_range.1 hi;rw [hp i this (by omega)];exact hh.2 i this (by omega)
theorem aI1:∀ (n:Nat) (v w:aD),cL v→2*qW v≤n→mU n v w=some (oE v w):=by
 intro n
 induction n using Nat.strongRecOn with
 | _ n ih =>
  intro v w hv hn
  have hh:=gV v
  obtain ⟨m,rfl⟩:∃ m,n=m+2:=⟨n - 2,by omega⟩
  obtain ⟨k0,k1,k2,k3,k4⟩:=(dW v).1 hv
  have hE:bQ (m+1) v.Items w.Items=some (pC v.Items w.Items):=by
   rw [bQ,uA]
   by_cases h:(v.Items.length:Int)=w.Items.length
   ·
    rw [if_pos h,kL v.Items.length (fun i=>oE (v.Items.getD i default) (w.Items.getD i default)) false (fun i hi=>?_) ?_,Option.bind_some,zL (m:=w.Items) (by omega) _ (fun i h1 h2=>by simp [h1,h2])]
    ·
     cases pC v.Items w.Items <;> rfl
    ·
     unfold cM
     rw [cE,if_neg (by omega)]
    ·
     unfold cM
     have hb:i<w.Items.length:=by omega
     rw [cE,if_pos (by omega),eH hi,Option.bind_some,eH hb,Option.bind_some,ih m (by omega) _ _ (k3.2.2 _ (List.getElem_mem hi)) (by have:=iZ (List.getElem_mem hi);omega),Option.bind_some,jW hi k3.1]
     simp only [List.getD_eq_getElem?_getD,List.getElem?_eq_getElem hi,List.getElem?_eq_getElem hb,Option.getD_some]
     cases oE v.Items[i] w.Items[i] <;> rfl
   ·
    rw [if_neg h]
    have:pC v.Items w.Items=false:=by rw [← Bool.not_eq_true,sF];exact fun hh=>h (by omega)
    rw [this]
  rw [mU,aCF k4.1,hE,aCV]
  by_cases h1:v.Kind=w.Kind <;> by_cases h2:v.Int=w.Int <;> by_cases h3:v.Text=w.Text <;> by_cases h4:v.Keys=w.Keys <;> simp [h1,h2,h3,h4,gd]
theorem yD {v w:aD} (hv:cL v):uZ v w=some (oE v w):=qN (2*qW v) fun n hn=>aI1 n v w hv hn
theorem aFU:∀ (n:Nat) (v w:aD),cL v→qW v≤n→mO n v w=some (oE v w):=by
 intro n
 induction n with
 | zero=>intro v w hv hn;have:=gV v;omega
 | succ n ih =>
  intro v w hv hn
  have hh:=gV v
  obtain ⟨k0,k1,k2,k3,k4⟩:=(dW v).1 hv
  rw [mO,aCV]
  by_cases h1:v.Kind=w.Kind
  ·
   by_cases h2:v.Int=w.Int
   ·
    by_cases h3:v.Text=w.Text
    ·
     by_cases h4:(v.Items.length:Int)=w.Items.length
     ·
      by_cases h5:(v.Keys.length:Int)=w.Keys.length
      ·
       simp only [h1,h2,h3,h4,h5,decide_true,Bool.not_true,cond_false,Bool.true_and]
       rw [kL v.Keys.length (fun i=>decide (v.Keys[i]?=w.Keys[i]?)) false (fun i hi=>?_) ?_,Option.bind_some]
       ·
        have hk:((List.range v.Keys.length).all fun i=>decide (v.Keys[i]?=w.Keys[i]?))=decide (v.Keys=w.Keys):=by
         rw [Bool.eq_iff_iff,List.all_eq_true]
         simp only [decide_eq_true_eq]
         constructor
         ·
          refine fun h6=>List.ext_getElem? fun i=>?_
          by_cases hi:i<v.Keys.length
          ·
           exact h6 i (List.mem_range.2 hi)
          ·
           rw [List.getElem?_eq_none (by omega),List.getElem?_eq_none (by omega)]
         ·
          intro e i _;rw [e]
        rw [hk]
        by_cases h6:v.Keys=w.Keys
        ·
         simp only [h6,decide_true,if_true,Fl.next,Bool.true_and]
         rw [kL v.Items.length (fun i=>oE (v.Items.getD i default) (w.Items.getD i default)) false (fun i hi=>?_) ?_,Option.bind_some,zL (m:=w.Items) (by omega) _ (fun i h1 h2=>by simp [h1,h2])]
         ·
          cases pC v.Items w.Items <;> rfl
         ·
          unfold pV
          rw [cE,if_neg (by omega)]
         ·
          unfold pV
          have hb:i<w.Items.length:=by omega
          rw [cE,if_pos (by omega),eH hi,Option.bind_some,eH hb,Option.bind_some,ih _ _ (k3.2.2 _ (List.getElem_mem hi)) (by have:=iZ (List.getElem_mem hi);omega),Option.bind_some,jW hi k3.1]
          simp only [List.getD_eq_getElem?_getD,List.getElem?_eq_getElem hi,List.getElem?_eq_getElem hb,Option.getD_some]
          cases oE v.Items[i] w.Items[i] <;> rfl
        ·
         simp [h6,Fl.next]
       ·
        unfold pU
        rw [cE,if_neg (by omega)]
       ·
        unfold pU
        have hb:i<w.Keys.length:=by omega
        rw [cE,if_pos (by omega),eH hi,Option.bind_some,eH hb,Option.bind_some,uA,jW hi k4.1,List.getElem?_eq_getElem hi,List.getElem?_eq_getElem hb]
        simp only [Option.some.injEq,decide_eq_true_eq]
        split <;> rfl
      ·
       have:v.Keys≠w.Keys:=fun e=>h5 (by rw [e])
       simp [h5,this]
     ·
      have:pC v.Items w.Items=false:=by rw [← Bool.not_eq_true,sF];exact fun hh=>h4 (by omega)
      simp [h4,this]
    ·
     simp [h3]
   ·
    simp [h2]
  ·
   simp [h1]
theorem aG6 {v w:aD} (hv:cL v):yS v w=some (oE v w):=qN (qW v) fun n hn=>aFU n v w hv hn
mutual
def dep:aD→Int
 | ⟨_,_,_,l,_⟩=>IntKind.i64.wrap (aJp l 0+1)
def aJp:List aD→Int→Int
 | [],a=>a
 | x :: l,a=>aJp l (if dep x > a then dep x else a)
end
theorem aJo (v:aD):dep v=IntKind.i64.wrap (v.Items.foldl (fun a x=>if dep x > a then dep x else a) 0+1):=by
 have key:∀ (l:List aD) (a:Int),aJp l a=l.foldl (fun a x=>if dep x > a then dep x else a) a:=by
  intro l
  induction l with
  | nil=>intro a;simp [aJp]
  | cons x l ih=>intro a;simp [aJp,ih]
 cases v;simp only [dep,key]
mutual
def siz:aD→Int
 | ⟨_,_,_,l,_⟩=>aKd l 1
def aKd:List aD→Int→Int
 | [],a=>a
 | x :: l,a=>aKd l (IntKind.i64.wrap (a+siz x))
end
theorem aKc (v:aD):siz v=v.Items.foldl (fun a x=>IntKind.i64.wrap (a+siz x)) 1:=by
 have key:∀ (l:List aD) (a:Int),aKd l a=l.foldl (fun a x=>IntKind.i64.wrap (a+siz x)) a:=by
  intro l
  induction l with
  | nil=>intro a;simp [aKd]
  | cons x l ih=>intro a;simp [aKd,ih]
 cases v;simp only [siz,key]
theorem aHZ:∀ (n:Nat) (v:aD),cL v→qW v≤n→lA n v=some (dep v):=by
 intro n
 induction n with
 | zero=>intro v hv hn;have:=gV v;omega
 | succ n ih =>
  intro v hv hn
  have hh:=gV v
  obtain ⟨k0,k1,k2,k3,k4⟩:=(dW v).1 hv
  have hi1:=fun (i:Nat) (hi:i<v.Items.length)=>ih _ (k3.2.2 _ (List.getElem_mem hi)) (by have:=iZ (List.getElem_mem hi);omega)
  rw [lA,aJo]
  rw [xJ v.Items (fun a x=>if dep x > a then dep x else a) 0 (fun s i hi=>?_) (fun s=>?_),Option.bind_some]
  ·
   unfold oY
   rw [cE,if_pos (by simp only;omega),eH hi,Option.bind_some,(hi1 i hi),Option.bind_some,jW hi k3.1]
  ·
   unfold oY
   rw [cE,if_neg (by simp only;omega)]
theorem aCT {v:aD} (hv:cL v):wV v=some (dep v):=qN (qW v) fun n hn=>aHZ n v hv hn
theorem aI2:∀ (n:Nat) (v:aD),cL v→qW v≤n→mW n v=some (siz v):=by
 intro n
 induction n with
 | zero=>intro v hv hn;have:=gV v;omega
 | succ n ih =>
  intro v hv hn
  have hh:=gV v
  obtain ⟨k0,k1,k2,k3,k4⟩:=(dW v).1 hv
  have hi1:=fun (i:Nat) (hi:i<v.Items.length)=>ih _ (k3.2.2 _ (List.getElem_mem hi)) (by have:=iZ (List.getElem_mem hi);omega)
  rw [mW,aKc]
  rw [xJ v.Items (fun a x=>IntKind.i64.wrap (a+siz x)) 1 (fun s i hi=>?_) (fun s=>?_),Option.bind_some]
  ·
   unfold pX
   rw [cE,if_pos (by simp only;omega),eH hi,Option.bind_some,(hi1 i hi),Option.bind_some,jW hi k3.1]
  ·
   unfold pX
   rw [cE,if_neg (by simp only;omega)]
theorem aDn {v:aD} (hv:cL v):yY v=some (siz v):=qN (qW v) fun n hn=>aI2 n v hv hn
end Go.Proofs.YtnigjppddilpcaaGreatDoor
namespace Go.Proofs.YtnigjppddilpcaaGreatDoor
open Go Abs
set_option linter.unusedSimpArgs false
set_option linter.unusedVariables false
def kK (k:List UInt8):Bool:=decide ((4096:Int)<(k.length:Int))
mutual
def shr:aD→Bool
 | ⟨_,_,t,l,ks⟩=>!kK t&&!ks.any kK&&aLj l
def aLj:List aD→Bool
 | []=>true
 | x :: l=>shr x&&aLj l
end
theorem aF3:∀ l,aLj l=l.all shr
 | []=>rfl
 | x :: l=>by simp [aLj,aF3 l]
theorem aKb (v:aD):shr v=(!kK v.Text&&!v.Keys.any kK&&v.Items.all shr):=by cases v;simp [shr,aF3]
theorem sT {α:Type} (l:List α) (p:α→Bool):(!l.any p)=l.all fun x=>!p x:=by simp [List.not_any_eq_all_not]
theorem aJK {ks:List (List UInt8)} (h:ks.length≤9223372036854775807):dI ks=some (ks.any kK):=by
 unfold dI dZ
 obtain ⟨x,h1,h2⟩:=tM (body:=dJ ks) ks kK (fun i hi=>by
  unfold dJ
  rw [cE,if_pos (by omega),eH hi,Option.bind_some,pY,Option.bind_some,jW hi h]
  show cond (kK ks[i]) _ _=_
  cases kK ks[i] <;> rfl) (by
  unfold dJ
  rw [cE,if_neg (by omega)])
 rw [h1,Option.bind_some,h2]
theorem aIM:∀ (n:Nat) (v:aD),cL v→4*qW v≤n→lC n v=some (shr v):=by
 intro n
 induction n using Nat.strongRecOn with
 | _ n ih =>
  intro v hv hn
  have hh:=gV v
  obtain ⟨m,rfl⟩:∃ m,n=m+4:=⟨n - 4,by omega⟩
  obtain ⟨k0,k1,k2,k3,k4⟩:=(dW v).1 hv
  have hC:cJ (m+3) v.Items=some (v.Items.any fun x=>!shr x):=by
   rw [cJ,dE]
   obtain ⟨x,h1,h2⟩:=tM (body:=cX (kO (m+1)) v.Items) v.Items (fun x=>!shr x) (fun i hi=>by
    unfold cX
    rw [cE,if_pos (by omega),eH hi,Option.bind_some,kO,ih m (by omega) _ (k3.2.2 _ (List.getElem_mem hi)) (by have:=iZ (List.getElem_mem hi);omega),Option.bind_some,Option.bind_some,jW hi k3.1]
    cases shr v.Items[i] <;> rfl) (by
    unfold cX
    rw [cE,if_neg (by omega)])
   rw [h1,Option.bind_some,h2]
  rw [lC,aJK k4.1,hC,aKb]
  by_cases h:(4096:Int)<v.Text.length
  ·
   simp [h,gd,kK]
  ·
   have hA:(!v.Items.any fun x=>!shr x)=v.Items.all shr:=by rw [sT];simp
   have ht:kK v.Text=false:=by simp [kK,h]
   simp only [h,ht,decide_false,beq_self_eq_true,gd,if_true,Option.bind_some,cond_false,Bool.not_false,Bool.true_and,hA]
   cases v.Keys.any kK <;> rfl
theorem aCU {v:aD} (hv:cL v):wX v=some (shr v):=qN (4*qW v) fun n hn=>aIM n v hv hn
def wth (v:aD):Bool:=decide (dep v≤16)&&decide (siz v≤1000)&&shr v
theorem aBt {v:aD} (hv:cL v):pA v=some (wth v):=by
 unfold pA wth
 rw [aCT hv,Option.bind_some,aDn hv,aCU hv]
 by_cases h1:dep v≤16 <;> by_cases h2:siz v≤1000 <;> simp [h1,h2,gd]
def aBp (l:List (List UInt8)):Bool:=(List.range (l.length - 1)).all fun i=>Op.bytesLess (l.getD i []) (l.getD (i+1) [])
theorem aCD {l:List (List UInt8)}:aBp l=true↔∀ (i:Nat) (hi:i+1<l.length),Op.bytesLess (l[i]'(by omega)) l[i+1]=true:=by
 unfold aBp
 rw [List.all_eq_true]
 constructor
 ·
  intro h i hi
  have:=h i (List.mem_range.2 (by omega))
  rw [List.getD_eq_getElem?_getD,List.getD_eq_getElem?_getD,List.getElem?_eq_getElem (by omega),List.getElem?_eq_getElem hi] at this
  exact this
 ·
  intro h i hi
  have hi:=List.mem_range.1 hi
  rw [List.getD_eq_getElem?_getD,List.getD_eq_getElem?_getD,List.getElem?_eq_getElem (by omega),List.getElem?_eq_getElem (by omega)]
  exact h i (by omega)
theorem aFV {l:List (List UInt8)}{body:Int→Option (cD Int (Fl Bool Unit))} (h:∀ (i:Nat) (h1:1≤i) (hi:i<l.length),body (i:Int)=some (if Op.bytesLess (l[i - 1]'(by omega)) l[i]=true then .next ((i+1:Nat):Int) else .out (.done false)))
  (hout:∀ i:Nat,l.length≤i→body (i:Int)=some (.out (.go ()))):dO body (1:Int)=some (if aBp l=true then .go () else .done false):=by
 have key:∃ x,dO body (1:Int)=some x∧x=if aBp l=true then .go () else .done false:=by
  refine oP (fun s=>∃ i:Nat,s=(i:Int)∧1≤i∧∀ (k:Nat) (hk:k+1<l.length),k+1<i→Op.bytesLess (l[k]'(by omega)) l[k+1]=true) (fun s=>l.length - s.toNat) _ ?_ _ ⟨1,rfl,by omega,fun k hk hk2=>by omega⟩
  rintro s ⟨i,rfl,h1,hd⟩
  by_cases hlt:i<l.length
  ·
   rw [h i h1 hlt]
   by_cases hb:Op.bytesLess (l[i - 1]'(by omega)) l[i]=true
   ·
    rw [if_pos hb]
    refine .inl ⟨_,rfl,⟨i+1,rfl,by omega,fun k hk hk2=>?_⟩,by simp only [Int.toNat_natCast];omega⟩
    by_cases e:k+1=i
    ·
     subst e;exact hb
    ·
     exact hd k hk (by omega)
   ·
    rw [if_neg hb]
    refine .inr ⟨_,rfl,?_⟩
    rw [if_neg fun hr=>hb (by
     have:=aCD.1 hr (i - 1) (by omega)
     simp only [show i - 1+1=i by omega] at this
     exact this)]
  ·
   rw [hout i (by omega)]
   refine .inr ⟨_,rfl,?_⟩
   rw [if_pos (aCD.2 fun k hk=>hd k hk (by omega))]
 obtain ⟨x,hx,rfl⟩:=key
 exact hx
theorem aEG {l:List (List UInt8)} (h:l.length≤9223372036854775807):uN l=some (aBp l):=by
 unfold uN
 rw [aFV (l:=l) (fun i h1 hi=>?_) (fun i hi=>?_),Option.bind_some]
 ·
  cases aBp l <;> rfl
 ·
  unfold qQ
  rw [cE,if_pos (by omega),w64 (by omega) (by omega),show (i:Int) - 1=((i - 1:Nat):Int) by omega,eH (by omega),Option.bind_some,eH hi,Option.bind_some,jW hi h]
  cases Op.bytesLess (l[i - 1]'(by omega)) l[i] <;> rfl
 ·
  unfold qQ
  rw [cE,if_neg (by omega)]
theorem aEj {l:List (List UInt8)} (h:l.length≤9223372036854775807):lL l=some (aBp l):=by
 unfold lL
 rw [aFV (l:=l) (fun i h1 hi=>?_) (fun i hi=>?_),Option.bind_some]
 ·
  cases aBp l <;> rfl
 ·
  unfold lB
  rw [cE,if_pos (by omega),w64 (by omega) (by omega),show (i:Int) - 1=((i - 1:Nat):Int) by omega,eH (by omega),Option.bind_some,eH hi,Option.bind_some,jW hi h]
  cases Op.bytesLess (l[i - 1]'(by omega)) l[i] <;> rfl
 ·
  unfold lB
  rw [cE,if_neg (by omega)]
def vM (o:Bool) (v:aD):Bool :=
 if v.Kind=0 then decide (v.Int=0)&&decide (v.Text=[])&&decide (v.Items.length=0)&&decide (v.Keys.length=0)
 else if v.Kind=1 then (decide (v.Int=0)||decide (v.Int=1))&&decide (v.Text=[])&&decide (v.Items.length=0)&&decide (v.Keys.length=0)
 else if v.Kind=2 then decide (v.Text=[])&&decide (v.Items.length=0)&&decide (v.Keys.length=0)
 else if v.Kind=6 then o&&decide (0≤v.Int)&&decide (v.Text=[])&&decide (v.Items.length=0)&&decide (v.Keys.length=0)
 else if v.Kind=3 then decide (v.Int=0)&&decide (v.Items.length=0)&&decide (v.Keys.length=0)
 else if v.Kind=4 then decide (v.Int=0)&&decide (v.Text=[])&&decide (v.Keys.length=0)
 else if v.Kind=5 then decide (v.Int=0)&&decide (v.Text=[])&&decide (v.Keys.length=v.Items.length)&&aBp v.Keys
 else false
mutual
def sH (o:Bool):aD→Bool
 | ⟨k,i,t,l,ks⟩=>vM o ⟨k,i,t,l,ks⟩&&aJw o l
def aJw (o:Bool):List aD→Bool
 | []=>true
 | x :: l=>sH o x&&aJw o l
end
mutual
def fut:aD→Bool
 | ⟨k,_,_,l,_⟩=>decide (k=6)||aJy l
def aJy:List aD→Bool
 | []=>false
 | x :: l=>fut x||aJy l
end
theorem aFt (o:Bool):∀ l,aJw o l=l.all (sH o)
 | []=>by simp [aJw]
 | x :: l=>by simp [aJw,aFt o l]
theorem aFu:∀ l,aJy l=l.any fut
 | []=>by simp [aJy]
 | x :: l=>by simp [aJy,aFu l]
theorem aAJ (o:Bool) (v:aD):sH o v=(vM o v&&v.Items.all (sH o)):=by cases v;simp only [sH,aFt]
theorem aMa (v:aD):fut v=(decide (v.Kind=6)||v.Items.any fut):=by cases v;simp only [fut,aFu]
theorem aL9 (v:aD):vM false v=(vM true v&&!decide (v.Kind=6)):=by
 unfold vM
 by_cases h0:v.Kind=0
 ·
  simp [h0]
 ·
  by_cases h1:v.Kind=1
  ·
   simp [h1]
  ·
   by_cases h2:v.Kind=2
   ·
    simp [h2]
   ·
    by_cases h6:v.Kind=6
    ·
     simp [h6]
    ·
     simp [h0,h1,h2,h6]
theorem aLM:∀ (n:Nat) (v:aD),qW v≤n→sH false v=(sH true v&&!fut v):=by
 intro n
 induction n with
 | zero=>intro v h;have:=gV v;omega
 | succ n ih =>
  intro v h
  have hall:v.Items.all (sH false)=(v.Items.all (sH true)&&!v.Items.any fut):=by
   have key:∀ l:List aD,(∀ x∈l,sH false x=(sH true x&&!fut x))→l.all (sH false)=(l.all (sH true)&&!l.any fut):=by
    intro l
    induction l with
    | nil=>intro _;rfl
    | cons x l ihl =>
     intro hx
     simp only [List.all_cons,List.any_cons]
     rw [ihl fun y hy=>hx y (by simp [hy]),hx x (by simp)]
     cases sH true x <;> cases fut x <;> cases l.all (sH true) <;> cases l.any fut <;> rfl
   exact key v.Items fun x hx=>ih x (by have:=aGT hx;omega)
  rw [aAJ,aAJ,aMa,aL9,hall]
  cases vM true v <;> cases decide (v.Kind=6) <;> cases v.Items.all (sH true) <;> cases v.Items.any fut <;> rfl
theorem aIt {α:Type} (l:List α):decide ((0:Int)<(l.length:Int))=!decide (l.length=0):=by cases l <;> simp <;> omega
theorem aIu {α:Type} (l:List α):decide ((l.length:Int)=0)=decide (l.length=0):=by rw [Bool.eq_iff_iff];simp
theorem aM8 {α β:Type} (l:List α) (m:List β):decide ((l.length:Int)=m.length)=decide (l.length=m.length):=by rw [Bool.eq_iff_iff];simp;omega
theorem aGR:∀ (n:Nat) (v:aD) (o:Bool),cL v→4*qW v≤n→jV n v o=some (sH o v):=by
 intro n
 induction n using Nat.strongRecOn with
 | _ n ih =>
  intro v o hv hn
  have hh:=gV v
  obtain ⟨m,rfl⟩:∃ m,n=m+4:=⟨n - 4,by omega⟩
  obtain ⟨k0,k1,k2,k3,k4⟩:=(dW v).1 hv
  have hC:cH (m+3) v.Items o=some (v.Items.any fun x=>!sH o x):=by
   rw [cH,dB]
   obtain ⟨x,h1,h2⟩:=tM (body:=cW (jG (m+1)) v.Items o) v.Items (fun x=>!sH o x) (fun i hi=>by
    unfold cW
    rw [cE,if_pos (by omega),eH hi,Option.bind_some,jG,ih m (by omega) _ _ (k3.2.2 _ (List.getElem_mem hi)) (by have:=iZ (List.getElem_mem hi);omega),Option.bind_some,Option.bind_some,jW hi k3.1]
    cases sH o v.Items[i] <;> rfl) (by
    unfold cW
    rw [cE,if_neg (by omega)])
   rw [h1,Option.bind_some,h2]
  have hA:(!v.Items.any fun x=>!sH o x)=v.Items.all (sH o):=by rw [sT];simp
  have hE:∀ b:Bool,(b=true→v.Items.length=0)→b=(b&&v.Items.all (sH o)):=fun b hb=>by
   cases b
   ·
    rfl
   ·
    have:v.Items=[]:=List.eq_nil_of_length_eq_zero (hb rfl)
    rw [this];rfl
  rw [jV,aEj k4.1,hC,aAJ]
  unfold vM
  by_cases h0:v.Kind=0
  ·
   simp only [h0,Int.reduceEq,if_true,if_false,decide_true,decide_false,cond_true,cond_false,Option.bind_some,Fl.next,aIt]
   rw [← hE _ (by simp only [Bool.and_eq_true,decide_eq_true_eq];rintro ⟨⟨_,h⟩,_⟩;exact h)]
   cases decide (v.Int=0) <;> cases decide (v.Text=[]) <;> cases decide (v.Items.length=0) <;> cases decide (v.Keys.length=0) <;> rfl
  by_cases h1:v.Kind=1
  ·
   simp only [h1,Int.reduceEq,if_true,if_false,decide_true,decide_false,cond_true,cond_false,Option.bind_some,Fl.next,aIt]
   rw [← hE _ (by simp only [Bool.and_eq_true,decide_eq_true_eq];rintro ⟨⟨_,h⟩,_⟩;exact h)]
   cases decide (v.Int=0) <;> cases decide (v.Int=1) <;> cases decide (v.Text=[]) <;> cases decide (v.Items.length=0) <;> cases decide (v.Keys.length=0) <;> rfl
  by_cases h2:v.Kind=2
  ·
   simp only [h2,Int.reduceEq,if_true,if_false,decide_true,decide_false,cond_true,cond_false,Option.bind_some,Fl.next,aIt]
   rw [← hE _ (by simp only [Bool.and_eq_true,decide_eq_true_eq];rintro ⟨⟨_,h⟩,_⟩;exact h)]
   cases decide (v.Text=[]) <;> cases decide (v.Items.length=0) <;> cases decide (v.Keys.length=0) <;> rfl
  by_cases h6:v.Kind=6
  ·
   simp only [h6,Int.reduceEq,if_true,if_false,decide_true,decide_false,cond_true,cond_false,Option.bind_some,Fl.next,aIt]
   rw [← hE _ (by simp only [Bool.and_eq_true,decide_eq_true_eq];rintro ⟨⟨_,h⟩,_⟩;exact h)]
   cases o <;> cases decide (0≤v.Int) <;> cases decide (v.Text=[]) <;> cases decide (v.Items.length=0) <;> cases decide (v.Keys.length=0) <;> rfl
  by_cases h3:v.Kind=3
  ·
   simp only [h3,Int.reduceEq,if_true,if_false,decide_true,decide_false,cond_true,cond_false,Option.bind_some,Fl.next,aIt]
   rw [← hE _ (by simp only [Bool.and_eq_true,decide_eq_true_eq];rintro ⟨⟨_,h⟩,_⟩;exact h)]
   cases decide (v.Int=0) <;> cases decide (v.Items.length=0) <;> cases decide (v.Keys.length=0) <;> rfl
  by_cases h4:v.Kind=4
  ·
   simp only [h4,Int.reduceEq,if_true,if_false,decide_true,decide_false,cond_true,cond_false,aIt]
   cases decide (v.Int=0) <;> cases decide (v.Text=[]) <;> cases decide (v.Keys.length=0) <;> simp [hA,Fl.next]
  by_cases h5:v.Kind=5
  ·
   simp only [h5,Int.reduceEq,if_true,if_false,decide_true,decide_false,cond_true,cond_false,aM8]
   cases decide (v.Int=0) <;> cases decide (v.Text=[]) <;> cases decide (v.Keys.length=v.Items.length) <;> cases aBp v.Keys <;> simp [hA,Fl.next,gd]
  simp only [h0,h1,h2,h3,h4,h5,h6,if_false,decide_false,cond_false,Option.bind_some,Fl.next,Bool.false_and]
theorem vJ {v:aD}{o:Bool} (hv:cL v):rC v o=some (sH o v):=qN (4*qW v) fun n hn=>aGR n v o hv hn
theorem aI3:∀ (n:Nat) (v:aD),cL v→qW v≤n→lZ n v=some (sH true v):=by
 intro n
 induction n with
 | zero=>intro v hv hn;have:=gV v;omega
 | succ n ih =>
  intro v hv hn
  have hh:=gV v
  obtain ⟨k0,k1,k2,k3,k4⟩:=(dW v).1 hv
  rw [lZ,aEG k4.1,aAJ]
  rw [kL v.Items.length (fun i=>sH true (v.Items.getD i default)) false (fun i hi=>?_) ?_,Option.bind_some,pF v.Items (sH true)]
  ·
   cases v.Items.all (sH true)
   ·
    simp [Fl.next]
   ·
    simp only [if_true,Fl.next,Bool.and_true]
    unfold vM
    by_cases h0:v.Kind=0
    ·
     simp only [h0,Int.reduceEq,if_true,if_false,decide_true,decide_false,cond_true,cond_false,aIu]
     cases decide (v.Int=0) <;> cases decide (v.Text=[]) <;> cases decide (v.Items.length=0) <;> cases decide (v.Keys.length=0) <;> rfl
    by_cases h1:v.Kind=1
    ·
     simp only [h1,Int.reduceEq,if_true,if_false,decide_true,decide_false,cond_true,cond_false,aIu]
     cases decide (v.Int=0) <;> cases decide (v.Int=1) <;> cases decide (v.Text=[]) <;> cases decide (v.Items.length=0) <;> cases decide (v.Keys.length=0) <;> rfl
    by_cases h2:v.Kind=2
    ·
     simp only [h2,Int.reduceEq,if_true,if_false,decide_true,decide_false,cond_true,cond_false,aIu]
     cases decide (v.Text=[]) <;> cases decide (v.Items.length=0) <;> cases decide (v.Keys.length=0) <;> rfl
    by_cases h6:v.Kind=6
    ·
     simp only [h6,Int.reduceEq,if_true,if_false,decide_true,decide_false,cond_true,cond_false,aIu]
     cases decide (0≤v.Int) <;> cases decide (v.Text=[]) <;> cases decide (v.Items.length=0) <;> cases decide (v.Keys.length=0) <;> rfl
    by_cases h3:v.Kind=3
    ·
     simp only [h3,Int.reduceEq,if_true,if_false,decide_true,decide_false,cond_true,cond_false,aIu]
     cases decide (v.Int=0) <;> cases decide (v.Items.length=0) <;> cases decide (v.Keys.length=0) <;> rfl
    by_cases h4:v.Kind=4
    ·
     simp only [h4,Int.reduceEq,if_true,if_false,decide_true,decide_false,cond_true,cond_false,aIu]
     cases decide (v.Int=0) <;> cases decide (v.Text=[]) <;> cases decide (v.Keys.length=0) <;> rfl
    by_cases h5:v.Kind=5
    ·
     simp only [h5,Int.reduceEq,if_true,if_false,decide_true,decide_false,cond_true,cond_false,aM8]
     cases decide (v.Int=0) <;> cases decide (v.Text=[]) <;> cases decide (v.Keys.length=v.Items.length) <;> cases aBp v.Keys <;> rfl
    simp only [h0,h1,h2,h3,h4,h5,h6,if_false,decide_false,cond_false]
  ·
   unfold nF
   rw [cE,if_neg (by omega)]
  ·
   unfold nF
   rw [cE,if_pos (by omega),eH hi,Option.bind_some,ih _ (k3.2.2 _ (List.getElem_mem hi)) (by have:=iZ (List.getElem_mem hi);omega),Option.bind_some,jW hi k3.1]
   simp only [List.getD_eq_getElem?_getD,List.getElem?_eq_getElem hi,Option.getD_some]
   cases sH true v.Items[i] <;> rfl
theorem aAS {v:aD} (hv:cL v):tP v=some (sH true v):=qN (qW v) fun n hn=>aI3 n v hv hn
noncomputable def pB (v:aD):Bool:=wth v&&sH false v
theorem wW {v:aD} (hv:cL v):oD v=some (pB v):=by
 unfold oD pB
 rw [aBt hv,Option.bind_some,vJ hv]
 cases wth v <;> simp [gd]
end Go.Proofs.YtnigjppddilpcaaGreatDoor
namespace Go.Proofs.YtnigjppddilpcaaGreatDoor
open Go Abs
set_option linter.unusedSimpArgs false
set_option linter.unusedVariables false
def jJ (n:Int):List UInt8:=kB (zz n)
def oH (s:List UInt8):List UInt8:=kB (zz s.length)++s
theorem lJ {n:Int} (h:oG n):(jJ n).length≤10:=sE (aBi h.1 h.2)
theorem qX {n:Nat} (h:n≤9223372036854775807):(jJ (n:Int)).length≤10:=lJ ⟨by omega,by omega⟩
theorem nQ {s:List UInt8} (h:s.length≤9223372036854775807):(oH s).length≤10+s.length:=by
 have:=qX h
 unfold jJ at this
 simp only [oH,List.length_append];omega
theorem aAj (s:List UInt8):s.length≤(oH s).length:=by simp [oH]
theorem yQ {b:List UInt8}{n:Int} (hb:b.length≤10000000000000) (h:oG n):eP b n=some (b++jJ n):=xB hb h.1 h.2
theorem aID {b s:List UInt8} (hb:b.length≤10000000000000) (hs:s.length≤10000000000000):gM b s=some (b++oH s):=by rw [aBz hb hs,oH,List.append_assoc]
theorem oO {α:Type} (B:Nat) (l:List α) (f:α→List UInt8) (b:List UInt8) (hB:(b++l.flatMap f).length≤B) {body:List UInt8 × Int→Option (cD (List UInt8 × Int) (List UInt8))}
  (h:∀ (s:List UInt8) (i:Nat) (hi:i<l.length),(s++f l[i]).length≤B→body (s,(i:Int))=some (.next (s++f l[i],((i+1:Nat):Int)))) (hout:∀ s,body (s,(l.length:Int))=some (.out s)) :
  dO body (b,(0:Int))=some (b++l.flatMap f):=by
 refine xK (fun s=>∃ i:Nat,s.2=(i:Int)∧i≤l.length∧s.1=b++(l.take i).flatMap f) (fun s=>l.length - s.2.toNat) (fun _=>b++l.flatMap f) ?_ _ ⟨0,rfl,by omega,by simp⟩
 rintro ⟨s,i0⟩ ⟨i,hi0,hi,hs⟩
 simp only at hi0 hs
 subst hi0 hs
 by_cases hlt:i<l.length
 ·
  have e:b++(l.take i).flatMap f++f l[i]=b++(l.take (i+1)).flatMap f:=by rw [List.take_succ_eq_append_getElem hlt,List.flatMap_append];simp
  have hle:(b++(l.take i).flatMap f++f l[i]).length≤B:=by
   rw [e]
   refine Nat.le_trans ?_ hB
   conv=>rhs;rw [← List.take_append_drop (i+1) l,List.flatMap_append]
   simp only [List.length_append];omega
  refine .inl ⟨_,h _ i hlt hle,⟨i+1,rfl,hlt,e⟩,by simp;omega,rfl⟩
 ·
  obtain rfl:i=l.length:=by omega
  rw [hout,List.take_length]
  exact .inr rfl
mutual
def lM:aD→List UInt8
 | ⟨k,i,t,l,ks⟩=>jJ k++(if k=1∨k=2∨k=6 then jJ i else if k=3 then oH t else if k=4 then jJ l.length++aGa l else if k=5 then jJ l.length++aD6 l ks else [])
def aGa:List aD→List UInt8
 | []=>[]
 | x :: l=>lM x++aGa l
def aD6:List aD→List (List UInt8)→List UInt8
 | x :: l,k :: ks=>oH k++lM x++aD6 l ks
 | _,_=>[]
end
theorem aGb:∀ l,aGa l=l.flatMap lM
 | []=>by simp [aGa]
 | x :: l=>by simp [aGa,aGb l]
theorem aGc:∀ l ks,aD6 l ks=(l.zip ks).flatMap fun p=>oH p.2++lM p.1
 | [],_=>by simp [aD6]
 | x :: l,[]=>by simp [aD6]
 | x :: l,k :: ks=>by simp [aD6,aGc l ks]
theorem aEP (v:aD):lM v=jJ v.Kind++(if v.Kind=1∨v.Kind=2∨v.Kind=6 then jJ v.Int else if v.Kind=3 then oH v.Text else if v.Kind=4 then jJ v.Items.length++v.Items.flatMap lM
 else if v.Kind=5 then jJ v.Items.length++(v.Items.zip v.Keys).flatMap (fun p=>oH p.2++lM p.1) else []):=by cases v;simp only [lM,aGb,aGc]
mutual
def nsz:aD→Nat
 | ⟨_,_,_,l,_⟩=>jB l+1
def jB:List aD→Nat
 | []=>0
 | x :: l=>nsz x+jB l
end
theorem aCm (v:aD):nsz v=jB v.Items+1:=by cases v;simp [nsz]
theorem aHA:∀ l,l.length≤jB l
 | []=>by simp
 | x :: l=>by have:=aHA l;have:=aCm x;simp only [jB,List.length_cons];omega
theorem aB9 {o:Bool}{v:aD} (h:sH o v=true):(v.Kind≠4→v.Kind≠5→v.Items=[])∧(v.Kind=5→v.Keys.length=v.Items.length)∧∀ x∈v.Items,sH o x=true:=by
 rw [aAJ,Bool.and_eq_true,List.all_eq_true] at h
 refine ⟨fun h4 h5=>?_,fun h5=>?_,h.2⟩
 ·
  have hf:=h.1
  unfold vM at hf
  by_cases h0:v.Kind=0
  ·
   simp [h0] at hf;simp [hf]
  ·
   by_cases h1:v.Kind=1
   ·
    simp [h1] at hf;simp [hf]
   ·
    by_cases h2:v.Kind=2
    ·
     simp [h2] at hf;simp [hf]
    ·
     by_cases h6:v.Kind=6
     ·
      simp [h6] at hf;simp [hf]
     ·
      by_cases h3:v.Kind=3
      ·
       simp [h3] at hf;simp [hf]
      ·
       simp [h0,h1,h2,h6,h3,h4,h5] at hf
 ·
  have hf:=h.1
  unfold vM at hf
  simp [h5] at hf
  exact hf.1.2
end Go.Proofs.YtnigjppddilpcaaGreatDoor
namespace Go.Proofs.YtnigjppddilpcaaGreatDoor
open Go Abs
set_option maxRecDepth 100000
set_option linter.unusedVariables false
set_option linter.unusedSimpArgs false
theorem lY (iF nP:Int→Int→aG→Option (aD × Int × aG)) (x1:(Int × aG)) (rR:Int) (mZ:Int) (s10:(Int × Int × aG × (List aD) × (List (List UInt8)))) (hrec_value_decoder_value:∀ a0 a1 a2,LeO (nP a0 a1 a2) (iF a0 a1 a2)):LeO (dQ nP x1 rR mZ s10) (dQ iF x1 rR mZ s10):=by
 unfold dQ
 repeat' with_reducible (first | exact hrec_value_decoder_value _ _ _ | refine aEw ?_ (fun _=>?_) | refine aEx ?_ ?_ | refine aJI ?_ | refine aEy (fun _=>?_) | refine aCe (fun _=>?_) | exact aBG _)
theorem qO (n:Nat):(∀ a0 a1 a2 a3 a4 a5 m,n≤m→LeO (eF n a0 a1 a2 a3 a4 a5) (eF m a0 a1 a2 a3 a4 a5))∧(∀ a0 a1 a2 m,n≤m→LeO (cY n a0 a1 a2) (cY m a0 a1 a2)):=by
 induction n with
 | zero=>exact ⟨fun _ _ _ _ _ _ _ _=>by intro r h;simp [eF] at h,fun _ _ _ _ _=>by intro r h;simp [cY] at h⟩
 | succ n ih =>
  refine ⟨?_,?_⟩
  ·
   intro a0 a1 a2 a3 a4 a5 m hm
   obtain ⟨m,rfl⟩:∃ k,m=k+1:=⟨m - 1,by omega⟩
   rw [eF,eF]
   repeat' with_reducible (first | exact ih.1 _ _ _ _ _ _ _ (by omega) | exact ih.2 _ _ _ _ (by omega) | refine lY _ _ _ _ _ _ (fun _ _ _=>?_) | refine aEw ?_ (fun _=>?_) | refine aEx ?_ ?_ | refine aJI ?_ | refine aEy (fun _=>?_) | refine aCe (fun _=>?_) | exact aBG _)
  ·
   intro a0 a1 a2 m hm
   obtain ⟨m,rfl⟩:∃ k,m=k+1:=⟨m - 1,by omega⟩
   rw [cY,cY]
   repeat' with_reducible (first | exact ih.1 _ _ _ _ _ _ _ (by omega) | exact ih.2 _ _ _ _ (by omega) | refine lY _ _ _ _ _ _ (fun _ _ _=>?_) | refine aEw ?_ (fun _=>?_) | refine aEx ?_ ?_ | refine aJI ?_ | refine aEy (fun _=>?_) | refine aCe (fun _=>?_) | exact aBG _)
theorem tR {n:Nat}{jM:Int}{dT:Int}{jL:aG}{r:(aD × Int × aG)} (h:cY n jM dT jL=some r):kD jM dT jL=some r:=by
 unfold kD
 exact aMg (n:=n) h fun m hm=>(qO n).2 jM dT jL m hm
end Go.Proofs.YtnigjppddilpcaaGreatDoor

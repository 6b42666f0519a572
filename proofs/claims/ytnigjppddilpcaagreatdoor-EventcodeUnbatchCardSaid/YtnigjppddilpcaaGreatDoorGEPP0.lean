/- Plain laws: what the functions compute, with no program in sight. -/
import Derived.Test.YtnigjppddilpcaaGreatDoorPk2
import Derived.Test.YtnigjppddilpcaaGreatDoorGEF0
import Derived.Test.YtnigjppddilpcaaGreatDoorGEF7
import Derived.Test.YtnigjppddilpcaaGreatDoorGEF4
import Derived.Test.YtnigjppddilpcaaGreatDoorGEF10
import Derived.Test.YtnigjppddilpcaaGreatDoorGEF11
import Derived.Test.YtnigjppddilpcaaGreatDoorGEF12
import Derived.Test.YtnigjppddilpcaaGreatDoorGEF1
import Derived.Test.YtnigjppddilpcaaGreatDoorGEF2
import Derived.Test.YtnigjppddilpcaaGreatDoorGEF6
import Derived.Test.YtnigjppddilpcaaGreatDoorGEF8
import Derived.Test.YtnigjppddilpcaaGreatDoorGESh
namespace Go.Proofs.YtnigjppddilpcaaGreatDoor
open Go Abs
set_option linter.unusedSimpArgs false
set_option linter.unusedVariables false
theorem pW {i n:Nat} (h:i<n) (hn:n≤9223372036854775807):IntKind.i64.wrap ((i:Int)+1)=((i+1:Nat):Int):=by rw [w64 (by omega) (by omega)];omega
theorem iT {α:Type}{l:List α}{i:Nat} (h:i<l.length):lO l (i:Int)=some l[i]:=by rw [aF6,aK h]
theorem oC {τ:Type} (n:Nat) (p:Nat→Bool) (b:τ) {body:Int→Option (dN Int (Fl τ Unit))} (h:∀ i:Nat,i<n→body (i:Int)=some (if p i then .next ((i+1:Nat):Int) else .out (.done b)))
  (hout:body (n:Int)=some (.out (.go ()))):fI body (0:Int)=some (if (List.range n).all p then .go () else .done b):=by
 refine aDl (fun s=>∃ i:Nat,s=(i:Int)∧i≤n∧∀ j,j<i→p j=true) (fun s=>n - s.toNat) (fun _=>(if (List.range n).all p then Fl.go () else Fl.done b:Fl τ Unit)) ?_ _ ⟨0,rfl,by omega,by omega⟩
 rintro s ⟨i,rfl,hi,hp⟩
 by_cases hlt:i<n
 ·
  rw [h i hlt]
  by_cases hpi:p i=true
  ·
   rw [aT hpi]
   exact .inl ⟨_,rfl,⟨i+1,rfl,hlt,fun j hj=>by rcases Nat.lt_succ_iff_lt_or_eq.1 hj with h1 | rfl;exact hp j h1;exact hpi⟩,by simp;omega,rfl⟩
  ·
   rw [aQ hpi,aQ (fun ha=>hpi (cI.1 ha i (eT.2 hlt)))]
   exact .inr rfl
 ·
  obtain rfl:i=n:=by omega
  rw [hout,aT (cI.2 fun j hj=>hp j (eT.1 hj))]
  exact .inr rfl
theorem sD {α:Type} [Inhabited α] (l:List α) (p:α→Bool):((List.range l.length).all fun i=>p (l.getD i default))=l.all p:=by
 rw [eZ,cI,cI]
 constructor
 ·
  intro h x hx
  obtain ⟨i,hi,rfl⟩:=qV.1 hx
  have:=h i (eT.2 hi)
  simpa [hi] using this
 ·
  intro h i hi
  have hi:=eT.1 hi
  simpa [hi] using h _ (bZ hi)
theorem aCO {α:Type} (l:List α) (p:α→Bool) {body:Int→Option (dN Int (Fl Int Unit))} (h:∀ (i:Nat) (hi:i<l.length),body (i:Int)=some (if p l[i] then .out (.done (i:Int)) else .next ((i+1:Nat):Int)))
  (hout:body (l.length:Int)=some (.out (.go ()))):∃ x:Int,((fI body (0:Int)).bind fun r=>Fl.next r fun _=>some (-1:Int))=some x∧decide ((0:Int)≤x)=l.any p:=by
 obtain ⟨r,h1,x,h2,h3⟩:∃ r,fI body (0:Int)=some r∧∃ x:Int,(Fl.next r fun _=>some (-1:Int))=some x∧decide ((0:Int)≤x)=l.any p:=by
  refine aAj (fun s=>∃ i:Nat,s=(i:Int)∧i≤l.length∧∀ j (hj:j<l.length),j<i→p l[j]=false) (fun s=>l.length - s.toNat) _ ?_ _ ⟨0,rfl,by omega,by omega⟩
  rintro s ⟨i,rfl,hi,hp⟩
  by_cases hlt:i<l.length
  ·
   rw [h i hlt]
   by_cases hpi:p l[i]=true
   ·
    rw [aT hpi]
    refine .inr ⟨_,rfl,i,rfl,?_⟩
    have:l.any p=true:=List.any_eq_true.2 ⟨_,bZ hlt,hpi⟩
    rw [this];simp
   ·
    rw [aQ hpi]
    exact .inl ⟨_,rfl,⟨i+1,rfl,hlt,fun j hj hji=>by rcases Nat.lt_succ_iff_lt_or_eq.1 hji with h1 | rfl;exact hp j hj h1;simpa using hpi⟩,by simp;omega⟩
  ·
   obtain rfl:i=l.length:=by omega
   rw [hout]
   refine .inr ⟨_,rfl,-1,rfl,?_⟩
   have:l.any p=false:=by
    rw [List.any_eq_false]
    intro x hx
    obtain ⟨j,hj,rfl⟩:=qV.1 hx
    simp [hp j hj hj]
   rw [this];decide
 exact ⟨x,by rw [h1,aA];exact h2,h3⟩
theorem aCP {α σ:Type} (l:List α) (f:σ→α→σ) (s0:σ) {body:σ × Int→Option (dN (σ × Int) σ)} (h:∀ (s:σ) (i:Nat) (hi:i<l.length),body (s,(i:Int))=some (.next (f s l[i],((i+1:Nat):Int))))
  (hout:∀ s,body (s,(l.length:Int))=some (.out s)):fI body (s0,(0:Int))=some (l.foldl f s0):=by
 refine aDl (fun s=>∃ i:Nat,s.2=(i:Int)∧i≤l.length∧s.1=(l.take i).foldl f s0) (fun s=>l.length - s.2.toNat) (fun _=>l.foldl f s0) ?_ _ ⟨0,rfl,by omega,by simp⟩
 rintro ⟨s,i0⟩ ⟨i,hi0,hi,hs⟩
 simp only at hi0 hs
 subst hi0
 by_cases hlt:i<l.length
 ·
  refine .inl ⟨_,h s i hlt,⟨i+1,rfl,hlt,?_⟩,by simp;omega,rfl⟩
  rw [hs,eN hlt,List.foldl_append]
  rfl
 ·
  obtain rfl:i=l.length:=by omega
  rw [hout,hs,kO]
  exact .inr rfl
theorem aCg {xs:List UInt8} (h:xs.length≤140737488355328):lA xs=some xs:=by
 rw [lA,oQ (by simpa using h)];simp
theorem aEG {b:List UInt8}{n:Int} (hb:b.length≤10000000000000) (h1:-9223372036854775808≤n) (h2:n≤9223372036854775807):kN b n=some (b++tT (zz n)):=by
 have hv:=aCb (aHw h1 h2)
 unfold kN
 rw [aCg (by omega),aA,sh1,aWI,aOH h1 h2]
 obtain ⟨r,hr,u,hu,hlt,he⟩:=aAj (body:=aAJ) (fun s=>∃ u:Nat,s.2=(u:Int)∧u<18446744073709551616∧s.1++tT u=b++tT (zz n)) (fun s=>s.2.toNat)
  (fun r=>∃ u:Nat,r.2=(u:Int)∧u<128∧r.1++tT u=b++tT (zz n)) (fun s ⟨u,hu,hlt,he⟩=>by
   have hlen:s.1.length+(tT u).length=b.length+(tT (zz n)).length:=by simpa using oK List.length he
   unfold aAJ
   rw [hu,dF]
   by_cases h:u<128
   ·
    rw [aQ (by omega)]
    exact .inr ⟨_,rfl,u,rfl,h,he⟩
   ·
    rw [aT (by omega),aV9,aF1 (by omega),aA,oQ (by simp;omega),aA,sh7,aWJ]
    refine .inl ⟨_,rfl,⟨u / 128,rfl,by omega,?_⟩,by simp;omega⟩
    rw [← he,aGt h,dD,List.singleton_append]) (b,(zz n:Nat)) ⟨zz n,rfl,aHw h1 h2,rfl⟩
 have hlen:r.1.length+(tT u).length=b.length+(tT (zz n)).length:=by simpa using oK List.length he
 rw [hr,aA,hu,aGK (aPw (by omega)),aA,oQ (by simp;omega),aA,← aEV hlt,he]
theorem aHT {b s:List UInt8} (hb:b.length≤10000000000000) (hs:s.length≤10000000000000):pB b s=some (b++tT (zz s.length)++s):=by
 have hv:=aCb (aHw (n:=(s.length:Int)) (by omega) (by omega))
 unfold pB
 rw [aEG (by omega) (by omega) (by omega),aA,oQ (by simp;omega),aA]
theorem aQD {n:Int} (h1:-9223372036854775808≤n) (h2:n≤9223372036854775807):aDs n=some (zz n:Int):=by
 unfold aDs
 rw [dF]
 by_cases h:0≤n
 ·
  rw [aT h];congr 1;simp only [IntKind.wrap_u64,zz,h,bQ];omega
 ·
  rw [aQ h];congr 1;simp only [IntKind.wrap_u64,IntKind.wrap_i64,zz,h,cD];omega
theorem aGk {b:List UInt8}{n:Int} (hb:b.length≤10000000000000) (h1:-9223372036854775808≤n) (h2:n≤9223372036854775807):rN b n=some (b++tT (zz n)):=by
 have hv:=aCb (aHw h1 h2)
 unfold rN
 rw [oQ (by simp;omega),aA,jH,aQD h1 h2,aA]
 obtain ⟨r,hr,u,hu,hlt,he⟩:=aAj (body:=aBt) (fun s=>∃ u:Nat,s.2=(u:Int)∧u<18446744073709551616∧s.1++tT u=b++tT (zz n)) (fun s=>s.2.toNat)
  (fun r=>∃ u:Nat,r.2=(u:Int)∧u<128∧r.1++tT u=b++tT (zz n)) (fun s ⟨u,hu,hlt,he⟩=>by
   have hlen:s.1.length+(tT u).length=b.length+(tT (zz n)).length:=by simpa using oK List.length he
   unfold aBt
   rw [hu,dF]
   by_cases h:u<128
   ·
    rw [aQ (by omega)]
    exact .inr ⟨_,rfl,u,rfl,h,he⟩
   ·
    rw [aT (by omega)]
    have e:IntKind.u8.wrap (IntKind.u64.wrap ((u:Int).tmod 128+128))=((128+u % 128:Nat):Int):=by
     rw [IntKind.wrap_u64,IntKind.wrap_u8,lV (by omega)];omega
    rw [e,aF1 (by omega),aA,oQ (by simp;omega),aA]
    have e2:IntKind.u64.wrap ((u:Int).tdiv 128)=((u / 128:Nat):Int):=by rw [IntKind.wrap_u64,qK (by omega)];omega
    rw [e2]
    refine .inl ⟨_,rfl,⟨u / 128,rfl,by omega,?_⟩,by simp;omega⟩
    rw [← he,aGt h,dD,List.singleton_append]) (b,(zz n:Nat)) ⟨zz n,rfl,aHw h1 h2,rfl⟩
 have hlen:r.1.length+(tT u).length=b.length+(tT (zz n)).length:=by simpa using oK List.length he
 rw [hr,aA,hu,aGK (aPw (by omega)),aA,oQ (by simp;omega),aA,← aEV hlt,he]
theorem aJY {b s:List UInt8} (hb:b.length≤10000000000000) (hs:s.length≤10000000000000):qD b s=some (b++tT (zz s.length)++s):=by
 have hv:=aCb (aHw (n:=(s.length:Int)) (by omega) (by omega))
 unfold qD
 rw [aGk (by omega) (by omega) (by omega),aA]
 rw [aDl (body:=aAR s) (fun x=>∃ i:Nat,x.2=(i:Int)∧i≤s.length∧x.1=b++tT (zz s.length)++s.take i) (fun x=>s.length - x.2.toNat) (fun _=>b++tT (zz s.length)++s) ?_ (b++tT (zz s.length),0) ⟨0,rfl,by omega,by simp⟩]
 ·
  rfl
 ·
  rintro ⟨o,i0⟩ ⟨i,hi0,hi,ho⟩
  simp only at hi0 ho
  subst hi0 ho
  unfold aAR
  rw [dF]
  by_cases h:i<s.length
  ·
   rw [aT (by omega),aF6,aK h,aA,aIq,aA,oQ (by simp;omega),aA]
   refine .inl ⟨_,rfl,⟨i+1,by rw [w64 (by omega) (by omega)];rfl,h,?_⟩,by simp only [w64 (show (-9223372036854775808:Int)≤(i:Int)+1 by omega) (by omega)];omega,rfl⟩
   rw [eN h];simp
  ·
   rw [aQ (by omega),hO (by omega)]
   exact .inr rfl
theorem aGF {b:List UInt8} (h:b.length≤140737488355328):yC b=some ⟨b,0,0,true⟩:=by
 unfold yC
 rw [aCg h];rfl
theorem vH {b:List UInt8}{a e:Int}{m:Bool}:oO ⟨b,a,e,m⟩=some (cond (!m) true (!decide (e=0))):=by
 unfold oO;rfl
theorem aFp {b:List UInt8}{a e:Int}:gP ⟨b,a,e,true⟩=some e:=rfl
theorem aSZ {b:List UInt8}{a e:Int}:sF ⟨b,a,e,true⟩=some (if e=0 then IntKind.i64.wrap (b.length - a) else 0):=by
 unfold sF
 rw [vH]
 by_cases h:e=0 <;> simp [h]
theorem aHY {b:List UInt8}{a e x:Int}:lN x ⟨b,a,e,true⟩=some ⟨b,a,(if e=0 then x else e),true⟩:=by
 unfold lN
 rw [vH]
 by_cases h:e=0 <;> simp [h]
def aA7 (b:List UInt8) (at_:Nat) (low high:Int):aM:=⟨b,(at_+(kJ (b.drop at_) low high).2.1:Nat),(kJ (b.drop at_) low high).2.2,true⟩
theorem aFt {b:List UInt8}{at_:Nat}{low high:Int} (h1:at_≤b.length) (hb:b.length≤1000000000) :
  eC low high ⟨b,at_,0,true⟩=some ((kJ (b.drop at_) low high).1,aA7 b at_ low high):=by
 unfold eC
 rw [vH]
 simp only [bE,aZ,bC,aA]
 rw [aEP (by simp;omega),aA]
 unfold aA7
 generalize hrest:b.drop at_=rest
 have hrl:rest.length=b.length - at_:=by rw [← hrest];simp
 have hdrop:List.drop (Int.toNat (at_:Int)) b=rest:=by rw [kD];exact hrest
 obtain ⟨r,hr,hq⟩:∃ r,fI (vV ⟨b,at_,0,true⟩ low high) ((0:Int),(0:Int))=some r∧Fl.next r (fun _=>some ((0:Int),aM.mk b at_ 3 true))=some ((kJ rest low high).1,⟨b,(at_+(kJ rest low high).2.1:Nat),(kJ rest low high).2.2,true⟩):=by
  refine aAj (fun (s:Int × Int)=>∃ k:Nat,s.2=(k:Int)∧((k≤9∧k≤rest.length∧∃ u:Nat,s.1=(u:Int)∧u<128 ^ k∧uY 0 0 rest=uY k u (rest.drop k))∨(k=10∧uY 0 0 rest=.inl 3)))
   (fun s=>10 - s.2.toNat) _ ?_ ((0:Int),(0:Int)) ⟨0,rfl,.inl ⟨by simp,by simp,0,rfl,by simp,by simp⟩⟩
  rintro ⟨u0,k0⟩ ⟨k,hk0,hI⟩
  simp only at hk0 hI
  subst hk0
  unfold vV
  simp only [hdrop]
  rw [dF]
  obtain ⟨hk,hkl,u,rfl,hu,hs⟩ | ⟨rfl,hs⟩:=hI
  ·
   rw [aT (by omega),dF]
   by_cases h3:(rest.length:Int)≤k
   ·
    rw [aT h3]
    refine .inr ⟨_,rfl,?_⟩
    have hd:rest.drop k=[]:=pJ (by omega)
    have hr:kJ rest low high=(0,0,4):=by simp only [kJ,hs,hd,uY];rw [aQ (by omega)]
    rw [hr];rfl
   ·
    rw [aQ h3]
    have hlt:k<rest.length:=by omega
    rw [aF6,aK hlt,aA]
    generalize hc:rest[k]=c
    have hd:rest.drop k=c :: rest.drop (k+1):=by rw [← hc];exact oE hlt
    have hcl:=c.toNat_lt
    rw [hd] at hs
    simp only [uY] at hs
    rw [aQ (by omega)] at hs
    rw [aVE (by rw [show IntKind.i64.wrap (7*(k:Int))=7*(k:Int) by rw [IntKind.wrap_i64];omega];omega),aA,aUd]
    generalize hv:kL .or .u64 (u:Int) _=v
    have hv':k≤8∨c.toNat≤1→v=((u+c.toNat % 128*128 ^ k:Nat):Int):=fun hx=>hv ▸ aS2 c hk hu hx
    clear hv
    rw [dF]
    by_cases h4:(128:Int)≤(c.toNat:Int)
    ·
     rw [aT h4]
     rw [aT (by omega)] at hs
     refine .inl ⟨_,rfl,⟨k+1,by rw [w64 (by omega) (by omega)];rfl,?_⟩,by simp only [w64 (show (-9223372036854775808:Int)≤(k:Int)+1 by omega) (by omega)];omega⟩
     by_cases hk9:k=9
     ·
      refine .inr ⟨by omega,?_⟩
      rw [hs,hk9]
      cases rest.drop (9+1) <;> simp [uY]
     ·
      have hve:=hv' (.inl (by omega))
      refine .inl ⟨by omega,by omega,_,hve,?_,hs⟩
      rw [pE]
      have h3:c.toNat % 128*128 ^ k≤127*128 ^ k:=gR _ (by omega)
      omega
    ·
     rw [aQ h4]
     rw [aQ (by omega)] at hs
     by_cases hX:(0<k∧c.toNat=0)∨(k=9∧1<c.toNat)
     ·
      rw [aT hX] at hs
      have hr:kJ rest low high=(0,0,3):=by simp only [kJ,hs]
      rw [hr]
      have e:(cond (cond (decide ((0:Int)<(k:Int))) (decide ((c.toNat:Int)=0)) false) true (cond (decide ((k:Int)=9)) (decide ((1:Int)<(c.toNat:Int))) false))=true:=by
       rcases hX with ⟨h5,h6⟩ | ⟨h5,h6⟩
       ·
        simp [h6];omega
       ·
        simp [h5];omega
      rw [e,bS]
      exact .inr ⟨_,rfl,rfl⟩
     ·
      rw [aQ hX] at hs
      have e:(cond (cond (decide ((0:Int)<(k:Int))) (decide ((c.toNat:Int)=0)) false) true (cond (decide ((k:Int)=9)) (decide ((1:Int)<(c.toNat:Int))) false))=false:=by
       simp only [nN]
       by_cases h5:0<k <;> by_cases h6:c.toNat=0 <;> by_cases h7:k=9 <;> by_cases h8:1<c.toNat <;> simp <;> omega
      rw [e,aZ]
      have hve:=hv' (by omega)
      have hmod:c.toNat % 128=c.toNat:=by omega
      rw [hmod] at hve
      clear hv'
      subst hve
      have hw:(u+c.toNat*128 ^ k)<18446744073709551616:=by
       have:k=0∨k=1∨k=2∨k=3∨k=4∨k=5∨k=6∨k=7∨k=8∨k=9:=by omega
       rcases this with rfl | rfl | rfl | rfl | rfl | rfl | rfl | rfl | rfl | rfl <;> omega
      generalize u+c.toNat*128 ^ k=w at hs hw
      have hr:kJ rest low high=if zX w<low∨high<zX w then (0,k+1,14) else (zX w,k+1,0):=by simp only [kJ,hs]
      rw [hr,show (2:Int) ^ min (Int.toNat 1) IntKind.u64.bits=2 from sh1,aQA hw,aSG (by omega) hk]
      refine .inr ?_
      by_cases hlow:zX w<low
      ·
       rw [aT (.inl hlow)]
       simp only [hlow,bC,bS]
       exact ⟨_,rfl,rfl⟩
      ·
       by_cases hhigh:high<zX w
       ·
        rw [aT (.inr hhigh)]
        simp only [hlow,hhigh,bC,bP,bS,aZ]
        exact ⟨_,rfl,rfl⟩
       ·
        rw [aQ (by omega)]
        simp only [hlow,hhigh,bC,bP,bS,aZ]
        exact ⟨_,rfl,rfl⟩
  ·
   rw [aQ (by omega)]
   refine .inr ⟨_,rfl,?_⟩
   have hr:kJ rest low high=(0,0,3):=by simp only [kJ,hs]
   rw [hr];rfl
 rw [hr,aA]
 exact hq
theorem aMT {k u:Nat} (h:u*128 ^ k<18446744073709551616) (hu:0<u):k≤9:=by
 refine oD fun hk=>?_
 have h1:128 ^ 10≤128 ^ k:=Nat.pow_le_pow_right (by omega) (by omega)
 have h2:1*128 ^ k≤u*128 ^ k:=gR _ hu
 have h3:(128:Nat) ^ 10=1180591620717411303424:=by decide
 omega
theorem aQt (rest:List UInt8):∀ (u k acc:Nat),(k=0∨0<u)→u*128 ^ k<18446744073709551616→uY k acc (tT u++rest)=.inr (acc+u*128 ^ k,k+(tT u).length):=by
 intro u
 induction u using Nat.strongRecOn with
 | _ u ih =>
  intro k acc h0 hlt
  have hk:k≤9:=by
   rcases h0 with h | h
   ·
    omega
   ·
    exact aMT hlt h
  by_cases h:u<128
  ·
   rw [aEV h]
   have e:(UInt8.ofNat u).toNat=u:=by simp;omega
   simp only [List.cons_append,jH,uY,e]
   rw [aQ (by omega),aQ (by omega),aQ]
   ·
    rfl
   ·
    rintro (⟨h1,h2⟩ | ⟨h1,h2⟩)
    ·
     omega
    ·
     subst h1
     have:(128:Nat) ^ 9=9223372036854775808:=by decide
     rw [this] at hlt
     omega
  ·
   rw [aGt h]
   have e:(UInt8.ofNat (128+u % 128)).toNat=128+u % 128:=by simp;omega
   simp only [List.cons_append,uY,e]
   rw [aQ (by omega),aT (by omega)]
   have hs:128 ^ (k+1)=128 ^ k*128:=pE ..
   have hm:u / 128*128 ^ (k+1)+u % 128*128 ^ k=u*128 ^ k:=by
    rw [hs,pD (128 ^ k) 128,← Nat.mul_assoc,← fV,pD (u / 128) 128,Nat.div_add_mod]
   rw [ih (u / 128) (by omega) (k+1) _ (.inr (by omega)) (by omega),show (128+u % 128) % 128=u % 128 by omega]
   simp only [dY,Sum.inr.injEq,fQ]
   exact ⟨by omega,by omega⟩
theorem aKI {n low high:Int} (rest:List UInt8) (h1:-9223372036854775808≤n) (h2:n≤9223372036854775807) :
  kJ (tT (zz n)++rest) low high=if n<low∨high<n then (0,(tT (zz n)).length,14) else (n,(tT (zz n)).length,0):=by
 have h:=aHw h1 h2
 unfold kJ
 rw [aQt rest (zz n) 0 0 (.inl rfl) (by simpa using h)]
 simp only [iX,Nat.pow_zero,Nat.mul_one,aTB]
theorem aKN:∀ (l:List UInt8) (k u w n:Nat),uY k u l=.inr (w,n)→n≤k+l.length
 | [],k,u,w,n,h=>by simp only [uY] at h;split at h <;> cases h
 | c :: r,k,u,w,n,h=>by
  simp only [uY] at h
  split at h
  ·
   cases h
  ·
   split at h
   ·
    have:=aKN r _ _ _ _ h
    simp only [dY]
    omega
   ·
    split at h
    ·
     cases h
    ·
     cases h
     simp only [dY]
     omega
theorem aBM (l:List UInt8) (low high:Int):(kJ l low high).2.1≤l.length:=by
 unfold kJ
 split
 ·
  simp
 ·
  rename_i u k h
  have:=aKN l 0 0 u k h
  split <;> simp <;> omega
theorem aIb {l:List UInt8}{low high:Int} (h:(kJ l low high).2.2=0):low≤(kJ l low high).1∧(kJ l low high).1≤high:=by
 unfold kJ at h ⊢
 split
 ·
  rename_i e hs
  rw [hs] at h
  simp only at h
  exfalso
  have key:∀ (l:List UInt8) (k u e:Nat),uY k u l=.inl e→e=3∨e=4:=by
   intro l
   induction l with
   | nil=>intro k u e h;simp only [uY] at h;split at h <;> cases h <;> simp
   | cons c r ih =>
    intro k u e h
    simp only [uY] at h
    split at h
    ·
     cases h;simp
    ·
     split at h
     ·
      exact ih _ _ _ h
     ·
      split at h <;> cases h
      simp
  rcases key _ _ _ _ hs with h2 | h2 <;> omega
 ·
  rename_i u k hs
  rw [hs] at h
  simp only at h
  by_cases hc:zX u<low∨high<zX u
  ·
   rw [aT hc] at h;simp at h
  ·
   rw [aQ hc];simp only;omega
def aI2 (b:List UInt8) (at_:Nat) (most:Int):List UInt8 × aM :=
 if (kJ (b.drop at_) 0 most).2.2≠0 then ([],aA7 b at_ 0 most)
 else if (b.length:Int) - (at_+(kJ (b.drop at_) 0 most).2.1:Nat)<(kJ (b.drop at_) 0 most).1 then ([],⟨b,(at_+(kJ (b.drop at_) 0 most).2.1:Nat),4,true⟩)
 else ((b.drop (at_+(kJ (b.drop at_) 0 most).2.1)).take (kJ (b.drop at_) 0 most).1.toNat,⟨b,(at_+(kJ (b.drop at_) 0 most).2.1+(kJ (b.drop at_) 0 most).1.toNat:Nat),0,true⟩)
theorem aId {b:List UInt8}{at_:Nat}{most:Int} (h1:at_≤b.length) (hb:b.length≤1000000000):hG most ⟨b,at_,0,true⟩=some (aI2 b at_ most):=by
 have hu:=aBM (b.drop at_) 0 most
 rw [gK] at hu
 unfold hG aI2
 rw [aFt h1 hb,aA]
 unfold aA7
 rw [vH,aA]
 by_cases he:(kJ (b.drop at_) 0 most).2.2=0
 ·
  have hin:=aIb he
  generalize hr:kJ (b.drop at_) 0 most=r at *
  obtain ⟨v,k,e⟩:=r
  simp only at he hin hu
  subst he
  simp only [bE,aZ,rF,bC,dF,ne_eq,not_true_eq_false,cD]
  rw [w64 (by omega) (by omega)]
  by_cases h3:(b.length:Int) - (at_+k:Nat)<v
  ·
   rw [aT h3,aT h3]
  ·
   rw [aQ h3,aQ h3,w64 (by omega) (by omega),aTe (by omega),aA]
   have e1:(((at_+k:Nat):Int)+v).toNat=at_+k+v.toNat:=by omega
   rw [e1,kD,oR,show at_+k+v.toNat - (at_+k)=v.toNat by omega]
   congr 3
   omega
 ·
  rw [aT he]
  have:decide (((kJ (b.drop at_) 0 most).2.2:Int)=0)=false:=by simp;omega
  simp only [this,bE,cH,aZ,bS]
def nU:List UInt8→Nat
 | []=>0
 | c :: r=>c.toNat % 128+128*nU r
theorem aGn:∀ (l:List UInt8) (k u w n:Nat),uY k u l=.inr (w,n)→k<n∧n≤k+l.length∧w=u+128 ^ k*nU (l.take (n - k))
 | [],k,u,w,n,h=>by simp only [uY] at h;split at h <;> cases h
 | c :: r,k,u,w,n,h=>by
  simp only [uY] at h
  split at h
  ·
   cases h
  ·
   split at h
   ·
    obtain ⟨h1,h2,h3⟩:=aGn r _ _ _ _ h
    refine ⟨by omega,by simp only [dY];omega,?_⟩
    rw [show n - k=(n - (k+1))+1 by omega,kV,nU,h3,pE,Nat.mul_add,Nat.mul_assoc,jR,pD (c.toNat % 128)]
   ·
    rename_i h3
    split at h
    ·
     cases h
    ·
     cases h
     refine ⟨by omega,by simp,?_⟩
     rw [show k+1 - k=0+1 by omega,kV,nU,List.take_zero,nU,show c.toNat % 128=c.toNat by omega,Nat.mul_zero,tE,pD]
theorem aLz:∀ (l:List UInt8) (k u w n:Nat),uY k u l=.inr (w,n)→k≤9→u<128 ^ k→w<18446744073709551616
 | [],k,u,w,n,h,_,_=>by simp only [uY] at h;split at h <;> cases h
 | c :: r,k,u,w,n,h,hk,hu=>by
  have hc:=c.toNat_lt
  simp only [uY] at h
  split at h
  ·
   cases h
  ·
   split at h
   ·
    have hlt:u+c.toNat % 128*128 ^ k<128 ^ (k+1):=by
     rw [pE]
     have:c.toNat % 128*128 ^ k≤127*128 ^ k:=gR _ (by omega)
     omega
    by_cases hk9:k=9
    ·
     exfalso
     subst hk9
     cases r with
     | nil=>simp [uY] at h
     | cons d r=>simp [uY] at h
    ·
     exact aLz r _ _ _ _ h (by omega) hlt
   ·
    split at h
    ·
     cases h
    ·
     rename_i h3 h4
     cases h
     have:k=0∨k=1∨k=2∨k=3∨k=4∨k=5∨k=6∨k=7∨k=8∨k=9:=by omega
     rcases this with rfl | rfl | rfl | rfl | rfl | rfl | rfl | rfl | rfl | rfl <;> omega
theorem aGm:∀ (l:List UInt8) (k u e:Nat),uY k u l=.inl e→e=3∨e=4
 | [],k,u,e,h=>by simp only [uY] at h;split at h <;> cases h <;> simp
 | c :: r,k,u,e,h=>by
  simp only [uY] at h
  split at h
  ·
   cases h;simp
  ·
   split at h
   ·
    exact aGm r _ _ _ h
   ·
    split at h <;> cases h
    simp
def aDz (rest:List UInt8):Int × Int:=match uY 0 0 rest with
 | .inl e=>(0,(e:Int))
 | .inr (_,n)=>((n:Int),0)
theorem aQ1 {m:Bool}{rest:List UInt8}{x:Int} (hr:rest.length≤1000000000):sO ⟨m,rest,x⟩=some (aDz rest):=by
 unfold sO
 obtain ⟨r,h1,h2⟩:∃ r,fI (sZ ⟨m,rest,x⟩) (1:Int)=some r∧Fl.next r (fun _=>some ((0:Int),(3:Int)))=some (aDz rest):=by
  refine aAj (fun (s:Int)=>∃ k:Nat,s=(k:Int)+1∧((k≤9∧k≤rest.length∧∃ u:Nat,uY 0 0 rest=uY k u (rest.drop k))∨(k=10∧uY 0 0 rest=.inl 3))) (fun s=>12 - s.toNat) _ ?_ 1 ⟨0,rfl,.inl ⟨by omega,by omega,0,by simp⟩⟩
  rintro s ⟨k,rfl,hI⟩
  unfold sZ
  rw [dF]
  obtain ⟨hk,hkl,u,hs⟩ | ⟨rfl,hs⟩:=hI
  ·
   rw [aT (by omega),dF]
   by_cases h3:(rest.length:Int)<(k:Int)+1
   ·
    rw [aT h3]
    refine .inr ⟨_,rfl,?_⟩
    have hd:rest.drop k=[]:=pJ (by omega)
    rw [hd] at hs
    simp only [uY] at hs
    rw [aQ (by omega)] at hs
    simp only [aDz,hs];rfl
   ·
    rw [aQ h3]
    have hlt:k<rest.length:=by omega
    rw [w64 (by omega) (by omega),show (k:Int)+1 - 1=(k:Int) by omega,aF6,aK hlt,aA]
    generalize hc:rest[k]=c
    have hd:rest.drop k=c :: rest.drop (k+1):=by rw [← hc];exact oE hlt
    rw [hd] at hs
    simp only [uY] at hs
    rw [aQ (by omega)] at hs
    rw [dF]
    by_cases h4:(c.toNat:Int)<128
    ·
     rw [aT h4]
     rw [aQ (by omega)] at hs
     by_cases hX:(0<k∧c.toNat=0)∨(k=9∧1<c.toNat)
     ·
      rw [aT hX] at hs
      have e:(cond (cond (decide ((1:Int)<(k:Int)+1)) (decide ((c.toNat:Int)=0)) false) true (cond (decide ((k:Int)+1=10)) (decide ((1:Int)<(c.toNat:Int))) false))=true:=by
       rcases hX with ⟨h5,h6⟩ | ⟨h5,h6⟩
       ·
        have:(1:Int)<(k:Int)+1:=by omega
        simp [h6,this]
       ·
        simp [h5];omega
      rw [e,bS]
      refine .inr ⟨_,rfl,?_⟩
      simp only [aDz,hs];rfl
     ·
      rw [aQ hX] at hs
      have e:(cond (cond (decide ((1:Int)<(k:Int)+1)) (decide ((c.toNat:Int)=0)) false) true (cond (decide ((k:Int)+1=10)) (decide ((1:Int)<(c.toNat:Int))) false))=false:=by
       simp only [nN]
       by_cases h5:0<k <;> by_cases h6:c.toNat=0 <;> by_cases h7:k=9 <;> by_cases h8:1<c.toNat <;> simp <;> omega
      rw [e,aZ]
      refine .inr ⟨_,rfl,?_⟩
      simp only [aDz,hs];rfl
    ·
     rw [aQ h4]
     rw [aT (by omega)] at hs
     refine .inl ⟨_,rfl,⟨k+1,by rw [w64 (by omega) (by omega)];omega,?_⟩,by rw [w64 (by omega) (by omega)];omega⟩
     by_cases hk9:k=9
     ·
      refine .inr ⟨by omega,?_⟩
      rw [hs,hk9]
      cases rest.drop (9+1) <;> simp [uY]
     ·
      exact .inl ⟨by omega,by omega,_,hs⟩
  ·
   rw [aQ (by omega)]
   refine .inr ⟨_,rfl,?_⟩
   simp only [aDz,hs];rfl
 rw [h1,aA]
 exact h2
theorem aUU (c:UInt8) (r:List UInt8):nU r≤nU (c :: r):=by simp only [nU];omega
theorem aNk:∀ (l:List UInt8) (j:Nat),nU (l.drop j)≤nU l
 | [],j=>by simp
 | c :: r,0=>by simp
 | c :: r,j+1=>mH (aNk r j) (aUU c r)
theorem aOr {m:Bool}{rest:List UInt8}{x:Int}{k:Nat} (hk:k≤rest.length) (hw:nU (rest.take k)<18446744073709551616) (hr:rest.length≤1000000000):fI (uJ ⟨m,rest,x⟩) ((0:Int),(k:Int) - 1)=some (nU (rest.take k):Int):=by
 refine aDl (fun (s:Int × Int)=>∃ j:Nat,s.2=(j:Int) - 1∧j≤k∧s.1=(nU ((rest.take k).drop j):Int)) (fun s=>(s.2+1).toNat) (fun _=>(nU (rest.take k):Int)) ?_ _ ⟨k,rfl,fB _,by simp [nU]⟩
 rintro ⟨u,i⟩ ⟨j,hi,hj,hu⟩
 simp only at hi hu
 subst hi hu
 unfold uJ
 simp only [dF]
 cases j with
 | zero =>
  rw [aQ (by omega),oS]
  exact .inr rfl
 | succ j =>
  rw [aT (by omega),show ((j+1:Nat):Int) - 1=(j:Int) by omega,aF6,aK (by omega),aA]
  have hlt:j<(rest.take k).length:=by simp;omega
  have hd:(rest.take k).drop j=rest[j] :: (rest.take k).drop (j+1):=by rw [oE hlt];congr 1;simp
  have hv:nU ((rest.take k).drop j)=rest[j].toNat % 128+128*nU ((rest.take k).drop (j+1)):=by rw [hd,nU]
  have hb:=Nat.lt_of_le_of_lt (aNk (rest.take k) j) hw
  have e:IntKind.u64.wrap (IntKind.u64.wrap ((nU ((rest.take k).drop (j+1)):Int)*128)+IntKind.u64.wrap ((rest[j].toNat:Int).tmod 128))=(nU ((rest.take k).drop j):Int):=by
   rw [lV (by omega)]
   simp only [IntKind.wrap_u64]
   omega
  rw [e,w64 (by omega) (by omega)]
  refine .inl ⟨((nU ((rest.take k).drop j):Int),(j:Int) - 1),rfl,⟨j,rfl,by omega,rfl⟩,?_,trivial⟩
  simp only
  omega
def aCW (rest:List UInt8) (low high:Int):aV:=⟨true,if (kJ rest low high).2.2=0 then rest.drop (kJ rest low high).2.1 else [],(kJ rest low high).2.2⟩
theorem aKK {rest:List UInt8}{low high:Int} (hr:rest.length≤1000000000):iL low high ⟨true,rest,0⟩=some ((kJ rest low high).1,aCW rest low high):=by
 unfold iL gU
 rw [aQ1 hr]
 simp only [aA,bE,aZ,bC,uI]
 unfold aDz aCW
 cases hs:uY 0 0 rest with
 | inl e =>
  have he:=aGm rest 0 0 e hs
  have hr:kJ rest low high=(0,0,e):=by simp only [kJ,hs]
  rw [hr]
  simp only
  rw [aQ (by omega),aQ (by omega)]
  rfl
 | inr wn =>
  obtain ⟨w,n⟩:=wn
  obtain ⟨h1,h2,h3⟩:=aGn rest 0 0 w n hs
  have h4:=aLz rest 0 0 w n hs (by omega) (by omega)
  simp only [Nat.sub_zero,Nat.pow_zero,oU,iX] at h2 h3
  subst h3
  have hr:kJ rest low high=if zX (nU (rest.take n))<low∨high<zX (nU (rest.take n)) then (0,n,14) else (zX (nU (rest.take n)),n,0):=by simp only [kJ,hs]
  rw [hr]
  simp only [bQ]
  rw [w64 (by omega) (by omega),aOr h2 h4 (by omega),aA]
  generalize nU (rest.take n)=w at *
  have e1:(cond (decide ((w:Int).tmod 2=1)) (some (IntKind.i64.wrap (IntKind.i64.wrap (0 - IntKind.i64.wrap (IntKind.u64.wrap ((w:Int).tdiv 2))) - 1))) (some (IntKind.i64.wrap (IntKind.u64.wrap ((w:Int).tdiv 2)))))=some (zX w):=by
   have e2:(w:Int).tdiv 2=((w / 2:Nat):Int):=by rw [qK (by omega)];omega
   have e3:(w:Int).tmod 2=((w % 2:Nat):Int):=by rw [lV (by omega)];omega
   rw [e2,e3,dF,aWU (by omega) (by omega),w64 (x:=((w / 2:Nat):Int)) (by omega) (by omega)]
   unfold zX
   by_cases h5:w % 2=1
   ·
    rw [aT (by omega),aT h5,w64 (x:=0 - ((w / 2:Nat):Int)) (by omega) (by omega),w64 (by omega) (by omega)]
    congr 1
    omega
   ·
    rw [aQ (by omega),aQ h5]
  rw [e1,aA]
  by_cases hlow:zX w<low
  ·
   rw [aT (.inl hlow)]
   simp only [hlow,bC,bS,mO,aA]
   simp
  ·
   by_cases hhigh:high<zX w
   ·
    rw [aT (.inr hhigh)]
    simp only [hlow,hhigh,bC,bP,bS,aZ,mO,aA]
    simp
   ·
    rw [aQ (by omega)]
    simp only [hlow,hhigh,bC,bP,bS,aZ]
    rw [aEP (by omega),aA]
    simp
def aLw (rest:List UInt8) (most:Int):List UInt8 × aV :=
 if (kJ rest 0 most).2.2≠0 then ([],aCW rest 0 most)
 else if ((rest.drop (kJ rest 0 most).2.1).length:Int)<(kJ rest 0 most).1 then ([],⟨true,[],4⟩)
 else ((rest.drop (kJ rest 0 most).2.1).take (kJ rest 0 most).1.toNat,⟨true,(rest.drop (kJ rest 0 most).2.1).drop (kJ rest 0 most).1.toNat,0⟩)
theorem aOt {rest:List UInt8}{most:Int} (hr:rest.length≤1000000000):jW most ⟨true,rest,0⟩=some (aLw rest most):=by
 have hu:=aBM rest 0 most
 unfold jW aLw
 rw [aKK hr,aA]
 unfold aCW gU
 simp only [aA,bE,aZ]
 by_cases he:(kJ rest 0 most).2.2=0
 ·
  have hin:=aIb he
  have he2:((kJ rest 0 most).2.2:Int)=0:=by omega
  simp only [he,he2,bQ,ne_eq,not_true_eq_false,cD]
  generalize hd:rest.drop (kJ rest 0 most).2.1=d
  simp only [Int.ofNat_zero,rF,bC,bE,aZ,dF]
  by_cases h3:(d.length:Int)<(kJ rest 0 most).1
  ·
   rw [aT h3,aT h3];rfl
  ·
   rw [aQ h3,aQ h3,aIc (by omega),aA,aEP (by omega),aA]
 ·
  rw [aT he]
  have e:decide (((kJ rest 0 most).2.2:Int)=0)=false:=by simp;omega
  simp only [e,cH,bS]
def aKW (r:aM) (w:aV):Prop:=∃ (b:List UInt8) (a:Nat) (e:Int),b.length≤1000000000∧a≤b.length∧r=⟨b,a,e,true⟩∧w=⟨true,if e=0 then b.drop a else [],e⟩
theorem aQb {r:aM}{w:aV} (h:aKW r w):∃ x,sF r=some x∧tO w=some x:=by
 obtain ⟨b,a,e,hb,ha,rfl,rfl⟩:=h
 refine ⟨_,aSZ,?_⟩
 unfold tO gU
 simp only [bE,aZ,aA,uI]
 by_cases h:e=0
 ·
  simp only [h,bQ,bC,bE,aZ,gK]
  rw [w64 (by omega) (by omega)]
  congr 1
  omega
 ·
  simp only [h,cD,bP,cH,bS]
theorem aRr {r:aM}{w:aV}{low high:Int} (h:aKW r w):∃ x r' w',eC low high r=some (x,r')∧iL low high w=some (x,w')∧aKW r' w':=by
 obtain ⟨b,a,e,hb,ha,rfl,rfl⟩:=h
 by_cases h:e=0
 ·
  subst h
  have hu:=aBM (b.drop a) low high
  rw [gK] at hu
  refine ⟨_,_,_,aFt ha hb,aKK (by simp;omega),b,a+(kJ (b.drop a) low high).2.1,(kJ (b.drop a) low high).2.2,hb,by omega,rfl,?_⟩
  unfold aCW
  simp only [bQ]
  by_cases h2:(kJ (b.drop a) low high).2.2=0
  ·
   rw [aT h2,aT (by omega),kG]
  ·
   rw [aQ h2,aQ (by omega)]
 ·
  refine ⟨0,⟨b,a,e,true⟩,⟨true,[],e⟩,?_,?_,b,a,e,hb,ha,rfl,by simp [h]⟩
  ·
   unfold eC;rw [vH];simp [h]
  ·
   unfold iL gU;simp [h]
theorem aQc {r:aM}{w:aV}{most:Int} (h:aKW r w):∃ x r' w',hG most r=some (x,r')∧jW most w=some (x,w')∧aKW r' w':=by
 obtain ⟨b,a,e,hb,ha,rfl,rfl⟩:=h
 by_cases h:e=0
 ·
  subst h
  have hu:=aBM (b.drop a) 0 most
  rw [gK] at hu
  rw [aId ha hb]
  simp only [bQ]
  rw [aOt (by simp;omega)]
  unfold aI2 aLw aA7 aCW
  by_cases he:(kJ (b.drop a) 0 most).2.2=0
  ·
   have hin:=aIb he
   have he2:((kJ (b.drop a) 0 most).2.2:Int)=0:=by omega
   simp only [he,he2,bQ,ne_eq,not_true_eq_false,cD]
   have e1:((List.drop (kJ (b.drop a) 0 most).2.1 (b.drop a)).length:Int)=(b.length:Int) - (a+(kJ (b.drop a) 0 most).2.1:Nat):=by simp;omega
   rw [e1]
   by_cases h3:(b.length:Int) - (a+(kJ (b.drop a) 0 most).2.1:Nat)<(kJ (b.drop a) 0 most).1
   ·
    rw [aT h3,aT h3]
    exact ⟨_,_,_,rfl,rfl,b,_,4,hb,by omega,rfl,by simp⟩
   ·
    rw [aQ h3,aQ h3]
    refine ⟨_,_,_,rfl,by rw [kG],b,_,0,hb,by omega,rfl,?_⟩
    simp [jR]
  ·
   simp only [ne_eq,he,not_false_eq_true,bQ]
   refine ⟨_,_,_,rfl,rfl,b,_,_,hb,by omega,rfl,?_⟩
   have he2:¬((kJ (b.drop a) 0 most).2.2:Int)=0:=by omega
   simp only [he2,cD]
 ·
  refine ⟨[],⟨b,a,e,true⟩,⟨true,[],e⟩,?_,?_,b,a,e,hb,ha,rfl,by simp [h]⟩
  ·
   unfold hG eC;rw [vH];simp [h,vH]
  ·
   unfold jW iL gU;simp [h]
def lT (e:Int) (r:aM) (w:aV):Prop:=∃ (b:List UInt8) (a:Nat),b.length≤1000000000∧a≤b.length∧r=⟨b,a,e,true⟩∧w=⟨true,if e=0 then b.drop a else [],e⟩
theorem aRq {r:aM}{w:aV} (h:aKW r w):∃ e,lT e r w:=by
 obtain ⟨b,a,e,h1,h2,h3,h4⟩:=h
 exact ⟨e,b,a,h1,h2,h3,h4⟩
theorem lT.like {e:Int}{r:aM}{w:aV} (h:lT e r w):aKW r w:=by
 obtain ⟨b,a,h1,h2,h3,h4⟩:=h
 exact ⟨b,a,e,h1,h2,h3,h4⟩
theorem sM {e:Int}{r:aM}{w:aV} (h:lT e r w):gP r=some e∧kS w=some e:=by
 obtain ⟨b,a,_,_,rfl,rfl⟩:=h
 exact ⟨rfl,rfl⟩
theorem aLk {e:Int}{r:aM}{w:aV} (x:Int) (h:lT e r w):∃ r' w',lN x r=some r'∧lR x w=some w'∧lT (if e=0 then x else e) r' w':=by
 obtain ⟨b,a,hb,ha,rfl,rfl⟩:=h
 refine ⟨_,_,aHY,?_,b,a,hb,ha,rfl,rfl⟩
 unfold lR gU mO
 by_cases h:e=0
 ·
  by_cases h2:x=0
  ·
   simp [h,h2]
  ·
   simp [h,h2]
 ·
  simp [h]
theorem aRH (l:List UInt8) (low high:Int):tN (kJ l low high).1:=by
 unfold kJ
 split
 ·
  simp [tN]
 ·
  rename_i u k hs
  have:=aTA (aLz l 0 0 u k hs (by omega) (by simp))
  split
  ·
   simp [tN]
  ·
   exact this
theorem aBW {e:Int}{r:aM}{w:aV} (low high:Int) (h:lT e r w):∃ x e' r' w',eC low high r=some (x,r')∧iL low high w=some (x,w')∧lT e' r' w'∧tN x∧(e≠0→x=0∧e'=e)∧(e'=0→e=0):=by
 by_cases he:e=0
 ·
  subst he
  obtain ⟨b,a,hb,ha,rfl,rfl⟩:=h
  have hl:aKW ⟨b,a,0,true⟩ ⟨true,if (0:Int)=0 then b.drop a else [],0⟩:=⟨b,a,0,hb,ha,rfl,rfl⟩
  obtain ⟨x,r',w',h1,h2,h3⟩:=aRr (low:=low) (high:=high) hl
  obtain ⟨e',h4⟩:=aRq h3
  refine ⟨x,e',r',w',h1,h2,h4,?_,fun h=>absurd rfl h,fun _=>rfl⟩
  rw [aFt ha hb] at h1
  cases h1
  exact aRH _ _ _
 ·
  obtain ⟨b,a,hb,ha,rfl,rfl⟩:=h
  refine ⟨0,e,⟨b,a,e,true⟩,⟨true,if e=0 then b.drop a else [],e⟩,?_,?_,⟨b,a,hb,ha,rfl,rfl⟩,by simp [tN],fun _=>⟨rfl,rfl⟩,fun h=>absurd h he⟩
  ·
   unfold eC;rw [vH];simp [he]
  ·
   unfold iL gU;simp [he]
theorem aF8 {e:Int}{r:aM}{w:aV} (most:Int) (h:lT e r w):∃ x e' r' w',hG most r=some (x,r')∧jW most w=some (x,w')∧lT e' r' w'∧x.length≤1000000000∧(e≠0→x=[]∧e'=e)∧(e'=0→e=0):=by
 by_cases he:e=0
 ·
  subst he
  obtain ⟨b,a,hb,ha,rfl,rfl⟩:=h
  have hl:aKW ⟨b,a,0,true⟩ ⟨true,if (0:Int)=0 then b.drop a else [],0⟩:=⟨b,a,0,hb,ha,rfl,rfl⟩
  obtain ⟨x,r',w',h1,h2,h3⟩:=aQc (most:=most) hl
  obtain ⟨e',h4⟩:=aRq h3
  refine ⟨x,e',r',w',h1,h2,h4,?_,fun h=>absurd rfl h,fun _=>rfl⟩
  rw [aId ha hb] at h1
  have:x=(aI2 b a most).1:=by rw [eU h1]
  rw [this]
  unfold aI2
  split
  ·
   simp
  ·
   split
   ·
    simp
   ·
    simp only [jK,gK];omega
 ·
  obtain ⟨b,a,hb,ha,rfl,rfl⟩:=h
  refine ⟨[],e,⟨b,a,e,true⟩,⟨true,if e=0 then b.drop a else [],e⟩,?_,?_,⟨b,a,hb,ha,rfl,rfl⟩,by simp,fun _=>⟨rfl,rfl⟩,fun h=>absurd h he⟩
  ·
   unfold hG eC;rw [vH];simp [he,vH]
  ·
   unfold jW iL gU;simp [he]
theorem aO8 {b:List UInt8} (h:b.length≤1000000000):∃ r w,yC b=some r∧zH b=some w∧lT 0 r w:=by
 refine ⟨_,⟨true,b,0⟩,aGF (by omega),?_,b,0,h,by omega,rfl,by simp⟩
 unfold zH
 rw [oQ (by simp;omega)];simp
def eIf (c:Bool) (e:Int):Int:=if e=0 then (if c then 0 else 3) else e
theorem aQ5 {c:Bool}{e:Int}:eIf c e=0↔e=0∧c=true:=by
 unfold eIf
 by_cases h:e=0
 ·
  cases c <;> simp [h]
 ·
  simp [h]
theorem aIN {σ τ ρ θ:Type}{b1:σ→Option (dN σ ρ)}{b2:τ→Option (dN τ θ)} (R:σ→τ→Prop) (m:σ→Nat) (Q:ρ→θ→Prop)
  (h:∀ s t,R s t→(∃ s' t',b1 s=some (.next s')∧b2 t=some (.next t')∧R s' t'∧m s'<m s)∨(∃ x y,b1 s=some (.out x)∧fI b2 t=some y∧Q x y)) :
  ∀ s t,R s t→∃ x y,fI b1 s=some x∧fI b2 t=some y∧Q x y:=by
 have key:∀ n s t,m s≤n→R s t→∃ x y,fI b1 s=some x∧fI b2 t=some y∧Q x y:=by
  intro n
  induction n with
  | zero =>
   intro s t hm hr
   rcases h s t hr with ⟨s',t',h1,h2,h3,h4⟩ | ⟨x,y,h1,h2,h3⟩
   ·
    omega
   ·
    exact ⟨x,y,xG h1,h2,h3⟩
  | succ n ih =>
   intro s t hm hr
   rcases h s t hr with ⟨s',t',h1,h2,h3,h4⟩ | ⟨x,y,h1,h2,h3⟩
   ·
    obtain ⟨x,y,g1,g2,g3⟩:=ih s' t' (by omega) h3
    exact ⟨x,y,by rw [jU h1,g1],by rw [jU h2,g2],g3⟩
   ·
    exact ⟨x,y,xG h1,h2,h3⟩
 exact fun s t hr=>key _ s t (fB _) hr
theorem aIo:∀ (a b:List UInt8),(!(Op.bytesLess a b||decide (a=b)))=Op.bytesLess b a
 | [],[]=>by simp [Op.bytesLess]
 | [],y :: b=>by simp [Op.bytesLess]
 | x :: a,[]=>by simp [Op.bytesLess]
 | x :: a,y :: b=>by
  simp only [Op.bytesLess,List.cons.injEq]
  have ih:=aIo a b
  by_cases h1:x<y
  ·
   have h2:¬y<x:=fun h=>absurd (UInt8.lt_trans h1 h) (UInt8.lt_irrefl _)
   have h3:¬y=x:=fun h=>by subst h;exact UInt8.lt_irrefl _ h1
   simp [h1,h2,h3]
  ·
   by_cases h2:y<x
   ·
    have h3:¬x=y:=fun h=>by subst h;exact UInt8.lt_irrefl _ h2
    simp [h1,h2,h3]
   ·
    have h3:x=y:=UInt8.le_antisymm (UInt8.not_lt.1 h2) (UInt8.not_lt.1 h1)
    subst h3
    simpa [h1] using ih
mutual
def hgt:aF→Nat
 | ⟨_,_,_,l,_⟩=>aGS l+1
def aGS:List aF→Nat
 | []=>0
 | x :: l=>max (hgt x) (aGS l)
end
theorem qC:∀ {l:List aF}{x:aF},x∈l→hgt x≤aGS l
 | [],x,h=>by simp at h
 | y :: l,x,h=>by
  simp only [aGS]
  rcases eQ.1 h with rfl | h
  ·
   omega
  ·
   have:=qC h;omega
theorem nQ (v:aF):hgt v=aGS v.Items+1:=by cases v;simp [hgt]
theorem aOb {v x:aF} (h:x∈v.Items):hgt x<hgt v:=by have:=qC h;have:=nQ v;omega
mutual
def hD:aF→aF→Bool
 | ⟨k,i,t,l,ks⟩,w=>decide (k=w.Kind)&&decide (i=w.Int)&&decide (t=w.Text)&&decide (ks=w.Keys)&&aAG l w.Items
def aAG:List aF→List aF→Bool
 | [],[]=>true
 | x :: l,y :: m=>hD x y&&aAG l m
 | _,_=>false
end
theorem aJq (v w:aF):hD v w=(decide (v.Kind=w.Kind)&&decide (v.Int=w.Int)&&decide (v.Text=w.Text)&&decide (v.Keys=w.Keys)&&aAG v.Items w.Items):=by cases v;simp [hD]
theorem aCc:∀ (l m:List aF),aAG l m=true↔l.length=m.length∧∀ i (h:i<l.length) (h2:i<m.length),hD l[i] m[i]=true
 | [],[]=>by simp [aAG]
 | [],y :: m=>by simp [aAG]
 | x :: l,[]=>by simp [aAG]
 | x :: l,y :: m=>by
  simp only [aAG,aY,aCc l m,dY,Nat.add_right_cancel_iff]
  constructor
  ·
   rintro ⟨h1,h2,h3⟩
   refine ⟨h2,fun i hi hi2=>?_⟩
   cases i with
   | zero=>exact h1
   | succ i=>exact h3 i (by omega) (by omega)
  ·
   rintro ⟨h2,h3⟩
   exact ⟨h3 0 (by omega) (by omega),h2,fun i hi hi2=>h3 (i+1) (by omega) (by omega)⟩
theorem aKU:∀ (n:Nat) (v w:aF),hgt v≤n→(hD v w=true↔v=w):=by
 intro n
 induction n with
 | zero=>intro v w h;have:=nQ v;omega
 | succ n ih =>
  intro v w h
  rw [aJq]
  simp only [aY,cB,aCc]
  constructor
  ·
   rintro ⟨⟨⟨⟨h1,h2⟩,h3⟩,h4⟩,h5,h6⟩
   have h7:v.Items=w.Items:=List.ext_getElem h5 fun i hi hi2=>(ih _ _ (by have:=aOb (bZ hi:v.Items[i]∈v.Items);omega)).1 (h6 i hi hi2)
   cases v;cases w;simp_all
  ·
   rintro rfl
   exact ⟨⟨⟨⟨rfl,rfl⟩,rfl⟩,rfl⟩,rfl,fun i hi _=>(ih _ _ (by have:=aOb (bZ hi:v.Items[i]∈v.Items);omega)).2 rfl⟩
theorem aJh {a b:List (List UInt8)} (ha:a.length≤9223372036854775807):lL a b=some (decide (a=b)):=by
 unfold lL
 rw [uI]
 by_cases h:(a.length:Int)=b.length
 ·
  rw [aT h,oC a.length (fun i=>decide (a[i]?=b[i]?)) false (fun i hi=>?_) ?_,aA]
  ·
   split
   ·
    rename_i h2
    rw [cI] at h2
    have:a=b:=List.ext_getElem? fun i=>by
     by_cases hi:i<a.length
     ·
      have:=h2 i (eT.2 hi);simpa using this
     ·
      rw [mM (by omega),mM (by omega)]
    simp [Fl.next,this]
   ·
    rename_i h2
    have:a≠b:=fun e=>h2 (by rw [cI];intro i _;simp [e])
    simp [Fl.next,this]
  ·
   unfold nX
   rw [dF,aQ (by omega)]
  ·
   unfold nX
   have hb:i<b.length:=by omega
   rw [dF,aT (by omega),iT hi,aA,iT hb,aA,uI,pW hi ha,aK hi,aK hb]
   simp only [bH,cB]
   split <;> rfl
 ·
  rw [aQ h]
  have:a≠b:=fun e=>h (by rw [e])
  simp [this]
theorem aFY {l m:List aF} (h:l.length=m.length) (p:Nat→Bool) (hp:∀ i (h1:i<l.length) (h2:i<m.length),p i=hD l[i] m[i]):(List.range l.length).all p=aAG l m:=by
 rw [eZ,cI,aCc]
 constructor
 ·
  exact fun hh=>⟨h,fun i h1 h2=>by rw [← hp i h1 h2];exact hh i (eT.2 h1)⟩
 ·
  exact fun hh i hi=>by have:=eT.1 hi;rw [hp i this (by omega)];exact hh.2 i this (by omega)
theorem aQJ:∀ (n:Nat) (v w:aF),dS v→2*hgt v≤n→xR n v w=some (hD v w):=by
 intro n
 induction n using Nat.strongRecOn with
 | _ n ih =>
  intro v w hv hn
  have hh:=nQ v
  obtain ⟨m,rfl⟩:∃ m,n=m+2:=⟨n - 2,by omega⟩
  obtain ⟨k0,k1,k2,k3,k4⟩:=(fS v).1 hv
  have hE:eH (m+1) v.Items w.Items=some (aAG v.Items w.Items):=by
   rw [eH,uI]
   by_cases h:(v.Items.length:Int)=w.Items.length
   ·
    rw [aT h,oC v.Items.length (fun i=>hD (v.Items.getD i default) (w.Items.getD i default)) false (fun i hi=>?_) ?_,aA,aFY (m:=w.Items) (by omega) _ (fun i h1 h2=>by simp [h1,h2])]
    ·
     cases aAG v.Items w.Items <;> rfl
    ·
     unfold fP
     rw [dF,aQ (by omega)]
    ·
     unfold fP
     have hb:i<w.Items.length:=by omega
     rw [dF,aT (by omega),iT hi,aA,iT hb,aA,ih m (by omega) _ _ (k3.2.2 _ (bZ hi)) (by have:=qC (bZ hi);omega),aA,pW hi k3.1]
     simp only [cG,aK hi,aK hb,eK]
     cases hD v.Items[i] w.Items[i] <;> rfl
   ·
    rw [aQ h]
    have:aAG v.Items w.Items=false:=by rw [← Bool.not_eq_true,aCc];exact fun hh=>h (by omega)
    rw [this]
  rw [xR,aJh k4.1,hE,aJq]
  by_cases h1:v.Kind=w.Kind <;> by_cases h2:v.Int=w.Int <;> by_cases h3:v.Text=w.Text <;> by_cases h4:v.Keys=w.Keys <;> simp [h1,h2,h3,h4,gd]
theorem aFf {v w:aF} (hv:dS v):aDF v w=some (hD v w):=zF (2*hgt v) fun n hn=>aQJ n v w hv hn
theorem aM1:∀ (n:Nat) (v w:aF),dS v→hgt v≤n→xJ n v w=some (hD v w):=by
 intro n
 induction n with
 | zero=>intro v w hv hn;have:=nQ v;omega
 | succ n ih =>
  intro v w hv hn
  have hh:=nQ v
  obtain ⟨k0,k1,k2,k3,k4⟩:=(fS v).1 hv
  rw [xJ,aJq]
  by_cases h1:v.Kind=w.Kind
  ·
   by_cases h2:v.Int=w.Int
   ·
    by_cases h3:v.Text=w.Text
    ·
     by_cases h4:(v.Items.length:Int)=w.Items.length
     ·
      by_cases h5:(v.Keys.length:Int)=w.Keys.length
      ·
       simp only [h1,h2,h3,h4,h5,bC,bE,aZ,cL]
       rw [oC v.Keys.length (fun i=>decide (v.Keys[i]?=w.Keys[i]?)) false (fun i hi=>?_) ?_,aA]
       ·
        have hk:((List.range v.Keys.length).all fun i=>decide (v.Keys[i]?=w.Keys[i]?))=decide (v.Keys=w.Keys):=by
         rw [eZ,cI]
         simp only [cB]
         constructor
         ·
          refine fun h6=>List.ext_getElem? fun i=>?_
          by_cases hi:i<v.Keys.length
          ·
           exact h6 i (eT.2 hi)
          ·
           rw [mM (by omega),mM (by omega)]
         ·
          intro e i _;rw [e]
        rw [hk]
        by_cases h6:v.Keys=w.Keys
        ·
         simp only [h6,bC,bQ,Fl.next,cL]
         rw [oC v.Items.length (fun i=>hD (v.Items.getD i default) (w.Items.getD i default)) false (fun i hi=>?_) ?_,aA,aFY (m:=w.Items) (by omega) _ (fun i h1 h2=>by simp [h1,h2])]
         ·
          cases aAG v.Items w.Items <;> rfl
         ·
          unfold aA1
          rw [dF,aQ (by omega)]
         ·
          unfold aA1
          have hb:i<w.Items.length:=by omega
          rw [dF,aT (by omega),iT hi,aA,iT hb,aA,ih _ _ (k3.2.2 _ (bZ hi)) (by have:=qC (bZ hi);omega),aA,pW hi k3.1]
          simp only [cG,aK hi,aK hb,eK]
          cases hD v.Items[i] w.Items[i] <;> rfl
        ·
         simp [h6,Fl.next]
       ·
        unfold aA0
        rw [dF,aQ (by omega)]
       ·
        unfold aA0
        have hb:i<w.Keys.length:=by omega
        rw [dF,aT (by omega),iT hi,aA,iT hb,aA,uI,pW hi k4.1,aK hi,aK hb]
        simp only [bH,cB]
        split <;> rfl
      ·
       have:v.Keys≠w.Keys:=fun e=>h5 (by rw [e])
       simp [h5,this]
     ·
      have:aAG v.Items w.Items=false:=by rw [← Bool.not_eq_true,aCc];exact fun hh=>h4 (by omega)
      simp [h4,this]
    ·
     simp [h3]
   ·
    simp [h2]
  ·
   simp [h1]
theorem aJb {v w:aF} (hv:dS v):aDv v w=some (hD v w):=zF (hgt v) fun n hn=>aM1 n v w hv hn
mutual
def dep:aF→Int
 | ⟨_,_,_,l,_⟩=>IntKind.i64.wrap (aQ2 l 0+1)
def aQ2:List aF→Int→Int
 | [],a=>a
 | x :: l,a=>aQ2 l (if dep x > a then dep x else a)
end
theorem aNZ (v:aF):dep v=IntKind.i64.wrap (v.Items.foldl (fun a x=>if dep x > a then dep x else a) 0+1):=by
 have key:∀ (l:List aF) (a:Int),aQ2 l a=l.foldl (fun a x=>if dep x > a then dep x else a) a:=by
  intro l
  induction l with
  | nil=>intro a;simp [aQ2]
  | cons x l ih=>intro a;simp [aQ2,ih]
 cases v;simp only [dep,key]
mutual
def siz:aF→Int
 | ⟨_,_,_,l,_⟩=>aRP l 1
def aRP:List aF→Int→Int
 | [],a=>a
 | x :: l,a=>aRP l (IntKind.i64.wrap (a+siz x))
end
theorem aOA (v:aF):siz v=v.Items.foldl (fun a x=>IntKind.i64.wrap (a+siz x)) 1:=by
 have key:∀ (l:List aF) (a:Int),aRP l a=l.foldl (fun a x=>IntKind.i64.wrap (a+siz x)) a:=by
  intro l
  induction l with
  | nil=>intro a;simp [aRP]
  | cons x l ih=>intro a;simp [aRP,ih]
 cases v;simp only [siz,key]
theorem aPz:∀ (n:Nat) (v:aF),dS v→hgt v≤n→vO n v=some (dep v):=by
 intro n
 induction n with
 | zero=>intro v hv hn;have:=nQ v;omega
 | succ n ih =>
  intro v hv hn
  have hh:=nQ v
  obtain ⟨k0,k1,k2,k3,k4⟩:=(fS v).1 hv
  have hi1:=fun (i:Nat) (hi:i<v.Items.length)=>ih _ (k3.2.2 _ (bZ hi)) (by have:=qC (bZ hi);omega)
  rw [vO,aNZ]
  rw [aCP v.Items (fun a x=>if dep x > a then dep x else a) 0 (fun s i hi=>?_) (fun s=>?_),aA]
  ·
   unfold aAD
   rw [dF,aT (by simp only;omega),iT hi,aA,(hi1 i hi),aA,pW hi k3.1]
  ·
   unfold aAD
   rw [dF,aQ (by simp only;omega)]
theorem aLp:∀ (n:Nat) (v:aF),dS v→hgt v≤n→vJ n v=some (dep v):=by
 intro n
 induction n with
 | zero=>intro v hv hn;have:=nQ v;omega
 | succ n ih =>
  intro v hv hn
  have hh:=nQ v
  obtain ⟨k0,k1,k2,k3,k4⟩:=(fS v).1 hv
  have hi1:=fun (i:Nat) (hi:i<v.Items.length)=>ih _ (k3.2.2 _ (bZ hi)) (by have:=qC (bZ hi);omega)
  rw [vJ,aNZ]
  rw [aCP v.Items (fun a x=>if dep x > a then dep x else a) 0 (fun s i hi=>?_) (fun s=>?_),aA]
  ·
   unfold aAo
   rw [dF,aT (by simp only;omega),iT hi,aA,(hi1 i hi),aA,pW hi k3.1,dF]
   simp only
   by_cases h:s<dep v.Items[i]
   ·
    rw [aT h,aT h]
   ·
    rw [aQ h,aQ h]
  ·
   unfold aAo
   rw [dF,aQ (by simp only;omega)]
theorem aJo {v:aF} (hv:dS v):aEx v=some (dep v):=zF (hgt v) fun n hn=>aPz n v hv hn
theorem aMY {v:aF} (hv:dS v):aEl v=some (dep v):=zF (hgt v) fun n hn=>aLp n v hv hn
theorem aQK:∀ (n:Nat) (v:aF),dS v→hgt v≤n→xS n v=some (siz v):=by
 intro n
 induction n with
 | zero=>intro v hv hn;have:=nQ v;omega
 | succ n ih =>
  intro v hv hn
  have hh:=nQ v
  obtain ⟨k0,k1,k2,k3,k4⟩:=(fS v).1 hv
  have hi1:=fun (i:Nat) (hi:i<v.Items.length)=>ih _ (k3.2.2 _ (bZ hi)) (by have:=qC (bZ hi);omega)
  rw [xS,aOA]
  rw [aCP v.Items (fun a x=>IntKind.i64.wrap (a+siz x)) 1 (fun s i hi=>?_) (fun s=>?_),aA]
  ·
   unfold aA5
   rw [dF,aT (by simp only;omega),iT hi,aA,(hi1 i hi),aA,pW hi k3.1]
  ·
   unfold aA5
   rw [dF,aQ (by simp only;omega)]
theorem aM3:∀ (n:Nat) (v:aF),dS v→hgt v≤n→xK n v=some (siz v):=by
 intro n
 induction n with
 | zero=>intro v hv hn;have:=nQ v;omega
 | succ n ih =>
  intro v hv hn
  have hh:=nQ v
  obtain ⟨k0,k1,k2,k3,k4⟩:=(fS v).1 hv
  have hi1:=fun (i:Nat) (hi:i<v.Items.length)=>ih _ (k3.2.2 _ (bZ hi)) (by have:=qC (bZ hi);omega)
  rw [xK,aOA]
  rw [aCP v.Items (fun a x=>IntKind.i64.wrap (a+siz x)) 1 (fun s i hi=>?_) (fun s=>?_),aA]
  ·
   unfold aA2
   rw [dF,aT (by simp only;omega),iT hi,aA,(hi1 i hi),aA,pW hi k3.1]
  ·
   unfold aA2
   rw [dF,aQ (by simp only;omega)]
theorem aJ3 {v:aF} (hv:dS v):aFJ v=some (siz v):=zF (hgt v) fun n hn=>aQK n v hv hn
theorem aOs {v:aF} (hv:dS v):aFx v=some (siz v):=zF (hgt v) fun n hn=>aM3 n v hv hn
